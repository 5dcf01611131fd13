import PyProof.Rows.All
import Wide.All
import OpenK.AllK
import Wide.FinOn
import KE.DataMinMax
import PyProof.ReprRoads
import HandS.ForMost
import HandS.Evl
import HandS.Walk
import HandS.Zip
import HandS.Lambda
import KE.GoesEnum
import HandS.Set
import HandS.Strs
import HandS.SetTxt0
import HandS.More
import HandS.Words
import HandS.Defaults
import HandS.HeadHook1
import HandS.HeadHook2
import PySem.Challenge.RW_childnotes_k64_whole_changes
import HandS.ExcInit
import HandS.ExcField
import KE.KExcSuper
import KE.KExcIs
import HandS.IsInst
import HandS.TryOnly
import HandS.Codes
import HandS.ExcIs
import HandS.SetKeys
import HandS.Text
import HandS.StrMore
import KE.GoesZip
import KE.GoesMore
import KE.KDictZip
import HandS.Steps
import HandS.TupAny
import KE.DatumOrd
import HandS.Exc
import HandS.EndTab
import KE.KStateDown
import Lean
import HandS.Head0
import HandS.Head1
import HandS.Head2
import HandS.HeadHook3
import HandS.HeadHook4
import HandS.HeadWalk
import HandS.EndBits
import HandS.HeadEnd
set_option Elab.async false
set_option linter.all false
set_option maxRecDepth 100000
set_option maxHeartbeats 4000000
/-! KA: rules over HandS that this claim wants: min and repr of data, defs that are called with no repr under way. -/
namespace K64
open PySem PySem.Spec PyProof.Rows L2
abbrev Fg := PySem.W.Frag
abbrev Ex := Evl.Ex
/-! ### data at any depth -/
mutual
theorem dp_ex {K : Fg} {H H' : Hp} (e : Ex H H') : ∀ {v : V} {d : PyData}, Dp K H v d → Dp K H' v d
  | _, _, .non => .non
  | _, _, .bl b => .bl b
  | _, _, .int i => .int i
  | _, _, .str x => .str x
  | _, _, .lst h1 h2 => .lst (Evl.ex_l e h1) (dpa_ex e h2)
  | _, _, .tup h1 h2 => .tup (Evl.ex_t e h1) (dpa_ex e h2)
theorem dpa_ex {K : Fg} {H H' : Hp} (e : Ex H H') : ∀ {vs : List V} {ds : List PyData}, DpAll K H vs ds → DpAll K H' vs ds
  | _, _, .nil => .nil
  | _, _, .cons h1 h2 => .cons (dp_ex e h1) (dpa_ex e h2)
end
theorem dpa_get {K : Fg} {H : Hp} : ∀ {vs : List V} {ds : List PyData}, DpAll K H vs ds → ∀ (i : Nat) (v : V), vs[i]? = some v → ∃ d, ds[i]? = some d ∧ Dp K H v d
  | _, _, .nil, _, _, h => by simp at h
  | _, _, .cons (d := d) h1 h2, 0, v, h => by
    have q := Option.some.inj (show some _ = some v from h)
    subst q
    exact ⟨d, rfl, h1⟩
  | _, _, .cons h1 h2, i + 1, v, h => by
    obtain ⟨d, q1, q2⟩ := dpa_get h2 i v (by simpa using h)
    exact ⟨d, by simpa using q1, q2⟩
theorem dpa_len {K : Fg} {H : Hp} : ∀ {vs : List V} {ds : List PyData}, DpAll K H vs ds → vs.length = ds.length
  | _, _, .nil => rfl
  | _, _, .cons _ h => congrArg (· + 1) (dpa_len h)
theorem dpa_strs {K : Fg} {H : Hp} : ∀ (xs : List Str), DpAll K H (xs.map V.str) (xs.map PyData.str)
  | [] => .nil
  | x :: r => .cons (.str x) (dpa_strs r)
/-! ### min of a list of data -/
section
variable {X : Cx}
/-- an item whose data is the least's -/
def rMinD (K : Fg) : List V → Hp → VK → Prop := fun vs H Q => ∃ (a : Addr) (ys : List V) (x : PyData) (xs : List PyData), vs = [.ref a] ∧ SqL K H a ys ∧ DpAll K H ys (x :: xs) ∧ PySem.W.AlikeAll (x :: xs) ∧ PyData.depthAll (x :: xs) ≤ 40 ∧
  ∀ (i : Nat) (v : V), ys[i]? = some v → (x :: xs)[i]? = some (PySem.W.minD x xs) → Q v H
theorem readsAll_get {h : Heap} : ∀ {us : List Value} {ds : List PyData} {as : List Addr}, ReadsAll h us ds as → ∀ (i : Nat) (u : Value), us[i]? = some u → ∃ d bs, ds[i]? = some d ∧ Reads h u d bs
  | _, _, _, .nil, _, _, e => by simp at e
  | _, _, _, .cons (d := d) r _, 0, u, e => by
    have q := Option.some.inj (show some _ = some u from e)
    subst q
    exact ⟨d, _, rfl, r⟩
  | _, _, _, .cons _ rs, i + 1, u, e => by
    obtain ⟨d, bs, q1, q2⟩ := readsAll_get rs i u (by simpa using e)
    exact ⟨d, bs, by simpa using q1, q2⟩
theorem cr_minD (hc : X.calm = true) (hu : X.A.units + 64 < cLine) : CallR X (.builtin "min") (rMinD X.K) := by
  intro pins s σ H vs us Q I r hw
  obtain ⟨a, ys, x, xs, rfl, hs, hd, al, dp, q⟩ := hw
  obtain ⟨its, rv, hl, _⟩ := I.list hs
  obtain ⟨as, hr⟩ := Dp.readsAll I (x :: xs) ys its hd rv
  rw [Vals.ref1 r]
  refine PySem.W.min_list_data (I.ok.hd hc) hl.isList (by simpa using hr) al (by omega) fun i v h' tk bs hv hR hk => ?_
  have hv' : its[i]? = some v := by simpa using hv
  obtain ⟨d, cs, e1, r1⟩ := readsAll_get hr i v hv'
  obtain ⟨e2, _⟩ := PyProof.Rows.reads_det (fun b o e _ => hk b o e) r1 hR
  obtain ⟨w, ew, rw'⟩ : ∃ w, ys[i]? = some w ∧ RelV w v := by
    cases z : ys[i]? with
    | none =>
      rw [rv.none_of z] at hv'
      cases hv'
    | some w =>
      obtain ⟨u, e3, r3⟩ := rv.get z
      rw [hv'] at e3
      cases e3
      exact ⟨w, rfl, r3⟩
  exact ⟨w, H, I.kept (t' := tk) hk, rw', q i w ew (by rw [e1, e2])⟩
/-! ### repr of data, no repr under way -/
def rReprD (K : Fg) : List V → Hp → VK → Prop := fun vs H Q => ∃ (a : Addr) (d : PyData), vs = [.ref a] ∧ Dp K H (.ref a) d ∧ d.showable = true ∧ d.hasDict = false ∧ d.depth ≤ 40 ∧ d.shown.length ≤ sizeLine ∧ Q (.str d.shown) H
theorem cr_reprD (hg : X.A.guards = some []) (hu : X.A.units + 64 < cLine) : CallR X (.builtin "repr") (rReprD X.K) := by
  intro pins s σ H vs us Q I r hw
  obtain ⟨a, d, rfl, hd, sh, nd, dp, sz, q⟩ := hw
  obtain ⟨as, hr⟩ := Dp.reads I d (.ref a) (.ref a) hd rfl
  rw [Vals.ref1 r]
  refine repr_of_reads' hr sh (fun z => by rw [nd] at z; cases z) hg (by omega) (fun _ _ e => e) (fun h' u tk hk => ?_) sz
  exact ⟨.str d.shown, H, I.kept (t' := tk) hk, ⟨u, rfl⟩, q⟩
/-! ### list.count of a bool -/
def rCntB (K : Fg) : V → List V → Hp → VK → Prop := fun x vs H Q => ∃ (a : Addr) (bs : List Bool) (b : Bool), x = .ref a ∧ vs = [.bl b] ∧ SqL K H a (bs.map V.bl) ∧ Q (.int (countIn (.bool b) (bs.map PyData.bool))) H
theorem dpa_bools {K : Fg} {H : Hp} : ∀ (bs : List Bool), DpAll K H (bs.map V.bl) (bs.map PyData.bool)
  | [] => .nil
  | b :: r => .cons (.bl b) (dpa_bools r)
theorem mt_countB : MtR X "list.count" (rCntB X.K) := by
  intro pins s σ H x xs v us Q I rx rxs hw
  obtain ⟨a, bs, b, rfl, rfl, hs, q⟩ := hw
  cases rx
  cases rxs with
  | cons r1 r2 =>
    cases r2
    cases r1
    obtain ⟨its, rv, hl, _⟩ := I.list hs
    obtain ⟨as, hr⟩ := Dp.readsAll I _ _ its (dpa_bools bs) rv
    refine PyProof.Rows.count_list_bools hl.isList hr ?_ ⟨.int _, H, I.tok _, ⟨_, rfl⟩, q⟩
    rw [List.all_eq_true]
    intro d hd
    obtain ⟨c, _, rfl⟩ := List.mem_map.mp hd
    rfl
/-! ### one sign, n times -/
def rMulC : R2 := fun x y H Q => ∃ (c n : Nat), x = .str ⟨#[c]⟩ ∧ y = .int (n : Int) ∧ n ≤ 1000 ∧ Q (.str ⟨(List.replicate n c).toArray⟩) H
theorem fold_rep (c : Nat) : ∀ (n : Nat) (acc : Array Nat), (List.replicate n #[c]).foldl (· ++ ·) acc = acc ++ (List.replicate n c).toArray
  | 0, acc => by simp
  | n + 1, acc => by
    rw [List.replicate_succ, List.foldl_cons, fold_rep c n, List.replicate_succ]
    apply Array.ext'
    simp
theorem op_mulC : OpR X (binaryOp .Mult) rMulC := by
  intro pins s σ H x y v u Q I rx ry hw
  obtain ⟨c, n, rfl, rfl, hn, q⟩ := hw
  obtain ⟨t, rfl⟩ := rx
  obtain ⟨t', rfl⟩ := ry
  have hz : Str.length ⟨#[c]⟩ = 1 := rfl
  refine P.mul_str ?_ (fun h1 _ => ?_) (fun h1 _ => ?_) ?_
  · have h1 : ¬ (n : Int) < -(2 ^ 63 : Int) := by omega
    have h2 : ¬ (n : Int) ≥ 2 ^ 63 := by omega
    rw [decide_eq_false h1, decide_eq_false h2]
    rfl
  · rw [hz]
    intro h2
    have h3 : (1 : Int) ≤ (2 ^ 63 - 1) / (n : Int) := by
      refine (Int.le_ediv_iff_mul_le (by omega)).mpr ?_
      omega
    omega
  · rw [hz]
    unfold Builtin.Str.tooLong
    rw [sizeLine_eq]
    simp only [decide_eq_false_iff_not]
    omega
  · by_cases h0 : (n : Int) < 1
    · rw [if_pos h0]
      have e : n = 0 := by omega
      subst e
      exact ⟨by decide, ⟨.str _, H, I.tok _, ⟨_, rfl⟩, q⟩⟩
    · rw [if_neg h0]
      by_cases h1 : ((n : Int) == 1 || Str.length ⟨#[c]⟩ == 0) = true
      · rw [if_pos h1]
        have e : n = 1 := by
          rw [hz] at h1
          simp at h1
          omega
        subst e
        exact ⟨.str _, H, I, ⟨_, rfl⟩, q⟩
      · rw [if_neg h1]
        have e : (List.replicate (n : Int).toNat #[c]).foldl (· ++ ·) #[] = (List.replicate n c).toArray := by
          rw [Int.toNat_natCast, fold_rep]
          simp
        rw [show (List.replicate (n : Int).toNat (Str.mk #[c]).cps).foldl (· ++ ·) #[] = (List.replicate n c).toArray from e]
        refine ⟨?_, ⟨.str _, H, I.tok _, ⟨_, rfl⟩, q⟩⟩
        show (List.replicate n c).toArray.size ≤ sizeLine
        rw [List.size_toArray, List.length_replicate, sizeLine_eq]
        omega
end
/-! ### a call by keywords alone -/
section
variable {X : Cx} {CX : CXT} {k : Nat} {f : Addr} {fd : FuncData} {ps ks : List Str} {sp : Sp} {E : XK} {x : Str} {p pos : Pos} {kws : List Keyword} {tk : TA} {g : List Value → List Value → List Value} {gV : List V → List V → List V}
theorem pe_callKw (F : FnOk X.prog X.w X.K X.mg X.base CX k f fd ps sp) (hr : Room k X.A) (hg : Gl X x) (hm : X.mg x = some (.ref f)) (hk : PySem.W.keepIn X.K (.ref f) = true) (hb : KBinds X.K fd ps ks g gV) (hx : Passes CX X E)
    (hkw : PK X kws tk) (hall : (backToKw pos (keywordEach kws X.env)).all (·.1.isSome) = true := by rfl) (hks : (backToKw pos (keywordEach kws X.env)).filterMap (·.1) = ks := by rfl)
    (hdb : (x == ("__debug__" : Str)) = false := by decide) (hpl : ((backTo pos (starEach [] X.env)).any (·.1) || (backToKw pos (keywordEach kws X.env)).any (·.1.isNone)) = false := by rfl) :
    PE X (.Call (.Name x p) [] kws pos) (tCallK sp gV E tNil tk) := by
  refine ⟨fun pins s σ H Q I hw => ?_⟩
  refine wpAny_Call_Name_kw (ld_glob I hg hm ?_ hdb)
  refine PySem.W.callWith_KW0 (h₀ := X.base) I.ok.mod.kin hk hall (thn (hkw.run pos pins s σ H _ I hw) fun ws s2 ⟨zs, H2, I2, rz, q2⟩ => ⟨I2.kIn, ?_⟩) hpl
  rw [hks]
  exact run_fnk (us := []) F hr hb hx I2 .nil rz q2
end
/-! ### defs called while no repr is under way -/
structure FnOkG (P : Program) (w : World) (K : Fg) (mg : Str → Option Value) (base : Heap) (CX : CXT) (k : Nat) (f : Addr) (fd : FuncData) (ps : List Str) (sp : Sp) : Prop where
  len : ∀ vs H Q E, sp vs H Q E → vs.length = ps.length
  run : ∀ (A : Around) (outer : List Env) (s : Shared) (H : Hp) (args : Args) (us : List Value) (vs : List V) (Q : VK) (E : XK), A.guards = some [] → Room k A → Env0 P w K mg base A outer s H → BindsTo s fd args (ps.zip us) → Vals vs us → sp vs H Q E →
    codeAny (model P w) A (.call (.ref f) args) (CR CX outer P w H s Q E) s
section
variable {P : Program} {w : World} {K : Fg} {mg : Str → Option Value} {base : Heap}
theorem Fun.okG {x qual : Str} {st : Stmt} {f : Addr} {fd : FuncData} {N ps : List Str} {k : Nat} {sp : Sp} (F : Fun K x qual st f fd) (S : FnScope N ps (defScope st)) (len : ∀ vs H Q E, sp vs H Q E → vs.length = ps.length)
    (hbody : ∀ (cdv : Value) (A : Around) (outer : List Env) (s : Shared) (H : Hp) (vs : List V) (Q : VK) (E : XK), A.guards = some [] → Room k (A.deeper (envOfC qual (defScope st) s.heap.objs.size f cdv)) → sp vs H Q E → PySem.W.codeIn K cdv qual = true →
      ∃ t, PSs (cxOf CX0 P w K mg base N qual (defScope st) f cdv A outer s H E).nox (defBody st) t ∧ t { nx := fun _ H' => Q .non H', rt := Q } (start N vs) H) : FnOkG P w K mg base CX0 (k + 1) f fd ps sp := by
  obtain ⟨oc, od, kV, doc, pm, an, cdv, ct, osl, rfl, lk, hcd⟩ := F.ex
  refine ⟨len, fun A outer s H args us vs Q E hg hr e0 hb r hsp => ?_⟩
  refine LamX.run_ofS lk hcd S hr e0 hb r (len vs H Q E hsp) fun hr' => ?_
  obtain ⟨t, h, q⟩ := hbody cdv A outer s H vs Q E hg hr' hsp hcd
  exact ⟨t, h.nox, q⟩
end
section
variable {X : Cx} {CX : CXT} {k : Nat} {f : Addr} {fd : FuncData} {ps : List Str} {sp : Sp} {E : XK} {x : Str} {p pos : Pos} {ds : List Value} {dvs : List V} {e : Expr} {es : List Expr} {t : TA}
theorem pe_callG (hgd : X.A.guards = some []) (F : FnOkG X.prog X.w X.K X.mg X.base CX k f fd ps sp) (hr : Room k X.A) (hg : Gl X x) (hm : X.mg x = some (.ref f)) (hk : PySem.W.keepIn X.K (.ref f) = true) (hb : Binds X.K fd ps ds) (hd : Vals dvs ds) (hx : Passes CX X E)
    (ha : PA X (e :: es) t) (hdb : (x == ("__debug__" : Str)) = false := by decide) (he : starEach (e :: es) X.env = (false, eval e X.env) :: starEach es X.env := by rfl) (hpl : (backTo pos (starEach es X.env)).any (·.1) = false := by rfl) :
    PE X (.Call (.Name x p) (e :: es) [] pos) (tCall sp dvs E t) := by
  refine ⟨fun pins s σ H Q I h => ?_⟩
  refine wpAny_Call_Name_kw (ld_glob I hg hm ?_ hdb)
  refine PySem.W.callWith_K (h₀ := X.base) I.ok.mod.kin hk (thn (ha.run pos pins s σ H _ I h) fun us s1 ⟨vs, H1, I1, r, q⟩ => ⟨I1.kIn, ?_⟩) he hpl
  have r2 : Vals (vs ++ dvs) (us ++ ds) := r.append hd
  have hl : (us ++ ds).length = ps.length := by rw [← r2.length]; exact F.len _ _ _ _ q
  refine wpAny_call (codeAny_mono (F.run X.A X.stack s1 H1 ⟨us, []⟩ (us ++ ds) (vs ++ dvs) Q E hgd hr I1.env0 (hb s1 us I1.kIn hl) r2 q) fun r s' hq => ?_)
  cases r with
  | error e => exact hx pins σ H1 s1 e s' I1 hq
  | ok fl =>
    cases fl with
    | ret u => exact I1.after hq
    | next => exact False.elim hq
    | brk => exact False.elim hq
    | cont => exact False.elim hq
end
end K64

set_option Elab.async false
set_option linter.all false
set_option maxRecDepth 100000
set_option maxHeartbeats 4000000
/-! KB: enumerate over a text and over a tuple. -/
namespace K64
open PySem PySem.Spec PyProof.Rows L2
theorem meets_enum1 {v : Value} {o : Obj} {H : Heap → Prop} (B : Begins v o H) :
    Meets (Builtin.«enumerate.__new__» ⟨[.type "enumerate", v], []⟩) (fun _ R s => H s.heap ∧
      R (.ok (.ret (.ref (s.heap.push o).objs.size))) { s with heap := (s.heap.push o).push { cls := .type "enumerate", data := .fields #[.none, .bool false, .ref s.heap.objs.size, rawInt 0, .none, .none] } }) :=
  .of_wp fun prog w A R s h => by
    obtain ⟨hp, g, d, tk, os⟩ := s; obtain ⟨h1, h⟩ := h
    have hsub := sub_enumerate
    have q1 : ∀ {A' : Around} {E : Value → Shared → Prop} {Q : Value → Shared → Prop}, Q (.ref hp.objs.size) ⟨hp.push o, g, d, tk, os⟩ → wpAny (model prog w) A' (pyIter v) Q E ⟨hp, g, d, tk, os⟩ :=
      fun q => B.iter prog w _ _ ⟨hp, g, d, tk, os⟩ _ h1 q
    wp_walk using q1
    refine wpAny_stack_any fun st => wpAny_pure ?_
    split
    · rename_i c _ _ _ _ _
      cases (c == Value.type "enumerate")
      · wp_walk using q1
        exact ⟨_, rfl, h⟩
      · wp_walk using q1
        exact ⟨_, rfl, h⟩
    · wp_walk using q1
      exact ⟨_, rfl, h⟩
section
variable {prog : Program} {w : World} {A : Around} {E : Value → Shared → Prop} {s : Shared}
theorem enum1_begins {v : Value} {o : Obj} {H : Heap → Prop} {Q : Value → Shared → Prop} (B : Begins v o H) (h1 : H s.heap)
    (h : ∀ h', IsEnum h' (s.heap.objs.size + 1) s.heap.objs.size 0 .none → h'.get? s.heap.objs.size = some o → h'.objs.size = s.heap.objs.size + 2 →
      (∀ b o, s.heap.get? b = some o → h'.get? b = some o) → Q (.ref (s.heap.objs.size + 1)) { s with heap := h' }) :
    wpAny (model prog w) A (call (.type "enumerate") [v]) Q E s := by
  refine callType_new F.called_enumerate (by decide) (F.typeCall_enumerate_1 _) (F.newCall_enumerate_1 _) (fun obj => F.args_object_init_2 obj _) F.entry_enumerate_new
    (meets_enum1 B) ⟨h1, ?_⟩
  have hz : (s.heap.push o).objs.size = s.heap.objs.size + 1 := Heap.size_push ..
  show _ ∧ _
  rw [hz]
  have he : IsEnum ((s.heap.push o).push { cls := .type "enumerate", data := .fields #[.none, .bool false, .ref s.heap.objs.size, rawInt 0, .none, .none] }) (s.heap.objs.size + 1) s.heap.objs.size 0 .none := by
    have := Heap.get?_push_size (s.heap.push o) (o := { cls := .type "enumerate", data := .fields #[.none, .bool false, .ref s.heap.objs.size, rawInt 0, .none, .none] }) rfl
    rw [hz] at this; exact this
  refine ⟨⟨_, he, rfl⟩, h _ he (Heap.get?_push_of_some _ (Heap.get?_push_size _ B.free)) (by rw [Heap.size_push, hz]) fun b o x => Heap.get?_push_of_some _ (Heap.get?_push_of_some _ x)⟩
end
/-- the signs of x, each with its place in a new pair -/
def Ites (x : Str) : It :=
  ⟨fun i _ => i < x.cps.size, fun i H v H' => ∃ T c, v = .ref T ∧ H T = none ∧ H' = upd H T (.tup [.int (i : Nat), .str ⟨#[c]⟩]) ∧ x.cps[i]? = some c, fun i _ => i = x.cps.size⟩
/-- the items of the tuple at a, each with its place in a new pair -/
def Itet (K : PySem.W.Frag) (a : Addr) : It :=
  ⟨fun i H => ∃ (xs : List V) (x : V), SqT K H a xs ∧ xs[i]? = some x, fun i H v H' => ∃ T x, v = .ref T ∧ H T = none ∧ H' = upd H T (.tup [.int (i : Nat), x]) ∧ ∀ xs, SqT K H a xs → xs[i]? = some x, fun i H => ∃ xs : List V, SqT K H a xs ∧ xs.length = i⟩
theorem pair_new {X : Cx} {pins : List (Addr × Obj)} {σ : L2.St} {H : Hp} {s : Shared} {e it : Addr} {i : Nat} {x : V} {u : Value} {tk : Tok} {h' h'' : Heap} (I : Inv X pins σ H s) (hf : ∀ b ∈ [e, it], FpOk X pins H b) (hel : e < s.heap.objs.size)
    (ru : RelV x u) (hT : h'.get? s.heap.objs.size = some { cls := .type "tuple", data := .seq #[.int i tk, u] }) (hk : ∀ b o, b ≠ e → b ≠ it → s.heap.get? b = some o → h'.get? b = some o) (sb : Heap.SameBut e h' h'') :
    Inv X pins σ (upd H s.heap.objs.size (.tup [.int (i : Nat), x])) { s with heap := h'', toks := tk + 1 } := by
  have hT2 : h''.get? s.heap.objs.size = some { cls := .type "tuple", data := .seq #[.int i tk, u] } := (sb.2 _ (Nat.ne_of_gt hel)).trans hT
  have new : ObjOk X.prog X.w (upd H s.heap.objs.size (.tup [.int (i : Nat), x])) h'' s.heap.objs.size (.tup [.int (i : Nat), x]) :=
    ⟨by show 2 ≤ sizeLine; decide, [.int i tk, u], .cons ⟨_, rfl⟩ (.cons ru .nil), ⟨_, hT2, rfl, _, rfl⟩⟩
  exact I.turnedNew (ch := [e, it]) (fun b ob hb q => (sb.2 b (fun z => hb (by simp [z]))).trans (hk b ob (fun z => hb (by simp [z])) (fun z => hb (by simp [z])) q)) hf (Nat.le_refl _) new
theorem turn_enumS {P : Program} {w : World} {K : PySem.W.Frag} {elts : List Expr} {kk : Nat} {tpos : Pos} {x : Str} {t : Tok} (e it : Addr) :
    Turn P w K (.Tuple elts kk tpos) (Ites x) [e, it] e (fun i h => (∃ old, IsEnum h e it ((i : Nat) : Int) old) ∧ h.IsStrIter it (strIterType x) x t i ∧ e ≠ it) where
  mem := by simp
  obj := fun i h st b hb => by
    obtain ⟨⟨old, he⟩, ⟨o, ho, hc, hd⟩, _⟩ := st
    have e' : b = e ∨ b = it := by simpa using hb
    rcases e' with z | z
    · rw [z]; exact ⟨_, he, fun v q => nomatch q⟩
    · rw [z]; exact ⟨o, ho, fun v q => by rw [hd] at q; cases q⟩
  keep := fun i h h' st k => let ⟨⟨old, he⟩, ⟨o, ho, hr⟩, hne⟩ := st; ⟨⟨old, k e (by simp) _ he⟩, ⟨o, k it (by simp) _ ho, hr⟩, hne⟩
  item := by
    intro X hP hw hK hc i pins s σ H E I hf st hg
    subst hP hw hK
    obtain ⟨⟨old, he⟩, hit, hne⟩ := st
    have hlt : i < x.cps.size := hg
    have hel : e < s.heap.objs.size := Heap.lt_size he
    have hil : it < s.heap.objs.size := by obtain ⟨_, q, _⟩ := hit; exact Heap.lt_size q
    have D := Draws.text (prog := X.prog) (w := X.w) (A := X.A.in1) (I.ok.hd hc) it x t
    refine PySem.wpAny_pyNext_enum_itemC D he hit hlt hne (by simpa using hne) fun u h' tk hP ho hit' hT hsz hk => ?_
    obtain ⟨c, tu, hc1, rfl⟩ := hP
    refine ⟨_, rfl, wpAny_letOwnedTupleGo_enum (s := { s with heap := h', toks := tk + 1 }) ho fun h'' he' sb => ?_⟩
    refine ⟨.ref s.heap.objs.size, _, pair_new (s := s) (i := i) (x := .str ⟨#[c]⟩) I hf hel ⟨_, rfl⟩ hT hk sb, rfl, ⟨_, c, rfl, I.hok.fresh (Nat.le_refl _), rfl, hc1⟩, ⟨⟨.str ⟨#[c]⟩ tu, ?_⟩, ?_, hne⟩, fun b hb => ?_⟩
    · have e1 : ((i + 1 : Nat) : Int) = (i : Int) + 1 := by omega
      rw [e1]; exact he'
    · exact D.frame _ _ _ hit' fun b hb o q => (sb.2 b (by have := List.mem_singleton.mp hb; rw [this]; exact Ne.symm hne)).trans q
    · have hb' : b < s.heap.objs.size := by
        have e' : b = e ∨ b = it := by simpa using hb
        rcases e' with z | z
        · rw [z]; exact hel
        · rw [z]; exact hil
      rw [upd_ne (Nat.ne_of_lt hb')]
      exact (hf b hb).1
  done := by
    intro X hP hw hK hc i pins s σ H E I hf st hg
    subst hP hw hK
    obtain ⟨⟨old, he⟩, hit, hne⟩ := st
    obtain ⟨f0, f1, f2, f3, f4, f5⟩ := hf it (by simp)
    have hi : i = x.cps.size := hg
    subst hi
    exact PySem.wpAny_pyNext_enum_endD (Draws.text (prog := X.prog) (w := X.w) (A := X.A.in1) (I.ok.hd hc) it x t) he hit fun h' eb => ⟨rfl, I.turned (t' := s.toks) (fun b o hb q => eb b o hb q) f0 f1 f3 f4 f5⟩
  self := fun A i s Q E st h => let ⟨⟨_, he⟩, _⟩ := st; wpAny_pyIter_enum he h
theorem turn_enumT {P : Program} {w : World} {K : PySem.W.Frag} {elts : List Expr} {kk : Nat} {tpos : Pos} (a e it : Addr) :
    Turn P w K (.Tuple elts kk tpos) (Itet K a) [e, it] e (fun i h => (∃ old, IsEnum h e it ((i : Nat) : Int) old) ∧ h.IsTupleIter it a i ∧ e ≠ it ∧ a ≠ it ∧ e ≠ a) where
  mem := by simp
  obj := fun i h st b hb => by
    obtain ⟨⟨old, he⟩, ⟨o, ho, hc, hd⟩, _⟩ := st
    have e' : b = e ∨ b = it := by simpa using hb
    rcases e' with z | z
    · rw [z]; exact ⟨_, he, fun v q => nomatch q⟩
    · rw [z]; exact ⟨o, ho, fun v q => by rw [hd] at q; cases q⟩
  keep := fun i h h' st k => let ⟨⟨old, he⟩, hi, hne⟩ := st; ⟨⟨old, k e (by simp) _ he⟩, hi.at fun o q => k it (by simp) o q, hne⟩
  item := by
    intro X hP hw hK hc i pins s σ H E I hf st hg
    subst hP hw hK
    obtain ⟨⟨old, he⟩, hit, hne, hai, hea⟩ := st
    obtain ⟨xs, x, hq, hx⟩ := hg
    obtain ⟨its, rv, p, hz⟩ := I.tuple hq
    obtain ⟨u0, hu, ru⟩ := rv.get hx
    have hel : e < s.heap.objs.size := Heap.lt_size he
    have hil : it < s.heap.objs.size := by obtain ⟨_, q, _⟩ := hit; exact Heap.lt_size q
    have D := Draws.tuple (prog := X.prog) (w := X.w) (A := X.A.in1) (I.ok.hd hc) it a hai its.toArray
    have hlt : i < its.toArray.size := by
      have h1 := (List.getElem?_eq_some_iff.mp hu).1
      simpa using h1
    refine PySem.wpAny_pyNext_enum_itemC D he ⟨hit, p⟩ hlt hne (by simp [hne, hea]) fun u h' tk hP ho hit' hT hsz hk => ?_
    have eu : u = u0 := by
      have h1 : its.toArray[i]? = some u := hP
      rw [show its.toArray[i]? = some u0 by simpa using hu] at h1
      exact (Option.some.inj h1).symm
    subst eu
    refine ⟨_, rfl, wpAny_letOwnedTupleGo_enum (s := { s with heap := h', toks := tk + 1 }) ho fun h'' he' sb => ?_⟩
    refine ⟨.ref s.heap.objs.size, _, pair_new (s := s) (i := i) (x := x) I hf hel ru hT hk sb, rfl, ⟨_, x, rfl, I.hok.fresh (Nat.le_refl _), rfl, fun ys hy => by rw [I.tuple_inj hy hq]; exact hx⟩, ⟨⟨u, ?_⟩, ?_, hne, hai, hea⟩, fun b hb => ?_⟩
    · have e1 : ((i + 1 : Nat) : Int) = (i : Int) + 1 := by omega
      rw [e1]; exact he'
    · exact hit'.1.at fun o q => (sb.2 it (Ne.symm hne)).trans q
    · have hb' : b < s.heap.objs.size := by
        have e' : b = e ∨ b = it := by simpa using hb
        rcases e' with z | z
        · rw [z]; exact hel
        · rw [z]; exact hil
      rw [upd_ne (Nat.ne_of_lt hb')]
      exact (hf b hb).1
  done := by
    intro X hP hw hK hc i pins s σ H E I hf st hg
    subst hP hw hK
    obtain ⟨⟨old, he⟩, hit, hne, hai, hea⟩ := st
    obtain ⟨xs, hq, hx⟩ := hg
    obtain ⟨its, rv, p, hz⟩ := I.tuple hq
    obtain ⟨f0, f1, f2, f3, f4, f5⟩ := hf it (by simp)
    have hl := rv.length
    have hi : i = its.toArray.size := by simp; omega
    subst hi
    exact PySem.wpAny_pyNext_enum_endD (Draws.tuple (prog := X.prog) (w := X.w) (A := X.A.in1) (I.ok.hd hc) it a hai its.toArray) he ⟨hit, p⟩ fun h' eb => ⟨rfl, I.turned (t' := s.toks) (fun b o hb q => eb b o hb q) f0 f1 f3 f4 f5⟩
  self := fun A i s Q E st h => let ⟨⟨_, he⟩, _⟩ := st; wpAny_pyIter_enum he h
/-- enumerate of a text, of a tuple -/
def iEnumS (ta : TA) : TI := fun σ H R => ta σ H fun vs H1 => ∃ x, vs = [.str x] ∧ R (Ites x) H1
def iEnumT (K : PySem.W.Frag) (ta : TA) : TI := fun σ H R => ta σ H fun vs H1 => ∃ a xs, vs = [.ref a] ∧ SqT K H1 a xs ∧ R (Itet K a) H1
theorem pi_enumS {X : Cx} {e : Expr} {ta : TA} {p pos tpos : Pos} {elts : List Expr} {kk : Nat} (hg : Gl X "enumerate") (hm : X.mg "enumerate" = none) (ha : PA X [e] ta) (hs : starEach [e] X.env = [(false, eval e X.env)] := by rfl) :
    PI X (.Tuple elts kk tpos) (.Call (.Name "enumerate" p) [e] [] pos) (iEnumS ta) := by
  refine ⟨fun pins s σ H R I h => ?_⟩
  refine Call_ (ld_blt I hg hm boot_enumerate (PyProof.Rows.callWith_type1 (thn (ha.run pos pins s σ H _ I h) fun us s1 ⟨vs, H1, I1, r1, q1⟩ => ?_) hs rfl))
  obtain ⟨x, ex, q⟩ := q1
  subst ex
  cases r1 with
  | cons r rr =>
    cases rr
    obtain ⟨t, rfl⟩ := r
    refine call_enumerate_str fun h' he hit hsz hk => wpAny_pyIter_enum he ?_
    have I2 : Inv X pins σ H1 { s1 with heap := h' } := I1.kept (t' := s1.toks) hk
    refine ⟨s1.heap.objs.size + 1, [s1.heap.objs.size + 1, s1.heap.objs.size], _, _, H1, rfl, I2, turn_enumS (x := x) (t := t) (s1.heap.objs.size + 1) s1.heap.objs.size, ⟨⟨.none, he⟩, hit, Nat.succ_ne_self _⟩, fun b hb => ?_, q⟩
    have e' : b = s1.heap.objs.size + 1 ∨ b = s1.heap.objs.size := by simpa using hb
    have hle : s1.heap.objs.size ≤ b := by
      rcases e' with z | z
      · rw [z]; exact Nat.le_add_right _ _
      · rw [z]; exact Nat.le_refl _
    exact I1.fpOk hle (I1.hok.fresh hle)
theorem pi_enumT {X : Cx} {e : Expr} {ta : TA} {p pos tpos : Pos} {elts : List Expr} {kk : Nat} (hg : Gl X "enumerate") (hm : X.mg "enumerate" = none) (ha : PA X [e] ta) (hs : starEach [e] X.env = [(false, eval e X.env)] := by rfl) :
    PI X (.Tuple elts kk tpos) (.Call (.Name "enumerate" p) [e] [] pos) (iEnumT X.K ta) := by
  refine ⟨fun pins s σ H R I h => ?_⟩
  refine Call_ (ld_blt I hg hm boot_enumerate (PyProof.Rows.callWith_type1 (thn (ha.run pos pins s σ H _ I h) fun us s1 ⟨vs, H1, I1, r1, q1⟩ => ?_) hs rfl))
  obtain ⟨a, xs, ex, hq, q⟩ := q1
  subst ex
  cases r1 with
  | cons r rr =>
    cases rr
    cases r
    obtain ⟨its, rv, p', hz⟩ := I1.tuple hq
    have hal : a < s1.heap.objs.size := by obtain ⟨o, ho, _⟩ := id p'; exact Heap.lt_size ho
    refine enum1_begins (begins_tuple a its.toArray) p' fun h' he hit hsz hk => wpAny_pyIter_enum he ?_
    have I2 : Inv X pins σ H1 { s1 with heap := h' } := I1.kept (t' := s1.toks) hk
    refine ⟨s1.heap.objs.size + 1, [s1.heap.objs.size + 1, s1.heap.objs.size], _, _, H1, rfl, I2, turn_enumT a (s1.heap.objs.size + 1) s1.heap.objs.size, ⟨⟨.none, he⟩, ⟨_, hit, rfl, rfl⟩, Nat.succ_ne_self _, Nat.ne_of_lt hal, Nat.ne_of_gt (Nat.lt_succ_of_lt hal)⟩, fun b hb => ?_, q⟩
    have e' : b = s1.heap.objs.size + 1 ∨ b = s1.heap.objs.size := by simpa using hb
    have hle : s1.heap.objs.size ≤ b := by
      rcases e' with z | z
      · rw [z]; exact Nat.le_add_right _ _
      · rw [z]; exact Nat.le_refl _
    exact I1.fpOk hle (I1.hok.fresh hle)
theorem walk_enumS {x : Str} : Walk (Ites x) x.cps.size (fun _ => True) (YPair (fun i => some (.int (i : Nat))) (fun i => x.cps[i]?.map fun c => .str ⟨#[c]⟩)) := by
  refine ⟨fun _ _ hi _ => hi, fun _ _ => rfl, fun i H v H' _ _ y => ?_⟩
  obtain ⟨T, c, h1, h2, h3, h4⟩ := y
  exact ⟨T, .int (i : Nat), .str ⟨#[c]⟩, h1, h2, h3, rfl, by simp [h4]⟩
theorem walk_enumT {K : PySem.W.Frag} {a : Addr} {xs : List V} : Walk (Itet K a) xs.length (fun H => SqT K H a xs) (YPair (fun i => some (.int (i : Nat))) (fun i => xs[i]?)) := by
  refine ⟨fun i _ hi q => ⟨xs, xs[i], q, by simp [hi]⟩, fun _ q => ⟨xs, q, rfl⟩, fun i H v H' _ q y => ?_⟩
  obtain ⟨T, x, h1, h2, h3, h4⟩ := y
  exact ⟨T, .int (i : Nat), x, h1, h2, h3, rfl, h4 xs q⟩
end K64

set_option Elab.async false
set_option linter.all false
set_option maxRecDepth 100000
set_option maxHeartbeats 4000000
/-! KC: set(list of texts), and sorted of it. -/
namespace K64
open PySem PySem.Spec PyProof.Rows L2
open PySem.Froz (SD sObj tailTx addTx TxOk)
/-- the order of the set's table can be walked -/
def Wlk (w : World) (D : SD) : Prop := Ris D.2.2.place.toList ∧ (w.params.followText "set-order" = true ∨ D.2.2.led = true)
theorem wlk_tail {w : World} {ep : Nat} {es : Array (Int × Value)} {t : SetTable} {b : Bool} (h : Ris t.place.toList) (hl : w.params.followText "set-order" = true ∨ t.led = true) : Wlk w (tailTx ep es t b) := by
  unfold tailTx
  split
  · exact ⟨relayAll_ris _ _ _, hl.imp id fun z => by rw [relayAll_led]; exact z⟩
  · exact ⟨h, hl⟩
theorem wlk_add {w : World} {D : SD} {h : Int} {v : Value} (W : Wlk w D) : Wlk w (addTx h v D) := by
  obtain ⟨es, ep, t⟩ := D
  obtain ⟨h1, h2⟩ := W
  have r := layNew_ris t es h v h1
  have l : w.params.followText "set-order" = true ∨ (layNew t es h v).2.1.led = true := h2.imp id fun z => by rw [layNew_led]; exact z
  unfold addTx
  refine wlk_tail ?_ ?_
  · dsimp only
    split
    · exact r
    · exact r
  · dsimp only
    split
    · exact l
    · exact l
/-- the set at S holds the texts l -/
def SetT (P : Program) (w : World) (h : Heap) (S : Addr) (l : List Str) : Prop := ∃ D : SD, h.get? S = some (sObj "set" D) ∧ TxOk P w D l ∧ l.Nodup ∧ Wlk w D
theorem SetT.at {P : Program} {w : World} {h h' : Heap} {S : Addr} {l : List Str} (x : SetT P w h S l) (k : ∀ o, h.get? S = some o → h'.get? S = some o) : SetT P w h' S l := by
  obtain ⟨D, h1, r⟩ := x
  exact ⟨D, k _ h1, r⟩
section
variable {P : Program} {w : World} {A : Around} {E : Value → Shared → Prop} {s : Shared}
theorem add_known {a : Addr} {T : String} {D : SD} {l : List Str} {k : Str} {u : Tok} {Q : Bool → Shared → Prop} (ho : s.heap.get? a = some (sObj T D)) (F : TxOk P w D l) (hk : k ∈ l) (hb : l.length < scanBound)
    (h : Q false s) : wpAny (model P w) A (setAddHashed a (.str k u) (hashStr w k)) Q E s := by
  obtain ⟨es, ep, t⟩ := D
  have hd : (sObj T (es, ep, t)).data = .set es ep t := rfl
  have hf : t.fits es.size = true := F.fit
  have hel : ElemsOf (PySem.strKind P w) es.toList := F.el
  have hsz : es.size = l.length := F.sz
  have hb0 : es.size < scanBound := by omega
  obtain ⟨e, he, hz⟩ := (F.mem k).mp hk
  unfold setAddHashed setAddHashedIn
  refine wpAny_holding (wpAny_bind (wpAny_setState_of ho hd hf ?_))
  dsimp only
  rw [byScan_of rfl hb0 hel]
  simp only [↓reduceIte]
  unfold setAddByScan
  refine wpAny_bind ?_
  refine wpAny_bind (wpAny_rule ?_)
  refine wpAny_bind (wpAny_setScan_of (knd := PySem.strKind P w) (k := k) (PySem.Froz.is_str k u) ho hd hf hel ?_)
  cases hr : List.findIdx? (fun e => (PySem.strKind P w).is k e.2) es.toList with
  | none =>
    have c := List.findIdx?_eq_none_iff.mp hr e he
    rw [hz] at c
    cases c
  | some j =>
    dsimp only
    exact wpAny_pure (wpAny_pure h)
/-- one more text -/
theorem add_any {a : Addr} {l : List Str} {k : Str} {u : Tok} {Q : Bool → Shared → Prop} (F : SetT P w s.heap a l) (hb : l.length + 1 < scanBound)
    (h : ∀ b h' l', Heap.SameBut a s.heap h' → SetT P w h' a l' → (∀ x, x ∈ l' ↔ x ∈ l ∨ x = k) → l'.length ≤ l.length + 1 → Q b { s with heap := h' }) : wpAny (model P w) A (setAddHashed a (.str k u) (hashStr w k)) Q E s := by
  obtain ⟨D, ho, t, nd, wl⟩ := F
  by_cases hk : k ∈ l
  · exact add_known ho t hk (by omega) (h false s.heap l (Heap.SameBut.refl a s.heap) ⟨D, ho, t, nd, wl⟩ (fun x => ⟨.inl, fun z => z.elim id fun e => e ▸ hk⟩) (Nat.le_succ _))
  · exact PySem.Froz.add_x ho t hk hb (h true _ (k :: l) (Heap.SameBut.update ..) ⟨_, PySem.Froz.get_upd _ ho rfl, PySem.Froz.add_ok u t, List.nodup_cons.mpr ⟨hk, nd⟩, wlk_add wl⟩ (fun x => by rw [List.mem_cons]; exact Or.comm) (Nat.le_refl _))
end
section
variable {prog : Program} {w : World} {A : Around} {R : Result → Shared → Prop} {I : Addr} {fp wr : List Addr} {G : Array GenState → Array GenState → Prop} {n : Nat} {P : Nat → Value → Prop} {St : Nat → Shared → Prop}
theorem loop_txt (W : WalksS prog w A.in1 I fp wr G n P St) (S : Addr) (hSf : S ∉ fp) (xs : List Str) (hn : xs.length = n) (hb : n + 1 < scanBound) (hval : ∀ i v, P i v → ∃ t, v = .str (xs.getD i Str.empty) t) :
    ∀ (k i : Nat) (s : Shared) (l : List Str), n - i = k → i ≤ n → St i s → SetT prog w s.heap S l → (∀ x, x ∈ l ↔ x ∈ xs.take i) → l.length ≤ i →
      (∀ s' l', Moved (S :: wr) G s s' → SetT prog w s'.heap S l' → (∀ x, x ∈ l' ↔ x ∈ xs) → R (.ok (.ret .none)) s') →
      codeAny (model prog w) A (.builtin "set.update.loop" ⟨[.ref S, .ref I], []⟩) R s := by
  have hSw : S ∉ wr := fun h => hSf (W.sub _ h)
  have hsub : ∀ b ∈ wr, b ∈ S :: wr := fun b hb => List.mem_cons_of_mem _ hb
  intro k
  induction k with
  | zero =>
    intro i s l hk hi hst hS hm hl hR
    have hin : i = n := by omega
    subst hin
    refine codeAny_builtin PyProof.Rows.F.entry_set_update_loop ?_
    rw [Around.under_plainId PyProof.Rows.F.plain_set_update_loop _]
    show wpAny _ A.in1 (pyNext (.ref I) >>= _) _ _ s
    refine wpAny_bind (W.done s _ _ hst fun s' hmv => ?_)
    show wpAny _ A.in1 (ret Value.none) _ _ s'
    exact wpAny_pure (hR s' l (hmv.mono hsub) (hS.at fun o e => hmv.heap S _ hSw e) (fun x => by rw [hm x, List.take_of_length_le (Nat.le_of_eq hn)]))
  | succ k ih =>
    intro i s l hk hi hst hS hm hl hR
    have hlt : i < n := by omega
    refine codeAny_builtin PyProof.Rows.F.entry_set_update_loop ?_
    rw [Around.under_plainId PyProof.Rows.F.plain_set_update_loop _]
    show wpAny _ A.in1 (pyNext (.ref I) >>= _) _ _ s
    refine wpAny_bind (W.item i s _ _ hlt hst fun v s' hP hst' hmv => ?_)
    obtain ⟨t, rfl⟩ := hval i v hP
    have hS' : SetT prog w s'.heap S l := hS.at fun o e => hmv.heap S _ hSw e
    show wpAny _ A.in1 (holding [Value.str (xs.getD i Str.empty) t] (setAdd S (.str (xs.getD i Str.empty) t)) >>= _) _ _ s'
    refine wpAny_bind (wpAny_holding ?_)
    unfold setAdd
    refine wpAny_holding ?_
    refine wpAny_bind ((PySem.strKind prog w).pyHash (k := xs.getD i Str.empty) (strKind_is _ _ _ _) ?_)
    refine add_any (s := { s' with toks := s'.toks + 1 }) hS' (by omega) fun b h' l' hsb hS2 hm2 hl2 => ?_
    refine wpAny_pure ⟨plainId_quiet PyProof.Rows.F.plain_set_update_loop _, ih (i + 1) _ l' (by omega) hlt (W.frame _ s' _ _ hst' (Nat.le_succ _) fun b hb o e => ?_) hS2 (fun x => ?_) (by omega) fun s'' l'' hm'' hS'' hx => ?_⟩
    · rw [hsb.2 b (fun h : b = S => hSf (by rw [← h]; exact hb))]; exact e
    · have hi' : i < xs.length := by omega
      rw [hm2 x, hm x, List.take_succ, List.getElem?_eq_getElem hi', List.mem_append, show xs.getD i Str.empty = xs[i] by simp [List.getD, hi']]
      simp
    · refine hR s'' l'' (Moved.trans W.gtrans ((hmv.mono hsub).then_heap (Nat.le_succ _) fun b o hb e => ?_) hm'') hS'' hx
      rw [hsb.2 b (fun h : b = S => hb (by rw [h]; exact List.mem_cons_self))]; exact e
end
section
variable {prog : Program} {w : World} {A : Around} {E : Value → Shared → Prop} {s : Shared}
theorem code_set_new1 (a : Value) {Q₁ : Value → Shared → Prop}
    (h : Q₁ (.ref s.heap.objs.size) { s with heap := s.heap.push { cls := .type "set", dict := none, data := .set #[] 0 (.fresh 0 0 (!w.params.followText "set-order")) } }) :
    codeAny (model prog w) A (.call (.builtin "set.__new__") ⟨[.type "set", a], []⟩) (wants Q₁ E) s := by
  refine codeAny_of_tree ?_
  show wpAny _ A.in1 (do checkBuiltinCall "set.__new__" ⟨[.type "set", a], []⟩; again (.builtin "set.__new__" ⟨[.type "set", a], []⟩)) _ _ s
  refine wpAny_bind (wpAny_of_eq (PySem.F.newCall_set_1 a) (wpAny_pure ⟨plainId_quiet PySem.F.plain_set_new _, codeAny_builtin PySem.F.entry_set_new ?_⟩))
  rw [Around.under_plainId PySem.F.plain_set_new _]
  unfold Builtin.«set.__new__» Builtin.Frozenset.newClass
  have hsub := sub_set_self
  obtain ⟨hp, g, d, tk, os⟩ := s
  dsimp only
  wp_walk
  refine wpAny_askSetting (wpAny_pure ?_)
  dsimp only
  simp only [newObj]
  refine wpAny_bind (wpAny_alloc (wpAny_pure ?_))
  exact wpAny_pure h
set_option maxHeartbeats 8000000 in
theorem call_set_txt {l : Addr} {items : Array Value} {xs : List Str} {Q : Value → Shared → Prop} (hh : A.handled = none) (hl : s.heap.IsList l items) (hi : StrsAre items.toList xs) (hb : xs.length + 1 < scanBound)
    (h : ∀ (h' : Heap) (tk : Nat) (ys : List Str), SetT prog w h' s.heap.objs.size ys → (∀ x, x ∈ ys ↔ x ∈ xs) → (∀ b o, b < s.heap.objs.size → s.heap.get? b = some o → h'.get? b = some o) → Q (.ref s.heap.objs.size) { s with heap := h', toks := tk }) :
    wpAny (model prog w) A (call (.type "set") [.ref l]) Q E s := by
  obtain ⟨c, tl, hmro⟩ := PySem.F.called_set.mro
  have hmade := PySem.F.called_set.made
  have hsub := PySem.F.called_set.sub
  refine wpAny_call (codeAny_of_tree ?_)
  show wpAny _ _ (callAny (.type "set") _) _ _ _
  refine wpAny_pure ⟨Code.quiet_builtin _ (by decide +kernel), codeAny_builtin PySem.F.entry_type_call ?_⟩
  rw [Around.under_plain (weight_type_call_type "set" [.ref l] []) rfl]
  have h1 := PySem.F.called_set.notType
  have h2 := PySem.F.called_set.canCreate
  have hct := PySem.F.typeCall_set_1 (.ref l)
  repeat (any_goals (first | assumption | wp_step))
  refine codeAny_mono (code_set_new1 (.ref l) (E := E) (Q₁ := fun obj s₁ => obj = .ref s.heap.objs.size ∧ s₁ = { s with heap := s.heap.push { cls := .type "set", dict := none, data := .set #[] 0 (.fresh 0 0 (!w.params.followText "set-order")) } }) ⟨rfl, rfl⟩) fun r s₁ hr => ?_
  cases r with
  | error e => exact hr
  | ok fl =>
    cases fl with
    | ret obj =>
      obtain ⟨rfl, rfl⟩ := hr
      have hled : w.params.followText "set-order" = true ∨ (!w.params.followText "set-order") = true := by
        cases w.params.followText "set-order"
        · exact .inr rfl
        · exact .inl rfl
      generalize (!w.params.followText "set-order") = led at hled
      have hS : (s.heap.push { cls := .type "set", dict := none, data := .set #[] 0 (.fresh 0 0 led) }).get? s.heap.objs.size = some { cls := .type "set", dict := none, data := .set #[] 0 (.fresh 0 0 led) } := Heap.get?_push_size _ rfl
      have hOs : ∀ h0 : Heap, h0.get? s.heap.objs.size = some { cls := .type "set", dict := none, data := .set #[] 0 (.fresh 0 0 led) } → SetT prog w h0 s.heap.objs.size [] := fun h0 e => ⟨(#[], 0, .fresh 0 0 led), e, PySem.Froz.TxOk.nil (by rfl), List.nodup_nil, List.Pairwise.nil, hled⟩
      have hT : Shared.TypeIs { s with heap := s.heap.push { cls := .type "set", dict := none, data := .set #[] 0 (.fresh 0 0 led) } } (.ref s.heap.objs.size) "set" := ⟨_, hS, rfl⟩
      have hli := PySem.F.called_set.init.lookup
      have hbi := PySem.F.called_set.init.bind (.ref s.heap.objs.size)
      repeat (any_goals (first | assumption | wp_step))
      refine codeAny_mono (codeAny_call_builtin (R := wants (fun r s₂ => r = .none ∧ ∃ h' tk ys, s₂ = { s with heap := h', toks := tk } ∧ SetT prog w h' s.heap.objs.size ys ∧ (∀ x, x ∈ ys ↔ x ∈ xs) ∧
          (∀ b o, b < s.heap.objs.size → s.heap.get? b = some o → h'.get? b = some o)) E) PySem.F.called_set.init.plain PySem.F.entry_set_init (check_set_init_1 hT ?_)) fun r₂ s₂ hr₂ => ?_
      · obtain ⟨ol, hol, hcl, nl, hdl⟩ := hl
        obtain ⟨ocls, odict, odata, oslots⟩ := ol
        simp only at hcl hdl
        subst hcl; subst hdl
        have hol' : (s.heap.push { cls := .type "set", dict := none, data := .set #[] 0 (.fresh 0 0 led) }).get? l = some { cls := .type "list", dict := odict, data := .seq items nl, slots := oslots } := Heap.get?_push_of_some _ hol
        have hsls := PySem.F.sub_list_set
        have hslf := PySem.F.sub_list_frozenset
        have hne : (Value.type "list" == Value.type "dict") = false := by decide
        have hl1 : (s.heap.push { cls := .type "set", dict := none, data := .set #[] 0 (.fresh 0 0 led) }).IsList l items := ⟨_, hol', rfl, nl, rfl⟩
        unfold Builtin.«set.__init__» noKeywords Builtin.Frozenset.updateFrom
        generalize hPI : pyIter = PI
        wp_walk
        subst hPI
        refine wpAny_pyIter_list hl1 ?_
        refine wpAny_bind (wpAny_runValue ?_)
        have hlS : l < s.heap.objs.size := Heap.lt_size hol
        have hh3 : A.in1.in1.in1.handled = none := by simp [hh]
        have hneI : l ≠ (s.heap.push { cls := .type "set", dict := none, data := .set #[] 0 (.fresh 0 0 led) }).objs.size := by
          rw [Heap.size_push]; exact Nat.ne_of_lt (Nat.lt_succ_of_lt hlS)
        have hSf : s.heap.objs.size ∉ [(s.heap.push { cls := .type "set", dict := none, data := .set #[] 0 (.fresh 0 0 led) }).objs.size, l] := by
          rw [Heap.size_push]; simp only [List.mem_cons, List.mem_singleton, List.not_mem_nil, or_false, not_or]
          exact ⟨Nat.ne_of_lt (Nat.lt_succ_self _), Nat.ne_of_gt hlS⟩
        have hsz : xs.length = items.size := by rw [← StrsAre.len_eq hi, Array.length_toList]
        have hval : ∀ (i : Nat) (v : Value), items[i]? = some v → ∃ t, v = .str (xs.getD i Str.empty) t := fun i v hv => SS.strs_at hi i v (by rw [Array.getElem?_toList]; exact hv)
        refine loop_txt ((Walks.list hh3 _ l hneI items).toS) s.heap.objs.size
          hSf xs hsz (by rw [← hsz]; exact hb) hval (items.size - 0) 0 _ [] (by omega) (Nat.zero_le _)
          ⟨⟨_, Heap.get?_push_size _ rfl, rfl, rfl⟩, (hl1.push _)⟩ (hOs _ (Heap.get?_push_of_some _ hS)) (fun x => by simp) (Nat.le_refl _) ?hR
        intro s' ys hm hS' hys
        obtain ⟨h', g', d', tk', os'⟩ := s'
        have eg : g' = s.gens := hm.gens
        have ed : d' = s.drawn := hm.drawn
        have eo : os' = s.os := hm.os
        subst eg; subst ed; subst eo
        show wpAny _ _ _ _ _ _
        refine wpAny_pure ?_
        show wpAny _ _ (ret Value.none) _ _ _
        refine wpAny_pure ⟨rfl, h', tk', ys, rfl, hS', hys, fun b o hb e => ?_⟩
        have hb1 : b ≠ s.heap.objs.size := Nat.ne_of_lt hb
        have hb2 : b ≠ (s.heap.push { cls := .type "set", dict := none, data := .set #[] 0 (.fresh 0 0 led) }).objs.size := by
          rw [Heap.size_push]; exact Nat.ne_of_lt (Nat.lt_succ_of_lt hb)
        exact hm.heap b o (by simp only [List.mem_cons, List.mem_singleton, List.not_mem_nil, or_false, not_or]; exact ⟨hb1, hb2⟩) (Heap.get?_push_of_some _ (Heap.get?_push_of_some _ e))
      · cases r₂ with
        | error e => exact hr₂
        | ok fl₂ =>
          cases fl₂ with
          | ret r =>
            obtain ⟨rfl, h', tk, ys, rfl, hS', hys, hk'⟩ := hr₂
            repeat (any_goals (first | assumption | wp_step))
            exact h _ _ ys hS' hys hk'
          | _ => exact hr₂.elim
    | _ => exact hr.elim
theorem strs_of_es : ∀ (es : List (Int × Value)) (l : List Str), ElemsOf (PySem.strKind prog w) es → ∃ xs, StrsAre (es.map (·.2)) xs
  | [], _, _ => ⟨[], .nil⟩
  | e :: r, l, h => by
    obtain ⟨⟨k, hk, _⟩, _⟩ := h e List.mem_cons_self
    obtain ⟨t, q⟩ := Value.isStrOf_shape (x := k) (v := e.2) hk
    obtain ⟨xs, hx⟩ := strs_of_es r l fun e he => h e (List.mem_cons_of_mem _ he)
    refine ⟨k :: xs, ?_⟩
    rw [List.map_cons, q]
    exact .cons k t hx
theorem strsAre_mem : ∀ {us : List Value} {xs : List Str}, StrsAre us xs → ∀ x, x ∈ xs ↔ ∃ t, Value.str x t ∈ us
  | _, _, .nil, x => by simp
  | _, _, .cons n t r, x => by
    rw [List.mem_cons, strsAre_mem r x]
    constructor
    · rintro (rfl | ⟨t', h⟩)
      · exact ⟨t, List.mem_cons_self⟩
      · exact ⟨t', List.mem_cons_of_mem _ h⟩
    · rintro ⟨t', h⟩
      rcases List.mem_cons.mp h with q | q
      · injection q with q1
        exact .inl q1
      · exact .inr ⟨t', q⟩
theorem strsAre_perm {us vs : List Value} (p : us.Perm vs) : ∀ {xs : List Str}, StrsAre vs xs → ∃ ys, StrsAre us ys ∧ ys.Perm xs := by
  induction p with
  | nil => intro xs h; exact ⟨xs, h, List.Perm.refl _⟩
  | cons x p ih =>
    intro xs h
    cases h with
    | cons n t r =>
      obtain ⟨ys, h1, h2⟩ := ih r
      exact ⟨n :: ys, .cons n t h1, h2.cons _⟩
  | swap x y l =>
    intro xs h
    cases h with
    | cons n t r =>
      cases r with
      | cons n' t' r => exact ⟨n' :: n :: _, .cons _ _ (.cons _ _ r), List.Perm.swap ..⟩
  | trans p q ih1 ih2 =>
    intro xs h
    obtain ⟨ys, h1, h2⟩ := ih2 h
    obtain ⟨zs, h3, h4⟩ := ih1 h1
    exact ⟨zs, h3, h4.trans h2⟩
theorem perm_of_sub : ∀ (l zs : List Str), l.Nodup → (∀ x ∈ l, x ∈ zs) → zs.length = l.length → zs.Perm l
  | [], zs, _, _, h => by
    rw [List.length_eq_zero_iff.mp h]
  | x :: r, zs, nd, hs, h => by
    obtain ⟨n1, n2⟩ := List.nodup_cons.mp nd
    have hx := hs x List.mem_cons_self
    have p := List.perm_cons_erase hx
    have hl := p.length_eq
    rw [h] at hl
    refine p.trans ((perm_of_sub r (zs.erase x) n2 (fun y hy => ?_) (by simpa using hl.symm)).cons x)
    exact (List.mem_erase_of_ne (fun e : y = x => n1 (e ▸ hy))).mpr (hs y (List.mem_cons_of_mem _ hy))
theorem sorted_set_txt {a : Addr} {l : List Str} {Q : Value → Shared → Prop} (R : SetT prog w s.heap a l) (hh : A.handled = none) (h64 : l.length < 64)
    (hQ : ∀ s' p (out : Array Value) (c : Nat) (ys : List Str), (∀ b o, s.heap.get? b = some o → s'.heap.get? b = some o) → s'.gens = s.gens → s'.os = s.os → s.heap.objs.size ≤ p →
      s'.heap.get? p = some (seqObj "list" out c) → StrsAre out.toList ys → sortedS ys = true → ys.Perm l → Q (.ref p) s') :
    wpAny (model prog w) A (call (.builtin "sorted") [.ref a]) Q E s := by
  obtain ⟨⟨es, ep, t⟩, ho, F, nd, hr, hl⟩ := R
  have hd : (sObj "set" (es, ep, t)).data = .set es ep t := rfl
  have hf : t.fits es.size = true := F.fit
  have hsz : es.size = l.length := F.sz
  have hb : es.size < scanBound := by unfold scanBound; omega
  obtain ⟨zs, hz⟩ := strs_of_es (prog := prog) (w := w) es.toList l F.el
  have hzl : ∀ x, x ∈ zs ↔ x ∈ l := fun x => by
    rw [strsAre_mem hz x, F.mem x]
    constructor
    · rintro ⟨t', h⟩
      obtain ⟨e, he, q⟩ := List.mem_map.mp h
      exact ⟨e, he, by rw [q]; exact PySem.Froz.is_str x t'⟩
    · rintro ⟨e, he, q⟩
      obtain ⟨t', q2⟩ := Value.isStrOf_shape (x := x) (v := e.2) q
      exact ⟨t', List.mem_map.mpr ⟨e, he, q2⟩⟩
  have hzn : zs.length = l.length := by rw [← StrsAre.len_eq hz, List.length_map, Array.length_toList]; exact hsz
  have hzp : zs.Perm l := perm_of_sub l zs nd (fun x hx => (hzl x).2 hx) hzn
  refine Calls.call_function_entry kind_sorted plain_sorted entry_sorted (args_sorted1 _) ?_
  unfold Builtin.«sorted»
  refine wpAny_bind (m := checkCount "sorted" 1 1 _) (wpAny_pure ?_)
  refine wpAny_bind (collect_set (A := A.in1) hh ⟨_, ho, rfl, hd⟩ hf hb hr hl fun s1 vs k1 hz1 g1 o1 pm => ?_)
  obtain ⟨us, hus, hup⟩ := strsAre_perm pm hz
  have hvl : vs.length = l.length := by rw [StrsAre.len_eq hus, hup.length_eq, hzn]
  refine wpAny_bind (wpAny_newList ?_ (by rw [hvl, sizeLine_eq]; omega))
  have hoL : (s1.heap.push (seqObj "list" vs.toArray 0)).get? s1.heap.objs.size = some (seqObj "list" vs.toArray 0) := Heap.get?_push_size _ rfl
  refine wpAny_bind (wpAny_holding (wpAny_call_entry PyProof.Rows.slot_list_sort ⟨_, hoL, rfl⟩ PyProof.Rows.entry_list_sort
    (list_sort_treeK strKind_oneLt (s := { s1 with heap := s1.heap.push (seqObj "list" vs.toArray 0) }) hoL hus.keysOf (fun v₁ v₂ rest e => keyKind_strs (by rw [← e]; exact hus)) (by rw [hvl]; exact h64) fun st' hp hs => ⟨_, rfl, ?_⟩)
    (PyProof.Rows.args_list_sort _)))
  obtain ⟨ys, g1', g2, g3⟩ := sorted_out_str hus hp hs
  obtain ⟨c, hc⟩ := sortedHeap_at (vs := vs) (out := (arrOf st').map (·.2)) hoL
  refine wpAny_pure ⟨_, rfl, hQ _ s1.heap.objs.size ((arrOf st').map (·.2)) c ys (fun b u e => ?_) g1 o1 hz1 hc g1' g3 (g2.trans (hup.trans hzp))⟩
  have q := k1 b u e
  have hlt := Heap.lt_size q
  show (sortedHeap (s1.heap.push (seqObj "list" vs.toArray 0)) s1.heap.objs.size vs _).get? b = some u
  rw [sortedHeap_old (Nat.ne_of_lt hlt) (by rw [size_push']; exact Nat.lt_succ_of_lt hlt)]
  exact Heap.get?_push_of_some _ q
end
/-! ### tracked -/
def SetTO (P : Program) (w : World) (a : Addr) (l : List Str) : HO := .ext fun h => SetT P w h a l
section
variable {X : Cx}
def rSetL (X : Cx) : List V → Hp → VK → Prop := fun vs H Q => ∃ (a : Addr) (xs : List Str), vs = [.ref a] ∧ SqL X.K H a (xs.map V.str) ∧ xs.length ≤ 2000 ∧
  ∀ (p : Addr) (ys : List Str), H p = none → ys.Nodup → (∀ x, x ∈ ys ↔ x ∈ xs) → Q (.ref p) (upd H p (SetTO X.prog X.w p ys))
theorem cr_setL (hc : X.calm = true) : CallR X (.type "set") (rSetL X) := by
  intro pins s σ H vs us Q I r h
  obtain ⟨a, xs, rfl, hs, hn, q⟩ := h
  obtain ⟨its, rv, hl, _⟩ := I.list hs
  rw [Vals.ref1 r]
  refine call_set_txt (I.ok.hd hc) hl.isList (by simpa using rv.strs) (by unfold scanBound; omega) fun h' tk ys hS hys hk => ?_
  obtain ⟨D, h1, h2, nd, h4⟩ := id hS
  have new : ObjOk X.prog X.w (upd H s.heap.objs.size (SetTO X.prog X.w s.heap.objs.size ys)) h' s.heap.objs.size (SetTO X.prog X.w s.heap.objs.size ys) :=
    ⟨hS, ⟨_, h1⟩, fun h1 h2 x k => x.at k⟩
  exact ⟨.ref s.heap.objs.size, _, I.laid (t' := tk) (fun b o e => hk b o (Heap.lt_size e) e) (Nat.le_refl _) new, rfl, q _ ys (I.hok.fresh (Nat.le_refl _)) nd hys⟩
def rSortT (X : Cx) : List V → Hp → VK → Prop := fun vs H Q => ∃ (a : Addr) (l : List Str), vs = [.ref a] ∧ H a = some (SetTO X.prog X.w a l) ∧ l.length < 64 ∧
  ∀ (ys : List Str) (p : Addr), ys.Perm l → sortedS ys = true → H p = none → Q (.ref p) (upd H p (.lst (ys.map V.str)))
theorem cr_sortT (hc : X.calm = true) : CallR X (.builtin "sorted") (rSortT X) := by
  intro pins s σ H vs us Q I r h
  obtain ⟨a, l, rfl, ha, h64, q⟩ := h
  rw [Vals.ref1 r]
  refine sorted_set_txt (I.hok a _ ha).1 (I.ok.hd hc) h64 fun s' p out c ys k g o hp hob hst hso hpm => ?_
  have hlen : (ys.map V.str).length ≤ sizeLine := by
    rw [List.length_map, hpm.length_eq]
    exact Nat.le_trans (Nat.le_of_lt h64) (by decide)
  have hn : H p = none := I.hok.fresh hp
  have J : Inv X pins σ (upd H p (.lst (ys.map V.str))) { s with heap := s'.heap, gens := s'.gens, drawn := s'.drawn, toks := s'.toks } :=
    I.call (ch := []) (Un.laid k hp hn) (I.hok.laid k hp ⟨hlen, out.toList, c, vals_of_strs hst, by rw [Array.toArray_toList]; exact hob⟩) (by rw [g]; exact I.bare) (fun _ z => nomatch z)
  have e : s' = { s with heap := s'.heap, gens := s'.gens, drawn := s'.drawn, toks := s'.toks } := by
    cases s'
    cases s
    cases o
    rfl
  rw [e]
  exact ⟨.ref p, _, J, rfl, q ys p hpm hso hn⟩
end
end K64

set_option Elab.async false
set_option linter.all false
set_option maxRecDepth 100000
set_option maxHeartbeats 4000000
/-! K64Top: the row's statements and defs by name. -/
namespace K64
open PySem PySem.Spec PyProof.Rows L2
def top (i : Nat) : Stmt := PySem.Challenge.pw_childnotes_k64_whole_changes.main.body.getD i (.Pass ⟨0, 0, 0, 0⟩)
abbrev s_is_integer : Stmt := top 5
abbrev s_is_mark : Stmt := top 6
abbrev s_is_many : Stmt := top 7
abbrev s_are_ascending : Stmt := top 8
abbrev s_are_marks : Stmt := top 9
abbrev s_marks_of_row : Stmt := top 10
abbrev s_is_row : Stmt := top 11
abbrev s_is_tuple_of : Stmt := top 12
abbrev s_signs_fault : Stmt := top 13
abbrev s_is_tree : Stmt := top 14
abbrev s_is_notes : Stmt := top 15
abbrev s_checker_fault : Stmt := top 16
abbrev s_is_checker : Stmt := top 17
abbrev s_has_children : Stmt := top 31
abbrev s_label_of : Stmt := top 32
abbrev s_ends_by : Stmt := top 33
abbrev s_children_by : Stmt := top 34
abbrev s_want : Stmt := top 36
abbrev s_want_checker : Stmt := top 37
abbrev s_want_tree_for : Stmt := top 39
abbrev s_want_case : Stmt := top 40
abbrev s_rows_by : Stmt := top 42
abbrev s_digits_at : Stmt := top 43
abbrev s_fitting_rows : Stmt := top 44
abbrev s_costs_by : Stmt := top 45
abbrev s_top_digits : Stmt := top 46
abbrev s_cheapest_by : Stmt := top 47
abbrev s_fewest_changes : Stmt := top 49
abbrev s_least_changed : Stmt := top 50
abbrev s_law_feed : Stmt := top 52
abbrev s_law_draw : Stmt := top 53
abbrev s_law_any : Stmt := top 54
abbrev s_law_same : Stmt := top 55
abbrev s_law_scenes : Stmt := top 56
abbrev s_law_drawn : Stmt := top 57
abbrev s_law_checker : Stmt := top 58
abbrev s_law_marks : Stmt := top 59
abbrev s_law_labels : Stmt := top 60
abbrev s_law_grown : Stmt := top 61
abbrev s_law_kids : Stmt := top 62
abbrev s_law_cries : Stmt := top 63
abbrev s_law_right : Stmt := top 64
abbrev s_law_laid : Stmt := top 65
abbrev s_law_heard : Stmt := top 66
abbrev s_law_price : Stmt := top 67
abbrev s_law_is_right : Stmt := top 68
abbrev s_law : Stmt := top 69
def d_is_integer : He.DefD := ⟨("is_integer", none), "is_integer", "is_integer", defArgs s_is_integer, defBody s_is_integer, defScope s_is_integer, [], []⟩
def d_is_mark : He.DefD := ⟨("is_mark", none), "is_mark", "is_mark", defArgs s_is_mark, defBody s_is_mark, defScope s_is_mark, [], []⟩
def d_is_many : He.DefD := ⟨("is_many", none), "is_many", "is_many", defArgs s_is_many, defBody s_is_many, defScope s_is_many, [], []⟩
def d_are_ascending : He.DefD := ⟨("are_ascending", none), "are_ascending", "are_ascending", defArgs s_are_ascending, defBody s_are_ascending, defScope s_are_ascending, [], []⟩
def d_are_marks : He.DefD := ⟨("are_marks", none), "are_marks", "are_marks", defArgs s_are_marks, defBody s_are_marks, defScope s_are_marks, [], []⟩
def d_marks_of_row : He.DefD := ⟨("marks_of_row", none), "marks_of_row", "marks_of_row", defArgs s_marks_of_row, defBody s_marks_of_row, defScope s_marks_of_row, [], []⟩
def d_is_row : He.DefD := ⟨("is_row", none), "is_row", "is_row", defArgs s_is_row, defBody s_is_row, defScope s_is_row, [], []⟩
def d_is_tuple_of : He.DefD := ⟨("is_tuple_of", none), "is_tuple_of", "is_tuple_of", defArgs s_is_tuple_of, defBody s_is_tuple_of, defScope s_is_tuple_of, [], []⟩
def d_signs_fault : He.DefD := ⟨("signs_fault", none), "signs_fault", "signs_fault", defArgs s_signs_fault, defBody s_signs_fault, defScope s_signs_fault, [], []⟩
def d_is_tree : He.DefD := ⟨("is_tree", none), "is_tree", "is_tree", defArgs s_is_tree, defBody s_is_tree, defScope s_is_tree, [], []⟩
def d_is_notes : He.DefD := ⟨("is_notes", none), "is_notes", "is_notes", defArgs s_is_notes, defBody s_is_notes, defScope s_is_notes, [], []⟩
def d_checker_fault : He.DefD := ⟨("checker_fault", none), "checker_fault", "checker_fault", defArgs s_checker_fault, defBody s_checker_fault, defScope s_checker_fault, [], []⟩
def d_is_checker : He.DefD := ⟨("is_checker", none), "is_checker", "is_checker", defArgs s_is_checker, defBody s_is_checker, defScope s_is_checker, [], []⟩
def d_has_children : He.DefD := ⟨("has_children", none), "has_children", "has_children", defArgs s_has_children, defBody s_has_children, defScope s_has_children, [], []⟩
def d_label_of : He.DefD := ⟨("label_of", none), "label_of", "label_of", defArgs s_label_of, defBody s_label_of, defScope s_label_of, [], []⟩
def d_ends_by : He.DefD := ⟨("ends_by", none), "ends_by", "ends_by", defArgs s_ends_by, defBody s_ends_by, defScope s_ends_by, [], []⟩
def d_children_by : He.DefD := ⟨("children_by", none), "children_by", "children_by", defArgs s_children_by, defBody s_children_by, defScope s_children_by, [], []⟩
def d_want : He.DefD := ⟨("want", none), "want", "want", defArgs s_want, defBody s_want, defScope s_want, [.int (-1)], []⟩
def d_want_checker : He.DefD := ⟨("want_checker", none), "want_checker", "want_checker", defArgs s_want_checker, defBody s_want_checker, defScope s_want_checker, [.str "checker"], []⟩
def d_want_tree_for : He.DefD := ⟨("want_tree_for", none), "want_tree_for", "want_tree_for", defArgs s_want_tree_for, defBody s_want_tree_for, defScope s_want_tree_for, [], []⟩
def d_want_case : He.DefD := ⟨("want_case", none), "want_case", "want_case", defArgs s_want_case, defBody s_want_case, defScope s_want_case, [], []⟩
def d_rows_by : He.DefD := ⟨("rows_by", none), "rows_by", "rows_by", defArgs s_rows_by, defBody s_rows_by, defScope s_rows_by, [], []⟩
def d_digits_at : He.DefD := ⟨("digits_at", none), "digits_at", "digits_at", defArgs s_digits_at, defBody s_digits_at, defScope s_digits_at, [], []⟩
def d_fitting_rows : He.DefD := ⟨("fitting_rows", none), "fitting_rows", "fitting_rows", defArgs s_fitting_rows, defBody s_fitting_rows, defScope s_fitting_rows, [], []⟩
def d_costs_by : He.DefD := ⟨("costs_by", none), "costs_by", "costs_by", defArgs s_costs_by, defBody s_costs_by, defScope s_costs_by, [], []⟩
def d_top_digits : He.DefD := ⟨("top_digits", none), "top_digits", "top_digits", defArgs s_top_digits, defBody s_top_digits, defScope s_top_digits, [], []⟩
def d_cheapest_by : He.DefD := ⟨("cheapest_by", none), "cheapest_by", "cheapest_by", defArgs s_cheapest_by, defBody s_cheapest_by, defScope s_cheapest_by, [], []⟩
def d_fewest_changes : He.DefD := ⟨("fewest_changes", none), "fewest_changes", "fewest_changes", defArgs s_fewest_changes, defBody s_fewest_changes, defScope s_fewest_changes, [], []⟩
def d_least_changed : He.DefD := ⟨("least_changed", none), "least_changed", "least_changed", defArgs s_least_changed, defBody s_least_changed, defScope s_least_changed, [], []⟩
def d_law_feed : He.DefD := ⟨("_law_feed", none), "_law_feed", "_law_feed", defArgs s_law_feed, defBody s_law_feed, defScope s_law_feed, [], []⟩
def d_law_draw : He.DefD := ⟨("_law_draw", none), "_law_draw", "_law_draw", defArgs s_law_draw, defBody s_law_draw, defScope s_law_draw, [], []⟩
def d_law_any : He.DefD := ⟨("_law_any", none), "_law_any", "_law_any", defArgs s_law_any, defBody s_law_any, defScope s_law_any, [], []⟩
def d_law_same : He.DefD := ⟨("_law_same", none), "_law_same", "_law_same", defArgs s_law_same, defBody s_law_same, defScope s_law_same, [], []⟩
def d_law_scenes : He.DefD := ⟨("_law_scenes", none), "_law_scenes", "_law_scenes", defArgs s_law_scenes, defBody s_law_scenes, defScope s_law_scenes, [], []⟩
def d_law_drawn : He.DefD := ⟨("_law_drawn", none), "_law_drawn", "_law_drawn", defArgs s_law_drawn, defBody s_law_drawn, defScope s_law_drawn, [], []⟩
def d_law_checker : He.DefD := ⟨("_law_checker", none), "_law_checker", "_law_checker", defArgs s_law_checker, defBody s_law_checker, defScope s_law_checker, [], []⟩
def d_law_marks : He.DefD := ⟨("_law_marks", none), "_law_marks", "_law_marks", defArgs s_law_marks, defBody s_law_marks, defScope s_law_marks, [], []⟩
def d_law_labels : He.DefD := ⟨("_law_labels", none), "_law_labels", "_law_labels", defArgs s_law_labels, defBody s_law_labels, defScope s_law_labels, [], []⟩
def d_law_grown : He.DefD := ⟨("_law_grown", none), "_law_grown", "_law_grown", defArgs s_law_grown, defBody s_law_grown, defScope s_law_grown, [], []⟩
def d_law_kids : He.DefD := ⟨("_law_kids", none), "_law_kids", "_law_kids", defArgs s_law_kids, defBody s_law_kids, defScope s_law_kids, [], []⟩
def d_law_cries : He.DefD := ⟨("_law_cries", none), "_law_cries", "_law_cries", defArgs s_law_cries, defBody s_law_cries, defScope s_law_cries, [], []⟩
def d_law_right : He.DefD := ⟨("_law_right", none), "_law_right", "_law_right", defArgs s_law_right, defBody s_law_right, defScope s_law_right, [], []⟩
def d_law_laid : He.DefD := ⟨("_law_laid", none), "_law_laid", "_law_laid", defArgs s_law_laid, defBody s_law_laid, defScope s_law_laid, [], []⟩
def d_law_heard : He.DefD := ⟨("_law_heard", none), "_law_heard", "_law_heard", defArgs s_law_heard, defBody s_law_heard, defScope s_law_heard, [], []⟩
def d_law_price : He.DefD := ⟨("_law_price", none), "_law_price", "_law_price", defArgs s_law_price, defBody s_law_price, defScope s_law_price, [], []⟩
def d_law_is_right : He.DefD := ⟨("_law_is_right", none), "_law_is_right", "_law_is_right", defArgs s_law_is_right, defBody s_law_is_right, defScope s_law_is_right, [], []⟩
def d_law : He.DefD := ⟨("law", none), "law", "law", defArgs s_law, defBody s_law, defScope s_law, [], []⟩
abbrev s_NoNotes : Stmt := top 25
abbrev s_ni : Stmt := inClass s_NoNotes 0
end K64

set_option Elab.async false
set_option linter.all false
set_option maxRecDepth 100000
set_option maxHeartbeats 4000000
/-! KD: an own exception, three classes below ValueError, whose __init__ says super().__init__(x); self.f = x. -/
namespace K64
open PySem PySem.Spec PyProof.Rows L2
/-- the class at C and its __init__ at f, as they stand behind the top -/
abbrev niFd (nm : Str) (dV kV doc pm : Value) (an : Option Addr) (cd cc : Addr) (ct : Value) : FuncData :=
  { name := nm, qualname := "NoNotes.__init__", params := defArgs s_ni, body := .stmts (defBody s_ni), scope := defScope s_ni, globals := mainGlobals, closure := [("__class__", cc)], defaults := dV, kwdefaults := kV, doc := doc, pyModule := pm, annotations := an, code := .ref cd, closureTuple := ct, builtins := builtinsNs }
structure NnC (P : Program) (K : Fg) (mg : Str → Option Value) (C f : Addr) (fd : FuncData) : Prop where
  ex : ∃ (oc : Value) (od : Option Addr) (nm : Str) (dV kV doc pm : Value) (an : Option Addr) (cd cc : Addr) (ct : Value) (osl : Array (Option Value)), fd = niFd nm dV kV doc pm an cd cc ct ∧
    K.lookup f = some ⟨oc, od, .func fd, osl⟩ ∧ PySem.W.codeIn K (.ref cd) "NoNotes.__init__" = true ∧ (∃ c2 d2 s2, K.lookup cc = some ⟨c2, d2, .cell (some (.ref C)), s2⟩) ∧
    (∃ c3 d3 vs s3 file tf, K.lookup cd = some ⟨c3, d3, .fields vs, s3⟩ ∧ vs[2]? = some (.str file tf) ∧ ((P.main.file : Str) == file) = true)
  top : (P.main.scope.names.lookup ("super" : Str)).isSome = false
  cls : OexC K C
  op : PySem.W.nsIn K cStatics "thirdparty.any" = some none
  sup : PySem.W.ks_superIn K C C "__init__" = some (some (.builtin "ValueError.__init__"))
  ve : PySem.W.subIn K (.ref C) (.type "ValueError") = some true
  self : PySem.W.mroIn K C (.ref C) = some true
  sm : mg "super" = none
  nf : PySem.W.findIn K (.ref C) "tree" = some none
/-- the context of its body -/
def niCx (P : Program) (w : World) (K : Fg) (mg : Str → Option Value) (base : Heap) (fd : FuncData) (f : Addr) (A : Around) (outer : List Env) (s : Shared) (H : Hp) (E : XK) : Cx where
  prog := P
  w := w
  K := K
  mg := mg
  base := base
  A := A.deeper (callEnv fd s.heap.objs.size f)
  N := ["self", "tree"]
  s_0 := s
  H_0 := H
  env := callEnv fd s.heap.objs.size f
  outer := outer
  stack := callEnv fd s.heap.objs.size f :: outer
  ex := []
  fn := fun _ => false
  calm := true
  pn := []
  xe := fun e s' => wpAny (model P w) (A.deeper (callEnv fd s.heap.objs.size f)) (leaving (callEnv fd s.heap.objs.size f) e) (fun _ s'' => CX0 outer H s E e s'') (fun e' s'' => CX0 outer H s E e' s'') s'
section
variable {P : Program} {w : World} {K : Fg} {mg : Str → Option Value} {base : Heap} {C f : Addr} {fd : FuncData}
theorem ni_start {A : Around} {outer : List Env} {s : Shared} {H : Hp} {E : XK} {h₀ : Heap} {tk : Nat} {u1 u2 : Value} {v1 v2 : V} (B : NnC P K mg C f fd) (e0 : Env0 P w K mg base A outer s H) (hd : A.handled = none)
    (r1 : RelV v1 u1) (r2 : RelV v2 u2) (hns : h₀.Ns s.heap.objs.size (fun x => ([("self", u1), ("tree", u2)] : List (Str × Value)).reverse.lookup x)) (kp : ∀ b o, s.heap.get? b = some o → h₀.get? b = some o) :
    Inv (niCx P w K mg base fd f A outer s H E) [] [some v1, some v2] H { s with heap := h₀, toks := tk } := by
  obtain ⟨oc, od, nm, dV, kV, doc, pm, an, cd, cc, ct, osl, rfl, lk, hcd, ⟨c2, d2, s2, hcc⟩, hfile⟩ := B.ex
  have KX : K.In s.heap := e0.mod.kin.keeps fun b o e => (e0.bs b o e).1
  have hnames : ∀ y, ((defScope s_ni).names.lookup y = some .cell ∨ (defScope s_ni).names.lookup y = some .free) → y = "__class__" := fun y hy => by
    have hn : (defScope s_ni).names = ([("self", NameKind.local), ("tree", NameKind.local), ("__class__", NameKind.free), ("super", NameKind.globalImplicit)] : List (Str × NameKind)) := by rfl
    rw [hn] at hy
    rcases hy with z | z
    · have z2 := PySem.mem_of_lookup z
      simp at z2
    · have z2 := PySem.mem_of_lookup z
      simpa using z2
  have nil : ∀ b : Addr, b ∉ ([] : List Addr) := fun b z => absurd z (by simp)
  have one : ∀ {y c}, ([("__class__", cc)] : List (Str × Addr)).lookup y = some c → y = "__class__" ∧ c = cc := fun {y c} e => by
    have h : (match y == ("__class__" : Str) with | true => some cc | false => none) = some c := e
    cases z : (y == ("__class__" : Str)) with
    | true =>
      rw [z] at h
      exact ⟨beq_iff_eq.mp z, (Option.some.inj h).symm⟩
    | false =>
      rw [z] at h
      cases h
  have hHc : H cc = none := (e0.bs cc _ (e0.mod.kin _ _ hcc)).2
  refine ⟨⟨e0.mod, rfl, rfl, rfl, Nat.le_refl _, fun y z c e1 e2 => (one e1).1.trans (one e2).1.symm, fun y hy => ?_, fun y c z _ => ?_, fun _ => hd, Around.frames_deeper e0.frames, .inr ⟨rfl, rfl⟩, fun b z => absurd z (nil b), e0.bs, e0.bsz, fun b _ _ => nil b,
      fun b z => absurd z (nil b), e0.funs, e0.frf⟩,
    rfl, e0.bare, Un.kept kp, ⟨_, hns, fun i y v e1 e2 e3 => ?_⟩, fun y c e => ?_, e0.hok.fresh (Nat.le_refl _), fun y c e => ?_, fun q hq => absurd (show q ∈ ([] : List (Addr × Obj)) ++ [] from hq) (by simp), e0.hok.kept kp, rfl⟩
  · have e := hnames y hy
    subst e
    exact ⟨cc, by rfl⟩
  · have z : false = true := z
    cases z
  · rcases i with _ | _ | i
    · obtain rfl : ("self" : Str) = y := Option.some.inj e1
      obtain rfl : v1 = v := Option.some.inj (Option.some.inj e2)
      exact ⟨u1, r1, .inl ⟨by rfl, by rfl⟩⟩
    · obtain rfl : ("tree" : Str) = y := Option.some.inj e1
      obtain rfl : v2 = v := Option.some.inj (Option.some.inj e2)
      exact ⟨u2, r2, .inl ⟨by rfl, by rfl⟩⟩
    · have z : ([] : List Str)[i]? = some y := e1
      simp at z
  · obtain ⟨_, rfl⟩ := one e
    exact ⟨_, _, kp _ _ (KX _ _ hcc), rfl⟩
  · obtain ⟨_, rfl⟩ := one e
    exact hHc
/-- the method-wrapper of ValueError.__init__, called -/
theorem mw_call {X : Cx} {pins : List (Addr × Obj)} {σ : L2.St} {H : Hp} {s : Shared} {a C u : Addr} {us : List Value} {Q : Value → Shared → Prop} {E : Value → Shared → Prop} (T : OexC X.K C) (I : Inv X pins σ H s) (e : H a = some (exo a C none))
    (hu : s.heap.get? u = some (PySem.W.kxs_mw "ValueError.__init__" a)) (hl : us.length ≤ sizeLine) (h : ∀ s', Inv X pins σ H s' → Q .none s') : wpAny (model X.prog X.w) X.A (call (.ref u) us) Q E s := by
  obtain ⟨nm, q, N, bs, bm, sn, sub, ab, col, dd, k0, k1, k2, k3, k5, hC, hbm⟩ := T.cls
  obtain ⟨t1, ho⟩ := exo_at I.hok e
  obtain ⟨hp, g, d, t, os⟩ := s
  refine wpAny_call (codeAny_of_tree ?_)
  show wpAny _ X.A.in1 (callAny (.ref u) ⟨us, []⟩) _ _ _
  simp only [callAny]
  refine wpAny_bind (wpAny_load hu ?_)
  simp only [PySem.W.kxs_mw, show (Value.type "method-wrapper" == Value.type "method" || Value.type "method-wrapper" == Value.type "builtin_function_or_method" || Value.type "method-wrapper" == Value.type "method-wrapper") = true by decide, if_true]
  refine PySem.W.KFB.if_so (by decide) ?_
  refine wpAny_bind (PySem.W.check_bound_init F.excBase_ValueError.toExcCallFacts (I.kIn _ _ hC) ho rfl ?_)
  refine wpAny_bind (wpAny_pure (wpAny_pure ?_))
  refine ⟨plainId_quiet F.excBase_ValueError.init.plain _, codeAny_builtin F.excBase_ValueError.initEntry ?_⟩
  refine PySem.W.exc_init_tree (cls := .ref C) (t0 := t1) (dv := none) (c2 := .none) (c3 := .none) (b4 := .bool false) ho hl fun h' k hx _ => ?_
  have J := I.write (t' := t) (x := a) (e := a) (o := exo a C none) (by rw [e]; exact True.intro) (.inl rfl) k ⟨_, hx⟩ (exo_ok hx)
  have eu : upd H a (exo a C none) = H := by
    funext b
    by_cases hb : b = a
    · rw [hb, upd_same, e]
    · rw [upd_ne hb]
  rw [eu] at J
  exact h _ J
end
def spNi (C : Addr) : Sp := fun vs H Q _ => ∃ (a : Addr) (x : Str), vs = [.ref a, .str x] ∧ H a = some (exo a C none) ∧ ∀ dx, H dx = none → dx ≠ a → Q .non (upd (upd H dx (exd dx [("tree", .str x)])) a (exo a C (some dx)))
section
variable {P : Program} {w : World} {K : Fg} {mg : Str → Option Value} {base : Heap} {C f : Addr} {fd : FuncData}
theorem ni_ok {k : Nat} (B : NnC P K mg C f fd) : FnOk P w K mg base CX0 (k + 1) f fd ["self", "tree"] (spNi C) := by
  refine ⟨fun vs H Q E h => ?_, fun A outer s H args us vs Q E hr e0 hb rv hsp => ?_⟩
  · obtain ⟨a, x, rfl, _⟩ := h
    rfl
  obtain ⟨oc, od, nm, dV, kV, doc, pm, an, cd, cc, ct, osl, efd, lk, hcd, ⟨c2, d2, s2, hcc⟩, c3, d3, vsf, s3, file, tf, lcd, hvs, hfile⟩ := id B.ex
  obtain ⟨a, x, rfl, ha, hq⟩ := hsp
  have KX : K.In s.heap := e0.mod.kin.keeps fun b o e => (e0.bs b o e).1
  have lim : s.heap.NoLimit := e0.mod.nolimit.keeps fun b o e => (e0.bs b o e).1
  cases rv with
  | @cons _ u1 _ us1 r1 rv =>
  cases rv with
  | @cons _ u2 _ us2 r2 rv =>
  cases rv
  obtain rfl : u1 = Value.ref a := r1
  subst efd
  refine ks_codeAny_call_defAt hr.depth (KX _ _ lk) rfl lim (PySem.W.codeRec_of KX hcd) rfl hb (show ∀ x ∈ (defScope s_ni).names, x.2 ≠ .cell from by decide +kernel) (fun y hy => ?_) (fun h₀ hns hkp => ?_) rfl rfl rfl
  · rcases List.mem_cons.mp hy with z | hy
    · rw [z]
      rfl
    · have z := List.mem_singleton.mp hy
      rw [z]
      rfl
  have I0 : Inv (niCx P w K mg base (niFd nm dV kV doc pm an cd cc ct) f A outer s H E) [] [some (.ref a), some (.str x)] H { s with heap := h₀, toks := s.toks + 2 } := ni_start B e0 hr.hd rfl r2 hns hkp
  show _root_.PySem.wpAt _ _ _ _ _ _ { s with heap := h₀, toks := s.toks + 2 }
  generalize hs0 : ({ s with heap := h₀, toks := s.toks + 2 } : Shared) = s0 at I0 ⊢
  have hns0 : s0.heap.Ns s.heap.objs.size (fun x => ([("self", Value.ref a), ("tree", u2)] : List (Str × Value)).reverse.lookup x) := by rw [← hs0]; exact hns
  have X0 : K.In s0.heap := I0.kIn
  refine ks_wpAt_execs_cons (ks_wpAt_Expr_any (ks_wpAt_MethodCall (ks_wpAt_super_base rfl rfl (by decide) rfl (X0 _ _ lk) rfl (by rfl) rfl (X0 _ _ lcd) rfl hvs hfile B.top ?_)))
  -- super, __class__, self
  refine PySem.W.ks_loadName_global rfl rfl ?_
  obtain ⟨mb, hb1, hb2⟩ := I0.mod.blt
  refine Calls.loadGlobal_builtin (v := .type "super") (I0.mod.glob.keeps I0.bk) B.sm (hb1.keeps I0.bk) ((hb2 "super" (by decide)).trans (by rfl)) ⟨rfl, ?_⟩
  refine wpAny_loadName_free (v := .ref C) (c := cc) rfl rfl (by rfl) ⟨_, X0 _ _ hcc, rfl⟩ ?_
  refine wpAny_loadName_local (v := .ref a) rfl rfl hns0 (by rfl) ?_
  obtain ⟨cnm, cq, cN, cbs, cbm, csn, csub, cab, ccol, cdd, k0, k1, k2, k3, k5, hC, hbm⟩ := B.cls.cls
  have hCh := X0 _ _ hC
  obtain ⟨t1, hea⟩ := exo_at I0.hok ha
  obtain ⟨hp, g, d, t, os⟩ := s0
  refine ks_wpAny_isType_cls hCh rfl ⟨rfl, ?_⟩
  have hcl : PySem.W.clsIn K C = some { name := cnm, bases := cbs, mro := .ref C :: cbm, ns := cN, qualname := cq, hasDict := true, slotNames := csn, subclasses := csub, abstract := cab, collection := ccol, hasDel := false } := by unfold PySem.W.clsIn; rw [hC] <;> rfl
  have hsub : PySem.W.Looks (model P w) hp (isSubtype (.ref C) (.ref C)) true := PySem.W.looks_mroIn X0 B.self
  refine ks_wpAny_call_super hCh rfl hea rfl (fun c z => nomatch z) hsub fun h1 hso hk1 => ?_
  have I1 : Inv (niCx P w K mg base (niFd nm dV kV doc pm an cd cc ct) f A outer s H E) [] [some (.ref a), some (.str x)] H ⟨h1, g, d, t, os⟩ := I0.kept (t' := t) hk1
  have X1 : K.In h1 := I1.kIn
  have hea1 := hk1 _ _ hea
  have hsu : PySem.W.alongIn K "__init__" (((Value.ref C :: cbm).dropWhile (· != .ref C)).drop 1) = some (some (.builtin "ValueError.__init__")) := by
    have z := B.sup
    unfold PySem.W.ks_superIn at z
    rw [hcl] at z
    exact z
  have hI1 : PySem.W.InstAt h1 a { cls := .ref C, data := .fields #[.ref t1, .none, .none, .none, .bool false, .none] } C none := ⟨hea1, rfl, rfl, trivial⟩
  refine PySem.W.kxs_getMethod (B := "ValueError") (i := "ValueError.__init__") PySem.W.kxs_ValueError hso (PySem.W.looks_opaque X1 B.op) (l₀ := .ref C :: cbm) (l := ((Value.ref C :: cbm).dropWhile (· != .ref C)).drop 1) (fun A Q E s k q => wpAny_bind ((PySem.W.looks_clsIn X1 hcl) A _ E s k (wpAny_pure q))) rfl X1 hsu (hI1.type.andThen (PySem.W.looks_subIn X1 B.ve)) (PySem.W.ks_ne X1 hI1 hcl) (by decide) ?_
  have I2 : Inv (niCx P w K mg base (niFd nm dV kV doc pm an cd cc ct) f A outer s H E) [] [some (.ref a), some (.str x)] H ⟨h1.push (PySem.W.kxs_mw "ValueError.__init__" a), g, d, t + 1, os⟩ := I1.kept (t' := t + 1) fun b o e => Heap.get?_push_of_some _ e
  have hu : (h1.push (PySem.W.kxs_mw "ValueError.__init__" a)).get? h1.objs.size = some (PySem.W.kxs_mw "ValueError.__init__" a) := Heap.get?_push_at rfl rfl
  refine PySem.W.kxs_callWith (i := "ValueError.__init__") (x := a) (by rfl) ?_
  obtain ⟨m2, hns2, hl2⟩ := I2.loc
  obtain ⟨w2, rw2, look2⟩ := hl2 1 "tree" (.str x) rfl rfl (Or.inl (by rfl))
  have lk2 : m2 "tree" = some w2 := by
    rcases look2 with ⟨_, z⟩ | ⟨z, _⟩
    · exact z
    · have z2 : (defScope s_ni).names.lookup ("tree" : Str) = some .local := by rfl
      rcases z with z | z
      · exact nomatch (z2.symm.trans z)
      · exact nomatch (z2.symm.trans z)
  refine Calls.evalArgs_plain (Calls.spliced_cons (wpAny_Name (wpAny_loadName_local rfl rfl hns2 lk2 (Calls.spliced_nil ⟨hu, ?_⟩)) (by decide)))
  have ha2 : H a = some (exo a C none) := ha
  refine mw_call B.cls I2 ha2 hu (by show 1 ≤ sizeLine; decide) fun s' I4 => ?_
  refine ks_wpAt_execs_cons (wpAt_of_wpAny ?_)
  have PT : PS (niCx P w K mg base (niFd nm dV kV doc pm an cd cc ct) f A outer s H E) (.Assign [.Attribute (.Name "self" ⟨78, 8, 78, 12⟩) "tree" ⟨78, 8, 78, 17⟩] (.Name "tree" ⟨78, 20, 78, 24⟩) ⟨78, 8, 78, 24⟩) (tOst K "tree" (tVar 0) (tVar 1)) := ps_ost (pv 0) (pv 1)
  refine thn (PT.run [] s' _ _ { nx := fun _ H' => Q .non H', rt := fun _ _ => False } I4 ⟨.str x, rfl, .ref a, rfl, a, C, rfl, B.cls, B.nf, .inl ⟨ha2, fun dx n ne => hq dx n ne⟩⟩) fun fl s2 hfl => ?_
  cases fl with
  | next =>
    obtain ⟨σ', H', J, q⟩ := hfl
    exact wpAt_of_wpAny (wpAny_execs_nil ⟨.non, H', J.os, J.bare, J.base, J.hok, rfl, q⟩)
  | ret u =>
    obtain ⟨_, _, _, _, _, q⟩ := hfl
    exact q.elim
  | brk =>
    obtain ⟨_, _, _, q⟩ := hfl
    exact q.elim
  | cont =>
    obtain ⟨_, _, _, q⟩ := hfl
    exact q.elim
end
end K64

set_option Elab.async false
set_option linter.all false
set_option maxRecDepth 100000
set_option maxHeartbeats 4000000
/-! KH: _law_heard: the lambda called, NoNotes caught. -/
namespace K64
open PySem PySem.Spec PyProof.Rows L2
/-- what the written part says of the classes that _law_heard names -/
structure HxC (K : Fg) (mg : Str → Option Value) (C : Addr) : Prop where
  free : mg "isinstance" = none ∧ mg "ValueError" = none
  gNE : ∃ a, mg "NoteError" = some (.ref a) ∧ PySem.W.exmOne K (.ref C) (.ref a) = some true
  gPE : ∃ a, mg "PaperError" = some (.ref a) ∧ PySem.W.kitOne K (.ref C) (.ref a) = some false
  gME : ∃ a, mg "MachineError" = some (.ref a) ∧ PySem.W.kitOne K (.ref C) (.ref a) = some true
  gLE : ∃ a, mg "LiveError" = some (.ref a) ∧ PySem.W.kitOne K (.ref C) (.ref a) = some false
  gTE : ∃ a, mg "TextError" = some (.ref a) ∧ PySem.W.kitOne K (.ref C) (.ref a) = some false
  gNU : ∃ a, mg "NotUsable" = some (.ref a) ∧ PySem.W.kitOne K (.ref C) (.ref a) = some false
  gNN : mg "NoNotes" = some (.ref C)
  kNN : PySem.W.kitOne K (.ref C) (.ref C) = some true
  kVE : PySem.W.kitOne K (.ref C) (.type "ValueError") = some true
  x : L2.ExcC K C
  f : XfC K C
  nt : PySem.W.findIn K (.ref C) "tree" = some none
/-- isinstance(e, c), e the caught exception, which has a dict -/
def rIsX (K : Fg) (C a : Addr) (d : Option Addr) : List V → Hp → VK → Prop := fun xs H Q => ∃ (c : V) (cv : Value) (b : Bool) (dd : Addr) (fs : List (Str × V)), xs = [.ref a, c] ∧ (∀ u, RelV c u → u = cv) ∧ d = some dd ∧ H dd = some (.xd fs) ∧ PySem.W.kitOne K (.ref C) cv = some b ∧ Q (.bl b) H
theorem call_isX {X : Cx} {a C : Addr} {oe : Obj} {d : Option Addr} {pn : List (Addr × Obj)} {cls : Value} (hcl : cls = .ref C) (T : L2.ExcC X.K C) (hz : Zc cls d oe) (hf : ∃ vs, oe.data = .fields vs) : CallR (X.suite a ((a, oe) :: pn)) (.builtin "isinstance") (rIsX X.K C a d) := by
  intro pins s σ H xs us Q I r h
  obtain ⟨c, cv, b, dd, fs, rfl, hcv, ed, hd, e, q⟩ := h
  subst ed hcl
  cases r with
  | cons rx rr =>
    cases rr with
    | cons rt rr =>
      cases rr
      cases rx
      have ec := hcv _ rt
      subst ec
      obtain ⟨hget, _⟩ := I.pin (a, oe) (List.mem_append.mpr (.inl List.mem_cons_self))
      obtain ⟨vs, hv⟩ := hf
      have hx : ObjOk X.prog X.w H s.heap dd (.xd fs) := I.hok dd _ hd
      obtain ⟨mA, hns, hr⟩ := hx
      obtain ⟨od, ho, _⟩ := lookIn_ns hns
      have J : PySem.W.InstAt s.heap a oe C (some od) := ⟨hget, hz.1, by unfold PySem.W.notCls; rw [hv] <;> rfl, by rw [hz.2]; exact ho⟩
      obtain ⟨cd, hc, _⟩ := PySem.W.any_some T.hd
      exact PySem.W.kia_one (PySem.W.kitx_exc (by rw [hc]; rfl) T.hg T.hk T.hs T.ha T.hn T.ht T.hm) I.kIn J e (fun z => nomatch z) fun tk => ⟨.bl b, H, I.kept (t' := tk) fun _ _ z => z, rfl, q⟩
abbrev Nh : List Str := ["_law_ask", "error", "_law_homes"]
theorem sc_heard : FnScope Nh ["_law_ask"] (defScope s_law_heard) := ⟨rfl, rfl, rfl, by decide +kernel, rfl, by decide +kernel, by decide +kernel⟩
/-- told: the value in a pair; none: the exception's tree -/
def THear (C : Addr) : (XK → Hp → VK → Prop) → Hp → VK → Prop := fun tl H Q =>
  tl (fun cls d H' => ∃ dd x, cls = .ref C ∧ d = some dd ∧ H' dd = some (.xd [("tree", .str x)]) ∧ ∀ p H2, H' p = none → Ex H' H2 → H2 p = some (.tup [.str "none", .str x]) → Q (.ref p) H2) H
    (fun v H' => [V.str "told", v].length ≤ sizeLine ∧ ∀ p, H' p = none → Q (.ref p) (upd H' p (.tup [.str "told", v])))
theorem el_cat {ta tb : TE} {σ : L2.St} {H : Hp} {p : Addr} {xs ys : List V} (ha : Evl.Ev ta σ H (.ref p)) (h : H p = some (.lst xs)) (hb : Evl.EvL tb σ H ys) (hz : xs.length + ys.length ≤ 100000) : Evl.EvL (tOp rCat ta tb) σ H (xs ++ ys) := fun H1 e Q q =>
  ha H1 e _ fun H2 e2 => hb H2 (e.trans e2) _ fun b H3 _ e3 h3 => ⟨p, b, xs, ys, rfl, rfl, ((e.trans e2).trans e3) p _ h, h3, Evl.sz_of hz, fun l hl => q l _ (Evl.fresh_back (e2.trans e3) hl) ((e2.trans e3).trans (Evl.Ex.new hl)) upd_same⟩
section
variable {X : Cx}
theorem run_ex {pins : List (Addr × Obj)} {σ : L2.St} {H : Hp} {s : Shared} {D : Ends} {sts : List Stmt} (I : Inv X pins σ H s) (h : ∃ t, PSs X sts t ∧ t D σ H) : wpAny (model X.prog X.w) X.A (execs sts X.env) (SP X pins D) X.xe s := by
  obtain ⟨t, h1, h2⟩ := h
  exact h1.run pins s σ H D I h2
theorem heard_gives {C g : Addr} {cdg : Value} {q : Str} (T : HxC X.K X.mg C) : LamX.GivesTo X Nh "_law_heard" (defScope s_law_heard) g cdg (defBody s_law_heard) "_law_ask" q (THear C) := by
  intro f c' s H Q tl act hc h
  obtain ⟨aNE, gNE, eNE⟩ := T.gNE
  obtain ⟨aPE, gPE, ePE⟩ := T.gPE
  obtain ⟨aME, gME, eME⟩ := T.gME
  obtain ⟨aLE, gLE, eLE⟩ := T.gLE
  obtain ⟨aTE, gTE, eTE⟩ := T.gTE
  obtain ⟨aNU, gNU, eNU⟩ := T.gNU
  have isx : ∀ (a : Addr) (oe : Obj) (d : Option Addr) (pn : List (Addr × Obj)) (x : Str) (b : Addr) (p1 p2 p3 p4 : Pos) (tx : TE), Zc (.ref C) d oe → (∃ vs, oe.data = .fields vs) → Gl (cxOf C8.CX0 X.prog X.w X.K X.mg X.base Nh "_law_heard" (defScope s_law_heard) g cdg X.A X.stack s H C8.E0) x →
      PE ((cxOf C8.CX0 X.prog X.w X.K X.mg X.base Nh "_law_heard" (defScope s_law_heard) g cdg X.A X.stack s H C8.E0).nox.suite a ((a, oe) :: pn)) (.Name x p3) tx →
      PE ((cxOf C8.CX0 X.prog X.w X.K X.mg X.base Nh "_law_heard" (defScope s_law_heard) g cdg X.A X.stack s H C8.E0).nox.suite a ((a, oe) :: pn)) (.Call (.Name "isinstance" p1) [.Name "error" p2, .Name x p3] [] p4) (tCB (rIsX X.K C a d) (tCons (tVar 1) (tCons tx tNil))) := fun a oe d pn x b p1 p2 p3 p4 tx hz hf hg hx =>
    pe_callB (call_isX rfl T.x hz hf) rfl T.free.1 boot_isinstance (pa_cons (pv 1) (pa_cons hx pa_nil))
  refine ⟨_, pss_one (ps_try_as (X := (cxOf C8.CX0 X.prog X.w X.K X.mg X.base Nh "_law_heard" (defScope s_law_heard) g cdg X.A X.stack s H C8.E0).nox) (c := .ref aNE) (i := 1)
      (tb := fun W D σ H => ∃ Ech : XK, (∀ cls d σ' H', Ech cls d H' → W cls d σ' H') ∧ σ[0]? = some (some (.ref f)) ∧ H c' = some (LamX.CodeO c' q) ∧ tl Ech H fun v H' => [V.str "told", v].length ≤ sizeLine ∧ ∀ p, H' p = none → D.rt (.ref p) (upd H' p (.tup [.str "told", v])))
      (ts := fun a cls d D σ H => ∃ dd x, cls = .ref C ∧ d = some dd ∧ H dd = some (.xd [("tree", .str x)]) ∧ (∃ τ : L2.St, σ = τ.set 1 (some (.ref a))) ∧ ∀ p H2, H p = none → Ex H H2 → H2 p = some (.tup [.str "none", .str x]) → D.rt (.ref p) H2)
      rfl rfl sc_heard.nd rfl rfl ⟨rfl, by decide, .inl gNE⟩ LamX.takes0 (fun W pn xe tk _ => ?_) (fun a oe cls d pn hz hf => ?_)), ?_⟩
  · refine ⟨fun pins s' σ H' D I h' => ?_⟩
    obtain ⟨Ech, hW, h1, h2, h3⟩ := h'
    exact (pss_one (ps_ret (pe_tup (pa_cons pe_str (pa_cons (act W pn xe Ech _ _ tk hW) pa_nil))))).run pins s' σ H' D I ⟨h1, h2, h3⟩
  · refine ⟨fun pins s' σ H' D I h' => ?_⟩
    obtain ⟨dd, x, rfl, rfl, hdd, ⟨τ, eτ⟩, k⟩ := h'
    have len : τ.length = 3 := by
      have z : σ.length = Nh.length := I.len
      rw [eτ, List.length_set] at z
      exact z
    obtain ⟨t0, t1, t2, rfl⟩ : ∃ t0 t1 t2, τ = [t0, t1, t2] := by
      match τ, len with
      | [t0, t1, t2], _ => exact ⟨t0, t1, t2, rfl⟩
    subst eτ
    refine run_ex I ⟨_, pss_cons (ps_set (i := 2) sc_heard.nd rfl (Or.inl rfl)
        (pe_lst (pa_cons (isx a oe (some dd) pn "PaperError" a _ _ _ _ _ hz hf rfl (pe_glob (v := .ref aPE) rfl gPE rfl)) (pa_cons (isx a oe (some dd) pn "MachineError" a _ _ _ _ _ hz hf rfl (pe_glob (v := .ref aME) rfl gME rfl)) (pa_cons (isx a oe (some dd) pn "LiveError" a _ _ _ _ _ hz hf rfl (pe_glob (v := .ref aLE) rfl gLE rfl)) pa_nil)))))
      (pss_cons (ps_set (i := 2) sc_heard.nd rfl (Or.inl rfl) (pe_op op_cat (pv 2) (pe_lst (pa_cons (isx a oe (some dd) pn "TextError" a _ _ _ _ _ hz hf rfl (pe_glob (v := .ref aTE) rfl gTE rfl)) pa_nil))))
      (pss_cons (ps_if (PW.pt (pw_or (pt_cmpR op_ne (pe_bm F.plainAttrs_list F.slot_list_count F.type_list_count mt_countB (pv 2) (pa_cons pe_bl pa_nil)) pe_int (nomark _)) (pw_or1 (pt_not (pt_val (isx a oe (some dd) pn "ValueError" a _ _ _ _ _ hz hf rfl (pe_bltn (v := .ty "ValueError") rfl T.free.2 Boot.«ValueError» rfl))))))) pss_never pss_nil)
      (pss_cons (ps_if (PW.pt (pw_and (pt_val (isx a oe (some dd) pn "NotUsable" a _ _ _ _ _ hz hf rfl (pe_glob (v := .ref aNU) rfl gNU rfl))) (pw_and1 (pt_val (pe_ix ix_list (pv 2) pe_int (fun _ _ => rfl)))))) pss_never pss_nil)
      (pss_cons (ps_if (PW.pt (pw_and (pt_val (isx a oe (some dd) pn "NoNotes" a _ _ _ _ _ hz hf rfl (pe_glob (v := .ref C) rfl T.gNN rfl))) (pw_and1 (pt_val (pe_ix ix_list (pv 2) pe_int (fun _ _ => rfl)))))) (pss_one (ps_ret (pe_tup (pa_cons pe_str (pa_cons (pe_xf T.f T.nt hz hf (pv 1)) pa_nil))))) pss_nil)
        pss_never)))), ?_⟩
    have isv : ∀ (H1 : Hp) (σ' : L2.St) (c : V) (cv : Value) (b : Bool) (tx : TE), Ex H' H1 → σ'[1]? = some (some (.ref a)) → Evl.Ev tx σ' H1 c → (∀ u, RelV c u → u = cv) → PySem.W.kitOne X.K (.ref C) cv = some b → Evl.Ev (tCB (rIsX X.K C a (some dd)) (tCons (tVar 1) (tCons tx tNil))) σ' H1 (.bl b) := fun H1 σ' c cv b tx e hσ hx hu hk =>
      Evl.ev_cb (Evl.ea_cons (Evl.ev_var hσ) (Evl.ea_cons hx Evl.ea_nil)) fun H2 e2 Q q => ⟨c, cv, b, dd, _, rfl, hu, rfl, (e.trans e2) dd _ hdd, hk, q H2 (Evl.Ex.refl H2)⟩
    refine Evl.q_asgL (Evl.el_lst (Evl.ea_cons (isv H' _ _ _ _ _ (Evl.Ex.refl H') rfl Evl.ev_c (fun _ z => z) ePE) (Evl.ea_cons (isv H' _ _ _ _ _ (Evl.Ex.refl H') rfl Evl.ev_c (fun _ z => z) eME) (Evl.ea_cons (isv H' _ _ _ _ _ (Evl.Ex.refl H') rfl Evl.ev_c (fun _ z => z) eLE) Evl.ea_nil))) (by decide)) fun p1 H1 _ e1 h1 => ?_
    refine Evl.q_asgL (el_cat (Evl.ev_var (v := .ref p1) rfl) h1 (Evl.el_lst (Evl.ea_cons (isv H1 _ _ _ _ _ e1 rfl Evl.ev_c (fun _ z => z) eTE) Evl.ea_nil) (by decide)) (by decide)) fun p2 H2 _ e2 h2 => ?_
    have e12 := e1.trans e2
    have hcnt : countIn (.bool true) ([false, true, false, false].map PyData.bool) = 1 := by decide
    refine Evl.q_when (b := false) (Evl.et_or (a := false) (b := false) (Evl.et_test (Evl.ev_op (x := .int 1) (y := .int 1) (z := .bl false) ?_ Evl.ev_c (Evl.rv_val fun H3 e3 Q q => ⟨rfl, q⟩)) ) fun _ => Evl.et_not (a := true) (Evl.et_B (isv H2 _ _ _ _ _ e12 rfl Evl.ev_c (fun _ z => z) T.kVE))) (fun z => by cases z) fun _ H3 e3 => ?_
    · intro H3 e3 Q q
      refine ⟨.ref p2, rfl, Or.inl ⟨rfl, _, Evl.sq_of (e3 _ _ h2)⟩, p2, [false, true, false, false], true, rfl, rfl, Evl.sq_of (e3 _ _ h2), ?_⟩
      rw [hcnt]
      exact q H3 (Evl.Ex.refl H3)
    have e13 := e12.trans e3
    have h23 : H3 p2 = some (.lst [.bl false, .bl true, .bl false, .bl false]) := e3 _ _ h2
    refine Evl.q_when (b := false) (Evl.et_and (a := false) (b := false) (Evl.et_B (isv H3 _ _ _ _ _ e13 rfl Evl.ev_c (fun _ z => z) eNU)) fun z => by cases z) (fun z => by cases z) fun _ H4 e4 => ?_
    have e14 := e13.trans e4
    refine Evl.q_when (b := true) (Evl.et_and (a := true) (b := true) (Evl.et_B (isv H4 _ _ _ _ _ e14 rfl Evl.ev_c (fun _ z => z) T.kNN)) fun _ => Evl.et_B (Evl.ev_op (Evl.ev_var (v := .ref p2) rfl) Evl.ev_c (Evl.rv_ixL (Evl.sq_of (e4 _ _ h23)) rfl))) (fun _ H5 e5 => ?_) (fun z => by cases z)
    have e15 := e14.trans e5
    refine Evl.s_retU (xs := [.str "none", .str x]) (Evl.eu_tup (Evl.ea_cons Evl.ev_c (Evl.ea_cons (fun H6 e6 Q q => ⟨.ref a, rfl, rfl, rfl, dd, _, .str x, rfl, (e15.trans e6) dd _ hdd, rfl, q H6 (Evl.Ex.refl H6)⟩) Evl.ea_nil)) (by show 2 ≤ 100000; decide)) fun p H6 hp e6 h6 => ?_
    exact k p H6 (Evl.fresh_back e15 hp) (e15.trans e6) h6
  · exact ⟨fun cls d H' => ∃ dd x, cls = .ref C ∧ d = some dd ∧ H' dd = some (.xd [("tree", .str x)]) ∧ ∀ p H2, H' p = none → Ex H' H2 → H2 p = some (.tup [.str "none", .str x]) → Q (.ref p) H2, fun cls d σ' H' ⟨dd, x, e1, e2, e3, e4⟩ => ⟨true, by rw [e1]; exact eNE, fun _ a ha => ⟨dd, x, e1, e2, e3, ⟨_, rfl⟩, e4⟩, fun z => by cases z⟩, rfl, hc, h⟩
end
end K64

set_option Elab.async false
set_option linter.all false
set_option maxRecDepth 100000
set_option maxHeartbeats 4000000
/-! KF: more of what evaluates to what: sources of loops, comprehensions over them, lists joined, methods. -/
namespace K64
open PySem PySem.Spec PyProof.Rows L2 Evl
section
variable {K : Fg} {σ : L2.St} {H H' : Hp} {ta tb te tx : TE} {t u : TT} {x y z v : V} {r : R2}
/-! ### lists joined -/
theorem el_catN {xs ys : List V} (ha : EvL ta σ H xs) (hb : EvL tb σ H ys) (hz : xs.length + ys.length ≤ 100000) : EvL (tOp rCat ta tb) σ H (xs ++ ys) := fun H1 e Q q =>
  ha H1 e _ fun p H2 _ e2 h2 => hb H2 (e.trans e2) _ fun b H3 _ e3 h3 => ⟨p, b, xs, ys, rfl, rfl, e3 p _ h2, h3, sz_of hz, fun l hl => q l _ (fresh_back (e2.trans e3) hl) ((e2.trans e3).trans (Ex.new hl)) upd_same⟩
/-- both known lists -/
theorem el_catV {p p' : Addr} {xs ys : List V} (ha : Ev ta σ H (.ref p)) (h : H p = some (.lst xs)) (hb : Ev tb σ H (.ref p')) (h' : H p' = some (.lst ys)) (hz : xs.length + ys.length ≤ 100000) : EvL (tOp rCat ta tb) σ H (xs ++ ys) := fun H1 e Q q =>
  ha H1 e _ fun H2 e2 => hb H2 (e.trans e2) _ fun H3 e3 => ⟨p, p', xs, ys, rfl, rfl, ((e.trans e2).trans e3) p _ h, ((e.trans e2).trans e3) p' _ h', sz_of hz, fun l hl => q l _ (fresh_back (e2.trans e3) hl) ((e2.trans e3).trans (Ex.new hl)) upd_same⟩
/-! ### texts joined, compared, methods -/
abbrev rAddS : R2 := fun x y H Q => ∃ i j, x = .str i ∧ y = .str j ∧ i.length + j.length ≤ sizeLine ∧ Q (.str (i ++ j)) H
theorem rv_addS {a b : Str} (h : a.length + b.length ≤ 100000) : RV rAddS (.str a) (.str b) H (.str (a ++ b)) := fun H1 _ _ q => ⟨a, b, rfl, rfl, sz_of h, q H1 (Ex.refl H1)⟩
theorem ev_tm0 {r : V → List V → Hp → VK → Prop} {a : Str} (h : Ev te σ H (.str a)) (hr : ∀ H1, Ex H H1 → ∀ Q : VK, (∀ H2, Ex H1 H2 → Q z H2) → r (.str a) [] H1 Q) : Ev (tM0 r te) σ H z := fun H1 e Q q =>
  h H1 e _ fun H2 e2 => ⟨⟨a, rfl⟩, hr H2 (e.trans e2) Q fun H3 e3 => q H3 (e2.trans e3)⟩
/-! ### sources -/
/-- n turns, Y their yield; it stands while the base H is extended -/
def EvI (wi : TI) (σ : L2.St) (H : Hp) (n : Nat) (Y : Nat → Hp → V → Hp → Prop) : Prop :=
  ∀ H1, Ex H H1 → ∀ R : It → Hp → Prop, (∀ J (G : Hp → Prop) H2, Ex H1 H2 → (∀ H3, Ex H H3 → G H3) → Walk J n G Y → R J H2) → wi σ H1 R
/-- the same, the thing that is walked new -/
def EvJ (wi : TI) (σ : L2.St) (H : Hp) (n : Nat) (Y : Nat → Hp → V → Hp → Prop) : Prop :=
  ∀ H1, Ex H H1 → ∀ R : It → Hp → Prop, (∀ J (G : Hp → Prop) H2, Ex H1 H2 → (∀ H3, Ex H2 H3 → G H3) → Walk J n G Y → R J H2) → wi σ H1 R
theorem EvI.j {wi : TI} {n : Nat} {Y : Nat → Hp → V → Hp → Prop} (h : EvI wi σ H n Y) : EvJ wi σ H n Y := fun H1 e R q => h H1 e R fun J G H2 e2 g w => q J G H2 e2 (fun H3 e3 => g H3 ((e.trans e2).trans e3)) w
theorem EvI.mono {wi : TI} {n : Nat} {Y : Nat → Hp → V → Hp → Prop} (e : Ex H H') (h : EvI wi σ H n Y) : EvI wi σ H' n Y := fun H1 e1 R q => h H1 (e.trans e1) R fun J G H2 e2 g w => q J G H2 e2 (fun H3 e3 => g H3 (e.trans e3)) w
theorem EvJ.mono {wi : TI} {n : Nat} {Y : Nat → Hp → V → Hp → Prop} (e : Ex H H') (h : EvJ wi σ H n Y) : EvJ wi σ H' n Y := fun H1 e1 R q => h H1 (e.trans e1) R q
theorem ei_list {a : Addr} {xs : List V} (h : Ev te σ H (.ref a)) (hx : SqL K H a xs) : EvI (iList K te) σ H xs.length (YAt xs) := fun H1 e R q =>
  h H1 e _ fun H2 e2 => ⟨a, rfl, ⟨xs, ex_l (e.trans e2) hx⟩, q _ _ H2 e2 (fun H3 e3 => ex_l e3 hx) walk_list⟩
theorem ei_tup {a : Addr} {xs : List V} (h : Ev te σ H (.ref a)) (hx : SqT K H a xs) : EvI (iTup K te) σ H xs.length (YAt xs) := fun H1 e R q =>
  h H1 e _ fun H2 e2 => ⟨a, rfl, ⟨xs, ex_t (e.trans e2) hx⟩, q _ _ H2 e2 (fun H3 e3 => ex_t e3 hx) walk_tup⟩
theorem ej_list {xs : List V} (h : EvL te σ H xs) : EvJ (iList K te) σ H xs.length (YAt xs) := fun H1 e R q =>
  h H1 e _ fun a H2 _ e2 hx => ⟨a, rfl, ⟨xs, sq_of hx⟩, q _ _ H2 e2 (fun H3 e3 => ex_l e3 (sq_of hx)) walk_list⟩
/-- a text's signs -/
def sgn (x : Str) : List V := x.cps.toList.map fun c => .str ⟨#[c]⟩
theorem sgn_len (x : Str) : (sgn x).length = x.cps.size := by simp [sgn]
theorem ei_str {w : Str} (h : Ev te σ H (.str w)) : EvI (iStr te) σ H w.cps.size (YAt (sgn w)) := fun H1 e R q =>
  h H1 e _ fun H2 e2 => ⟨w, rfl, q _ (fun _ => True) H2 e2 (fun _ _ => True.intro) (walk_str.mono (fun _ h => h) fun i H v H' _ _ y => by
    obtain ⟨rfl, c, h1, rfl⟩ := y
    exact ⟨rfl, by simp [sgn, h1]⟩)⟩
theorem ei_rng1 {tA : TA} {n : Int} (h : EvA tA σ H [.int n]) (hn : n ≤ 100000) (h0 : -100000 ≤ n) : EvI (iRng1 tA) σ H n.toNat (YFn fun i => .int (i : Nat)) := fun H1 e R q =>
  h H1 e _ fun H2 e2 => ⟨n, rfl, by omega, by omega, q _ (fun _ => True) H2 e2 (fun _ _ => True.intro) ((walk_range (lo := 0)).mono (fun _ h => h) fun i H v H' _ _ y => ⟨y.1, by rw [y.2]; show V.int (0 + (i : Int)) = V.int (i : Int); rw [Int.zero_add]⟩)⟩
theorem ei_rng3 {tA : TA} {i j c : Int} {n : Nat} (h : EvA tA σ H [.int i, .int j, .int c]) (hr : RgC i j c n) : EvI (iRng3 tA) σ H n (YFn fun k => .int (i + (k : Nat) * c)) := fun H1 e R q =>
  h H1 e _ fun H2 e2 => ⟨i, j, c, n, rfl, hr, q _ (fun _ => True) H2 e2 (fun _ _ => True.intro) walk_rangeC⟩
/-- new pairs of f i and g i -/
theorem ei_enumS {tA : TA} {w : Str} (h : EvA tA σ H [.str w]) : EvI (iEnumS tA) σ H w.cps.size (YPair (fun i => some (.int (i : Nat))) (fun i => (sgn w)[i]?)) := fun H1 e R q =>
  h H1 e _ fun H2 e2 => ⟨w, rfl, q _ (fun _ => True) H2 e2 (fun _ _ => True.intro) (walk_enumS.mono (fun _ h => h) fun i H v H' _ _ y => by
    obtain ⟨T, a, b, h1, h2, h3, h4, h5⟩ := y
    exact ⟨T, a, b, h1, h2, h3, h4, by rw [← h5]; simp [sgn]⟩)⟩
theorem ei_enumT {tA : TA} {a : Addr} {xs : List V} (h : EvA tA σ H [.ref a]) (hx : SqT K H a xs) : EvI (iEnumT K tA) σ H xs.length (YPair (fun i => some (.int (i : Nat))) (fun i => xs[i]?)) := fun H1 e R q =>
  h H1 e _ fun H2 e2 => ⟨a, xs, rfl, ex_t (e.trans e2) hx, q _ _ H2 e2 (fun H3 e3 => ex_t e3 hx) walk_enumT⟩
theorem ei_enumL {tA : TA} {a : Addr} {xs : List V} (h : EvA tA σ H [.ref a]) (hx : SqL K H a xs) : EvI (iEnum K tA) σ H xs.length (YPair (fun i => some (.int (i : Nat))) (fun i => xs[i]?)) := fun H1 e R q =>
  h H1 e _ fun H2 e2 => ⟨a, xs, rfl, ex_l (e.trans e2) hx, q _ _ H2 e2 (fun H3 e3 => ex_l e3 hx) walk_enum⟩
theorem walk_zipT {a b : Addr} {xs ys : List V} {n : Nat} (hn : n = min xs.length ys.length) : Walk (RZ.ItzT K a b) n (fun H => SqT K H a xs ∧ SqT K H b ys) (YPair (fun i => xs[i]?) (fun i => ys[i]?)) := by
  subst hn
  refine ⟨fun i _ hi q => ?_, fun _ q => ⟨xs, ys, q.1, q.2, by omega⟩, fun i H v H' _ q y => ?_⟩
  · have h1 : i < xs.length := by omega
    have h2 : i < ys.length := by omega
    exact ⟨xs, ys, xs[i], ys[i], q.1, q.2, by simp [h1], by simp [h2]⟩
  · obtain ⟨T, x, z, h1, h2, h3, h4, h5⟩ := y
    exact ⟨T, x, z, h1, h2, h3, h4 xs q.1, h5 ys q.2⟩
theorem ei_zipT {tA : TA} {a b : Addr} {xs ys : List V} {n : Nat} (h : EvA tA σ H [.ref a, .ref b]) (hx : SqT K H a xs) (hy : SqT K H b ys) (hn : n = min xs.length ys.length) : EvI (RZ.iZipA K tA) σ H n (YPair (fun i => xs[i]?) (fun i => ys[i]?)) := fun H1 e R q =>
  h H1 e _ fun H2 e2 => ⟨a, b, xs, ys, rfl, .inr ⟨ex_t (e.trans e2) hx, ex_t (e.trans e2) hy, q _ _ H2 e2 (fun H3 e3 => ⟨ex_t e3 hx, ex_t e3 hy⟩) (walk_zipT hn)⟩⟩
/-- the second a new tuple -/
theorem ej_zipT {a : Addr} {xs ys : List V} {n : Nat} (ha : Ev ta σ H (.ref a)) (hb : EvU tb σ H ys) (hx : SqT K H a xs) (hn : n = min xs.length ys.length) : EvJ (RZ.iZipA K (tCons ta (tCons tb tNil))) σ H n (YPair (fun i => xs[i]?) (fun i => ys[i]?)) := fun H1 e R q =>
  ha H1 e _ fun H2 e2 => hb H2 (e.trans e2) _ fun b H3 _ e3 h3 => ⟨a, b, xs, ys, rfl, .inr ⟨ex_t ((e.trans e2).trans e3) hx, st_of h3, q _ _ H3 (e2.trans e3) (fun H4 e4 => ⟨ex_t (((e.trans e2).trans e3).trans e4) hx, ex_t e4 (st_of h3)⟩) (walk_zipT hn)⟩⟩
/-! ### loops over them -/
variable {D : Ends} {tu tw tz : TS} {g : TG} {wi : TI}
theorem s_forI {n : Nat} {Y : Nat → Hp → V → Hp → Prop} (h : EvI wi σ H n Y) (e : Ex H H') (Pv : Nat → L2.St → Hp → Prop) (h0 : ∀ H1, Ex H' H1 → Pv 0 σ H1) (hl : ∀ i σ' H1, i ≤ n → Pv i σ' H1 → Ex H H1)
    (hs : ∀ i x σ' H1 H2, i < n → Pv i σ' H1 → Y i H1 x H2 → g x σ' H2 fun σ2 H3 => tu { D with nx := Pv (i + 1), ct := Pv (i + 1), bk := D.nx } σ2 H3) (hd : ∀ σ' H1, Pv n σ' H1 → D.nx σ' H1) : tFor wi g tu D σ H' :=
  h H' e _ fun J G H2 e2 hG w => for_it w Pv (h0 H2 e2) (fun i σ' H1 hi p => hG H1 (hl i σ' H1 hi p)) hs hd
theorem q_forI {n : Nat} {Y : Nat → Hp → V → Hp → Prop} (h : EvI wi σ H n Y) (e : Ex H H') (Pv : Nat → L2.St → Hp → Prop) (h0 : ∀ H1, Ex H' H1 → Pv 0 σ H1) (hl : ∀ i σ' H1, i ≤ n → Pv i σ' H1 → Ex H H1)
    (hs : ∀ i x σ' H1 H2, i < n → Pv i σ' H1 → Y i H1 x H2 → g x σ' H2 fun σ2 H3 => tu { D with nx := Pv (i + 1), ct := Pv (i + 1), bk := tz D } σ2 H3) (hd : ∀ σ' H1, Pv n σ' H1 → tz D σ' H1) : tSeq (tFor wi g tu) tz D σ H' :=
  s_forI (D := { D with nx := tz D }) h e Pv h0 hl hs hd
/-! ### comprehensions over them -/
theorem el_lc {j : Nat} {vs : List Nat} {n : Nat} {f : Nat → V} {Y : Nat → Hp → V → Hp → Prop} (b : Nat → Bool) (v : Nat → V) (h : EvJ wi σ H n Y) (hn : n ≤ 40000) (hY : ∀ i H1 x H2, i < n → Y i H1 x H2 → H2 = H1 ∧ x = f i) (hw : ∀ x, wipe ((wipe σ vs).set j (some x)) vs = wipe σ vs)
    (ht : ∀ (i : Nat) H1, Ex H H1 → i < n → EvT t ((wipe σ vs).set j (some (f i))) H1 (b i)) (he : ∀ (i : Nat) H1, Ex H H1 → i < n → b i = true → Ev te ((wipe σ vs).set j (some (f i))) H1 (v i)) :
    EvL (tLc wi (gName j) t te vs) σ H (given n b v) := fun H0 e Q q => h H0 e _ fun J G H1 e1 hG w Dl hD =>
  lc_it w (Cw H1 b v Dl) ⟨hD, Ex.new hD, upd_same⟩ (fun i H2 _ p => hG H2 p.2.1) (fun i x H2 H3 hi p y => by
    obtain ⟨rfl, rfl⟩ := hY i H2 x H3 hi y
    exact ⟨hw _, cw_turn p (by omega) (ht i H1 (e.trans e1) hi) (fun hf => he i H1 (e.trans e1) hi hf)⟩) (fun H2 p => q Dl H2 (fresh_back e1 p.1) (e1.trans p.2.1) p.2.2)
/-- pairs taken apart -/
theorem el_lc2 {j k : Nat} {vs : List Nat} {n : Nat} {f g : Nat → V} {fo go : Nat → Option V} (b : Nat → Bool) (v : Nat → V) (h : EvJ wi σ H n (YPair fo go)) (hn : n ≤ 40000) (hf : ∀ i, i < n → fo i = some (f i)) (hg : ∀ i, i < n → go i = some (g i))
    (hw : ∀ x y, wipe (((wipe σ vs).set j (some x)).set k (some y)) vs = wipe σ vs)
    (ht : ∀ (i : Nat) H1, Ex H H1 → i < n → EvT t (((wipe σ vs).set j (some (f i))).set k (some (g i))) H1 (b i)) (he : ∀ (i : Nat) H1, Ex H H1 → i < n → b i = true → Ev te (((wipe σ vs).set j (some (f i))).set k (some (g i))) H1 (v i)) :
    EvL (tLc wi (gTup K 2 (gCons (gName j) (gCons (gName k) gNil))) t te vs) σ H (given n b v) := fun H0 e Q q => h H0 e _ fun J G H1 e1 hG w Dl hD =>
  lc_it w (Cw H1 b v Dl) ⟨hD, Ex.new hD, upd_same⟩ (fun i H2 _ p => hG H2 p.2.1) (fun i x H2 H3 hi p y => by
    obtain ⟨T, a, c, rfl, hT, rfl, h1, h2⟩ := y
    rw [hf i hi] at h1
    rw [hg i hi] at h2
    cases h1
    cases h2
    have hTD : T ≠ Dl := fun z => by
      rw [z, p.2.2] at hT
      cases hT
    have p' : Cw H1 b v Dl i (upd H2 T (.tup [f i, g i])) := ⟨p.1, p.2.1.trans (Ex.new hT), by rw [upd_ne (Ne.symm hTD)]; exact p.2.2⟩
    exact ⟨T, [f i, g i], rfl, st_of upd_same, rfl, f i, [g i], rfl, g i, [], rfl, rfl, hw _ _, cw_turn p' (by omega) (ht i H1 (e.trans e1) hi) (fun hf => he i H1 (e.trans e1) hi hf)⟩) (fun H2 p => q Dl H2 (fresh_back e1 p.1) (e1.trans p.2.1) p.2.2)
theorem given_all {n : Nat} {v : Nat → V} : given n (fun _ => true) v = (List.range n).map v := by
  unfold given
  rw [List.filter_eq_self.mpr (fun _ _ => rfl)]
/-- what the turns give, told over a list -/
theorem given_list {α : Type} (xs : List α) (b : α → Bool) (v : α → V) (bn : Nat → Bool) (vn : Nat → V) (hb : ∀ i (h : i < xs.length), bn i = b xs[i]) (hv : ∀ i (h : i < xs.length), vn i = v xs[i]) : given xs.length bn vn = (xs.filter b).map v := by
  have key : ∀ n, n ≤ xs.length → given n bn vn = ((xs.take n).filter b).map v := by
    intro n
    induction n with
    | zero => intro _; rfl
    | succ n ih =>
      intro h
      have hn : n < xs.length := h
      rw [List.take_succ, List.getElem?_eq_getElem hn, List.filter_append, List.map_append, ← ih (by omega)]
      cases hq : bn n with
      | true =>
        rw [given_yes hq, hv n hn]
        have z : b xs[n] = true := by rw [← hb n hn]; exact hq
        simp [z]
      | false =>
        rw [given_no hq]
        have z : b xs[n] = false := by rw [← hb n hn]; exact hq
        simp [z]
  rw [key xs.length (Nat.le_refl _), List.take_length]
end
section
variable {X : Cx}
/-- a target of two local names -/
theorem pg_two {i j : Nat} {x y : Str} {p1 p2 pos : Pos} {k : Nat} (hc : X.calm = true) (hN : X.N.Nodup) (hi : X.N[i]? = some x) (hj : X.N[j]? = some y) (hx : X.env.scope.names.lookup x = some .local) (hy : X.env.scope.names.lookup y = some .local) :
    PG X (.Tuple [.Name x p1, .Name y p2] k pos) (gTup X.K 2 (gCons (gName i) (gCons (gName j) gNil))) :=
  pg_tup hc (pgs_cons (pg_name hN hi (Or.inl hx) (Or.inr hx)) (pgs_cons (pg_name hN hj (Or.inl hy) (Or.inr hy)) pgs_nil))
end
end K64

set_option Elab.async false
set_option linter.all false
set_option maxRecDepth 100000
set_option maxHeartbeats 4000000
/-! KZ: list(zip(list, tuple)): each pair is kept, so zip makes a new tuple at each turn. -/
namespace K64
open PySem PySem.Spec PyProof.Rows L2 Evl
section
variable {prog : Program} {w : World} {A : Around} {E : Value → Shared → Prop} {s : Shared} {z TI TO T i1 i2 : Addr} {fp1 fp2 : List Addr} {n1 n2 i : Nat} {P1 P2 : Nat → Value → Prop} {St1 St2 : Nat → Heap → Prop} {a1 a2 : Value} {f : Bool} {oT : Obj}
theorem held_item {Q : Value → Shared → Prop} (S : ZipSep2 z TI TO i1 i2 fp1 fp2) (D1 : Draws prog w A i1 fp1 n1 P1 St1) (D2 : Draws prog w A i2 fp2 n2 P2 St2)
    (hz : IsZipHeld s.heap z TI TO T f) (hT : s.heap.get? T = some oT) (hTI : IsTupOf2 s.heap TI (.ref i1) (.ref i2)) (st1 : St1 i s.heap) (st2 : St2 i s.heap) (hlt1 : i < n1) (hlt2 : i < n2)
    (hQ : ∀ x1 x2 h' tk, P1 i x1 → P2 i x2 → IsZipHeld h' z TI TO T true → St1 (i + 1) h' → St2 (i + 1) h' → IsTupOf2 h' s.heap.objs.size x1 x2 →
      (∀ c o, c ≠ z → c ≠ i1 → c ≠ i2 → s.heap.get? c = some o → h'.get? c = some o) → Q (.ref s.heap.objs.size) { s with heap := h', toks := tk }) :
    wpAny (model prog w) A (Builtin.«zip.__next__» ⟨[.ref z], []⟩) (fun fin s' => ∃ v, fin = .done (.ret v) ∧ Q v s') E s := by
  obtain ⟨hp, g, d, tk0, os⟩ := s
  show wpAny _ _ (field (.ref z) 2 >>= _) _ _ _
  refine wpAny_bind (wpAny_field hz rfl (x := .bool false) rfl ?_)
  show wpAny _ _ (field (.ref z) 3 >>= _) _ _ _
  refine wpAny_bind (wpAny_field hz rfl (x := .ref TI) rfl ?_)
  refine wpAny_bind (wpAny_seqItems hTI rfl ?_)
  show wpAny _ _ (Builtin.SmallTypes.ownedTupleIsFree (.ref z) >>= _) _ _ _
  refine wpAny_bind (wpAny_tupleHeld_zip hz hT fun g0 hz0 hs0 => ?_)
  replace hs0 : Heap.SameBut z hp g0 := hs0
  simp only [Bool.false_eq_true, if_false]
  refine wpAny_bind ?_
  rw [← Array.forIn_toList]
  simp only [List.forIn_cons, List.forIn_nil]
  refine wpAny_bind (wpAny_bind (wpAny_holding ?_))
  show wpAny _ _ (Builtin.SmallTypes.nextOf (.ref i1) >>= _) _ _ ⟨g0, g, d, tk0, os⟩
  refine wpAny_bind (D1.item i _ _ _ hlt1 (D1.over st1 hs0 S.zf1) fun x1 p1 tk1 hx1 sn1 hp1 => wpAny_pure ?_)
  replace hp1 : Heap.SameBut i1 g0 p1 := hp1
  refine wpAny_pure ?_
  refine wpAny_bind (wpAny_bind (wpAny_holding ?_))
  show wpAny _ _ (Builtin.SmallTypes.nextOf (.ref i2) >>= _) _ _ ⟨p1, g, d, tk1, os⟩
  refine wpAny_bind (D2.item i _ _ _ hlt2 (D2.over (D2.over st2 hs0 S.zf2) hp1 S.sep1_2) fun x2 p2 tk2 hx2 sn2 hp2 => wpAny_pure ?_)
  replace hp2 : Heap.SameBut i2 p1 p2 := hp2
  refine wpAny_pure (wpAny_pure ?_)
  show wpAny _ _ (newTuple [x1, x2] >>= _) _ _ ⟨p2, g, d, tk2, os⟩
  refine wpAny_bind (wpAny_newTuple ?_)
  have hsz : p2.objs.size = hp.objs.size := by rw [hp2.1, hp1.1, hs0.1]
  have hzz : IsZipHeld p2 z TI TO T true := hp2.extBut _ _ S.zi2 (hp1.extBut _ _ S.zi1 hz0)
  have hkk : ∀ c o, c ≠ z → c ≠ i1 → c ≠ i2 → hp.get? c = some o → p2.get? c = some o := fun c o cz c1 c2 e => hp2.extBut _ _ c2 (hp1.extBut _ _ c1 (hs0.extBut _ _ cz e))
  have hj1 : St1 (i + 1) p2 := D1.over sn1 hp2 S.sep2_1
  refine wpAny_pure ⟨_, rfl, ?_⟩
  show Q (.ref p2.objs.size) ⟨p2.push { cls := .type "tuple", data := .seq #[x1, x2] }, g, d, tk2, os⟩
  have hp' : IsTupOf2 (p2.push { cls := .type "tuple", data := .seq #[x1, x2] }) p2.objs.size x1 x2 := Heap.get?_push_size _ rfl
  rw [hsz] at hp' ⊢
  exact hQ x1 x2 _ tk2 hx1 hx2 (Heap.get?_push_of_some _ hzz) (D1.frame _ _ _ hj1 fun b hb o e => Heap.get?_push_of_some _ e) (D2.frame _ _ _ sn2 fun b hb o e => Heap.get?_push_of_some _ e) hp' fun c o cz c1 c2 e => Heap.get?_push_of_some _ (hkk c o cz c1 c2 e)
theorem held_end {Q : Fin → Shared → Prop} (S : ZipSep2 z TI TO i1 i2 fp1 fp2) (D1 : Draws prog w A i1 fp1 n1 P1 St1) (D2 : Draws prog w A i2 fp2 n2 P2 St2)
    (hz : IsZipHeld s.heap z TI TO T f) (hT : s.heap.get? T = some oT) (hTI : IsTupOf2 s.heap TI (.ref i1) (.ref i2)) (st1 : St1 i s.heap) (st2 : St2 i s.heap) (hle1 : i ≤ n1) (hle2 : i ≤ n2) (hend : i = n1 ∨ i = n2)
    (hE : ∀ h' tk e, (∀ c o, c ≠ z → c ≠ i1 → c ≠ i2 → s.heap.get? c = some o → h'.get? c = some o) → (∃ o, h'.get? e = some o ∧ o.cls = .type "StopIteration") → E (.ref e) { s with heap := h', toks := tk }) :
    wpAny (model prog w) A (Builtin.«zip.__next__» ⟨[.ref z], []⟩) Q E s := by
  obtain ⟨hp, g, d, tk0, os⟩ := s
  show wpAny _ _ (field (.ref z) 2 >>= _) _ _ _
  refine wpAny_bind (wpAny_field hz rfl (x := .bool false) rfl ?_)
  show wpAny _ _ (field (.ref z) 3 >>= _) _ _ _
  refine wpAny_bind (wpAny_field hz rfl (x := .ref TI) rfl ?_)
  refine wpAny_bind (wpAny_seqItems hTI rfl ?_)
  show wpAny _ _ (Builtin.SmallTypes.ownedTupleIsFree (.ref z) >>= _) _ _ _
  refine wpAny_bind (wpAny_tupleHeld_zip hz hT fun g0 hz0 hs0 => ?_)
  replace hs0 : Heap.SameBut z hp g0 := hs0
  simp only [Bool.false_eq_true, if_false]
  refine wpAny_bind ?_
  rw [← Array.forIn_toList]
  simp only [List.forIn_cons, List.forIn_nil]
  refine wpAny_bind (wpAny_bind (wpAny_holding ?_))
  show wpAny _ _ (Builtin.SmallTypes.nextOf (.ref i1) >>= _) _ _ ⟨g0, g, d, tk0, os⟩
  by_cases hlt1 : i < n1
  · refine wpAny_bind (D1.item i _ _ _ hlt1 (D1.over st1 hs0 S.zf1) fun x1 p1 tk1 hx1 sn1 hp1 => wpAny_pure ?_)
    replace hp1 : Heap.SameBut i1 g0 p1 := hp1
    have hi2 : i = n2 := by omega
    refine wpAny_pure ?_
    refine wpAny_bind (wpAny_bind (wpAny_holding ?_))
    show wpAny _ _ (Builtin.SmallTypes.nextOf (.ref i2) >>= _) _ _ ⟨p1, g, d, tk1, os⟩
    refine wpAny_bind (D2.done ⟨p1, g, d, tk1, os⟩ _ _ (by rw [← hi2]; exact (D2.over (D2.over st2 hs0 S.zf2) hp1 S.sep1_2)) fun q e hq he => ?_)
    replace hq : Heap.ExtBut i2 p1 q := hq
    exact hE q tk1 e (fun c o cz c1 c2 x => hq _ _ c2 (hp1.extBut _ _ c1 (hs0.extBut _ _ cz x))) he
  · have hi1 : i = n1 := by omega
    refine wpAny_bind (D1.done ⟨g0, g, d, tk0, os⟩ _ _ (by rw [← hi1]; exact (D1.over st1 hs0 S.zf1)) fun q e hq he => ?_)
    replace hq : Heap.ExtBut i1 g0 q := hq
    exact hE q tk0 e (fun c o cz c1 c2 x => hq _ _ c1 (hs0.extBut _ _ cz x)) he
theorem next_held {Q : Option Value → Shared → Prop} (S : ZipSep2 z TI TO i1 i2 fp1 fp2) (D1 : Draws prog w A.in1 i1 fp1 n1 P1 St1) (D2 : Draws prog w A.in1 i2 fp2 n2 P2 St2)
    (hz : IsZipHeld s.heap z TI TO T f) (hT : s.heap.get? T = some oT) (hTI : IsTupOf2 s.heap TI (.ref i1) (.ref i2)) (st1 : St1 i s.heap) (st2 : St2 i s.heap) (hlt1 : i < n1) (hlt2 : i < n2)
    (hQ : ∀ x1 x2 h' tk, P1 i x1 → P2 i x2 → IsZipHeld h' z TI TO T true → St1 (i + 1) h' → St2 (i + 1) h' → IsTupOf2 h' s.heap.objs.size x1 x2 →
      (∀ c o, c ≠ z → c ≠ i1 → c ≠ i2 → s.heap.get? c = some o → h'.get? c = some o) → Q (some (.ref s.heap.objs.size)) { s with heap := h', toks := tk }) :
    wpAny (model prog w) A (pyNext (.ref z)) Q E s := by
  have hTy : s.TypeIs (.ref z) "zip" := ⟨_, hz, rfl⟩
  unfold pyNext
  exact wpAny_bind (wpAny_attempt (wpAny_callSpecial?_slot (name := Str.ofString "__next__") hTy F.slot_zip_next
    (wpAny_call_entry F.slot_zip_next hTy F.entry_zip_next
      (held_item S D1 D2 hz hT hTI st1 st2 hlt1 hlt2 fun x1 x2 h' tk a b c d e f g => wpAny_pure (hQ x1 x2 h' tk a b c d e f g)) (F.args_zip_next_1 _))))
theorem next_held_end {Q : Option Value → Shared → Prop} (S : ZipSep2 z TI TO i1 i2 fp1 fp2) (D1 : Draws prog w A.in1 i1 fp1 n1 P1 St1) (D2 : Draws prog w A.in1 i2 fp2 n2 P2 St2)
    (hz : IsZipHeld s.heap z TI TO T f) (hT : s.heap.get? T = some oT) (hTI : IsTupOf2 s.heap TI (.ref i1) (.ref i2)) (st1 : St1 i s.heap) (st2 : St2 i s.heap) (hle1 : i ≤ n1) (hle2 : i ≤ n2) (hend : i = n1 ∨ i = n2)
    (hQ : ∀ h' tk, (∀ c o, c ≠ z → c ≠ i1 → c ≠ i2 → s.heap.get? c = some o → h'.get? c = some o) → Q none { s with heap := h', toks := tk }) : wpAny (model prog w) A (pyNext (.ref z)) Q E s := by
  have hTy : s.TypeIs (.ref z) "zip" := ⟨_, hz, rfl⟩
  unfold pyNext
  refine wpAny_bind (wpAny_attempt (wpAny_callSpecial?_slot (name := Str.ofString "__next__") hTy F.slot_zip_next
    (wpAny_call_entry F.slot_zip_next hTy F.entry_zip_next (held_end S D1 D2 hz hT hTI st1 st2 hle1 hle2 hend fun h' tk e hk he => ?_) (F.args_zip_next_1 _))))
  obtain ⟨o, ho, hc⟩ := he
  refine wpAny_bind (wpAny_isInstance (T := "StopIteration") (b := true) ⟨o, ho, hc⟩ isSubtype_stop ?_)
  exact wpAny_pure (hQ _ _ hk)
end
/-! ### the loop of list.extend over it -/
/-- the pairs made so far stand in acc -/
def Prs (P1 P2 : Nat → Value → Prop) (N : Nat) (acc : Array Value) (h : Heap) : Prop := ∀ j v, acc[j]? = some v → ∃ T x y, v = .ref T ∧ IsTupOf2 h T x y ∧ P1 j x ∧ P2 j y ∧ N ≤ T
theorem Prs.keeps {P1 P2 : Nat → Value → Prop} {N : Nat} {acc : Array Value} {h h' : Heap} (p : Prs P1 P2 N acc h) (k : ∀ b o, N ≤ b → h.get? b = some o → h'.get? b = some o) : Prs P1 P2 N acc h' := fun j v e => by
  obtain ⟨T, x, y, h1, h2, h3, h4, h5⟩ := p j v e
  exact ⟨T, x, y, h1, k _ _ h5 h2, h3, h4, h5⟩
theorem Prs.push {P1 P2 : Nat → Value → Prop} {N : Nat} {acc : Array Value} {h : Heap} {T : Addr} {x y : Value} (p : Prs P1 P2 N acc h) (hT : IsTupOf2 h T x y) (h1 : P1 acc.size x) (h2 : P2 acc.size y) (hN : N ≤ T) : Prs P1 P2 N (acc.push (.ref T)) h := fun j v e => by
  rw [Array.getElem?_push] at e
  split at e
  · rename_i z
    cases e
    exact ⟨T, x, y, rfl, hT, by rw [z]; exact h1, by rw [z]; exact h2, hN⟩
  · exact p j v e
section
variable {prog : Program} {w : World} {A : Around} {R : Result → Shared → Prop} {z TI TO i1 i2 : Addr} {fp1 fp2 : List Addr} {n1 n2 : Nat} {P1 P2 : Nat → Value → Prop} {St1 St2 : Nat → Heap → Prop}
/-- the zip object: nothing out as yet, or its last pair still there -/
def ZState (N : Nat) (z TI TO : Addr) (h : Heap) : Prop := (IsZip h z TI TO .none ∧ ∃ a1 a2, IsTupOf2 h TO a1 a2) ∨ ∃ (T : Addr) (f : Bool) (oT : Obj), IsZipHeld h z TI TO T f ∧ h.get? T = some oT ∧ N ≤ T
theorem loop_zip (Sp : ZipSep2 z TI TO i1 i2 fp1 fp2) (D1 : Draws prog w A.in1.in1 i1 fp1 n1 P1 St1) (D2 : Draws prog w A.in1.in1 i2 fp2 n2 P2 St2) (S : Addr) (hS1 : S ∉ fp1) (hS2 : S ∉ fp2) (hSz : S ≠ z) (hST : S ≠ TI) (hSO : S ≠ TO) (hI1 : S ≠ i1) (hI2 : S ≠ i2) (N : Nat) (hz : z < N) (h1 : i1 < N) (h2 : i2 < N) (hTO : TO < N) (hSN : S < N) (hn : min n1 n2 ≤ 1000) (res : Value) :
    ∀ (k i : Nat) (s : Shared) (acc : Array Value) (c : Nat), min n1 n2 - i = k → i ≤ min n1 n2 → N ≤ s.heap.objs.size → ZState N z TI TO s.heap → IsTupOf2 s.heap TI (.ref i1) (.ref i2) → St1 i s.heap → St2 i s.heap →
      s.heap.get? S = some { cls := .type "list", dict := none, data := .seq acc c, slots := #[] } → acc.size = i → Prs P1 P2 N acc s.heap →
      (∀ h' tk acc' c', (∀ b o, b ≠ S → b ≠ z → b ≠ TO → b ≠ i1 → b ≠ i2 → s.heap.get? b = some o → h'.get? b = some o) → h'.get? S = some { cls := .type "list", dict := none, data := .seq acc' c', slots := #[] } → acc'.size = min n1 n2 → Prs P1 P2 N acc' h' →
        R (.ok (.ret res)) { s with heap := h', toks := tk }) →
      codeAny (model prog w) A (.builtin "list.extend.loop" ⟨[.ref S, .ref z, res], []⟩) R s := by
  have nz : ∀ b : Addr, N ≤ b → b ≠ z := fun b hb e => Nat.not_lt.mpr hb (by rw [e]; exact hz)
  have nO : ∀ b : Addr, N ≤ b → b ≠ TO := fun b hb e => Nat.not_lt.mpr hb (by rw [e]; exact hTO)
  have nS : ∀ b : Addr, N ≤ b → b ≠ S := fun b hb e => Nat.not_lt.mpr hb (by rw [e]; exact hSN)
  have m1 : ∀ b : Addr, N ≤ b → b ≠ i1 := fun b hb e => Nat.not_lt.mpr hb (by rw [e]; exact h1)
  have m2 : ∀ b : Addr, N ≤ b → b ≠ i2 := fun b hb e => Nat.not_lt.mpr hb (by rw [e]; exact h2)
  intro k
  induction k with
  | zero =>
    intro i s acc c hk hi hN zs hTI st1 st2 hS ha pr hR
    have hin : i = min n1 n2 := by omega
    refine codeAny_builtin F.entry_extend_loop ?_
    rw [Around.under_plainId F.plain_extend_loop _]
    show wpAny _ A.in1 (pyNext (.ref z) >>= _) _ _ s
    refine wpAny_bind ?_
    rcases zs with ⟨hz0, a1, a2, hO⟩ | ⟨T, f, oT, hz0, hT, hTz⟩
    · refine wpAny_pyNext_zipD2_end Sp D1 D2 hz0 hTI hO st1 st2 (by omega) (by omega) (by omega) fun h' tk hk' => wpAny_pure ?_
      refine hR h' tk acc c (fun b o b1 b2 b3 b4 b5 e => hk' b o b2 b3 b4 b5 e) (hk' S _ hSz hSO hI1 hI2 hS) (by omega) (pr.keeps fun b o hb e => hk' b o (nz b hb) (nO b hb) (m1 b hb) (m2 b hb) e)
    · refine next_held_end Sp D1 D2 hz0 hT hTI st1 st2 (by omega) (by omega) (by omega) fun h' tk hk' => wpAny_pure ?_
      refine hR h' tk acc c (fun b o b1 b2 b3 b4 b5 e => hk' b o b2 b4 b5 e) (hk' S _ hSz hI1 hI2 hS) (by omega) (pr.keeps fun b o hb e => hk' b o (nz b hb) (m1 b hb) (m2 b hb) e)
  | succ k ih =>
    intro i s acc c hk hi hN zs hTI st1 st2 hS ha pr hR
    refine codeAny_builtin F.entry_extend_loop ?_
    rw [Around.under_plainId F.plain_extend_loop _]
    show wpAny _ A.in1 (pyNext (.ref z) >>= _) _ _ s
    refine wpAny_bind ?_
    have go : ∀ (h' : Heap) (tk : Nat) (x1 x2 : Value), P1 i x1 → P2 i x2 → (∃ T f oT, IsZipHeld h' z TI TO T f ∧ h'.get? T = some oT ∧ N ≤ T) → St1 (i + 1) h' → St2 (i + 1) h' → IsTupOf2 h' s.heap.objs.size x1 x2 →
        (∀ c o, c ≠ z → c ≠ TO → c ≠ i1 → c ≠ i2 → s.heap.get? c = some o → h'.get? c = some o) →
        wpAny (model prog w) A.in1 (updateSeq S (·.push (.ref s.heap.objs.size)) >>= fun _ => again (.builtin "list.extend.loop" ⟨[.ref S, .ref z, res], []⟩))
          (fun fin s' => match fin with | .done f => R (.ok f) s' | .again c' => c'.quiet = true ∧ codeAny (model prog w) A c' R s') (fun e s' => R (.error e) s') { s with heap := h', toks := tk } := by
      intro h' tk x1 x2 hx1 hx2 ⟨T, f, oT, hzh, hT, hTN⟩ s1 s2 hp hk'
      have hS' : h'.get? S = some { cls := .type "list", dict := none, data := .seq acc c, slots := #[] } := hk' S _ hSz hSO hI1 hI2 hS
      have up : ∀ b o, b ≠ S → h'.get? b = some o → (h'.update S (Obj.mapSeq (·.push (.ref s.heap.objs.size)))).get? b = some o := fun b o hb e => (Heap.get?_update_other _ _ (Ne.symm hb)).trans e
      refine wpAny_bind (wpAny_updateSeq (s := { s with heap := h', toks := tk }) hS' rfl (wpAny_pure ⟨plainId_quiet F.plain_extend_loop _, ?_⟩) (by rw [ha, sizeLine_eq]; omega) (by show (acc.push _).size ≤ sizeLine + 1; rw [Array.size_push, ha, sizeLine_eq]; omega))
      have hsz : s.heap.objs.size < h'.objs.size := Heap.lt_size hp
      refine ih (i + 1) { s with heap := h'.update S (Obj.mapSeq (·.push (.ref s.heap.objs.size))), toks := tk } (acc.push (.ref s.heap.objs.size)) _ (by omega) (by omega) (by show N ≤ (h'.update S _).objs.size; rw [Heap.size_update]; omega) (.inr ⟨T, f, oT, up _ _ (Ne.symm hSz) hzh, up _ _ (nS _ hTN) hT, hTN⟩) (up _ _ (Ne.symm hST) (hk' _ _ Sp.TIz Sp.TITO Sp.TIi1 Sp.TIi2 hTI))
        (D1.frame _ _ _ s1 fun b hb o e => up b o (fun q => hS1 (q ▸ hb)) e) (D2.frame _ _ _ s2 fun b hb o e => up b o (fun q => hS2 (q ▸ hb)) e) (Heap.get?_update_self _ hS' rfl) (by rw [Array.size_push, ha])
        (((pr.keeps fun b o hb e => hk' b o (nz b hb) (nO b hb) (m1 b hb) (m2 b hb) e).keeps fun b o hb e => up b o (nS b hb) e).push (up _ _ (nS _ hN) hp) (by rw [ha]; exact hx1) (by rw [ha]; exact hx2) hN) fun h'' tk' acc' c' kk a b c => ?_
      exact hR h'' tk' acc' c' (fun b o b1 b2 b3 b4 b5 e => kk b o b1 b2 b3 b4 b5 (up b o b1 (hk' b o b2 b3 b4 b5 e))) a b c
    rcases zs with ⟨hz0, a1, a2, hO⟩ | ⟨T, f, oT, hz0, hT, hTz⟩
    · refine wpAny_pyNext_zipD2_item Sp D1 D2 hz0 hTI hO st1 st2 (by omega) (by omega) fun x1 x2 h' tk hx1 hx2 hz' hO' s1 s2 hp hsz hk' => ?_
      exact go h' tk x1 x2 hx1 hx2 ⟨_, false, _, hz', hp, hN⟩ s1 s2 hp hk'
    · refine next_held Sp D1 D2 hz0 hT hTI st1 st2 (by omega) (by omega) fun x1 x2 h' tk hx1 hx2 hz' s1 s2 hp hk' => ?_
      exact go h' tk x1 x2 hx1 hx2 ⟨T, true, oT, hz', hk' _ _ (nz _ hTz) (m1 _ hTz) (m2 _ hTz) hT, hTz⟩ s1 s2 hp (fun c o c1 _ c3 c4 e => hk' c o c1 c3 c4 e)
end
theorem zip_no_len : typeLookup (.type "zip") "__len__" = pure none := by rw [typeLookup_type, builtinLookup_eq_fast]; kernel_rfl
theorem zip_no_hint : typeLookup (.type "zip") "__length_hint__" = pure none := by rw [typeLookup_type, builtinLookup_eq_fast]; kernel_rfl
section
variable {prog : Program} {w : World} {A : Around} {E : Value → Shared → Prop} {s : Shared} {z TI TO i1 i2 : Addr} {fp1 fp2 : List Addr} {n1 n2 : Nat} {P1 P2 : Nat → Value → Prop} {St1 St2 : Nat → Heap → Prop}
theorem list_zip {Q : Value → Shared → Prop} (Sp : ZipSep2 z TI TO i1 i2 fp1 fp2) (D1 : Draws prog w A.in1.in1.in1 i1 fp1 n1 P1 St1) (D2 : Draws prog w A.in1.in1.in1 i2 fp2 n2 P2 St2)
    (hz : IsZip s.heap z TI TO .none) (hTI : IsTupOf2 s.heap TI (.ref i1) (.ref i2)) (hTO : ∃ a1 a2, IsTupOf2 s.heap TO a1 a2) (st1 : St1 0 s.heap) (st2 : St2 0 s.heap) (hf1 : ∀ b ∈ fp1, b < s.heap.objs.size) (hf2 : ∀ b ∈ fp2, b < s.heap.objs.size) (hn : min n1 n2 ≤ 1000)
    (hQ : ∀ h' tk acc' c', (∀ b o, b ≠ z → b ≠ TO → b ≠ i1 → b ≠ i2 → s.heap.get? b = some o → h'.get? b = some o) → h'.get? s.heap.objs.size = some { cls := .type "list", dict := none, data := .seq acc' c', slots := #[] } → acc'.size = min n1 n2 → Prs P1 P2 (s.heap.objs.size + 1) acc' h' →
      Q (.ref s.heap.objs.size) { s with heap := h', toks := tk }) : wpAny (model prog w) A (call (.type "list") [.ref z]) Q E s := by
  have lz : z < s.heap.objs.size := Heap.lt_size hz
  have lO : TO < s.heap.objs.size := by obtain ⟨_, _, e⟩ := hTO; exact Heap.lt_size e
  have l1 : i1 < s.heap.objs.size := hf1 _ Sp.mem1
  have l2 : i2 < s.heap.objs.size := hf2 _ Sp.mem2
  have lI : TI < s.heap.objs.size := Heap.lt_size hTI
  refine callType_codes (Q₁ := fun obj s₁ => obj = .ref s.heap.objs.size ∧ s₁ = { s with heap := s.heap.push { cls := .type "list", data := .seq #[] } }) F.called_list (F.typeCall_list_1 _) F.entry_list_init
    (code_list_new _ ⟨rfl, rfl⟩) fun obj s₁ h₁ => ?_
  obtain ⟨rfl, rfl⟩ := h₁
  have hS : (s.heap.push { cls := .type "list", data := .seq #[] }).get? s.heap.objs.size = some { cls := .type "list", data := .seq #[] } := Heap.get?_push_size _ rfl
  have hs1 : (s.heap.push { cls := .type "list", data := .seq #[] }).objs.size = s.heap.objs.size + 1 := Heap.size_push ..
  have up : ∀ b o, s.heap.get? b = some o → (s.heap.push { cls := .type "list", data := .seq #[] }).get? b = some o := fun b o e => Heap.get?_push_of_some _ e
  generalize hh1 : s.heap.push { cls := .type "list", data := .seq #[] } = g1 at hS hs1 up
  refine ⟨⟨_, hS, rfl⟩, F.args_list_init_2 _ _, ?_⟩
  show wpAny _ A.in1.in1 (do let old ← Builtin.List.listItems (.ref s.heap.objs.size); Builtin.List.listUpdate (.ref s.heap.objs.size) (fun _ => #[]); letGo old.toList.reverse; Builtin.List.listExtendWith (.ref s.heap.objs.size) (.ref z) .none) _ _ { s with heap := g1 }
  refine wpAny_bind ?_
  unfold Builtin.List.listItems
  refine wpAny_bind (wpAny_seqItems hS rfl (wpAny_pure ?_))
  show wpAny _ A.in1.in1 (updateSeq s.heap.objs.size (fun _ => #[]) >>= fun _ => letGo (#[] : Array Value).toList.reverse >>= fun _ => Builtin.List.listExtendWith (.ref s.heap.objs.size) (.ref z) .none) _ _ { s with heap := g1 }
  refine wpAny_bind (wpAny_updateSeq hS rfl ?_)
  have hS2 := Heap.get?_update_self (Obj.mapSeq (fun _ => (#[] : Array Value))) hS rfl
  have up2 : ∀ b o, b ≠ s.heap.objs.size → g1.get? b = some o → (g1.update s.heap.objs.size (Obj.mapSeq (fun _ => (#[] : Array Value)))).get? b = some o := fun b o hb e => (Heap.get?_update_other _ _ (Ne.symm hb)).trans e
  have hs2 : (g1.update s.heap.objs.size (Obj.mapSeq (fun _ => (#[] : Array Value)))).objs.size = s.heap.objs.size + 1 := by rw [Heap.size_update, hs1]
  refine wpAny_bind (wpAny_letGo ?_)
  generalize g1.update s.heap.objs.size (Obj.mapSeq (fun _ => (#[] : Array Value))) = g2 at hS2 up2 hs2
  have k2 : ∀ b o, s.heap.get? b = some o → g2.get? b = some o := fun b o e => up2 b o (Nat.ne_of_lt (Heap.lt_size e)) (up b o e)
  have hSz : s.heap.objs.size ≠ z := Nat.ne_of_gt lz
  have hz2 : IsZip g2 z TI TO .none := k2 _ _ hz
  have hTy : ∀ g : Heap, IsZip g z TI TO .none → ({ s with heap := g } : Shared).TypeIs (.ref z) "zip" := fun g e => ⟨_, e, rfl⟩
  unfold Builtin.List.listExtendWith
  refine wpAny_bind (wpAny_typeOf (hTy g2 hz2) ?_)
  have e1 : Builtin.List.listSameRef (.ref s.heap.objs.size) (.ref z) = false := by simp [Builtin.List.listSameRef, hSz]
  have e2 : (Value.type "zip" == Value.type "list") = false := by decide
  have e3 : (Value.type "zip" == Value.type "tuple") = false := by decide
  simp only [e1, e2, e3, Bool.or_false, Bool.false_eq_true, if_false]
  refine wpAny_bind (wpAny_pyIter_zip (s := { s with heap := g2 }) hz2 ?_)
  refine wpAny_bind (wpAny_holding ?_)
  unfold Builtin.List.listLengthHint
  refine wpAny_bind (wpAny_specialOf (hTy g2 hz2) zip_no_len ?_)
  show wpAny _ A.in1.in1 (specialOf (Value.ref z) (Str.ofString "__length_hint__") >>= _) _ _ _
  refine wpAny_bind (wpAny_specialOf (hTy g2 hz2) zip_no_hint ?_)
  refine wpAny_pure ?_
  show wpAny _ A.in1.in1 (rule "list.extend.makes-room" >>= fun _ => Builtin.List.listTouch (.ref s.heap.objs.size) >>= fun _ =>
    again (.builtin "list.extend.loop" ⟨[.ref s.heap.objs.size, .ref z, .none], []⟩)) _ _ _
  refine wpAny_bind (wpAny_rule ?_)
  refine wpAny_bind ?_
  show wpAny _ A.in1.in1 (updateSeq s.heap.objs.size (·.push .none) >>= fun _ => updateSeq s.heap.objs.size (·.pop)) _ _ _
  refine wpAny_bind (wpAny_updateSeq hS2 rfl ?_)
  have hS3 := Heap.get?_update_self (Obj.mapSeq (·.push Value.none)) hS2 rfl
  refine wpAny_updateSeq (hz := by seq_fits) hS3 rfl ?_
  have hS4 := Heap.get?_update_self (Obj.mapSeq (·.pop)) hS3 rfl
  have up4 : ∀ b o, b ≠ s.heap.objs.size → g2.get? b = some o → ((g2.update s.heap.objs.size (Obj.mapSeq (·.push Value.none))).update s.heap.objs.size (Obj.mapSeq (·.pop))).get? b = some o :=
    fun b o hb e => (Heap.get?_update_other _ _ (Ne.symm hb)).trans ((Heap.get?_update_other _ _ (Ne.symm hb)).trans e)
  have k4 : ∀ b o, s.heap.get? b = some o → ((g2.update s.heap.objs.size (Obj.mapSeq (·.push Value.none))).update s.heap.objs.size (Obj.mapSeq (·.pop))).get? b = some o := fun b o e => up4 b o (Nat.ne_of_lt (Heap.lt_size e)) (k2 b o e)
  refine wpAny_pure ⟨plainId_quiet F.plain_extend_loop _, ?_⟩
  refine loop_zip (A := A.in1) Sp D1 D2 s.heap.objs.size (fun h => Nat.lt_irrefl _ (hf1 _ h)) (fun h => Nat.lt_irrefl _ (hf2 _ h)) hSz (Nat.ne_of_gt lI) (Nat.ne_of_gt lO) (Nat.ne_of_gt l1) (Nat.ne_of_gt l2) (s.heap.objs.size + 1) (Nat.lt_succ_of_lt lz) (Nat.lt_succ_of_lt l1) (Nat.lt_succ_of_lt l2) (Nat.lt_succ_of_lt lO) (Nat.lt_succ_self _) hn .none
    (min n1 n2) 0 _ #[] _ (by omega) (Nat.zero_le _) (by show s.heap.objs.size + 1 ≤ Array.size _; rw [Heap.size_update, Heap.size_update, hs2]; exact Nat.le_refl _) (.inl ⟨k4 _ _ hz, by obtain ⟨a1, a2, e⟩ := hTO; exact ⟨a1, a2, k4 _ _ e⟩⟩) (k4 _ _ hTI)
    (D1.frame _ _ _ st1 fun b _ o e => k4 b o e) (D2.frame _ _ _ st2 fun b _ o e => k4 b o e) hS4 rfl (fun j v e => by simp at e) fun h' tk acc' c' kk a b c => ?_
  exact ⟨rfl, hQ h' tk acc' c' (fun b o b1 b2 b3 b4 e => kk b o (Nat.ne_of_lt (Heap.lt_size e)) b1 b2 b3 b4 (k4 b o e)) a b c⟩
end
/-! ### tracked -/
section
variable {X : Cx} {pins : List (Addr × Obj)} {σ : L2.St} {H H' : Hp} {s : Shared} {h' : Heap}
/-- several new things are laid -/
theorem lay_many {t' : Nat} (I : Inv X pins σ H s) (k : ∀ b o, s.heap.get? b = some o → h'.get? b = some o) (e : Ex H H') (fr : ∀ b o, H' b = some o → H b = none → s.heap.objs.size ≤ b) (new : ∀ b o, H' b = some o → H b = none → ObjOk X.prog X.w H' h' b o) :
    Inv X pins σ H' { s with heap := h', toks := t' } := by
  refine I.call (ch := []) ⟨fun b o z _ _ _ => k b o z, fun b o z _ _ _ => ⟨o.slots, k b o z⟩, fun b o z n _ => ?_, fun b o z _ => ⟨o, k b o z⟩, fun b xs z => e _ _ z, fun b o u z => e _ _ z, fun b ps z => ⟨#[], by rw [e _ _ z]; simp⟩⟩ (fun b o z => ?_) I.bare (fun b z => absurd z (by simp))
  · cases q : H' b with
    | none => rfl
    | some u => exact absurd (Heap.lt_size z) (Nat.not_lt.mpr (fr b u q n))
  · cases q : H b with
    | none => exact new b o z q
    | some u =>
      have z2 := e b u q
      rw [z] at z2
      obtain rfl : o = u := Option.some.inj z2
      exact (I.hok b o q).stay (fun c v _ y => k c v y) (fun c y => e _ _ y) fun c xs y => e _ _ y
/-- list(zip(a, b)), a a list, b a tuple -/
def tZipL (K : Fg) (ta tb : TE) : TE := fun σ H Q => ta σ H fun x H1 => tb σ H1 fun y H2 => ∃ (a b : Addr) (xs ys : List V), x = .ref a ∧ y = .ref b ∧ SqL K H2 a xs ∧ SqT K H2 b ys ∧ xs.length ≤ 1000 ∧ ys.length ≤ 1000 ∧
  ∀ (ps : List Addr) (l : Addr) (H3 : Hp), Ex H2 H3 → ps.length = min xs.length ys.length → (∀ (j : Nat) (p : Addr), ps[j]? = some p → ∃ x y, xs[j]? = some x ∧ ys[j]? = some y ∧ H3 p = some (.tup [x, y])) → H2 l = none → H3 l = some (.lst (ps.map V.ref)) → Q (.ref l) H3
theorem refs_of : ∀ (l : List Value), (∀ v ∈ l, ∃ T : Addr, v = .ref T) → ∃ ps : List Addr, l = ps.map Value.ref
  | [], _ => ⟨[], rfl⟩
  | v :: r, h => by
    obtain ⟨T, e⟩ := h v List.mem_cons_self
    obtain ⟨ps, q⟩ := refs_of r fun u hu => h u (List.mem_cons_of_mem _ hu)
    exact ⟨T :: ps, by rw [e, q]; rfl⟩
theorem vals_refs : ∀ (ps : List Addr), Vals (ps.map V.ref) (ps.map Value.ref)
  | [] => .nil
  | p :: r => .cons rfl (vals_refs r)
theorem pe_zipL {a b : Expr} {ta tb : TE} {p p2 q pos : Pos} (hc : X.calm = true) (hg : Gl X "list") (hm : X.mg "list" = none) (hg2 : Gl X "zip") (hm2 : X.mg "zip" = none) (ha : PE X a ta) (hb : PE X b tb)
    (na : starEach [a, b] X.env = (false, eval a X.env) :: starEach [b] X.env := by rfl) (nb : starEach [b] X.env = (false, eval b X.env) :: starEach [] X.env := by rfl) (hpl : (backTo q (starEach [b] X.env)).any (·.1) = false := by rfl)
    (nz : starEach [.Call (.Name "zip" p2) [a, b] [] q] X.env = (false, eval (.Call (.Name "zip" p2) [a, b] [] q) X.env) :: starEach [] X.env := by rfl) :
    PE X (.Call (.Name "list" p) [.Call (.Name "zip" p2) [a, b] [] q] [] pos) (tZipL X.K ta tb) := by
  refine ⟨fun pins s σ H Q I h => ?_⟩
  refine Call_ (ld_blt I hg hm boot_list ?_)
  refine PyProof.Rows.callWith_type1 (PyProof.Rows.args_cons ?_ nz) nz rfl
  refine Call_ (ld_blt I hg2 hm2 PyProof.Rows.boot_zip ?_)
  refine PyProof.Rows.callWith_type1 (PyProof.Rows.args_cons (thn (ha.run pins s σ H _ I h) fun v s1 ⟨x, H1, I1, r1, q1⟩ => PyProof.Rows.args_cons (thn (hb.run pins s1 σ H1 _ I1 q1) fun u s2 ⟨y, H2, I2, r2, q2⟩ => PyProof.Rows.args_nil ?_) nb) na) na hpl
  obtain ⟨a, b, xs, ys, rfl, rfl, hx, hy, hl1, hl2, q2⟩ := q2
  cases r2
  obtain rfl : v = Value.ref a := r1
  obtain ⟨its1, rv1, pl1, _⟩ := I2.list hx
  obtain ⟨its2, rv2, pl2, _⟩ := I2.tuple hy
  have la : a < s2.heap.objs.size := by obtain ⟨_, e, _⟩ := pl1.isList; exact Heap.lt_size e
  have lb : b < s2.heap.objs.size := by obtain ⟨_, e, _⟩ := id pl2; exact Heap.lt_size e
  refine zip_begins2 (begins_list a its1.toArray) (begins_tuple b its2.toArray) pl1.isList pl2 fun h1 hz hTI hTO ho1 ho2 hsz hk => ?_
  refine PyProof.Rows.args_nil ?_
  have hh : X.A.handled = none := I2.ok.hd hc
  generalize hN : s2.heap.objs.size = N at hz hTI hTO ho1 ho2 hsz la lb
  have na : ∀ k : Nat, N + k ≠ a := fun k => Nat.ne_of_gt (Nat.lt_of_lt_of_le la (Nat.le_add_right _ _))
  have nb : ∀ k : Nat, N + k ≠ b := fun k => Nat.ne_of_gt (Nat.lt_of_lt_of_le lb (Nat.le_add_right _ _))
  have n1 : ∀ k : Nat, N + (k + 1) ∉ [N, a] := fun k z => by
    rcases List.mem_cons.mp z with z | z
    · exact absurd z (by simp)
    · exact na _ (List.mem_singleton.mp z)
  have n2 : ∀ k : Nat, k ≠ 1 → N + k ∉ [N + 1, b] := fun k hk z => by
    rcases List.mem_cons.mp z with z | z
    · exact hk (Nat.add_left_cancel z)
    · exact nb _ (List.mem_singleton.mp z)
  have ap : ∀ k j : Nat, k ≠ j → N + k ≠ N + j := fun k j h z => h (Nat.add_left_cancel z)
  have Sp : ZipSep2 (N + 4) (N + 2) (N + 3) N (N + 1) [N, a] [N + 1, b] := ⟨ap 2 4 (by decide), ap 3 4 (by decide), ap 2 3 (by decide), ap 2 0 (by decide), List.mem_cons_self, n1 3, n1 2, ap 2 1 (by decide), List.mem_cons_self, n2 4 (by decide), n2 3 (by decide), n2 0 (by decide), n1 0⟩
  have pa1 : h1.IsList a its1.toArray := pl1.isList.at fun o e => hk _ _ e
  have pb1 : h1.IsTuple b its2.toArray := Heap.IsTuple.at (h := s2.heap) pl2 fun o e => hk _ _ e
  have z1 : its1.toArray.size = xs.length := by rw [List.size_toArray, rv1.length]
  have z2 : its2.toArray.size = ys.length := by rw [List.size_toArray, rv2.length]
  refine list_zip (s := { s2 with heap := h1 }) Sp (Draws.list (A := X.A.in1.in1.in1) hh N a (Ne.symm (na 0)) its1.toArray) (Draws.tuple (A := X.A.in1.in1.in1) hh (N + 1) b (Ne.symm (nb 1)) its2.toArray) hz hTI ⟨_, _, hTO⟩ ⟨⟨_, ho1, rfl, rfl⟩, pa1⟩ ⟨⟨_, ho2, rfl, rfl⟩, pb1⟩ (fun c hc => ?_) (fun c hc => ?_) (by rw [z1, z2]; omega) fun h' tk acc c kk hS hacc hP => ?_
  · show c < h1.objs.size
    rw [hsz]
    rcases List.mem_cons.mp hc with e | e
    · rw [e]
      exact Nat.lt_add_of_pos_right (by decide)
    · rw [List.mem_singleton.mp e]
      exact Nat.lt_of_lt_of_le la (Nat.le_add_right _ _)
  · show c < h1.objs.size
    rw [hsz]
    rcases List.mem_cons.mp hc with e | e
    · rw [e]
      exact Nat.add_lt_add_left (by decide) _
    · rw [List.mem_singleton.mp e]
      exact Nat.lt_of_lt_of_le lb (Nat.le_add_right _ _)
  · replace hS : h'.get? h1.objs.size = some { cls := .type "list", dict := none, data := .seq acc c, slots := #[] } := hS
    replace hP : Prs _ _ (h1.objs.size + 1) acc h' := hP
    rw [hsz] at hS hP
    have old : ∀ b o, s2.heap.get? b = some o → h'.get? b = some o := fun b o e => by
      have hb : b < N := by rw [← hN]; exact Heap.lt_size e
      have ne : ∀ k : Nat, b ≠ N + k := fun k => Nat.ne_of_lt (Nat.lt_of_lt_of_le hb (Nat.le_add_right _ _))
      exact kk b o (ne 4) (ne 3) (ne 0) (ne 1) (hk b o e)
    obtain ⟨ps, eps⟩ := refs_of acc.toList fun v hv => by
      obtain ⟨j, hj⟩ := List.mem_iff_getElem?.mp hv
      rw [Array.getElem?_toList] at hj
      obtain ⟨T, _, _, e, _⟩ := hP j v hj
      exact ⟨T, e⟩
    have hpl : ps.length = min xs.length ys.length := by
      have e := congrArg List.length eps
      rw [Array.length_toList, List.length_map] at e
      rw [← e, hacc, z1, z2]
    have hpa : ∀ (j : Nat) (p : Addr), ps[j]? = some p → ∃ x y vx vy, xs[j]? = some x ∧ ys[j]? = some y ∧ RelV x vx ∧ RelV y vy ∧ IsTupOf2 h' p vx vy ∧ N + 6 ≤ p := fun j p hj => by
      have hv : acc[j]? = some (Value.ref p) := by rw [← Array.getElem?_toList, eps, List.getElem?_map, hj]; rfl
      obtain ⟨T, vx, vy, e1, e2, e3, e4, e5⟩ := hP j _ hv
      cases e1
      have f3 : its1[j]? = some vx := by simpa using e3
      have f4 : its2[j]? = some vy := by simpa using e4
      cases q1 : xs[j]? with
      | none =>
        rw [rv1.none_of q1] at f3
        cases f3
      | some x =>
        cases q2 : ys[j]? with
        | none =>
          rw [rv2.none_of q2] at f4
          cases f4
        | some y =>
          obtain ⟨u1, g1, r1⟩ := rv1.get q1
          obtain ⟨u2, g2, r2⟩ := rv2.get q2
          rw [f3] at g1
          rw [f4] at g2
          cases g1
          cases g2
          exact ⟨x, y, vx, vy, rfl, rfl, r1, r2, e2, e5⟩
    have lt2 : ∀ b o, H2 b = some o → b < N := fun b o e => by
      rw [← hN]
      exact I2.hok.lt e
    have pge : ∀ p ∈ ps, N + 6 ≤ p := fun p hp => by
      obtain ⟨j, hj⟩ := List.mem_iff_getElem?.mp hp
      obtain ⟨_, _, _, _, _, _, _, _, _, e⟩ := hpa j p hj
      exact e
    let tp : Addr → Option HO := fun p => (h'.get? p).bind fun o => match o.data with
      | .seq its _ => (match its.toList with
        | [vx, vy] => (absV vx).bind fun x => (absV vy).map fun y => HO.tup [x, y]
        | _ => none)
      | _ => none
    let H3 : Hp := fun b => if b = N + 5 then some (.lst (ps.map V.ref)) else if b ∈ ps then tp b else H2 b
    have hl : H3 (N + 5) = some (.lst (ps.map V.ref)) := if_pos rfl
    have hN5 : N + 5 ∉ ps := fun z => Nat.not_succ_le_self _ (pge _ z)
    have ex : Ex H2 H3 := fun b o e => by
      have hb := lt2 b o e
      have e1 : b ≠ N + 5 := Nat.ne_of_lt (Nat.lt_of_lt_of_le hb (Nat.le_add_right _ _))
      have e2 : b ∉ ps := fun z => Nat.not_lt.mpr (Nat.le_trans (Nat.le_add_right _ _) (pge b z)) hb
      show (if b = N + 5 then some (HO.lst (ps.map V.ref)) else if b ∈ ps then tp b else H2 b) = some o
      rw [if_neg e1, if_neg e2]
      exact e
    have hp3 : ∀ (j : Nat) (p : Addr), ps[j]? = some p → ∃ x y vx vy, xs[j]? = some x ∧ ys[j]? = some y ∧ RelV x vx ∧ RelV y vy ∧ IsTupOf2 h' p vx vy ∧ H3 p = some (.tup [x, y]) := fun j p hj => by
      obtain ⟨x, y, vx, vy, q1, q2, r1, r2, hT, hge⟩ := hpa j p hj
      refine ⟨x, y, vx, vy, q1, q2, r1, r2, hT, ?_⟩
      have e1 : p ≠ N + 5 := fun z => hN5 (z ▸ List.mem_of_getElem? hj)
      show (if p = N + 5 then some (HO.lst (ps.map V.ref)) else if p ∈ ps then tp p else H2 p) = some (.tup [x, y])
      rw [if_neg e1, if_pos (List.mem_of_getElem? hj)]
      show ((h'.get? p).bind _) = _
      rw [hT]
      show ((absV vx).bind fun x => (absV vy).map fun y => HO.tup [x, y]) = _
      rw [r1.abs, r2.abs]
      rfl
    have nl : H2 (N + 5) = none := I2.hok.fresh (by rw [hN]; exact Nat.le_add_right _ _)
    have J : Inv X pins σ H3 { s2 with heap := h', toks := tk } := by
      refine lay_many I2 old ex (fun b o e n => ?_) fun b o e n => ?_
      · rw [hN]
        by_cases e1 : b = N + 5
        · rw [e1]
          exact Nat.le_add_right _ _
        · by_cases e2 : b ∈ ps
          · exact Nat.le_trans (Nat.le_add_right _ _) (pge b e2)
          · replace e : (if b = N + 5 then some (HO.lst (ps.map V.ref)) else if b ∈ ps then tp b else H2 b) = some o := e
            rw [if_neg e1, if_neg e2, n] at e
            cases e
      · by_cases e1 : b = N + 5
        · subst e1
          rw [hl] at e
          cases e
          have hS2 : h'.get? (N + 5) = some { cls := .type "list", dict := none, data := .seq acc c, slots := #[] } := hS
          refine ⟨by rw [List.length_map, hpl, sizeLine_eq]; omega, ps.map Value.ref, c, vals_refs ps, ?_⟩
          rw [← eps, Array.toArray_toList]
          exact hS2
        · by_cases e2 : b ∈ ps
          · obtain ⟨j, hj⟩ := List.mem_iff_getElem?.mp e2
            obtain ⟨x, y, vx, vy, _, _, r1, r2, hT, h3⟩ := hp3 j b hj
            rw [h3] at e
            cases e
            exact ⟨by show 2 ≤ sizeLine; decide, [vx, vy], .cons r1 (.cons r2 .nil), ⟨_, hT, rfl, _, rfl⟩⟩
          · replace e : (if b = N + 5 then some (HO.lst (ps.map V.ref)) else if b ∈ ps then tp b else H2 b) = some o := e
            rw [if_neg e1, if_neg e2, n] at e
            cases e
    have hsz1 : ({ s2 with heap := h1 } : Shared).heap.objs.size = N + 5 := hsz
    rw [hsz1]
    exact ⟨.ref (N + 5), H3, J, rfl, q2 ps (N + 5) H3 ex hpl (fun j p hj => by
      obtain ⟨x, y, _, _, q1, q2, _, _, _, h3⟩ := hp3 j p hj
      exact ⟨x, y, q1, q2, h3⟩) nl hl⟩
end
end K64

set_option Elab.async false
set_option linter.all false
set_option maxRecDepth 100000
set_option maxHeartbeats 4000000
/-! KW: what the written part says (facts by name), a def as it is called. Printed by gen_kw.py. -/
namespace K64
open PySem PySem.Spec PyProof.Rows L2 Evl
/-- a def of the text, as it stands behind the top -/
def Kn (K : Fg) (mg : Str → Option Value) (x : Str) (st : Stmt) (dvs : List V) : Prop := ∃ (f : Addr) (fd : FuncData), FunD K x x (defArgs st) (defBody st) (defScope st) dvs [] f fd ∧ mg x = some (.ref f)
abbrev sLET : Str := "abcdefghijklmnopqrstuvwxyz"
abbrev sCAP : Str := "ABCDEFGHIJKLMNOPQRSTUVWXYZ"
abbrev sDIG : Str := "0123456789"
/-- the facts -/
structure Fs (P : Program) (K : Fg) (mg : Str → Option Value) : Prop where
  f_isinstance : mg "isinstance" = none
  f_int : mg "int" = none
  f_bool : mg "bool" = none
  f_str : mg "str" = none
  f_len : mg "len" = none
  f_all : mg "all" = none
  f_zip : mg "zip" = none
  f_tuple : mg "tuple" = none
  f_range : mg "range" = none
  f_enumerate : mg "enumerate" = none
  f_list : mg "list" = none
  f_sum : mg "sum" = none
  f_min : mg "min" = none
  f_sorted : mg "sorted" = none
  f_set : mg "set" = none
  f_repr : mg "repr" = none
  f_ValueError : mg "ValueError" = none
  f_super : mg "super" = none
  c_LETTERS : ∃ t, mg "LETTERS" = some (.str sLET t)
  c_CAPITALS : ∃ t, mg "CAPITALS" = some (.str sCAP t)
  c_DIGITS : ∃ t, mg "DIGITS" = some (.str sDIG t)
  c_OPEN : ∃ t, mg "OPEN" = some (.str "?" t)
  k_is_integer : Kn K mg "is_integer" s_is_integer []
  k_is_mark : Kn K mg "is_mark" s_is_mark []
  k_is_many : Kn K mg "is_many" s_is_many []
  k_are_ascending : Kn K mg "are_ascending" s_are_ascending []
  k_are_marks : Kn K mg "are_marks" s_are_marks []
  k_marks_of_row : Kn K mg "marks_of_row" s_marks_of_row []
  k_is_row : Kn K mg "is_row" s_is_row []
  k_is_tuple_of : Kn K mg "is_tuple_of" s_is_tuple_of []
  k_signs_fault : Kn K mg "signs_fault" s_signs_fault []
  k_is_tree : Kn K mg "is_tree" s_is_tree []
  k_is_notes : Kn K mg "is_notes" s_is_notes []
  k_checker_fault : Kn K mg "checker_fault" s_checker_fault []
  k_is_checker : Kn K mg "is_checker" s_is_checker []
  k_has_children : Kn K mg "has_children" s_has_children []
  k_label_of : Kn K mg "label_of" s_label_of []
  k_ends_by : Kn K mg "ends_by" s_ends_by []
  k_children_by : Kn K mg "children_by" s_children_by []
  k_want : Kn K mg "want" s_want [.int (-1)]
  k_want_checker : Kn K mg "want_checker" s_want_checker [.str "checker"]
  k_want_tree_for : Kn K mg "want_tree_for" s_want_tree_for []
  k_want_case : Kn K mg "want_case" s_want_case []
  k_rows_by : Kn K mg "rows_by" s_rows_by []
  k_digits_at : Kn K mg "digits_at" s_digits_at []
  k_fitting_rows : Kn K mg "fitting_rows" s_fitting_rows []
  k_costs_by : Kn K mg "costs_by" s_costs_by []
  k_top_digits : Kn K mg "top_digits" s_top_digits []
  k_cheapest_by : Kn K mg "cheapest_by" s_cheapest_by []
  k_fewest_changes : Kn K mg "fewest_changes" s_fewest_changes []
  k_least_changed : Kn K mg "least_changed" s_least_changed []
  k_law_feed : Kn K mg "_law_feed" s_law_feed []
  k_law_draw : Kn K mg "_law_draw" s_law_draw []
  k_law_any : Kn K mg "_law_any" s_law_any []
  k_law_same : Kn K mg "_law_same" s_law_same []
  k_law_scenes : Kn K mg "_law_scenes" s_law_scenes []
  k_law_drawn : Kn K mg "_law_drawn" s_law_drawn []
  k_law_checker : Kn K mg "_law_checker" s_law_checker []
  k_law_marks : Kn K mg "_law_marks" s_law_marks []
  k_law_labels : Kn K mg "_law_labels" s_law_labels []
  k_law_grown : Kn K mg "_law_grown" s_law_grown []
  k_law_kids : Kn K mg "_law_kids" s_law_kids []
  k_law_cries : Kn K mg "_law_cries" s_law_cries []
  k_law_right : Kn K mg "_law_right" s_law_right []
  k_law_laid : Kn K mg "_law_laid" s_law_laid []
  k_law_heard : Kn K mg "_law_heard" s_law_heard []
  k_law_price : Kn K mg "_law_price" s_law_price []
  k_law_is_right : Kn K mg "_law_is_right" s_law_is_right []
  k_law : Kn K mg "law" s_law []
  nn : ∃ C, mg "NoNotes" = some (.ref C) ∧ HxC K mg C ∧ ∃ f fd, NnC P K mg C f fd ∧ PySem.W.findIn K (.ref C) "__init__" = some (some (.ref f)) ∧ PySem.W.typeIn K (.ref f) = some (.type "function") ∧ Binds K fd ["self", "tree"] []
/-- a def that keeps its promise; k: its level; dvs: the defaults that fill up -/
structure Okf (P : Program) (w : World) (K : Fg) (mg : Str → Option Value) (base : Heap) (k : Nat) (x : Str) (ps : List Str) (dvs : List V) (sp : Sp) : Prop where
  ex : ∃ (f : Addr) (fd : FuncData) (ds : List Value), mg x = some (.ref f) ∧ PySem.W.keepIn K (.ref f) = true ∧ Binds K fd ps ds ∧ Vals dvs ds ∧ FnOk P w K mg base CX0 k f fd ps sp
section
variable {P : Program} {w : World} {K : Fg} {mg : Str → Option Value} {base : Heap}
theorem mk_ok {x : Str} {st : Stmt} {dvs dvs' : List V} {N ps : List Str} {k : Nat} {sp : Sp} (h : Kn K mg x st dvs') (S : FnScope N ps (defScope st)) (hb : ∀ (f : Addr) (fd : FuncData), FunD K x x (defArgs st) (defBody st) (defScope st) dvs' [] f fd → ∃ ds, Vals dvs ds ∧ Binds K fd ps ds)
    (len : ∀ vs H Q E, sp vs H Q E → vs.length = ps.length)
    (hbody : ∀ (f : Addr) (cdv : Value) (A : Around) (outer : List Env) (s : Shared) (H : Hp) (vs : List V) (Q : VK) (E : XK), Room k (A.deeper (envOfC x (defScope st) s.heap.objs.size f cdv)) → sp vs H Q E →
      ∃ t, PSs (cxOf CX0 P w K mg base N x (defScope st) f cdv A outer s H E).nox (defBody st) t ∧ t { nx := fun _ H' => Q .non H', rt := Q } (start N vs) H) : Okf P w K mg base (k + 1) x ps dvs sp := by
  obtain ⟨f, fd, F, hm⟩ := h
  obtain ⟨ds, h1, h2⟩ := hb f fd F
  refine ⟨f, fd, ds, hm, F.kp, h2, h1, F.ok S len fun cdv A outer s H vs Q E hr hsp => ?_⟩
  obtain ⟨t, ht, hq⟩ := hbody f cdv A outer s H vs Q E hr hsp
  exact ⟨t, ht.nox, hq⟩
end
section
variable {X : Cx} {k j : Nat} {x : Str} {ps : List Str} {dvs : List V} {sp : Sp} {p pos : Pos} {e : Expr} {es : List Expr} {t : TA}
theorem pe_ok (h : Okf X.prog X.w X.K X.mg X.base k x ps dvs sp) (hr : Room j X.A) (hj : k ≤ j) (hg : Gl X x) (ha : PA X (e :: es) t) (hdb : (x == ("__debug__" : Str)) = false := by decide)
    (he : starEach (e :: es) X.env = (false, eval e X.env) :: starEach es X.env := by rfl) (hpl : (backTo pos (starEach es X.env)).any (·.1) = false := by rfl) : PE X (.Call (.Name x p) (e :: es) [] pos) (tCall sp dvs E0 t) := by
  obtain ⟨f, fd, ds, h1, h2, h3, h4, F⟩ := h.ex
  exact pe_call F (hr.mono hj) hg h1 h2 h3 h4 pass0 ha hdb he hpl
theorem hu64 {A : Around} {n : Nat} (hr : Room n A) : A.units + 64 < cLine := by have := hr.un; omega
/-! the same rules, K told apart from X -/
theorem ix_listK {K : Fg} (hK : X.K = K) : IxR X (rIxL K) := by subst hK; exact ix_list
theorem ix_tupK {K : Fg} (hK : X.K = K) : IxR X (rIxT K) := by subst hK; exact ix_tup
theorem op_eqDK {K : Fg} (hK : X.K = K) (hu : X.A.units + 64 < cLine) : OpR X (compareOp .Eq) (rEqD K) := by subst hK; exact op_eqD hu
theorem op_neDK {K : Fg} (hK : X.K = K) (hu : X.A.units + 64 < cLine) : OpR X (compareOp .NotEq) (rNeD K) := by subst hK; exact op_neD hu
theorem op_inK {K : Fg} (hK : X.K = K) : OpR X (compareOp .In) (rIn K false) := by subst hK; exact op_in_seq
theorem call_lenK {K : Fg} (hK : X.K = K) : CallR X (.builtin "len") (fun xs H Q => ∃ p ys, xs = [.ref p] ∧ (SqL K H p ys ∨ SqT K H p ys) ∧ Q (.int ys.length) H) := by subst hK; exact call_len_seq
theorem cr_sumK {K : Fg} (hK : X.K = K) (hc : X.calm = true) : CallR X (.builtin "sum") (rSum K) := by subst hK; exact cr_sum hc
theorem call_tupK {K : Fg} (hK : X.K = K) : CallR X (.type "tuple") (fun xs H Q => ∃ p ys, xs = [.ref p] ∧ ((SqL K H p ys ∧ ∀ l, H l = none → Q (.ref l) (upd H l (.tup ys))) ∨ (SqT K H p ys ∧ Q (.ref p) H))) := by subst hK; exact call_tuple_of
theorem pi_listK {K : Fg} {tg l : Expr} {tl : TE} (hK : X.K = K) (hl : PE X l tl) : PI X tg l (iList K tl) := by subst hK; exact pi_list hl
theorem pi_tupK {K : Fg} {tg l : Expr} {tl : TE} (hK : X.K = K) (hl : PE X l tl) : PI X tg l (iTup K tl) := by subst hK; exact pi_tup hl
theorem pi_zipK {K : Fg} {e e2 : Expr} {ta : TA} {p pos tpos : Pos} {elts : List Expr} {kk : Nat} (hK : X.K = K) (hg : Gl X "zip") (hm : X.mg "zip" = none) (ha : PA X [e, e2] ta)
    (hs : starEach [e, e2] X.env = (false, eval e X.env) :: starEach [e2] X.env := by rfl) (hpl : (backTo pos (starEach [e2] X.env)).any (·.1) = false := by rfl) :
    PI X (.Tuple elts kk tpos) (.Call (.Name "zip" p) [e, e2] [] pos) (RZ.iZipA K ta) := by subst hK; exact RZ.pi_zipA hg hm ha hs hpl
theorem pe_popK {K : Fg} {o : Expr} {to : TE} {apos cpos : Pos} (hK : X.K = K) (ho : PE X o to) (hbase : attributeBase o "pop" X.env (eval o X.env) = eval o X.env := by rfl) (hline : (apos.endLine == cpos.line) = true := by rfl) :
    PE X (.Call (.Attribute o "pop" apos) [] [] cpos) (tBM0 K "list" rPop to) := by subst hK; exact pe_bm0 F.plainAttrs_list F.slot_list_pop F.type_list_pop mt_pop ho hbase hline
theorem pe_ok0 (h : Okf X.prog X.w X.K X.mg X.base k x ps dvs sp) (hr : Room j X.A) (hj : k ≤ j) (hg : Gl X x) (hdb : (x == ("__debug__" : Str)) = false := by decide) : PE X (.Call (.Name x p) [] [] pos) (tCall sp dvs E0 tNil) := by
  obtain ⟨f, fd, ds, h1, h2, h3, h4, F⟩ := h.ex
  exact pe_call0 F (hr.mono hj) hg h1 h2 h3 h4 pass0 hdb
end
end K64

set_option Elab.async false
set_option linter.all false
set_option maxRecDepth 100000
set_option maxHeartbeats 4000000
/-! KM: the matter in plain Lean: marks, checkers, trees, costs by digit, the notes picked. -/
namespace K64
open PySem PySem.Spec PyProof.Rows L2 Evl
/-- a text by its signs -/
def St (l : List Nat) : Str := ⟨l.toArray⟩
theorem st_list (l : List Nat) : (St l).cps.toList = l := by simp [St]
theorem st_len (l : List Nat) : (St l).length = l.length := by simp [St, Str.length]
theorem st_size (l : List Nat) : (St l).cps.size = l.length := by simp [St]
theorem st_app (l m : List Nat) : St l ++ St m = St (l ++ m) := by
  show Str.mk (l.toArray ++ m.toArray) = Str.mk (l ++ m).toArray
  simp
theorem st_inj {l m : List Nat} (h : St l = St m) : l = m := by
  have := congrArg (fun z : Str => z.cps.toList) h
  simpa [st_list] using this
theorem st_back (x : Str) : St x.cps.toList = x := by
  cases x
  simp [St]
theorem st_get {l : List Nat} {i c : Nat} (h : l[i]? = some c) : (St l).cps[i]? = some c := by simpa [St] using h
abbrev Mk := Nat × Nat
def mkT (m : Mk) : Str := St [m.1, m.2]
def mkV (m : Mk) : V := .str (mkT m)
def rowT (r : List Mk) : Str := St (r.flatMap fun m => [m.1, m.2])
def isLet (n : Nat) : Prop := 97 ≤ n ∧ n ≤ 122
def isDig (n : Nat) : Prop := 48 ≤ n ∧ n ≤ 57
def okM (m : Mk) : Prop := isLet m.1 ∧ isDig m.2
structure Ck where
  many : Nat
  tops : List Mk
  leaves : List Mk
  rows : List (List Mk)
def ltS (a b : Str) : Prop := a.cps.toList < b.cps.toList
structure Ck.Ok (c : Ck) : Prop where
  many : c.many = 1 ∨ c.many = 2
  tops : ∀ m ∈ c.tops, okM m
  leaves : ∀ m ∈ c.leaves, okM m
  rows : ∀ r ∈ c.rows, r.length = c.many + 1 ∧ ∀ m ∈ r, okM m
  topsA : (c.tops.map mkT).Pairwise ltS
  leavesA : (c.leaves.map mkT).Pairwise ltS
  rowsA : (c.rows.map rowT).Pairwise ltS
  topsL : c.tops.length ≤ 300
  leavesL : c.leaves.length ≤ 300
  rowsL : c.rows.length ≤ 300
/-! ### trees -/
inductive Tr where
  | leaf (l : Nat)
  | one (l : Nat) (a : Tr)
  | two (l : Nat) (a b : Tr)
namespace Tr
def lab : Tr → Nat
  | leaf l => l
  | one l _ => l
  | two l _ _ => l
def sign : Tr → Nat
  | leaf l => l
  | one l _ => l - 32
  | two l _ _ => l - 32
def size : Tr → Nat
  | leaf _ => 1
  | one _ a => 1 + a.size
  | two _ a b => 1 + a.size + b.size
def signs : Tr → List Nat
  | leaf l => [l]
  | one l a => (l - 32) :: a.signs
  | two l a b => (l - 32) :: (a.signs ++ b.signs)
def subs : Tr → List Tr
  | leaf l => [leaf l]
  | one l a => one l a :: a.subs
  | two l a b => two l a b :: (a.subs ++ b.subs)
/-- the children's places from the tree's own -/
def offs : Tr → List Nat
  | leaf _ => []
  | one _ _ => [1]
  | two _ a _ => [1, 1 + a.size]
def kids : Tr → List Tr
  | leaf _ => []
  | one _ a => [a]
  | two _ a b => [a, b]
/-- as many children everywhere, labels are letters -/
def Ok (many : Nat) : Tr → Prop
  | leaf l => isLet l
  | one l a => many = 1 ∧ isLet l ∧ a.Ok many
  | two l a b => many = 2 ∧ isLet l ∧ a.Ok many ∧ b.Ok many
theorem size_pos : ∀ t : Tr, 0 < t.size
  | leaf _ => Nat.one_pos
  | one _ a => by unfold size; omega
  | two _ a b => by unfold size; omega
theorem signs_len : ∀ t : Tr, t.signs.length = t.size
  | leaf _ => rfl
  | one _ a => by simp [signs, size, signs_len a]; omega
  | two _ a b => by simp [signs, size, signs_len a, signs_len b]; omega
theorem subs_len : ∀ t : Tr, t.subs.length = t.size
  | leaf _ => rfl
  | one _ a => by simp [subs, size, subs_len a]; omega
  | two _ a b => by simp [subs, size, subs_len a, subs_len b]; omega
theorem signs_subs : ∀ t : Tr, t.signs = t.subs.map sign
  | leaf _ => rfl
  | one _ a => by simp [signs, subs, sign, signs_subs a]
  | two _ a b => by simp [signs, subs, sign, signs_subs a, signs_subs b]
theorem subs_head (t : Tr) : t.subs[0]? = some t := by cases t <;> rfl
/-- a subtree's own subtrees stand behind its place -/
theorem subs_at : ∀ (t : Tr) {p : Nat} {s : Tr}, t.subs[p]? = some s → ∀ {j : Nat} {u : Tr}, s.subs[j]? = some u → t.subs[p + j]? = some u
  | leaf l, p, s, h, j, u, hu => by
    rcases p with _ | p
    · obtain rfl : leaf l = s := Option.some.inj h
      simpa using hu
    · simp [subs] at h
  | one l a, p, s, h, j, u, hu => by
    rcases p with _ | p
    · obtain rfl : one l a = s := Option.some.inj h
      simpa using hu
    · have h' : a.subs[p]? = some s := by simpa [subs] using h
      have q := subs_at a h' hu
      rw [show p + 1 + j = (p + j) + 1 by omega]
      simpa [subs] using q
  | two l a b, p, s, h, j, u, hu => by
    rcases p with _ | p
    · obtain rfl : two l a b = s := Option.some.inj h
      simpa using hu
    · have h' : (a.subs ++ b.subs)[p]? = some s := by simpa [subs] using h
      rw [show p + 1 + j = (p + j) + 1 by omega]
      show (two l a b :: (a.subs ++ b.subs))[(p + j) + 1]? = some u
      rw [List.getElem?_cons_succ]
      by_cases hp : p < a.subs.length
      · rw [List.getElem?_append_left hp] at h'
        have q := subs_at a h' hu
        rw [List.getElem?_append_left (List.getElem?_eq_some_iff.mp q).1]
        exact q
      · rw [List.getElem?_append_right (by omega)] at h'
        have q := subs_at b h' hu
        rw [List.getElem?_append_right (by omega), show p + j - a.subs.length = p - a.subs.length + j by omega]
        exact q
/-- the children of the subtree at p -/
theorem kids_at {t : Tr} {p : Nat} {s : Tr} (h : t.subs[p]? = some s) {i o : Nat} (ho : s.offs[i]? = some o) : ∃ k, s.kids[i]? = some k ∧ t.subs[p + o]? = some k := by
  cases s with
  | leaf l => simp [offs] at ho
  | one l a =>
    rcases i with _ | i
    · obtain rfl : 1 = o := by simpa [offs] using ho
      exact ⟨a, rfl, subs_at t h (by simp [subs, subs_head])⟩
    · simp [offs] at ho
  | two l a b =>
    rcases i with _ | _ | i
    · obtain rfl : 1 = o := by simpa [offs] using ho
      refine ⟨a, rfl, subs_at t h ?_⟩
      show (a.subs ++ b.subs)[0]? = some a
      rw [List.getElem?_append_left (by rw [subs_len]; exact size_pos a)]
      exact subs_head a
    · obtain rfl : 1 + a.size = o := by simpa [offs] using ho
      refine ⟨b, rfl, subs_at t h ?_⟩
      rw [show 1 + a.size = a.size + 1 by omega]
      show (a.subs ++ b.subs)[a.size]? = some b
      rw [List.getElem?_append_right (by rw [subs_len]; exact Nat.le_refl _), subs_len, Nat.sub_self]
      exact subs_head b
    · simp [offs] at ho
theorem size_at : ∀ (t : Tr) {p : Nat} {s : Tr}, t.subs[p]? = some s → p + s.size ≤ t.size := fun t {p s} h => by
  have hs := size_pos s
  obtain ⟨u, hu⟩ : ∃ u, s.subs[s.size - 1]? = some u := ⟨_, List.getElem?_eq_getElem (by rw [subs_len]; omega)⟩
  have q := (List.getElem?_eq_some_iff.mp (subs_at t h hu)).1
  rw [subs_len] at q
  omega
theorem ok_at : ∀ {t : Tr} {m : Nat}, t.Ok m → ∀ {p : Nat} {s : Tr}, t.subs[p]? = some s → s.Ok m
  | leaf l, m, h, p, s, hs => by
    rcases p with _ | p
    · obtain rfl : leaf l = s := Option.some.inj hs
      exact h
    · simp [subs] at hs
  | one l a, m, h, p, s, hs => by
    rcases p with _ | p
    · obtain rfl : one l a = s := Option.some.inj hs
      exact h
    · exact ok_at h.2.2 (p := p) (by simpa [subs] using hs)
  | two l a b, m, h, p, s, hs => by
    rcases p with _ | p
    · obtain rfl : two l a b = s := Option.some.inj hs
      exact h
    · have h' : (a.subs ++ b.subs)[p]? = some s := by simpa [subs] using hs
      by_cases hp : p < a.subs.length
      · rw [List.getElem?_append_left hp] at h'
        exact ok_at h.2.2.1 h'
      · rw [List.getElem?_append_right (by omega)] at h'
        exact ok_at h.2.2.2 h'
theorem ok_lab {t : Tr} {m : Nat} (h : t.Ok m) : isLet t.lab := by
  cases t with
  | leaf l => exact h
  | one l a => exact h.2.1
  | two l a b => exact h.2.1
end Tr
/-! ### costs -/
def digs : List Nat := [48, 49, 50, 51, 52, 53, 54, 55, 56, 57]
/-- what is left of the rows that start with m -/
def rest (c : Ck) (m : Mk) : List (List Mk) := (c.rows.filter fun r => decide (r.head? = some m)).map List.tail
abbrev Tab := List (Nat × Nat)
/-- a row over the children: the sum of their costs, their digits -/
def fitR : List (Nat × Tab) → List Mk → Option (Nat × List Nat)
  | [], _ => some (0, [])
  | _ :: _, [] => some (0, [])
  | (l, A) :: ks, m :: ms => if m.1 = l then (match A.lookup m.2, fitR ks ms with
    | some k, some (s, ds) => some (k + s, m.2 :: ds)
    | _, _ => none) else none
def priced (c : Ck) (l d : Nat) (ks : List (Nat × Tab)) : List (Nat × List Nat) := (rest c (l, d)).filterMap (fitR ks)
/-- the least of a list -/
def least : List Nat → Option Nat
  | [] => none
  | x :: r => some (r.foldl Nat.min x)
def chg (ν : List Nat) (d : Nat) : Nat := match ν with
  | [] => 0
  | n :: _ => if n = 63 ∨ n = d then 0 else 1
/-- digit by digit what the tree costs -/
def tab (c : Ck) : Tr → List Nat → Tab
  | .leaf l, ν => digs.filterMap fun d => if (l, d) ∈ c.leaves then some (d, chg ν d) else none
  | .one l a, ν => digs.filterMap fun d => (least ((priced c l d [(a.lab, tab c a (ν.drop 1))]).map (·.1))).map fun s => (d, s + chg ν d)
  | .two l a b, ν => digs.filterMap fun d => (least ((priced c l d [(a.lab, tab c a (ν.drop 1)), (b.lab, tab c b (ν.drop (1 + a.size)))]).map (·.1))).map fun s => (d, s + chg ν d)
def ktabs (c : Ck) (s : Tr) (ν : List Nat) : List (Nat × Tab) := match s with
  | .leaf _ => []
  | .one _ a => [(a.lab, tab c a (ν.drop 1))]
  | .two _ a b => [(a.lab, tab c a (ν.drop 1)), (b.lab, tab c b (ν.drop (1 + a.size)))]
/-- (sum, digits) before (sum, digits) -/
def ltP (p q : Nat × List Nat) : Bool := decide (p.1 < q.1) || (decide (p.1 = q.1) && decide (p.2 < q.2))
def minP : List (Nat × List Nat) → Option (Nat × List Nat)
  | [] => none
  | x :: r => some (r.foldl (fun m y => if ltP y m then y else m) x)
def pick (c : Ck) : Tr → List Nat → Nat → List Nat
  | .leaf _, _, d => [d]
  | .one l a, ν, d => d :: (match minP (priced c l d [(a.lab, tab c a (ν.drop 1))]) with
    | some (_, e :: _) => pick c a (ν.drop 1) e
    | _ => [])
  | .two l a b, ν, d => d :: (match minP (priced c l d [(a.lab, tab c a (ν.drop 1)), (b.lab, tab c b (ν.drop (1 + a.size)))]) with
    | some (_, e :: f :: _) => pick c a (ν.drop 1) e ++ pick c b (ν.drop (1 + a.size)) f
    | _ => [])
def topTab (c : Ck) (t : Tr) (ν : List Nat) : Tab := (tab c t ν).filter fun p => decide ((t.lab, p.1) ∈ c.tops)
def cheapest (c : Ck) (t : Tr) (ν : List Nat) : Option (Nat × List Nat) := match least ((topTab c t ν).map (·.2)) with
  | none => none
  | some k => (match (topTab c t ν).filter fun p => decide (p.2 = k) with
    | [] => none
    | p :: _ => some (k, pick c t ν p.1))
end K64

set_option Elab.async false
set_option linter.all false
set_option maxRecDepth 100000
set_option maxHeartbeats 4000000
/-! WA: more evaluation words for the walks; promises' shapes. -/
namespace K64
open PySem PySem.Spec PyProof.Rows L2 Evl
/-- promises: a value, a list, a tuple -/
def spV (n : Nat) (R : List V → Hp → V → Prop) : Sp := fun vs H Q _ => vs.length = n ∧ ∃ z, R vs H z ∧ RetV z H Q
def spL (n : Nat) (R : List V → Hp → List V → Prop) : Sp := fun vs H Q _ => vs.length = n ∧ ∃ xs, R vs H xs ∧ RetL xs H Q
def RetU (xs : List V) (H : Hp) (Q : VK) : Prop := ∀ p H2, H p = none → Ex H H2 → H2 p = some (.tup xs) → Q (.ref p) H2
def spU (n : Nat) (R : List V → Hp → List V → Prop) : Sp := fun vs H Q _ => vs.length = n ∧ ∃ xs, R vs H xs ∧ RetU xs H Q
section
variable {K : Fg} {σ : L2.St} {H H' : Hp} {ta tb te tx tc : TE} {t u : TT} {x y z v : V} {r : R2}
theorem spv {n : Nat} {R : List V → Hp → V → Prop} {vs : List V} (hl : vs.length = n) (hR : ∀ H1, Ex H H1 → R vs H1 z) : SpV (spV n R) vs H z := fun H1 e Q q E => ⟨hl, z, hR H1 e, q⟩
theorem spl {n : Nat} {R : List V → Hp → List V → Prop} {vs xs : List V} (hl : vs.length = n) (hR : ∀ H1, Ex H H1 → R vs H1 xs) : SpL (spL n R) vs H xs := fun H1 e Q q E => ⟨hl, xs, hR H1 e, q⟩
theorem eu_call {n : Nat} {R : List V → Hp → List V → Prop} {dvs vs xs : List V} {E : XK} {ta : TA} (h : EvA ta σ H vs) (hl : (vs ++ dvs).length = n) (hR : ∀ H1, Ex H H1 → R (vs ++ dvs) H1 xs) : EvU (tCall (spU n R) dvs E ta) σ H xs := fun H1 e Q q =>
  h H1 e _ fun H2 e2 => ⟨hl, xs, hR H2 (e.trans e2), fun p H3 hp e3 h3 => q p H3 (fresh_back e2 hp) (e2.trans e3) h3⟩
theorem ev_callV {n : Nat} {R : List V → Hp → V → Prop} {vs : List V} {E : XK} {ta : TA} (h : EvA ta σ H vs) (hl : vs.length = n) (hR : ∀ H1, Ex H H1 → R vs H1 z) : Ev (tCall (spV n R) [] E ta) σ H z := ev_call h (by rw [List.append_nil]; exact spv hl hR)
theorem el_callL {n : Nat} {R : List V → Hp → List V → Prop} {vs xs : List V} {E : XK} {ta : TA} (h : EvA ta σ H vs) (hl : vs.length = n) (hR : ∀ H1, Ex H H1 → R vs H1 xs) : EvL (tCall (spL n R) [] E ta) σ H xs := el_call h (by rw [List.append_nil]; exact spl hl hR)
theorem EvU.mono {xs : List V} (e : Ex H H') (h : EvU te σ H xs) : EvU te σ H' xs := fun H1 a Q q => h H1 (e.trans a) Q q
theorem ea1 (h : Ev ta σ H x) : EvA (tCons ta tNil) σ H [x] := ea_cons h ea_nil
theorem ea2 (h : Ev ta σ H x) (h2 : Ev tb σ H y) : EvA (tCons ta (tCons tb tNil)) σ H [x, y] := ea_cons h (ea_cons h2 ea_nil)
theorem ea3 (h : Ev ta σ H x) (h2 : Ev tb σ H y) (h3 : Ev tc σ H z) : EvA (tCons ta (tCons tb (tCons tc tNil))) σ H [x, y, z] := ea_cons h (ea_cons h2 (ea_cons h3 ea_nil))
theorem tyx_t {a : Addr} {xs : List V} (h : SqT K H a xs) : TyX K H (.ref a) (.type "tuple") := by
  rcases h with (h | ⟨o, h⟩) | ⟨o, its, n, h1, h2, _⟩
  · exact .base (.tup h)
  · exact .fTuple h
  · exact .kTuple h1 h2
theorem rc_isi {a b : String} {q : Bool} (ty : ∀ H1, Ex H H1 → TyX K H1 x (.type a)) (e : kitB a b = some q) : RC (rIsi K) [x, .ty b] H (.bl q) := fun H1 e1 Q k => ⟨x, .ty b, .type a, .type b, q, rfl, .ty b, ty H1 e1, kit_ty e, k H1 (Ex.refl H1)⟩
theorem isi_str {w : Str} : RC (rIsi K) [.str w, .ty "str"] H (.bl true) := rc_isi (a := "str") (fun _ _ => .base (.str w)) (by decide +kernel)
theorem isi_int {i : Int} : RC (rIsi K) [.int i, .ty "int"] H (.bl true) := rc_isi (a := "int") (fun _ _ => .base (.int i)) (by decide +kernel)
theorem isi_intb {i : Int} : RC (rIsi K) [.int i, .ty "bool"] H (.bl false) := rc_isi (a := "int") (fun _ _ => .base (.int i)) (by decide +kernel)
theorem isi_tup {a : Addr} {xs : List V} (h : SqT K H a xs) : RC (rIsi K) [.ref a, .ty "tuple"] H (.bl true) := rc_isi (a := "tuple") (fun _ e => tyx_t (ex_t e h)) (by decide +kernel)
abbrev rLenC : List V → Hp → VK → Prop := fun xs H Q => ∃ z, xs = [.str z] ∧ z.length ≤ sizeLine ∧ Q (.int z.length) H
theorem rc_lenC {w : Str} (h : w.length ≤ 100000) : RC rLenC [.str w] H (.int w.length) := fun H1 _ Q q => ⟨w, rfl, sz_of h, q H1 (Ex.refl H1)⟩
abbrev rLenQ (K : Fg) : List V → Hp → VK → Prop := fun xs H Q => ∃ p ys, xs = [.ref p] ∧ (SqL K H p ys ∨ SqT K H p ys) ∧ Q (.int ys.length) H
theorem rc_lenL {a : Addr} {xs : List V} (h : SqL K H a xs) : RC (rLenQ K) [.ref a] H (.int (xs.length : Int)) := fun H1 e Q q => ⟨a, xs, rfl, .inl (ex_l e h), q H1 (Ex.refl H1)⟩
theorem rc_lenT {a : Addr} {xs : List V} (h : SqT K H a xs) : RC (rLenQ K) [.ref a] H (.int (xs.length : Int)) := fun H1 e Q q => ⟨a, xs, rfl, .inr (ex_t e h), q H1 (Ex.refl H1)⟩
theorem rv_inS {c : Nat} {w : Str} : RV rInS (.str ⟨#[c]⟩) (.str w) H (.bl (decide (c ∈ w.cps.toList))) := fun H1 _ Q q => ⟨c, w, rfl, rfl, q H1 (Ex.refl H1)⟩
theorem rv_notInS {c : Nat} {w : Str} : RV rNotInS (.str ⟨#[c]⟩) (.str w) H (.bl (!decide (c ∈ w.cps.toList))) := fun H1 _ Q q => ⟨c, w, rfl, rfl, q H1 (Ex.refl H1)⟩
abbrev rLtS : R2 := fun x y H Q => ∃ i j, x = .str i ∧ y = .str j ∧ Q (.bl (decide (i.cps.toList < j.cps.toList))) H
theorem rv_ltS {a b : Str} : RV rLtS (.str a) (.str b) H (.bl (decide (a.cps.toList < b.cps.toList))) := fun H1 _ Q q => ⟨a, b, rfl, rfl, q H1 (Ex.refl H1)⟩
theorem rv_isN : RV (fun x y H Q => y = V.non ∧ Q (.bl (decide (x = .non))) H) x .non H (.bl (decide (x = .non))) := fun H1 _ Q q => ⟨rfl, q H1 (Ex.refl H1)⟩
theorem ev_chain {r r' : R2} {a b : Bool} (ha : Ev ta σ H x) (hb : Ev tb σ H y) (hc : Ev tc σ H z) (h1 : RV r x y H (.bl a)) (h2 : RV r' y z H (.bl b)) : Ev (tChain r r' ta tb tc) σ H (.bl (a && b)) := fun H1 e Q q =>
  ha H1 e _ fun H2 e2 => hb H2 (e.trans e2) _ fun H3 e3 => h1 H3 ((e.trans e2).trans e3) _ fun H4 e4 => ⟨a, rfl, by
    cases a with
    | true =>
      show tc σ H4 _
      exact hc H4 (((e.trans e2).trans e3).trans e4) _ fun H5 e5 => h2 H5 ((((e.trans e2).trans e3).trans e4).trans e5) Q fun H6 e6 => q H6 ((((e2.trans e3).trans e4).trans e5).trans e6)
    | false =>
      show Q (.bl false) H4
      exact q H4 ((e2.trans e3).trans e4)⟩
theorem ev_all {bs : List Bool} (h : EvL te σ H (bs.map V.bl)) : Ev (tCB (rAll K) (tCons te tNil)) σ H (.bl (bs.all id)) := fun H1 e Q q =>
  h H1 e _ fun p H2 _ e2 hp => ⟨p, bs, rfl, sq_of hp, q H2 e2⟩
/-- all of the turns say True -/
theorem ev_allT {n : Nat} {v : Nat → V} (h : EvL te σ H (given n (fun _ => true) v)) (hv : ∀ i, i < n → v i = .bl true) : Ev (tCB (rAll K) (tCons te tNil)) σ H (.bl true) := by
  have e : given n (fun _ => true) v = (List.replicate n true).map V.bl := by
    rw [given_all, List.map_replicate]
    apply List.ext_getElem (by simp)
    intro i h1 h2
    simp at h1 ⊢
    exact hv i h1
  have q := ev_all (K := K) (by rw [← e]; exact h)
  have f : (List.replicate n true).all id = true := by
    rw [List.all_eq_true]
    intro b hb
    exact (List.mem_replicate.mp hb).2
  rw [f] at q
  exact q
theorem et_yes : EvT tYes σ H true := fun H1 _ Q q => q H1 (Ex.refl H1)
theorem eo_none : EvO tNoPart σ H none := fun H1 _ Q q => q H1 (Ex.refl H1)
theorem eu_sl {tl th : TO} {a : Addr} {xs : List V} {lo hi : Option Int} (h : Ev te σ H (.ref a)) (h1 : EvO tl σ H lo) (h2 : EvO th σ H hi) (hs : SqT K H a xs) (hw : ¬ (HT.sIx xs.length 0 lo = 0 ∧ HT.sIx xs.length xs.length hi = xs.length)) : EvU (tSl (rSlT K) te tl th) σ H (cutV xs lo hi) := fun H1 e _ q =>
  h H1 e _ fun H2 e2 => h1 H2 (e.trans e2) _ fun H3 e3 => h2 H3 ((e.trans e2).trans e3) _ fun H4 e4 =>
    ⟨a, xs, rfl, ex_t (((e.trans e2).trans e3).trans e4) hs, hw, fun p hp => q p _ (fresh_back ((e2.trans e3).trans e4) hp) (((e2.trans e3).trans e4).trans (Ex.new hp)) upd_same⟩
theorem ev_slS {tl th : TO} {w : Str} {lo hi : Option Int} (h : Ev te σ H (.str w)) (h1 : EvO tl σ H lo) (h2 : EvO th σ H hi) (hs : w.length ≤ 100000) : Ev (tSl rSlS te tl th) σ H (.str (cutS w lo hi)) := fun H1 e _ q =>
  h H1 e _ fun H2 e2 => h1 H2 (e.trans e2) _ fun H3 e3 => h2 H3 ((e.trans e2).trans e3) _ fun H4 e4 => ⟨w, rfl, sz_of hs, q H4 ((e2.trans e3).trans e4)⟩
/-- some tuple of these -/
def EvS (K : Fg) (te : TE) (σ : L2.St) (H : Hp) (xs : List V) : Prop := ∀ H1, Ex H H1 → ∀ Q : VK, (∀ p H2, Ex H1 H2 → SqT K H2 p xs → Q (.ref p) H2) → te σ H1 Q
theorem EvS.mono {xs : List V} (e : Ex H H') (h : EvS K te σ H xs) : EvS K te σ H' xs := fun H1 a Q q => h H1 (e.trans a) Q q
theorem es_ev {a : Addr} {xs : List V} (h : Ev te σ H (.ref a)) (hx : SqT K H a xs) : EvS K te σ H xs := fun H1 e Q q => h H1 e _ fun H2 e2 => q a H2 e2 (ex_t (e.trans e2) hx)
theorem es_u {xs : List V} (h : EvU te σ H xs) : EvS K te σ H xs := fun H1 e Q q => h H1 e _ fun p H2 _ e2 hp => q p H2 e2 (st_of hp)
theorem es_sl {tl th : TO} {xs : List V} {lo hi : Option Int} (h : EvS K te σ H xs) (h1 : EvO tl σ H lo) (h2 : EvO th σ H hi) : EvS K (tSl (rSlA K) te tl th) σ H (cutV xs lo hi) := fun H1 e _ q =>
  h H1 e _ fun a H2 e2 hs => h1 H2 (e.trans e2) _ fun H3 e3 => h2 H3 ((e.trans e2).trans e3) _ fun H4 e4 =>
    ⟨a, xs, rfl, ex_t (e3.trans e4) hs, fun hw => q a H4 ((e2.trans e3).trans e4) (by
      have ee : cutV xs lo hi = xs := by
        unfold cutV
        rw [hw.1, hw.2]
        simp
      rw [ee]
      exact ex_t (e3.trans e4) hs), fun _ p hp => q p _ (((e2.trans e3).trans e4).trans (Ex.new hp)) (st_of upd_same)⟩
/-- zip over two tuples -/
theorem ej_zipS {xs ys : List V} {n : Nat} (ha : EvS K ta σ H xs) (hb : EvS K tb σ H ys) (hn : n = min xs.length ys.length) : EvJ (RZ.iZipA K (tCons ta (tCons tb tNil))) σ H n (YPair (fun i => xs[i]?) (fun i => ys[i]?)) := fun H1 e R q =>
  ha H1 e _ fun a H2 e2 h2 => hb H2 (e.trans e2) _ fun b H3 e3 h3 => ⟨a, b, xs, ys, rfl, .inr ⟨ex_t e3 h2, h3, q _ _ H3 (e2.trans e3) (fun H4 e4 => ⟨ex_t (e3.trans e4) h2, ex_t e4 h3⟩) (walk_zipT hn)⟩⟩
/-- loops over pairs, whose target is two names -/
theorem s_forP {D : Ends} {tu : TS} {wi : TI} {j k n : Nat} {fo go : Nat → Option V} (h : EvI wi σ H n (YPair fo go)) (e : Ex H H') (Pv : Nat → L2.St → Hp → Prop) (h0 : ∀ H1, Ex H' H1 → Pv 0 σ H1) (hl : ∀ i σ' H1, i ≤ n → Pv i σ' H1 → Ex H H1)
    (hs : ∀ i x y σ' H1, i < n → fo i = some x → go i = some y → Pv i σ' H1 → ∀ H2, Ex H1 H2 → tu { D with nx := Pv (i + 1), ct := Pv (i + 1), bk := D.nx } ((σ'.set j (some x)).set k (some y)) H2) (hd : ∀ σ' H1, Pv n σ' H1 → D.nx σ' H1) : tFor wi (gTup K 2 (gCons (gName j) (gCons (gName k) gNil))) tu D σ H' :=
  s_forI h e Pv h0 hl (fun i x σ' H1 H2 hi p y => by
    obtain ⟨T, a, c, rfl, hT, rfl, h1, h2⟩ := y
    exact ⟨T, [a, c], rfl, st_of upd_same, rfl, a, [c], rfl, c, [], rfl, rfl, hs i a c σ' H1 hi h1 h2 p _ (Ex.new hT)⟩) hd
theorem q_forP {D : Ends} {tu tw : TS} {wi : TI} {j k n : Nat} {fo go : Nat → Option V} (h : EvI wi σ H n (YPair fo go)) (e : Ex H H') (Pv : Nat → L2.St → Hp → Prop) (h0 : ∀ H1, Ex H' H1 → Pv 0 σ H1) (hl : ∀ i σ' H1, i ≤ n → Pv i σ' H1 → Ex H H1)
    (hs : ∀ i x y σ' H1, i < n → fo i = some x → go i = some y → Pv i σ' H1 → ∀ H2, Ex H1 H2 → tu { D with nx := Pv (i + 1), ct := Pv (i + 1), bk := tw D } ((σ'.set j (some x)).set k (some y)) H2) (hd : ∀ σ' H1, Pv n σ' H1 → tw D σ' H1) : tSeq (tFor wi (gTup K 2 (gCons (gName j) (gCons (gName k) gNil))) tu) tw D σ H' :=
  s_forP (D := { D with nx := tw D }) h e Pv h0 hl hs hd
/-- a sign of a text by its place -/
theorem rv_ixC {l : List Nat} {j c : Nat} (hj : l[j]? = some c) (hl : l.length ≤ 100000) : RV rIxS (.str (St l)) (.int (j : Int)) H (.str ⟨#[c]⟩) := by
  refine rv_ixS (by rw [st_len]; exact hl) ?_
  rw [st_list]
  have h := (List.getElem?_eq_some_iff.mp hj).1
  unfold atI
  rw [ixN_nat h]
  exact hj
theorem rv_ixTn {p : Addr} {xs : List V} {j : Nat} (h : SqT K H p xs) (ha : xs[j]? = some v) : RV (rIxT K) (.ref p) (.int (j : Int)) H v := by
  refine rv_ixT h ?_
  unfold atI
  rw [ixN_nat (List.getElem?_eq_some_iff.mp ha).1]
  exact ha
theorem rv_ixLn {p : Addr} {xs : List V} {j : Nat} (h : SqL K H p xs) (ha : xs[j]? = some v) : RV (rIxL K) (.ref p) (.int (j : Int)) H v := by
  refine rv_ixL h ?_
  unfold atI
  rw [ixN_nat (List.getElem?_eq_some_iff.mp ha).1]
  exact ha
end
/-- a sign as a value -/
def sg (c : Nat) : V := .str ⟨#[c]⟩
theorem sg_eq (c : Nat) : sg c = .str (St [c]) := rfl
theorem sgn_st (l : List Nat) : sgn (St l) = l.map sg := by
  unfold sgn
  rw [st_list]
  rfl
theorem let_in {n : Nat} : n ∈ sLET.cps.toList ↔ isLet n := by
  have e : sLET.cps.toList = (List.range 26).map (· + 97) := by decide +kernel
  rw [e]
  unfold isLet
  constructor
  · intro h
    obtain ⟨i, hi, rfl⟩ := List.mem_map.mp h
    have := List.mem_range.mp hi
    omega
  · intro h
    exact List.mem_map.mpr ⟨n - 97, List.mem_range.mpr (by omega), by omega⟩
theorem cap_in {n : Nat} : n ∈ sCAP.cps.toList ↔ 65 ≤ n ∧ n ≤ 90 := by
  have e : sCAP.cps.toList = (List.range 26).map (· + 65) := by decide +kernel
  rw [e]
  constructor
  · intro h
    obtain ⟨i, hi, rfl⟩ := List.mem_map.mp h
    have := List.mem_range.mp hi
    omega
  · intro h
    exact List.mem_map.mpr ⟨n - 65, List.mem_range.mpr (by omega), by omega⟩
theorem dig_in {n : Nat} : n ∈ sDIG.cps.toList ↔ isDig n := by
  have e : sDIG.cps.toList = (List.range 10).map (· + 48) := by decide +kernel
  rw [e]
  unfold isDig
  constructor
  · intro h
    obtain ⟨i, hi, rfl⟩ := List.mem_map.mp h
    have := List.mem_range.mp hi
    omega
  · intro h
    exact List.mem_map.mpr ⟨n - 48, List.mem_range.mpr (by omega), by omega⟩
theorem mkT_len (m : Mk) : (mkT m).length = 2 := rfl
/-- a checker as a value -/
def ChkV (K : Fg) (H : Hp) (v : V) (c : Ck) : Prop := ∃ p a b r, v = .ref p ∧ SqT K H p [.int c.many, .ref a, .ref b, .ref r] ∧ SqT K H a (c.tops.map mkV) ∧ SqT K H b (c.leaves.map mkV) ∧ SqT K H r (c.rows.map fun q => .str (rowT q))
theorem ChkV.mono {K : Fg} {H H' : Hp} {v : V} {c : Ck} (e : Ex H H') (h : ChkV K H v c) : ChkV K H' v c := by
  obtain ⟨p, a, b, r, h0, h1, h2, h3, h4⟩ := h
  exact ⟨p, a, b, r, h0, ex_t e h1, ex_t e h2, ex_t e h3, ex_t e h4⟩
end K64

set_option Elab.async false
set_option linter.all false
set_option maxRecDepth 100000
set_option maxHeartbeats 4000000
/-! W1: the walks of the checks: what is handed in is right. -/
namespace K64
open PySem PySem.Spec PyProof.Rows L2 Evl
section
variable {P : Program} {w : World} {K : Fg} {mg : Str → Option Value} {base : Heap}
/-! ### is_integer -/
def sp_is_integer (K : Fg) : Sp := spV 1 fun vs H z => ∃ i : Int, vs = [.int i] ∧ z = .bl true
abbrev N_is_integer : List Str := ["thing"]
theorem sc_is_integer : FnScope N_is_integer ["thing"] (defScope s_is_integer) := ⟨rfl, rfl, rfl, by decide +kernel, rfl, by decide +kernel, by decide +kernel⟩
theorem ok_is_integer (G : Fs P K mg) : Okf P w K mg base 1 "is_integer" ["thing"] [] (sp_is_integer K) := by
  refine mk_ok G.k_is_integer sc_is_integer (fun f fd F => ⟨[], .nil, FunD.bindsN F fun _ _ _ _ _ _ us hl => match us, hl with | [_], _ => rfl⟩) (fun vs H Q E h => h.1) ?_
  intro f cdv A outer s H vs Q E hr h
  have nd := sc_is_integer.nd
  refine ⟨_, (pss_one (ps_ret (pe_and (pe_callB call_isi rfl G.f_isinstance boot_isinstance (pa_cons (pv 0) (pa_cons (pe_bltn (v := .ty "int") rfl G.f_int boot_int rfl) pa_nil))) (pe_one (pe_not (pe_callB call_isi rfl G.f_isinstance boot_isinstance (pa_cons (pv 0) (pa_cons (pe_bltn (v := .ty "bool") rfl G.f_bool boot_bool rfl) pa_nil)))))))), ?_⟩
  obtain ⟨hl, z, ⟨i, rfl, rfl⟩, q⟩ := h
  exact s_ret (ev_is (ev_andV (ev_cb (ea2 (ev_var rfl) ev_c) isi_int) fun _ => ev_notV (ev_cb (ea2 (ev_var rfl) ev_c) isi_intb)) rfl) fun H1 e => q H1 e
/-! ### is_mark -/
def sp_is_mark (K : Fg) : Sp := spV 1 fun vs H z => ∃ m : Mk, vs = [mkV m] ∧ okM m ∧ z = .bl true
abbrev N_is_mark : List Str := ["thing"]
theorem sc_is_mark : FnScope N_is_mark ["thing"] (defScope s_is_mark) := ⟨rfl, rfl, rfl, by decide +kernel, rfl, by decide +kernel, by decide +kernel⟩
theorem ok_is_mark (G : Fs P K mg) : Okf P w K mg base 1 "is_mark" ["thing"] [] (sp_is_mark K) := by
  refine mk_ok G.k_is_mark sc_is_mark (fun f fd F => ⟨[], .nil, FunD.bindsN F fun _ _ _ _ _ _ us hl => match us, hl with | [_], _ => rfl⟩) (fun vs H Q E h => h.1) ?_
  intro f cdv A outer s H vs Q E hr h
  have nd := sc_is_mark.nd
  refine ⟨_, (pss_one (ps_ret (pe_and (pe_callB call_isi rfl G.f_isinstance boot_isinstance (pa_cons (pv 0) (pa_cons (pe_bltn (v := .ty "str") rfl G.f_str boot_str rfl) pa_nil))) (pe_and (pe_cmpR op_eq (pe_callB call_len_str rfl G.f_len boot_len (pa_cons (pv 0) pa_nil)) pe_int (nomark _)) (pe_and (pe_cmpR op_inS (pe_ix ix_str (pv 0) pe_int (fun _ _ => rfl)) (pe_glob (v := .str sLET) rfl G.c_LETTERS.choose_spec ⟨_, rfl⟩) rfl) (pe_one (pe_cmpR op_inS (pe_ix ix_str (pv 0) pe_int (fun _ _ => rfl)) (pe_glob (v := .str sDIG) rfl G.c_DIGITS.choose_spec ⟨_, rfl⟩) rfl))))))), ?_⟩
  obtain ⟨hl, z, ⟨m, rfl, hm, rfl⟩, q⟩ := h
  have h0 : ∀ {H}, Ev (tVar 0) (start N_is_mark [mkV m]) H (.str (St [m.1, m.2])) := ev_var rfl
  refine s_ret (ev_is (ev_andV (ev_cb (ea2 h0 ev_c) isi_str) fun _ => ev_andV (ev_op (ev_cb (ea1 h0) (rc_lenC (by rw [st_len]; show 2 ≤ 100000; omega))) ev_c (rv_eq rfl)) fun _ => ev_andV (ev_op (ev_op h0 ev_c (rv_ixC (j := 0) rfl (by simp))) ev_c rv_inS) fun _ =>
    ev_op (ev_op h0 ev_c (rv_ixC (j := 1) rfl (by simp))) ev_c rv_inS) ?_) fun H1 e => q H1 e
  rw [decide_eq_true (let_in.mpr hm.1), decide_eq_true (dig_in.mpr hm.2)]
  rfl
/-! ### is_many -/
def sp_is_many (K : Fg) : Sp := spV 1 fun vs H z => ∃ i : Int, vs = [.int i] ∧ 1 ≤ i ∧ i ≤ 2 ∧ z = .bl true
abbrev N_is_many : List Str := ["thing"]
theorem sc_is_many : FnScope N_is_many ["thing"] (defScope s_is_many) := ⟨rfl, rfl, rfl, by decide +kernel, rfl, by decide +kernel, by decide +kernel⟩
theorem ok_is_many (G : Fs P K mg) : Okf P w K mg base 2 "is_many" ["thing"] [] (sp_is_many K) := by
  refine mk_ok G.k_is_many sc_is_many (fun f fd F => ⟨[], .nil, FunD.bindsN F fun _ _ _ _ _ _ us hl => match us, hl with | [_], _ => rfl⟩) (fun vs H Q E h => h.1) ?_
  intro f cdv A outer s H vs Q E hr h
  have nd := sc_is_many.nd
  refine ⟨_, (pss_one (ps_ret (pe_and (pe_ok (ok_is_integer G) hr (by decide) rfl (pa_cons (pv 0) pa_nil)) (pe_one (pe_chain op_le op_le pe_int (pv 0) pe_int))))), ?_⟩
  obtain ⟨hl, z, ⟨i, rfl, h1, h2, rfl⟩, q⟩ := h
  refine s_ret (ev_is (ev_andV (ev_callV (ea1 (ev_var rfl)) rfl fun _ _ => ⟨i, rfl, rfl⟩) fun _ => ev_chain ev_c (ev_var rfl) ev_c rv_I0 rv_I0) ?_) fun H1 e => q H1 e
  rw [decide_eq_true h1, decide_eq_true h2]
  rfl
/-! ### are_ascending -/
def sp_are_ascending (K : Fg) : Sp := spV 1 fun vs H z => ∃ (a : Addr) (ts : List Str), vs = [.ref a] ∧ SqT K H a (ts.map V.str) ∧ ts.length ≤ 300 ∧ ts.Pairwise ltS ∧ z = .bl true
theorem cut_tail (xs : List V) : cutV xs (some 1) none = xs.tail := by
  have e2 : HT.sIx xs.length xs.length none = xs.length := rfl
  unfold cutV
  rw [e2]
  cases xs with
  | nil => rfl
  | cons x r =>
    have e : HT.sIx (x :: r).length 0 (some 1) = 1 := by
      unfold HT.sIx
      simp
    rw [e]
    simp
theorem getD_of {α : Type} {xs : List α} {i : Nat} {d : α} (h : i < xs.length) : xs[i]? = some (xs.getD i d) := by simp [List.getD, h]
abbrev N_are_ascending : List Str := ["things", "one", "other"]
theorem sc_are_ascending : FnScope N_are_ascending ["things"] (defScope s_are_ascending) := ⟨rfl, rfl, rfl, by decide +kernel, rfl, by decide +kernel, by decide +kernel⟩
theorem ok_are_ascending (G : Fs P K mg) : Okf P w K mg base 1 "are_ascending" ["things"] [] (sp_are_ascending K) := by
  refine mk_ok G.k_are_ascending sc_are_ascending (fun f fd F => ⟨[], .nil, FunD.bindsN F fun _ _ _ _ _ _ us hl => match us, hl with | [_], _ => rfl⟩) (fun vs H Q E h => h.1) ?_
  intro f cdv A outer s H vs Q E hr h
  have nd := sc_are_ascending.nd
  refine ⟨_, (pss_one (ps_ret (pe_callB (cr_all rfl) rfl G.f_all boot_all (pa_cons (pe_lc (g := gTup K 2 (gCons (gName 1) (gCons (gName 2) gNil))) rfl nd (RZ.pi_zipA rfl G.f_zip (pa_cons (pv 0) (pa_cons (pe_slice sl_tupA (pv 0) (po_some pe_int) po_none) pa_nil))) (blkOk_by (own := [("one", 1), ("other", 2)]) (N := N_are_ascending) (sc := defScope s_are_ascending) (by decide +kernel)) (fun _ _ _ _ _ => (pg_two (i := 1) (j := 2) rfl nd rfl rfl rfl rfl)) (fun _ _ _ _ _ => pts_nil) (fun _ _ _ _ _ => (pe_cmpR op_lt_str (pv 1) (pv 2) (nomark _)))) pa_nil)))), ?_⟩
  obtain ⟨hl, z, ⟨a, ts, rfl, ha, hz, hp, rfl⟩, q⟩ := h
  have hs0 : EvS K (tVar 0) (start N_are_ascending [.ref a]) H (ts.map V.str) := es_ev (ev_var rfl) ha
  have hs1 := es_sl hs0 (eo_some (ev_c (v := .int 1))) eo_none
  rw [cut_tail] at hs1
  refine s_ret (ev_allT (el_lc2 (fun _ => true) (fun _ => .bl true) (f := fun i => (ts.map V.str).getD i .non) (g := fun i => (ts.map V.str).tail.getD i .non) (ej_zipS hs0 hs1 rfl) (by simp; omega) (fun i hi => getD_of (by simp at hi ⊢; omega)) (fun i hi => getD_of (by simp at hi ⊢; omega)) (fun _ _ => rfl) (fun _ _ _ _ => et_yes) fun i H1 e hi _ => ?_) fun _ _ => rfl) fun H1 e => q H1 e
  have h1 : i + 1 < ts.length := by simp at hi; omega
  have hlt : ts[i].cps.toList < ts[i + 1].cps.toList := List.pairwise_iff_getElem.mp hp i (i + 1) (by omega) h1 (by omega)
  refine ev_is (ev_op (x := .str ts[i]) (y := .str ts[i + 1]) (ev_var ?_) (ev_var ?_) rv_ltS) (by rw [decide_eq_true hlt])
  · show some (some ((ts.map V.str).getD i .non)) = _
    simp [List.getD, show i < ts.length by omega]
  · show some (some ((ts.map V.str).tail.getD i .non)) = _
    simp [List.getD, h1]
/-! ### are_marks -/
def sp_are_marks (K : Fg) : Sp := spV 1 fun vs H z => ∃ (a : Addr) (ms : List Mk), vs = [.ref a] ∧ SqT K H a (ms.map mkV) ∧ ms.length ≤ 300 ∧ (∀ m ∈ ms, okM m) ∧ (ms.map mkT).Pairwise ltS ∧ z = .bl true
abbrev N_are_marks : List Str := ["thing", "one"]
theorem sc_are_marks : FnScope N_are_marks ["thing"] (defScope s_are_marks) := ⟨rfl, rfl, rfl, by decide +kernel, rfl, by decide +kernel, by decide +kernel⟩
theorem ok_are_marks (G : Fs P K mg) : Okf P w K mg base 2 "are_marks" ["thing"] [] (sp_are_marks K) := by
  refine mk_ok G.k_are_marks sc_are_marks (fun f fd F => ⟨[], .nil, FunD.bindsN F fun _ _ _ _ _ _ us hl => match us, hl with | [_], _ => rfl⟩) (fun vs H Q E h => h.1) ?_
  intro f cdv A outer s H vs Q E hr h
  have nd := sc_are_marks.nd
  refine ⟨_, (pss_one (ps_ret (pe_and (pe_callB call_isi rfl G.f_isinstance boot_isinstance (pa_cons (pv 0) (pa_cons (pe_bltn (v := .ty "tuple") rfl G.f_tuple boot_tuple rfl) pa_nil))) (pe_and (pe_callB (cr_all rfl) rfl G.f_all boot_all (pa_cons (pe_lc (g := gName 1) rfl nd (pi_tup (pv 0)) (blkOk_by (own := [("one", 1)]) (N := N_are_marks) (sc := defScope s_are_marks) (by decide +kernel)) (fun _ _ _ _ _ => (pg_name (i := 1) nd rfl (Or.inl rfl))) (fun _ _ _ _ _ => pts_nil) (fun _ _ _ _ _ => (pe_ok (ok_is_mark G) hr (by decide) rfl (pa_cons (pv 1) pa_nil)))) pa_nil)) (pe_one (pe_ok (ok_are_ascending G) hr (by decide) rfl (pa_cons (pv 0) pa_nil))))))), ?_⟩
  obtain ⟨hl, z, ⟨a, ms, rfl, ha, hz, hm, hp, rfl⟩, q⟩ := h
  refine s_ret (ev_is (ev_andV (ev_cb (ea2 (ev_var rfl) ev_c) (isi_tup ha)) fun _ => ev_andV (ev_allT (el_lc (fun _ => true) (fun _ => .bl true) (f := fun i => (ms.map mkV).getD i .non) (ei_tup (ev_var rfl) ha).j (by simp; omega) (fun i H1 x H2 hi y => ?_) (fun _ => rfl) (fun _ _ _ _ => et_yes) fun i H1 e hi _ =>
    ev_callV (ea1 (ev_var rfl)) rfl fun _ _ => ?_) fun _ _ => rfl) fun _ => ev_callV (ea1 (ev_var rfl)) rfl fun H1 e => ⟨a, ms.map mkT, rfl, ?_, ?_, hp, rfl⟩) rfl) fun H1 e => q H1 e
  · obtain ⟨rfl, y⟩ := y
    exact ⟨rfl, by have := getD_of (d := V.non) hi; rw [this] at y; exact (Option.some.inj y).symm⟩
  · have h1 : i < ms.length := by simpa using hi
    refine ⟨ms[i], ?_, hm _ (List.getElem_mem h1), rfl⟩
    simp [List.getD, h1]
  · rw [List.map_map]
    exact ex_t e ha
  · simpa using hz
/-! ### marks_of_row -/
def sp_marks_of_row (K : Fg) : Sp := spL 1 fun vs H xs => ∃ r : List Mk, vs = [.str (rowT r)] ∧ (r.length = 2 ∨ r.length = 3) ∧ xs = r.map mkV
theorem rowT_len (r : List Mk) : (rowT r).length = 2 * r.length := by
  unfold rowT
  rw [st_len]
  induction r with
  | nil => rfl
  | cons m r ih => simp [List.flatMap_cons, ih]; omega
theorem row_cut {r : List Mk} (hr : r.length = 2 ∨ r.length = 3) {i : Nat} (hi : i < r.length) : cutS (rowT r) (some (0 + (i : Int) * 2)) (some (0 + (i : Int) * 2 + 2)) = mkT r[i] := by
  match r, hr, hi with
  | [a, b], _, hi =>
    have : i = 0 ∨ i = 1 := by simp at hi; omega
    rcases this with rfl | rfl <;> rfl
  | [a, b, c], _, hi =>
    have : i = 0 ∨ i = 1 ∨ i = 2 := by simp at hi; omega
    rcases this with rfl | rfl | rfl <;> rfl
theorem row_rg {n : Nat} (h : n = 2 ∨ n = 3) : RgC 0 ((2 * n : Nat) : Int) 2 n := by
  rcases h with rfl | rfl <;> exact ⟨by decide, by decide, by decide +kernel, by decide +kernel⟩
abbrev N_marks_of_row : List Str := ["row", "k"]
theorem sc_marks_of_row : FnScope N_marks_of_row ["row"] (defScope s_marks_of_row) := ⟨rfl, rfl, rfl, by decide +kernel, rfl, by decide +kernel, by decide +kernel⟩
theorem ok_marks_of_row (G : Fs P K mg) : Okf P w K mg base 1 "marks_of_row" ["row"] [] (sp_marks_of_row K) := by
  refine mk_ok G.k_marks_of_row sc_marks_of_row (fun f fd F => ⟨[], .nil, FunD.bindsN F fun _ _ _ _ _ _ us hl => match us, hl with | [_], _ => rfl⟩) (fun vs H Q E h => h.1) ?_
  intro f cdv A outer s H vs Q E hr h
  have nd := sc_marks_of_row.nd
  refine ⟨_, (pss_one (ps_ret (pe_lc (g := gName 1) rfl nd (pi_range3 rfl G.f_range (pa_cons pe_int (pa_cons (pe_callB call_len_str rfl G.f_len boot_len (pa_cons (pv 0) pa_nil)) (pa_cons pe_int pa_nil)))) (blkOk_by (own := [("k", 1)]) (N := N_marks_of_row) (sc := defScope s_marks_of_row) (by decide +kernel)) (fun _ _ _ _ _ => (pg_name (i := 1) nd rfl (Or.inl rfl))) (fun _ _ _ _ _ => pts_nil) (fun _ _ _ _ _ => (pe_slice sl_str (pv 0) (po_some (pv 1)) (po_some (pe_op op_add (pv 1) pe_int))))))), ?_⟩
  obtain ⟨hl, xs, ⟨r, rfl, hr, rfl⟩, q⟩ := h
  have hlen : (rowT r).length ≤ 100000 := by rw [rowT_len]; omega
  have ha := ea3 (σ := start N_marks_of_row [.str (rowT r)]) (H := H) (ev_c (v := .int 0)) (ev_cb (ea1 (ev_var (i := 0) rfl)) (rc_lenC hlen)) (ev_c (v := .int 2))
  rw [rowT_len] at ha
  refine s_retL (xs := r.map mkV) ?_ fun p H1 hp e h1 => q p H1 hp e h1
  have g := el_lc (vs := [1]) (j := 1) (t := tYes) (te := tSl rSlS (tVar 0) (tPart (tVar 1)) (tPart (tOp (rI0 fun i j => .int (i + j)) (tVar 1) (tC (.int 2))))) (fun _ => true) (fun i => .str (cutS (rowT r) (some (0 + (i : Int) * 2)) (some (0 + (i : Int) * 2 + 2)))) (f := fun i => .int (0 + (i : Nat) * 2)) (ei_rng3 ha (row_rg hr)).j (by omega) (fun i H1 x H2 hi y => y)
    (fun _ => rfl) (fun _ _ _ _ => et_yes) fun i H1 e hi _ => ev_slS (ev_var rfl) (eo_some (ev_var rfl)) (eo_some (ev_op (ev_var rfl) ev_c rv_I0)) hlen
  rw [given_list r (fun _ => true) mkV _ _ (fun _ _ => rfl) (fun i hi => by rw [row_cut hr hi]; rfl), List.filter_eq_self.mpr (fun _ _ => rfl)] at g
  exact g
/-! ### is_row -/
def sp_is_row (K : Fg) : Sp := spV 2 fun vs H z => ∃ (m : Nat) (r : List Mk), vs = [.int m, .str (rowT r)] ∧ (m = 1 ∨ m = 2) ∧ r.length = m + 1 ∧ (∀ q ∈ r, okM q) ∧ z = .bl true
abbrev N_is_row : List Str := ["many", "thing", "mark"]
theorem sc_is_row : FnScope N_is_row ["many", "thing"] (defScope s_is_row) := ⟨rfl, rfl, rfl, by decide +kernel, rfl, by decide +kernel, by decide +kernel⟩
theorem ok_is_row (G : Fs P K mg) : Okf P w K mg base 2 "is_row" ["many", "thing"] [] (sp_is_row K) := by
  refine mk_ok G.k_is_row sc_is_row (fun f fd F => ⟨[], .nil, FunD.bindsN F fun _ _ _ _ _ _ us hl => match us, hl with | [_, _], _ => rfl⟩) (fun vs H Q E h => h.1) ?_
  intro f cdv A outer s H vs Q E hr h
  have nd := sc_is_row.nd
  refine ⟨_, (pss_cons (ps_if (PW.pt (pw_or (pt_not (pt_val (pe_callB call_isi rfl G.f_isinstance boot_isinstance (pa_cons (pv 1) (pa_cons (pe_bltn (v := .ty "str") rfl G.f_str boot_str rfl) pa_nil))))) (pw_or1 (pt_cmpR op_ne (pe_callB call_len_str rfl G.f_len boot_len (pa_cons (pv 1) pa_nil)) (pe_op op_add (pe_op op_mul pe_int (pv 0)) pe_int) (nomark _))))) (pss_one (ps_ret pe_bl)) pss_nil)
  (pss_one (ps_ret (pe_callB (cr_all rfl) rfl G.f_all boot_all (pa_cons (pe_lc (g := gName 2) rfl nd (pi_list (pe_ok (ok_marks_of_row G) hr (by decide) rfl (pa_cons (pv 1) pa_nil))) (blkOk_by (own := [("mark", 2)]) (N := N_is_row) (sc := defScope s_is_row) (by decide +kernel)) (fun _ _ _ _ _ => (pg_name (i := 2) nd rfl (Or.inl rfl))) (fun _ _ _ _ _ => pts_nil) (fun _ _ _ _ _ => (pe_ok (ok_is_mark G) hr (by decide) rfl (pa_cons (pv 2) pa_nil)))) pa_nil))))), ?_⟩
  obtain ⟨hl, z, ⟨m, r, rfl, hm, hr, ho, rfl⟩, q⟩ := h
  have hlen : (rowT r).length ≤ 100000 := by rw [rowT_len]; omega
  refine s_when (b := false) ?_ (fun h => nomatch h) fun _ H1 e1 => ?_
  · refine et_is (et_or (a := false) (et_is (et_not (et_B (ev_cb (ea2 (ev_var rfl) ev_c) isi_str))) rfl) fun _ => et_test (ev_op (ev_cb (ea1 (ev_var rfl)) (rc_lenC hlen)) (ev_op (ev_op ev_c (ev_var rfl) (rv_I (by unfold CMul; omega))) ev_c rv_I0) (rv_ne rfl))) ?_
    rw [rowT_len, hr]
    show (!decide (V.int ((2 * (m + 1) : Nat) : Int) = V.int (2 * (m : Int) + 2))) = false
    rw [show ((2 * (m + 1) : Nat) : Int) = 2 * (m : Int) + 2 by omega]
    simp
  · refine s_ret (ev_allT (el_lc (fun _ => true) (fun _ => .bl true) (f := fun i => (r.map mkV).getD i .non) (ej_list (xs := r.map mkV) (el_callL (ea1 (ev_var rfl)) rfl fun _ _ => ⟨r, rfl, by omega, rfl⟩)) (by simp; omega) (fun i H1 x H2 hi y => ?_) (fun _ => rfl) (fun _ _ _ _ => et_yes) fun i H1 e hi _ =>
      ev_callV (ea1 (ev_var (v := (r.map mkV).getD i .non) rfl)) rfl fun _ _ => ?_) fun _ _ => rfl) fun H2 e2 => q H2 (e1.trans e2)
    · obtain ⟨rfl, y⟩ := y
      exact ⟨rfl, by have := getD_of (d := V.non) hi; rw [this] at y; exact (Option.some.inj y).symm⟩
    · have h1 : i < r.length := by simpa using hi
      refine ⟨r[i], ?_, ho _ (List.getElem_mem h1), rfl⟩
      simp [List.getD, h1]
/-! ### is_tuple_of -/
def sp_is_tuple_of (K : Fg) : Sp := spV 2 fun vs H z => ∃ (a : Addr) (xs : List V), vs = [.ref a, .int xs.length] ∧ SqT K H a xs ∧ z = .bl true
abbrev N_is_tuple_of : List Str := ["thing", "size"]
theorem sc_is_tuple_of : FnScope N_is_tuple_of ["thing", "size"] (defScope s_is_tuple_of) := ⟨rfl, rfl, rfl, by decide +kernel, rfl, by decide +kernel, by decide +kernel⟩
theorem ok_is_tuple_of (G : Fs P K mg) : Okf P w K mg base 1 "is_tuple_of" ["thing", "size"] [] (sp_is_tuple_of K) := by
  refine mk_ok G.k_is_tuple_of sc_is_tuple_of (fun f fd F => ⟨[], .nil, FunD.bindsN F fun _ _ _ _ _ _ us hl => match us, hl with | [_, _], _ => rfl⟩) (fun vs H Q E h => h.1) ?_
  intro f cdv A outer s H vs Q E hr h
  have nd := sc_is_tuple_of.nd
  refine ⟨_, (pss_one (ps_ret (pe_and (pe_callB call_isi rfl G.f_isinstance boot_isinstance (pa_cons (pv 0) (pa_cons (pe_bltn (v := .ty "tuple") rfl G.f_tuple boot_tuple rfl) pa_nil))) (pe_one (pe_cmpR op_eq (pe_callB call_len_seq rfl G.f_len boot_len (pa_cons (pv 0) pa_nil)) (pv 1) (nomark _)))))), ?_⟩
  obtain ⟨hl, z, ⟨a, xs, rfl, ha, rfl⟩, q⟩ := h
  refine s_ret (ev_is (ev_andV (ev_cb (ea2 (ev_var rfl) ev_c) (isi_tup ha)) fun _ => ev_op (ev_cb (ea1 (ev_var rfl)) (rc_lenT ha)) (ev_var rfl) (rv_eq rfl)) ?_) fun H1 e => q H1 e
  simp
/-! ### signs_fault -/
def lack (m : Int) : List Nat → Int
  | [] => 0
  | c :: r => (if 65 ≤ c ∧ c ≤ 90 then m - 1 else -1) + lack m r
theorem lack_app (m : Int) : ∀ a b : List Nat, lack m (a ++ b) = lack m a + lack m b
  | [], b => by simp [lack]
  | c :: r, b => by simp [lack, lack_app m r b]; omega
theorem lack_tr (m : Nat) : ∀ t : Tr, t.Ok m → lack m t.signs = -1 ∧ ∀ i, i < t.size → 0 ≤ lack m (t.signs.take i)
  | .leaf l, h => by
    have : ¬ (65 ≤ l ∧ l ≤ 90) := by have := h.1; omega
    refine ⟨by simp [Tr.signs, lack, this], fun i hi => ?_⟩
    have : i = 0 := by simp [Tr.size] at hi; omega
    subst this
    simp [lack]
  | .one l a, h => by
    obtain ⟨hm, hl, ha⟩ := h
    obtain ⟨h1, h2⟩ := lack_tr m a ha
    have hc : 65 ≤ l - 32 ∧ l - 32 ≤ 90 := by unfold isLet at hl; omega
    refine ⟨by simp only [Tr.signs, lack, if_pos hc, h1]; omega, fun i hi => ?_⟩
    rcases i with _ | i
    · simp [lack]
    · simp only [Tr.signs, List.take_succ_cons, lack, if_pos hc]
      have := h2 i (by simp [Tr.size] at hi; omega)
      omega
  | .two l a b, h => by
    obtain ⟨hm, hl, ha, hb⟩ := h
    obtain ⟨h1, h2⟩ := lack_tr m a ha
    obtain ⟨h3, h4⟩ := lack_tr m b hb
    have hc : 65 ≤ l - 32 ∧ l - 32 ≤ 90 := by unfold isLet at hl; omega
    refine ⟨by simp only [Tr.signs, lack, if_pos hc, lack_app, h1, h3]; omega, fun i hi => ?_⟩
    rcases i with _ | i
    · simp [lack]
    · simp only [Tr.signs, List.take_succ_cons, lack, if_pos hc]
      simp only [Tr.size] at hi
      by_cases hs : i < a.size
      · rw [List.take_append_of_le_length (by rw [Tr.signs_len]; omega)]
        have := h2 i hs
        omega
      · rw [List.take_append, List.take_of_length_le (by rw [Tr.signs_len]; omega), lack_app, h1]
        have := h4 (i - a.signs.length) (by rw [Tr.signs_len]; omega)
        omega
theorem sign_let {t : Tr} {m : Nat} (h : t.Ok m) {i c : Nat} (hc : t.signs[i]? = some c) : isLet c ∨ (65 ≤ c ∧ c ≤ 90) := by
  rw [Tr.signs_subs, List.getElem?_map] at hc
  obtain ⟨s, hs, rfl⟩ := Option.map_eq_some_iff.mp hc
  have o := Tr.ok_at h hs
  cases s with
  | leaf l => exact Or.inl o
  | one l a => have := o.2.1; unfold isLet at this; right; simp only [Tr.sign]; omega
  | two l a b => have := o.2.1; unfold isLet at this; right; simp only [Tr.sign]; omega
def sp_signs_fault (K : Fg) : Sp := spV 2 fun vs H z => ∃ (m : Nat) (t : Tr), vs = [.int m, .str (St t.signs)] ∧ t.Ok m ∧ t.size ≤ 1000 ∧ z = .non
/-- what the loop keeps -/
def Sf (m : Nat) (t : Tr) (H0 : Hp) (i : Nat) (σ : L2.St) (H : Hp) : Prop := Ex H0 H ∧ ∃ a b, σ = [some (.int m), some (.str (St t.signs)), some (.int (1 + lack m (t.signs.take i))), a, b]
abbrev N_signs_fault : List Str := ["many", "text", "lacking", "i", "sign"]
theorem sc_signs_fault : FnScope N_signs_fault ["many", "text"] (defScope s_signs_fault) := ⟨rfl, rfl, rfl, by decide +kernel, rfl, by decide +kernel, by decide +kernel⟩
theorem ok_signs_fault (G : Fs P K mg) : Okf P w K mg base 1 "signs_fault" ["many", "text"] [] (sp_signs_fault K) := by
  refine mk_ok G.k_signs_fault sc_signs_fault (fun f fd F => ⟨[], .nil, FunD.bindsN F fun _ _ _ _ _ _ us hl => match us, hl with | [_, _], _ => rfl⟩) (fun vs H Q E h => h.1) ?_
  intro f cdv A outer s H vs Q E hr h
  have nd := sc_signs_fault.nd
  refine ⟨_, (pss_cons (ps_set (i := 2) nd rfl (Or.inl rfl) pe_int)
  (pss_cons (ps_for PassesOwn.never rfl (pi_enumS rfl G.f_enumerate (pa_cons (pv 1) pa_nil)) (pg_two (i := 3) (j := 4) rfl nd rfl rfl rfl rfl)
  (pss_cons (ps_if (PW.pt (pw_and (pt_cmpR op_notInS (pv 4) (pe_glob (v := .str sLET) rfl G.c_LETTERS.choose_spec ⟨_, rfl⟩) rfl) (pw_and1 (pt_cmpR op_notInS (pv 4) (pe_glob (v := .str sCAP) rfl G.c_CAPITALS.choose_spec ⟨_, rfl⟩) rfl)))) (pss_one (ps_ret (pe_tup (pa_cons pe_str (pa_cons (pv 3) pa_nil))))) pss_nil)
  (pss_cons (ps_if (pt_cmpR op_eq (pv 2) pe_int (nomark _)) (pss_one (ps_ret (pe_tup (pa_cons pe_str (pa_cons (pv 3) pa_nil))))) pss_nil)
  (pss_one (ps_aug (i := 2) nd rfl (Or.inl rfl) (pe_ifExp (pt_cmpR op_inS (pv 4) (pe_glob (v := .str sCAP) rfl G.c_CAPITALS.choose_spec ⟨_, rfl⟩) rfl) (pe_op op_sub (pv 0) pe_int) (pe_un un_neg pe_int)) ip_add)))))
  (pss_one (ps_ret (pe_ifExp (pt_cmpR op_gt (pv 2) pe_int (nomark _)) (pe_tup (pa_cons pe_str (pa_cons (pv 2) pa_nil))) pe_non))))), ?_⟩
  obtain ⟨hl, z, ⟨m, t, rfl, ht, hz, rfl⟩, q⟩ := h
  refine q_asg ev_c fun H1 e1 => ?_
  refine q_forP (ei_enumS (ea1 (ev_var rfl))) (Ex.refl _) (Sf m t H1) (fun H2 e2 => ⟨e2, none, none, rfl⟩) (fun i σ' H2 _ p => p.1) (fun i x y σ' H2 hi hx hy p H3 e3 => ?_) (fun σ' H2 p => ?_)
  · obtain ⟨e2, a, b, rfl⟩ := p
    rw [st_size, Tr.signs_len] at hi
    obtain ⟨c, hc⟩ : ∃ c, t.signs[i]? = some c := ⟨_, List.getElem?_eq_getElem (by rw [Tr.signs_len]; exact hi)⟩
    rw [sgn_st, List.getElem?_map, hc] at hy
    obtain rfl := Option.some.inj hy
    have hk := sign_let ht hc
    have hn := (lack_tr m t ht).2 i hi
    have hcv : ∀ {H}, Ev (tVar 4) (((([some (.int m), some (.str (St t.signs)), some (.int (1 + lack m (t.signs.take i))), a, b] : L2.St).set 3 (some x)).set 4 (some (sg c)))) H (.str ⟨#[c]⟩) := ev_var rfl
    refine q_when (b := false) (et_is (et_and (et_test (ev_op hcv ev_c rv_notInS)) fun _ => et_test (ev_op hcv ev_c rv_notInS)) ?_) (fun h => nomatch h) fun _ H4 e4 => ?_
    · rcases hk with hk | hk
      · rw [decide_eq_true (let_in.mpr hk)]; rfl
      · rw [decide_eq_true (cap_in.mpr hk)]; simp
    refine q_when (b := false) (et_is (et_test (ev_op (ev_var rfl) ev_c (rv_eq rfl))) ?_) (fun h => nomatch h) fun _ H5 e5 => ?_
    · apply decide_eq_false
      intro z
      have := V.int.inj z
      omega
    refine s_aug (b := if 65 ≤ c ∧ c ≤ 90 then (m : Int) - 1 else -1) rfl (ev_if (b := decide (65 ≤ c ∧ c ≤ 90)) (et_is (et_test (ev_op hcv ev_c rv_inS)) (by simp only [cap_in])) (fun h => ?_) (fun h => ?_)) fun H6 e6 => ⟨((e2.trans e3).trans e4).trans (e5.trans e6), x, sg c, ?_⟩
    · rw [if_pos (of_decide_eq_true h)]
      exact ev_op (ev_var rfl) ev_c rv_I0
    · rw [if_neg (of_decide_eq_false h)]
      exact ev_un ev_c ru_neg
    · have ee : t.signs.take (i + 1) = t.signs.take i ++ [c] := by rw [List.take_succ, hc]; rfl
      rw [ee, lack_app]
      simp only [lack, Int.add_zero, List.set]
      rw [Int.add_assoc]
  · obtain ⟨e2, a, b, rfl⟩ := p
    refine s_ret (ev_if (b := false) (et_is (et_test (ev_op (ev_var rfl) ev_c rv_I0)) ?_) (fun h => nomatch h) fun _ => ev_c) fun H3 e3 => q H3 ((e1.trans e2).trans e3)
    rw [List.take_of_length_le (by rw [st_size]; exact Nat.le_refl _), (lack_tr m t ht).1]
    rfl
/-! ### is_tree -/
def sp_is_tree (K : Fg) : Sp := spV 2 fun vs H z => ∃ (m : Nat) (t : Tr), vs = [.int m, .str (St t.signs)] ∧ (m = 1 ∨ m = 2) ∧ t.Ok m ∧ t.size ≤ 1000 ∧ z = .bl true
abbrev N_is_tree : List Str := ["many", "thing"]
theorem sc_is_tree : FnScope N_is_tree ["many", "thing"] (defScope s_is_tree) := ⟨rfl, rfl, rfl, by decide +kernel, rfl, by decide +kernel, by decide +kernel⟩
theorem ok_is_tree (G : Fs P K mg) : Okf P w K mg base 3 "is_tree" ["many", "thing"] [] (sp_is_tree K) := by
  refine mk_ok G.k_is_tree sc_is_tree (fun f fd F => ⟨[], .nil, FunD.bindsN F fun _ _ _ _ _ _ us hl => match us, hl with | [_, _], _ => rfl⟩) (fun vs H Q E h => h.1) ?_
  intro f cdv A outer s H vs Q E hr h
  have nd := sc_is_tree.nd
  refine ⟨_, (pss_one (ps_ret (pe_and (pe_ok (ok_is_many G) hr (by decide) rfl (pa_cons (pv 0) pa_nil)) (pe_and (pe_callB call_isi rfl G.f_isinstance boot_isinstance (pa_cons (pv 1) (pa_cons (pe_bltn (v := .ty "str") rfl G.f_str boot_str rfl) pa_nil))) (pe_one (pe_cmpR op_isN (pe_ok (ok_signs_fault G) hr (by decide) rfl (pa_cons (pv 0) (pa_cons (pv 1) pa_nil))) pe_non (nomark _))))))), ?_⟩
  obtain ⟨hl, z, ⟨m, t, rfl, hm, ht, hz, rfl⟩, q⟩ := h
  exact s_ret (ev_is (ev_andV (ev_callV (ea1 (ev_var rfl)) rfl fun _ _ => ⟨m, rfl, by omega, by omega, rfl⟩) fun _ => ev_andV (ev_cb (ea2 (ev_var rfl) ev_c) isi_str) fun _ => ev_op (ev_callV (ea2 (ev_var rfl) (ev_var rfl)) rfl fun _ _ => ⟨m, t, rfl, ht, hz, rfl⟩) ev_c rv_isN) rfl) fun H1 e => q H1 e
/-! ### is_notes -/
def okN (ν : List Nat) : Prop := ν ≠ [] ∧ ∀ c ∈ ν, isDig c ∨ c = 63
def sp_is_notes (K : Fg) : Sp := spV 1 fun vs H z => ∃ ν : List Nat, vs = [.str (St ν)] ∧ okN ν ∧ ν.length ≤ 1000 ∧ z = .bl true
abbrev N_is_notes : List Str := ["thing", "sign"]
theorem sc_is_notes : FnScope N_is_notes ["thing"] (defScope s_is_notes) := ⟨rfl, rfl, rfl, by decide +kernel, rfl, by decide +kernel, by decide +kernel⟩
theorem ok_is_notes (G : Fs P K mg) : Okf P w K mg base 1 "is_notes" ["thing"] [] (sp_is_notes K) := by
  refine mk_ok G.k_is_notes sc_is_notes (fun f fd F => ⟨[], .nil, FunD.bindsN F fun _ _ _ _ _ _ us hl => match us, hl with | [_], _ => rfl⟩) (fun vs H Q E h => h.1) ?_
  intro f cdv A outer s H vs Q E hr h
  have nd := sc_is_notes.nd
  refine ⟨_, (pss_one (ps_ret (pe_and (pe_callB call_isi rfl G.f_isinstance boot_isinstance (pa_cons (pv 0) (pa_cons (pe_bltn (v := .ty "str") rfl G.f_str boot_str rfl) pa_nil))) (pe_and (pe_cmpR op_ne (pv 0) pe_str (nomark _)) (pe_one (pe_callB (cr_all rfl) rfl G.f_all boot_all (pa_cons (pe_lc (g := gName 1) rfl nd (pi_str (pv 0)) (blkOk_by (own := [("sign", 1)]) (N := N_is_notes) (sc := defScope s_is_notes) (by decide +kernel)) (fun _ _ _ _ _ => (pg_name (i := 1) nd rfl (Or.inl rfl))) (fun _ _ _ _ _ => pts_nil) (fun _ _ _ _ _ => (pe_or (pe_cmpR op_inS (pv 1) (pe_glob (v := .str sDIG) rfl G.c_DIGITS.choose_spec ⟨_, rfl⟩) rfl) (pe_one (pe_cmpR op_eq (pv 1) (pe_glob (v := .str "?") rfl G.c_OPEN.choose_spec ⟨_, rfl⟩) (nomark _)))))) pa_nil))))))), ?_⟩
  obtain ⟨hl, z, ⟨ν, rfl, ⟨hn, ho⟩, hz, rfl⟩, q⟩ := h
  have hne : ¬ (V.str (St ν) = V.str "") := by
    intro e
    have e2 := congrArg (fun z : Str => z.cps.toList) (V.str.inj e)
    rw [st_list] at e2
    exact hn e2
  refine s_ret (ev_is (ev_andV (ev_cb (ea2 (ev_var rfl) ev_c) isi_str) fun _ => ev_andV (ev_op (ev_var rfl) ev_c (rv_ne rfl)) fun _ => ev_allT (el_lc (fun _ => true) (fun _ => .bl true) (f := fun i => (ν.map sg).getD i .non) (ei_str (ev_var rfl)).j (by rw [st_size]; omega) (fun i H1 x H2 hi y => ?_) (fun _ => rfl) (fun _ _ _ _ => et_yes) fun i H1 e hi _ =>
    ?_) fun _ _ => rfl) ?_) fun H1 e => q H1 e
  · obtain ⟨rfl, y⟩ := y
    rw [sgn_st] at y
    rw [st_size] at hi
    exact ⟨rfl, by have := getD_of (xs := ν.map sg) (d := V.non) (i := i) (by simpa using hi); rw [this] at y; exact (Option.some.inj y).symm⟩
  · rw [st_size] at hi
    have hv : (ν.map sg).getD i .non = sg ν[i] := by simp [List.getD, hi]
    have hvar : ∀ {H}, Ev (tVar 1) ((wipe (start N_is_notes [V.str (St ν)]) [1]).set 1 (some ((ν.map sg).getD i .non))) H (.str ⟨#[ν[i]]⟩) := ev_var (by rw [hv]; rfl)
    refine ev_is (ev_orV (ev_op hvar ev_c rv_inS) fun _ => ev_op hvar ev_c (rv_eq rfl)) ?_
    rcases ho _ (List.getElem_mem hi) with hd | hd
    · rw [decide_eq_true (dig_in.mpr hd)]; rfl
    · rw [hd]; simp; right; rfl
  · rw [decide_eq_false hne]
    rfl
/-! ### checker_fault -/
def sp_checker_fault (K : Fg) : Sp := spV 1 fun vs H z => ∃ v c, vs = [v] ∧ ChkV K H v c ∧ c.Ok ∧ z = .non
def Cf (m : V) (v a b r : V) (H0 : Hp) (i : Nat) (σ : L2.St) (H : Hp) : Prop := Ex H0 H ∧ ∃ x y, σ = [some v, some m, some a, some b, some r, x, y]
abbrev N_checker_fault : List Str := ["thing", "many", "tops", "leaves", "rows", "k", "row"]
theorem sc_checker_fault : FnScope N_checker_fault ["thing"] (defScope s_checker_fault) := ⟨rfl, rfl, rfl, by decide +kernel, rfl, by decide +kernel, by decide +kernel⟩
theorem ok_checker_fault (G : Fs P K mg) : Okf P w K mg base 3 "checker_fault" ["thing"] [] (sp_checker_fault K) := by
  refine mk_ok G.k_checker_fault sc_checker_fault (fun f fd F => ⟨[], .nil, FunD.bindsN F fun _ _ _ _ _ _ us hl => match us, hl with | [_], _ => rfl⟩) (fun vs H Q E h => h.1) ?_
  intro f cdv A outer s H vs Q E hr h
  have nd := sc_checker_fault.nd
  refine ⟨_, (pss_cons (ps_if (pt_not (pt_val (pe_ok (ok_is_tuple_of G) hr (by decide) rfl (pa_cons (pv 0) (pa_cons pe_int pa_nil))))) (pss_one (ps_ret (pe_tup (pa_cons pe_str (pa_cons (pe_un un_neg pe_int) pa_nil))))) pss_nil)
  (pss_cons (ps_asg (pv 0) (pg_tup rfl (pgs_cons (pg_name (i := 1) nd rfl (Or.inl rfl)) (pgs_cons (pg_name (i := 2) nd rfl (Or.inl rfl)) (pgs_cons (pg_name (i := 3) nd rfl (Or.inl rfl)) (pgs_cons (pg_name (i := 4) nd rfl (Or.inl rfl)) pgs_nil))))))
  (pss_cons (ps_if (pt_not (pt_val (pe_ok (ok_is_many G) hr (by decide) rfl (pa_cons (pv 1) pa_nil)))) (pss_one (ps_ret (pe_tup (pa_cons pe_str (pa_cons (pe_un un_neg pe_int) pa_nil))))) pss_nil)
  (pss_cons (ps_if (pt_not (pt_val (pe_ok (ok_are_marks G) hr (by decide) rfl (pa_cons (pv 2) pa_nil)))) (pss_one (ps_ret (pe_tup (pa_cons pe_str (pa_cons (pe_un un_neg pe_int) pa_nil))))) pss_nil)
  (pss_cons (ps_if (pt_not (pt_val (pe_ok (ok_are_marks G) hr (by decide) rfl (pa_cons (pv 3) pa_nil)))) (pss_one (ps_ret (pe_tup (pa_cons pe_str (pa_cons (pe_un un_neg pe_int) pa_nil))))) pss_nil)
  (pss_cons (ps_if (pt_not (pt_val (pe_callB call_isi rfl G.f_isinstance boot_isinstance (pa_cons (pv 4) (pa_cons (pe_bltn (v := .ty "tuple") rfl G.f_tuple boot_tuple rfl) pa_nil))))) (pss_one (ps_ret (pe_tup (pa_cons pe_str (pa_cons (pe_un un_neg pe_int) pa_nil))))) pss_nil)
  (pss_cons (ps_for PassesOwn.never rfl (pi_enumT rfl G.f_enumerate (pa_cons (pv 4) pa_nil)) (pg_two (i := 5) (j := 6) rfl nd rfl rfl rfl rfl)
  (pss_cons (ps_if (pt_not (pt_val (pe_ok (ok_is_row G) hr (by decide) rfl (pa_cons (pv 1) (pa_cons (pv 6) pa_nil))))) (pss_one (ps_ret (pe_tup (pa_cons pe_str (pa_cons (pv 5) pa_nil))))) pss_nil)
  (pss_one (ps_if (PW.pt (pw_and (pt_cmpR op_gt (pv 5) pe_int (nomark _)) (pw_and1 (pt_not (pt_cmpR op_lt_str (pe_ix ix_tup (pv 4) (pe_op op_sub (pv 5) pe_int) (fun _ _ => rfl)) (pv 6) (nomark _)))))) (pss_one (ps_ret (pe_tup (pa_cons pe_str (pa_cons (pv 5) pa_nil))))) pss_nil))))
  (pss_one (ps_ret pe_non))))))))), ?_⟩
  obtain ⟨hl, z, ⟨v, c, rfl, ⟨p, a, b, r, rfl, hp, ha, hb, hr⟩, ok, rfl⟩, q⟩ := h
  have hm : (1 : Int) ≤ c.many ∧ (c.many : Int) ≤ 2 := by have := ok.many; omega
  refine q_when (b := false) (et_is (et_not (et_B (ev_callV (ea2 (ev_var rfl) ev_c) rfl fun H1 e => ⟨p, _, rfl, ex_t e hp, rfl⟩))) rfl) (fun h => nomatch h) fun _ H1 e1 => ?_
  refine ⟨.ref p, rfl, p, [.int c.many, .ref a, .ref b, .ref r], rfl, ex_t e1 hp, rfl, _, _, rfl, _, _, rfl, _, _, rfl, _, _, rfl, rfl, ?_⟩
  refine q_when (b := false) (et_is (et_not (et_B (ev_callV (ea1 (ev_var rfl)) rfl fun H1 e => ⟨_, rfl, hm.1, hm.2, rfl⟩))) rfl) (fun h => nomatch h) fun _ H2 e2 => ?_
  have e12 := e1.trans e2
  refine q_when (b := false) (et_is (et_not (et_B (ev_callV (ea1 (ev_var rfl)) rfl fun H1 e => ⟨_, c.tops, rfl, ex_t (e12.trans e) ha, ok.topsL, ok.tops, ok.topsA, rfl⟩))) rfl) (fun h => nomatch h) fun _ H3 e3 => ?_
  have e13 := e12.trans e3
  refine q_when (b := false) (et_is (et_not (et_B (ev_callV (ea1 (ev_var rfl)) rfl fun H1 e => ⟨_, c.leaves, rfl, ex_t (e13.trans e) hb, ok.leavesL, ok.leaves, ok.leavesA, rfl⟩))) rfl) (fun h => nomatch h) fun _ H4 e4 => ?_
  have e14 := e13.trans e4
  refine q_when (b := false) (et_is (et_not (et_B (ev_cb (ea2 (ev_var rfl) ev_c) (isi_tup (ex_t e14 hr))))) rfl) (fun h => nomatch h) fun _ H5 e5 => ?_
  have e15 := e14.trans e5
  refine q_forP (ei_enumT (ea1 (ev_var rfl)) (ex_t e15 hr)) (Ex.refl _) (Cf (.int c.many) (.ref p) (.ref a) (.ref b) (.ref r) H5) (fun H2 e2 => ⟨e2, none, none, rfl⟩) (fun i σ' H2 _ p => p.1) (fun i x y σ' H2 hi hx hy pv H3 e3 => ?_) (fun σ' H2 pv => ?_)
  · obtain ⟨e6, a1, b1, rfl⟩ := pv
    have hi' : i < c.rows.length := by simpa using hi
    obtain rfl : y = .str (rowT c.rows[i]) := by
      rw [List.getElem?_map, List.getElem?_eq_getElem hi'] at hy
      exact (Option.some.inj hy).symm
    obtain rfl : x = .int (i : Nat) := (Option.some.inj hx).symm
    have e16 := (e15.trans e6).trans e3
    have orow := ok.rows _ (List.getElem_mem hi')
    refine q_when (b := false) (et_is (et_not (et_B (ev_callV (ea2 (ev_var rfl) (ev_var rfl)) rfl fun H1 e => ⟨c.many, c.rows[i], rfl, ok.many, orow.1, orow.2, rfl⟩))) rfl) (fun h => nomatch h) fun _ H7 e7 => ?_
    refine s_when (b := false) (et_is (et_and (b := false) (et_test (ev_op (ev_var rfl) ev_c rv_I0)) fun hk => ?_) (by simp)) (fun h => nomatch h) fun _ H8 e8 => ⟨((e6.trans e3).trans e7).trans e8, _, _, rfl⟩
    have hi0 : 0 < i := by have := of_decide_eq_true hk; omega
    have hj : i - 1 < c.rows.length := by omega
    refine et_is (et_not (et_test (ev_op (ev_op (x := .ref r) (y := .int ((i - 1 : Nat) : Int)) (ev_var rfl) (ev_is (ev_op (ev_var rfl) ev_c rv_I0) ?_) (rv_ixTn (v := .str (rowT c.rows[i - 1])) (ex_t (e16.trans e7) hr) ?_)) (ev_var rfl) rv_ltS))) ?_
    · show V.int ((i : Int) - 1) = _
      rw [show ((i - 1 : Nat) : Int) = (i : Int) - 1 by omega]
    · rw [List.getElem?_map, List.getElem?_eq_getElem hj]
      rfl
    · have hlt := List.pairwise_iff_getElem.mp ok.rowsA (i - 1) i (by simpa using hj) (by simpa using hi') (by omega)
      simp only [List.getElem_map] at hlt
      rw [decide_eq_true (show (rowT c.rows[i - 1]).cps.toList < (rowT c.rows[i]).cps.toList from hlt)]
      rfl
  · obtain ⟨e6, a1, b1, rfl⟩ := pv
    exact s_ret ev_c fun H3 e3 => q H3 ((e15.trans e6).trans e3)
/-! ### is_checker -/
def sp_is_checker (K : Fg) : Sp := spV 1 fun vs H z => ∃ v c, vs = [v] ∧ ChkV K H v c ∧ c.Ok ∧ z = .bl true
abbrev N_is_checker : List Str := ["thing"]
theorem sc_is_checker : FnScope N_is_checker ["thing"] (defScope s_is_checker) := ⟨rfl, rfl, rfl, by decide +kernel, rfl, by decide +kernel, by decide +kernel⟩
theorem ok_is_checker (G : Fs P K mg) : Okf P w K mg base 4 "is_checker" ["thing"] [] (sp_is_checker K) := by
  refine mk_ok G.k_is_checker sc_is_checker (fun f fd F => ⟨[], .nil, FunD.bindsN F fun _ _ _ _ _ _ us hl => match us, hl with | [_], _ => rfl⟩) (fun vs H Q E h => h.1) ?_
  intro f cdv A outer s H vs Q E hr h
  have nd := sc_is_checker.nd
  refine ⟨_, (pss_one (ps_ret (pe_cmpR op_isN (pe_ok (ok_checker_fault G) hr (by decide) rfl (pa_cons (pv 0) pa_nil)) pe_non (nomark _)))), ?_⟩
  obtain ⟨hl, z, ⟨v, c, rfl, hc, ok, rfl⟩, q⟩ := h
  exact s_ret (ev_is (ev_op (ev_callV (ea1 (ev_var rfl)) rfl fun H1 e => ⟨v, c, rfl, hc.mono e, ok, rfl⟩) ev_c rv_isN) rfl) fun H1 e => q H1 e
/-! ### want -/
def sp_want (K : Fg) : Sp := spV 3 fun vs H z => ∃ x y, vs = [.bl true, x, y] ∧ z = .non
abbrev N_want : List Str := ["is_right", "name", "place"]
theorem sc_want : FnScope N_want ["is_right", "name", "place"] (defScope s_want) := ⟨rfl, rfl, rfl, by decide +kernel, rfl, by decide +kernel, by decide +kernel⟩
theorem ok_want (G : Fs P K mg) : Okf P w K mg base 1 "want" ["is_right", "name", "place"] [.int (-1)] (sp_want K) := by
  refine mk_ok G.k_want sc_want (fun f fd F => FunD.binds1 F 2 0 (by simp) rfl fun _ _ _ _ _ _ _ us its hl hi => match us, its, hl, hi with | [_, _], [_], _, _ => ⟨_, rfl, rfl⟩) (fun vs H Q E h => h.1) ?_
  intro f cdv A outer s H vs Q E hr h
  have nd := sc_want.nd
  refine ⟨_, (pss_one (ps_if (pt_not (pt_val (pv 0))) (pss_one ps_never) pss_nil)), ?_⟩
  obtain ⟨hl, z, ⟨x, y, rfl, rfl⟩, q⟩ := h
  exact s_when (b := false) (et_is (et_not (et_B (ev_var rfl))) rfl) (fun h => nomatch h) fun _ H1 e1 => q H1 e1
def sp_want_checker (K : Fg) : Sp := spV 2 fun vs H z => ∃ v c x, vs = [v, x] ∧ ChkV K H v c ∧ c.Ok ∧ z = .non
abbrev N_want_checker : List Str := ["checker", "name"]
theorem sc_want_checker : FnScope N_want_checker ["checker", "name"] (defScope s_want_checker) := ⟨rfl, rfl, rfl, by decide +kernel, rfl, by decide +kernel, by decide +kernel⟩
theorem ok_want_checker (G : Fs P K mg) : Okf P w K mg base 5 "want_checker" ["checker", "name"] [.str "checker"] (sp_want_checker K) := by
  refine mk_ok G.k_want_checker sc_want_checker (fun f fd F => FunD.binds1 F 1 0 (by simp) rfl fun _ _ _ _ _ _ _ us its hl hi => match us, its, hl, hi with | [_], [_], _, _ => ⟨_, rfl, rfl⟩) (fun vs H Q E h => h.1) ?_
  intro f cdv A outer s H vs Q E hr h
  have nd := sc_want_checker.nd
  refine ⟨_, (pss_one (ps_expr (pe_ok (ok_want G) hr (by decide) rfl (pa_cons (pe_ok (ok_is_checker G) hr (by decide) rfl (pa_cons (pv 0) pa_nil)) (pa_cons (pv 1) pa_nil))))), ?_⟩
  obtain ⟨hl, z, ⟨v, c, x, rfl, hc, ok, rfl⟩, q⟩ := h
  exact s_drop (ev_call (ea2 (ev_callV (ea1 (ev_var rfl)) rfl fun H1 e => ⟨v, c, rfl, hc.mono e, ok, rfl⟩) (ev_var rfl)) (spv rfl fun _ _ => ⟨_, _, rfl, rfl⟩)) fun H1 e1 => q H1 e1
def sp_want_tree_for (K : Fg) : Sp := spV 2 fun vs H z => ∃ v c t, vs = [v, .str (St t.signs)] ∧ ChkV K H v c ∧ c.Ok ∧ Tr.Ok c.many t ∧ t.size ≤ 1000 ∧ z = .non
abbrev N_want_tree_for : List Str := ["checker", "tree"]
theorem sc_want_tree_for : FnScope N_want_tree_for ["checker", "tree"] (defScope s_want_tree_for) := ⟨rfl, rfl, rfl, by decide +kernel, rfl, by decide +kernel, by decide +kernel⟩
theorem ok_want_tree_for (G : Fs P K mg) : Okf P w K mg base 6 "want_tree_for" ["checker", "tree"] [] (sp_want_tree_for K) := by
  refine mk_ok G.k_want_tree_for sc_want_tree_for (fun f fd F => ⟨[], .nil, FunD.bindsN F fun _ _ _ _ _ _ us hl => match us, hl with | [_, _], _ => rfl⟩) (fun vs H Q E h => h.1) ?_
  intro f cdv A outer s H vs Q E hr h
  have nd := sc_want_tree_for.nd
  refine ⟨_, (pss_cons (ps_expr (pe_ok (ok_want_checker G) hr (by decide) rfl (pa_cons (pv 0) pa_nil)))
  (pss_one (ps_expr (pe_ok (ok_want G) hr (by decide) rfl (pa_cons (pe_ok (ok_is_tree G) hr (by decide) rfl (pa_cons (pe_ix ix_tup (pv 0) pe_int (fun _ _ => rfl)) (pa_cons (pv 1) pa_nil))) (pa_cons pe_str pa_nil)))))), ?_⟩
  obtain ⟨hl, z, ⟨v, c, t, rfl, hc, ok, ht, hz, rfl⟩, q⟩ := h
  refine q_drop (ev_call (ea1 (ev_var rfl)) (spv rfl fun H1 e => ⟨v, c, _, rfl, hc.mono e, ok, rfl⟩)) fun H1 e1 => ?_
  obtain ⟨p, a, b, r, rfl, hp, ha, hb, hr⟩ := hc
  exact s_drop (ev_call (ea2 (ev_callV (ea2 (ev_op (ev_var rfl) ev_c (rv_ixTn (j := 0) (ex_t e1 hp) rfl)) (ev_var rfl)) rfl fun H1 e => ⟨c.many, t, rfl, ok.many, ht, hz, rfl⟩) ev_c) (spv rfl fun _ _ => ⟨_, _, rfl, rfl⟩)) fun H2 e2 => q H2 (e1.trans e2)
def sp_want_case (K : Fg) : Sp := spV 3 fun vs H z => ∃ v c t ν, vs = [v, .str (St t.signs), .str (St ν)] ∧ ChkV K H v c ∧ c.Ok ∧ Tr.Ok c.many t ∧ t.size ≤ 1000 ∧ ν.length = t.size ∧ okN ν ∧ z = .non
abbrev N_want_case : List Str := ["checker", "tree", "notes"]
theorem sc_want_case : FnScope N_want_case ["checker", "tree", "notes"] (defScope s_want_case) := ⟨rfl, rfl, rfl, by decide +kernel, rfl, by decide +kernel, by decide +kernel⟩
theorem ok_want_case (G : Fs P K mg) : Okf P w K mg base 7 "want_case" ["checker", "tree", "notes"] [] (sp_want_case K) := by
  refine mk_ok G.k_want_case sc_want_case (fun f fd F => ⟨[], .nil, FunD.bindsN F fun _ _ _ _ _ _ us hl => match us, hl with | [_, _, _], _ => rfl⟩) (fun vs H Q E h => h.1) ?_
  intro f cdv A outer s H vs Q E hr h
  have nd := sc_want_case.nd
  refine ⟨_, (pss_cons (ps_expr (pe_ok (ok_want_tree_for G) hr (by decide) rfl (pa_cons (pv 0) (pa_cons (pv 1) pa_nil))))
  (pss_one (ps_expr (pe_ok (ok_want G) hr (by decide) rfl (pa_cons (pe_and (pe_ok (ok_is_notes G) hr (by decide) rfl (pa_cons (pv 2) pa_nil)) (pe_one (pe_cmpR op_eq (pe_callB call_len_str rfl G.f_len boot_len (pa_cons (pv 2) pa_nil)) (pe_callB call_len_str rfl G.f_len boot_len (pa_cons (pv 1) pa_nil)) (nomark _)))) (pa_cons pe_str pa_nil)))))), ?_⟩
  obtain ⟨hl, z, ⟨v, c, t, ν, rfl, hc, ok, ht, hz, hn, ho, rfl⟩, q⟩ := h
  refine q_drop (ev_callV (ea2 (ev_var rfl) (ev_var rfl)) rfl fun H1 e => ⟨v, c, t, rfl, hc.mono e, ok, ht, hz, rfl⟩) fun H1 e1 => ?_
  refine s_drop (ev_call (ea2 (ev_is (ev_andV (ev_callV (ea1 (ev_var rfl)) rfl fun H1 e => ⟨ν, rfl, ho, by omega, rfl⟩) fun _ => ev_op (ev_cb (ea1 (ev_var rfl)) (rc_lenC (by rw [st_len]; omega))) (ev_cb (ea1 (ev_var rfl)) (rc_lenC (by rw [st_len, Tr.signs_len]; omega))) (rv_eq rfl)) ?_) ev_c) (spv rfl fun _ _ => ⟨_, _, rfl, rfl⟩)) fun H2 e2 => q H2 (e1.trans e2)
  rw [st_len, st_len, Tr.signs_len, hn]
  simp
end
end K64

set_option Elab.async false
set_option linter.all false
set_option maxRecDepth 100000
set_option maxHeartbeats 4000000
/-! W2: the walks of the tree's work. -/
namespace K64
open PySem PySem.Spec PyProof.Rows L2 Evl
/-- a promise told by a word -/
def spP (n : Nat) (R : List V → Hp → (V → Hp → Prop) → Prop) : Sp := fun vs H Q _ => vs.length = n ∧ ∃ Z, R vs H Z ∧ ∀ v H2, Ex H H2 → Z v H2 → Q v H2
/-- evaluates to something of the word -/
def EvZ (te : TE) (σ : L2.St) (H : Hp) (Z : V → Hp → Prop) : Prop := ∀ H1, Ex H H1 → ∀ Q : VK, (∀ v H2, Ex H1 H2 → Z v H2 → Q v H2) → te σ H1 Q
section
variable {K : Fg} {σ : L2.St} {H H' : Hp} {ta tb te tx tc : TE} {t u : TT} {x y z v : V} {r : R2} {Z : V → Hp → Prop} {D : Ends} {tz : TS}
theorem EvZ.mono (e : Ex H H') (h : EvZ te σ H Z) : EvZ te σ H' Z := fun H1 a Q q => h H1 (e.trans a) Q q
theorem ez_v (h : Ev te σ H v) (hZ : ∀ H1, Ex H H1 → Z v H1) : EvZ te σ H Z := fun H1 e Q q => h H1 e Q fun H2 e2 => q v H2 e2 (hZ H2 (e.trans e2))
theorem ez_call {n : Nat} {R : List V → Hp → (V → Hp → Prop) → Prop} {vs : List V} {E : XK} {ta : TA} (h : EvA ta σ H vs) (hl : vs.length = n) (hR : ∀ H1, Ex H H1 → R vs H1 Z) : EvZ (tCall (spP n R) [] E ta) σ H Z := fun H1 e Q q =>
  h H1 e _ fun H2 e2 => by
    refine ⟨by rw [List.append_nil]; exact hl, Z, by rw [List.append_nil]; exact hR H2 (e.trans e2), fun v H3 e3 z => q v H3 (e2.trans e3) z⟩
theorem s_asgZ {i : Nat} (h : EvZ te σ H Z) (k : ∀ v H1, Ex H H1 → Z v H1 → D.nx (σ.set i (some v)) H1) : tAsg te (gName i) D σ H := h H (Ex.refl H) _ fun v H1 e z => k v H1 e z
theorem q_asgZ {i : Nat} (h : EvZ te σ H Z) (k : ∀ v H1, Ex H H1 → Z v H1 → tz D (σ.set i (some v)) H1) : tSeq (tAsg te (gName i)) tz D σ H := s_asgZ (D := { D with nx := tz D }) h k
theorem s_retZ (h : EvZ te σ H Z) (k : ∀ v H1, Ex H H1 → Z v H1 → D.rt v H1) : tRet te D σ H := h H (Ex.refl H) _ fun v H1 e z => k v H1 e z
theorem ev_index {sep w' : Str} {c k : Nat} {W : WX} {ta : TA} (ho : Ev te σ H (.str w')) (ha : EvA ta σ H [.str ⟨#[c]⟩]) (hk : Txt.index0 w' ⟨#[c]⟩ = some k) : Ev (tBMS K "str" (rIndexX W) te ta) σ H (.int (k : Nat)) := fun H1 e Q q =>
  ho H1 e _ fun H2 e2 => ⟨rfl, ha H2 (e.trans e2) _ fun H3 e3 => ⟨w', ⟨#[c]⟩, rfl, rfl, fun k2 h2 => by
    rw [hk] at h2
    cases h2
    exact q H3 (e2.trans e3), fun h2 => by
    rw [hk] at h2
    cases h2⟩⟩
theorem el_rep {xs : List V} {k : Nat} (ha : EvL ta σ H xs) (hb : Ev tb σ H (.int (k : Int))) (hz : xs.length * k ≤ 100000) (hk : k ≤ 100000) : EvL (tOp rRep ta tb) σ H (List.replicate k xs).flatten := fun H1 e Q q =>
  ha H1 e _ fun p H2 _ e2 h2 => hb H2 (e.trans e2) _ fun H3 e3 => ⟨p, k, xs, rfl, rfl, e3 p _ h2, by omega, by omega, sz_of hz, fun l hl => q l _ (fresh_back (e2.trans e3) hl) ((e2.trans e3).trans (Ex.new hl)) upd_same⟩
theorem rg_down {n : Nat} (hn : n ≤ 100000) : RgC ((n : Int) - 1) (-1) (-1) n := by
  have h := RgC.neg (i := (n : Int) - 1) (j := -1) (by omega) (by omega) (by omega) (by omega)
  rw [show ((n : Int) - 1 - -1).toNat = n by omega] at h
  exact h
end
namespace Tr
/-- a capital sign has children -/
theorem sign_cap {t : Tr} {m : Nat} (h : t.Ok m) : decide (65 ≤ t.sign ∧ t.sign ≤ 90) = decide (t.kids ≠ []) := by
  cases t with
  | leaf l =>
    have : isLet l := h
    unfold isLet at this
    show decide (65 ≤ l ∧ l ≤ 90) = decide (([] : List Tr) ≠ [])
    rw [decide_eq_false (by omega)]
    rfl
  | one l a =>
    have := h.2.1
    unfold isLet at this
    simp [sign, kids]
    omega
  | two l a b =>
    have := h.2.1
    unfold isLet at this
    simp [sign, kids]
    omega
theorem kids_len {t : Tr} {m : Nat} (h : t.Ok m) : t.kids.length = if 65 ≤ t.sign ∧ t.sign ≤ 90 then m else 0 := by
  cases t with
  | leaf l =>
    have : isLet l := h
    unfold isLet at this
    rw [if_neg (by simp [sign]; omega)]
    rfl
  | one l a =>
    have := h.2.1
    unfold isLet at this
    rw [if_pos (by simp [sign]; omega), h.1]
    rfl
  | two l a b =>
    have := h.2.1
    unfold isLet at this
    rw [if_pos (by simp [sign]; omega), h.1]
    rfl
/-- where the first k children end -/
def off (t : Tr) (k : Nat) : Nat := 1 + ((t.kids.take k).map size).sum
theorem off_all (t : Tr) : t.off t.kids.length = t.size := by
  cases t <;> simp [off, kids, size] <;> omega
theorem off_at {t : Tr} {k : Nat} (h : k < t.kids.length) : t.offs[k]? = some (t.off k) := by
  cases t with
  | leaf l => simp [kids] at h
  | one l a =>
    have : k = 0 := by simp [kids] at h; omega
    subst this
    rfl
  | two l a b =>
    have : k = 0 ∨ k = 1 := by simp [kids] at h; omega
    rcases this with rfl | rfl <;> simp [off, kids, offs]
theorem off_succ {t s : Tr} {k : Nat} (h : t.kids[k]? = some s) : t.off (k + 1) = t.off k + s.size := by
  unfold off
  rw [List.take_succ, h]
  simp
  omega
/-- the end of the subtree at p -/
def endAt (t : Tr) (p : Nat) : Nat := p + ((t.subs[p]?).getD t).size
theorem endAt_of {t s : Tr} {p : Nat} (h : t.subs[p]? = some s) : t.endAt p = p + s.size := by
  unfold endAt
  rw [h]
  rfl
def ends (t : Tr) : List V := (List.range t.size).map fun p => .int (t.endAt p : Nat)
theorem ends_len (t : Tr) : t.ends.length = t.size := by simp [ends]
theorem ends_at {t s : Tr} {p : Nat} (h : t.subs[p]? = some s) : t.ends[p]? = some (.int ((p + s.size : Nat) : Int)) := by
  have hp := (List.getElem?_eq_some_iff.mp h).1
  rw [subs_len] at hp
  simp [ends, hp, endAt_of h]
theorem sub_ex {t : Tr} {p : Nat} (h : p < t.size) : ∃ s, t.subs[p]? = some s := ⟨_, List.getElem?_eq_getElem (by rw [subs_len]; exact h)⟩
theorem sign_at {t s : Tr} {p : Nat} (h : t.subs[p]? = some s) : t.signs[p]? = some s.sign := by
  rw [signs_subs, List.getElem?_map, h]
  rfl
end Tr
/-- the children's places, place by place -/
def Chi (K : Fg) (H : Hp) (v : V) (t : Tr) : Prop := ∃ l qs, v = .ref l ∧ SqL K H l qs ∧ qs.length = t.size ∧ ∀ (p : Nat) (s : Tr), t.subs[p]? = some s → ∃ a : Addr, qs[p]? = some (.ref a) ∧ SqT K H a (s.offs.map fun o => V.int ((p + o : Nat) : Int))
theorem Chi.mono {K : Fg} {H H' : Hp} {v : V} {t : Tr} (e : Ex H H') (h : Chi K H v t) : Chi K H' v t := by
  obtain ⟨l, qs, h1, h2, h3, h4⟩ := h
  refine ⟨l, qs, h1, ex_l e h2, h3, fun p s hs => ?_⟩
  obtain ⟨a, h5, h6⟩ := h4 p s hs
  exact ⟨a, h5, ex_t e h6⟩
section
variable {P : Program} {w : World} {K : Fg} {mg : Str → Option Value} {base : Heap}
def sp_has_children (K : Fg) : Sp := spV 1 fun vs H z => ∃ c : Nat, vs = [sg c] ∧ z = .bl (decide (65 ≤ c ∧ c ≤ 90))
abbrev N_has_children : List Str := ["sign"]
theorem sc_has_children : FnScope N_has_children ["sign"] (defScope s_has_children) := ⟨rfl, rfl, rfl, by decide +kernel, rfl, by decide +kernel, by decide +kernel⟩
theorem ok_has_children (G : Fs P K mg) : Okf P w K mg base 1 "has_children" ["sign"] [] (sp_has_children K) := by
  refine mk_ok G.k_has_children sc_has_children (fun f fd F => ⟨[], .nil, FunD.bindsN F fun _ _ _ _ _ _ us hl => match us, hl with | [_], _ => rfl⟩) (fun vs H Q E h => h.1) ?_
  intro f cdv A outer s H vs Q E hr h
  have nd := sc_has_children.nd
  refine ⟨_, (pss_one (ps_ret (pe_cmpR op_inS (pv 0) (pe_glob (v := .str sCAP) rfl G.c_CAPITALS.choose_spec ⟨_, rfl⟩) rfl))), ?_⟩
  obtain ⟨hl, z, ⟨c, rfl, rfl⟩, q⟩ := h
  refine s_ret (ev_is (ev_op (ev_var (v := .str ⟨#[c]⟩) rfl) ev_c rv_inS) ?_) fun H1 e => q H1 e
  simp only [cap_in]
theorem cap_index : ∀ i, i < 26 → Txt.index0 sCAP ⟨#[i + 65]⟩ = some i := by decide +kernel
theorem let_at : ∀ i, i < 26 → sLET.cps.toList[i]? = some (i + 97) := by decide +kernel
def sp_label_of (K : Fg) : Sp := spV 1 fun vs H z => ∃ (s : Tr) (m : Nat), vs = [sg s.sign] ∧ s.Ok m ∧ z = sg s.lab
abbrev N_label_of : List Str := ["sign"]
theorem sc_label_of : FnScope N_label_of ["sign"] (defScope s_label_of) := ⟨rfl, rfl, rfl, by decide +kernel, rfl, by decide +kernel, by decide +kernel⟩
theorem ok_label_of (G : Fs P K mg) : Okf P w K mg base 2 "label_of" ["sign"] [] (sp_label_of K) := by
  refine mk_ok G.k_label_of sc_label_of (fun f fd F => ⟨[], .nil, FunD.bindsN F fun _ _ _ _ _ _ us hl => match us, hl with | [_], _ => rfl⟩) (fun vs H Q E h => h.1) ?_
  intro f cdv A outer s H vs Q E hr h
  have nd := sc_label_of.nd
  refine ⟨_, (pss_one (ps_ret (pe_ifExp (pt_val (pe_ok (ok_has_children G) hr (by decide) rfl (pa_cons (pv 0) pa_nil))) (pe_ix ix_str (pe_glob (v := .str sLET) rfl G.c_LETTERS.choose_spec ⟨_, rfl⟩) (pe_bmS F.plainAttrs_str F.slot_str_index F.type_str_index (mt_indexX rfl LamX.takes0) (pe_glob (v := .str sCAP) rfl G.c_CAPITALS.choose_spec ⟨_, rfl⟩) (pa_cons (pv 0) pa_nil)) (fun _ _ => rfl)) (pv 0)))), ?_⟩
  obtain ⟨hl, z, ⟨s', m, rfl, ho, rfl⟩, q⟩ := h
  have hll := Tr.ok_lab ho
  refine s_ret (ev_if (b := decide (s'.kids ≠ [])) (et_is (et_B (ev_callV (ea1 (ev_var rfl)) rfl fun _ _ => ⟨s'.sign, rfl, rfl⟩)) (Tr.sign_cap ho)) (fun hk => ?_) (fun hk => ?_)) fun H1 e => q H1 e
  · have e1 : s'.sign + 32 = s'.lab := by
      cases s' with
      | leaf l => exact absurd (of_decide_eq_true hk) (by simp [Tr.kids])
      | one l a => have := ho.2.1; unfold isLet at this; simp only [Tr.sign, Tr.lab]; omega
      | two l a b => have := ho.2.1; unfold isLet at this; simp only [Tr.sign, Tr.lab]; omega
    unfold isLet at hll
    obtain ⟨i, hi, h65⟩ : ∃ i, i < 26 ∧ s'.sign = i + 65 := ⟨s'.sign - 65, by omega, by omega⟩
    have h97 : s'.lab = i + 97 := by omega
    rw [h97]
    exact ev_op (ev_c (v := .str sLET)) (ev_index (c := i + 65) (k := i) (sep := "") (ev_c (v := .str sCAP)) (ea1 (ev_var (by rw [h65]; rfl))) (cap_index i hi)) (rv_ixC (l := sLET.cps.toList) (let_at i hi) (by decide))
  · have e1 : s'.sign = s'.lab := by
      cases s' with
      | leaf l => rfl
      | one l a => exact absurd (of_decide_eq_false hk) (by simp [Tr.kids])
      | two l a b => exact absurd (of_decide_eq_false hk) (by simp [Tr.kids])
    exact ev_var (by rw [← e1]; rfl)
/-! ### ends_by -/
def sp_ends_by (K : Fg) : Sp := spL 2 fun vs H xs => ∃ (m : Nat) (t : Tr), vs = [.int m, .str (St t.signs)] ∧ (m = 1 ∨ m = 2) ∧ t.Ok m ∧ t.size ≤ 1000 ∧ xs = t.ends
/-- the list l holds the ends of the last places -/
def Eb (m : Nat) (t : Tr) (H0 : Hp) (l : Addr) (i : Nat) (σ : L2.St) (H : Hp) : Prop := Ex H0 H ∧ (∃ xs, H l = some (.lst xs) ∧ xs.length = t.size ∧ ∀ p, t.size ≤ p + i → xs[p]? = t.ends[p]?) ∧ ∃ a b c, σ = [some (.int m), some (.str (St t.signs)), some (.ref l), a, b, c]
def Eb2 (m : Nat) (t s : Tr) (H0 : Hp) (l : Addr) (p i k : Nat) (σ : L2.St) (H : Hp) : Prop := Ex H0 H ∧ (∃ xs, H l = some (.lst xs) ∧ xs.length = t.size ∧ ∀ p, t.size ≤ p + i → xs[p]? = t.ends[p]?) ∧ ∃ c, σ = [some (.int m), some (.str (St t.signs)), some (.ref l), some (.int p), some (.int ((p + s.off k : Nat) : Int)), c]
abbrev N_ends_by : List Str := ["many", "tree", "ends", "place", "end", "child"]
theorem sc_ends_by : FnScope N_ends_by ["many", "tree"] (defScope s_ends_by) := ⟨rfl, rfl, rfl, by decide +kernel, rfl, by decide +kernel, by decide +kernel⟩
theorem ok_ends_by (G : Fs P K mg) : Okf P w K mg base 2 "ends_by" ["many", "tree"] [] (sp_ends_by K) := by
  refine mk_ok G.k_ends_by sc_ends_by (fun f fd F => ⟨[], .nil, FunD.bindsN F fun _ _ _ _ _ _ us hl => match us, hl with | [_, _], _ => rfl⟩) (fun vs H Q E h => h.1) ?_
  intro f cdv A outer s H vs Q E hr h
  have nd := sc_ends_by.nd
  refine ⟨_, (pss_cons (ps_set (i := 2) nd rfl (Or.inl rfl) (pe_op op_rep (pe_lst (pa_cons pe_int pa_nil)) (pe_callB call_len_str rfl G.f_len boot_len (pa_cons (pv 1) pa_nil))))
  (pss_cons (ps_for PassesOwn.never rfl (pi_range3 rfl G.f_range (pa_cons (pe_op op_sub (pe_callB call_len_str rfl G.f_len boot_len (pa_cons (pv 1) pa_nil)) pe_int) (pa_cons (pe_un un_neg pe_int) (pa_cons (pe_un un_neg pe_int) pa_nil)))) (pg_name (i := 3) nd rfl (Or.inl rfl))
  (pss_cons (ps_set (i := 4) nd rfl (Or.inl rfl) (pe_op op_add (pv 3) pe_int))
  (pss_cons (ps_for PassesOwn.never rfl (pi_range1 rfl G.f_range (pa_cons (pe_ifExp (pt_val (pe_ok (ok_has_children G) hr (by decide) rfl (pa_cons (pe_ix ix_str (pv 1) (pv 3) (fun _ _ => rfl)) pa_nil))) (pv 0) pe_int) pa_nil)) (pg_name (i := 5) nd rfl (Or.inl rfl))
  (pss_one (ps_set (i := 4) nd rfl (Or.inl rfl) (pe_ix ix_list (pv 2) (pv 4) (fun _ _ => rfl)))))
  (pss_one (ps_asg (pv 4) (pg_sub (pv 2) (pv 3) set_list))))))
  (pss_one (ps_ret (pv 2))))), ?_⟩
  obtain ⟨hl, xs, ⟨m, t, rfl, hm, ht, hz, rfl⟩, q⟩ := h
  have hlen : (St t.signs).length = t.size := by rw [st_len, Tr.signs_len]
  have elen : ∀ {σ : L2.St} {H : Hp}, σ[1]? = some (some (.str (St t.signs))) → Ev (tCB rLenC (tCons (tVar 1) tNil)) σ H (.int (t.size : Nat)) := fun hs => ev_is (ev_cb (ea1 (ev_var hs)) (rc_lenC (by rw [hlen]; omega))) (by rw [hlen])
  refine q_asgL (el_rep (el_lst (ea1 ev_c) (by decide)) (elen rfl) (by show 1 * t.size ≤ 100000; omega) (by omega)) fun l H1 hl0 e1 h1 => ?_
  have hl1 : ((List.replicate t.size [V.int 0]).flatten).length = t.size := by simp
  refine q_forI (H := H) (ei_rng3 (ea3 (ev_op (elen rfl) ev_c rv_I0) (ev_un ev_c ru_neg) (ev_un ev_c ru_neg)) (rg_down (by omega))) e1 (Eb m t H l) (fun H2 e2 => ⟨e1.trans e2, ⟨_, e2 l _ h1, hl1, fun p hp => ?_⟩, none, none, none, rfl⟩) (fun i σ' H2 hi p => p.1) (fun i x σ' H2 H3 hi p y => ?_) (fun σ' H2 p => ?_)
  · rw [List.getElem?_eq_none (by omega), List.getElem?_eq_none (by rw [Tr.ends_len]; omega)]
  · obtain ⟨e2, ⟨xs, hx, hxl, hxa⟩, a, b, c, rfl⟩ := p
    obtain ⟨rfl, rfl⟩ := y
    obtain ⟨pp, hpp⟩ : ∃ pp : Nat, pp + i + 1 = t.size := ⟨t.size - 1 - i, by omega⟩
    have hpv : (t.size : Int) - 1 + (i : Nat) * -1 = (pp : Nat) := by omega
    obtain ⟨s', hs⟩ := Tr.sub_ex (t := t) (p := pp) (by omega)
    have hos := Tr.ok_at ht hs
    change tSeq _ _ _ [some (.int m), some (.str (St t.signs)), some (.ref l), some (.int ((t.size : Int) - 1 + (i : Nat) * -1)), b, c] H3
    rw [hpv]
    refine q_asg (ev_op (ev_var rfl) ev_c rv_I0) fun H4 e4 => ?_
    have hkl := Tr.kids_len hos
    have hn : EvA (tCons (tIf (tB (tCall (sp_has_children K) [] E0 (tCons (tOp rIxS (tVar 1) (tVar 3)) tNil))) (tVar 0) (tC (.int 0))) tNil) [some (.int m), some (.str (St t.signs)), some (.ref l), some (.int (pp : Nat)), some (.int ((pp : Int) + 1)), c] H [.int (s'.kids.length : Nat)] :=
      ea1 (ev_if (b := decide (65 ≤ s'.sign ∧ s'.sign ≤ 90)) (et_B (ev_callV (ea1 (ev_op (ev_var rfl) (ev_var rfl) (rv_ixC (Tr.sign_at hs) (by rw [Tr.signs_len]; omega)))) rfl fun _ _ => ⟨s'.sign, rfl, rfl⟩)) (fun h => by rw [hkl, if_pos (of_decide_eq_true h)]; exact ev_var rfl) (fun h => by rw [hkl, if_neg (of_decide_eq_false h)]; exact ev_c))
    have hk2 : s'.kids.length ≤ 2 := by rw [hkl]; split <;> omega
    refine q_forI (H := H) (ei_rng1 hn (by omega) (by omega)) (e2.trans e4) (Eb2 m t s' H l pp i) (fun H5 e5 => ⟨(e2.trans e4).trans e5, ⟨xs, e5 l _ (e4 l _ hx), hxl, hxa⟩, c, ?_⟩) (fun i σ' H2 hi p => p.1) (fun k x σ' H5 H6 hk p y => ?_) (fun σ' H5 p => ?_)
    · rfl
    · obtain ⟨e5, ⟨ys, hy, hyl, hya⟩, c', rfl⟩ := p
      obtain ⟨rfl, rfl⟩ := y
      have hk' : k < s'.kids.length := hk
      obtain ⟨kk, hkk, hsk⟩ := Tr.kids_at hs (Tr.off_at hk')
      refine s_asg (ev_op (ev_var rfl) (ev_var rfl) (rv_ixLn (sq_of hy) (by rw [hya _ (by unfold Tr.off; omega)]; exact Tr.ends_at hsk))) fun H7 e7 => ⟨e5.trans e7, ⟨ys, e7 l _ hy, hyl, hya⟩, some (.int (k : Nat)), ?_⟩
      rw [Tr.off_succ hkk, ← Nat.add_assoc]
      rfl
    · obtain ⟨e5, ⟨ys, hy, hyl, hya⟩, c', rfl⟩ := p
      refine s_setL (j := pp) hy (ev_var rfl) (ev_var rfl) (ev_var rfl) (by omega) fun H7 e7 => ⟨Ex.mut (e5.trans e7) hl0, ⟨_, upd_same, by rw [List.length_set]; exact hyl, fun q hq => ?_⟩, _, _, _, rfl⟩
      by_cases hqp : q = pp
      · subst hqp
        rw [List.getElem?_set_self (by omega), Tr.ends_at hs]
        have := Tr.off_all s'
        show some (V.int ((q + s'.off s'.kids.length : Nat) : Int)) = _
        rw [this]
      · rw [List.getElem?_set_ne (by omega)]
        exact hya q (by omega)
  · obtain ⟨e2, ⟨xs, hx, hxl, hxa⟩, a, b, c, rfl⟩ := p
    refine s_ret (ev_var rfl) fun H3 e3 => q l H3 hl0 (e2.trans e3) (e3 l _ ?_)
    rw [hx, show xs = t.ends from List.ext_getElem? fun q => hxa q (by omega)]
/-! ### children_by -/
def sp_children_by (K : Fg) : Sp := spP 2 fun vs H Z => ∃ (m : Nat) (t : Tr), vs = [.int m, .str (St t.signs)] ∧ (m = 1 ∨ m = 2) ∧ t.Ok m ∧ t.size ≤ 1000 ∧ Z = fun v H2 => Chi K H2 v t
def Cb (K : Fg) (m : Nat) (t : Tr) (le : Addr) (H0 : Hp) (l : Addr) (i : Nat) (σ : L2.St) (H : Hp) : Prop := Ex H0 H ∧ (∃ qs, H l = some (.lst qs) ∧ qs.length = i ∧ ∀ (p : Nat) (s : Tr), p < i → t.subs[p]? = some s → ∃ a : Addr, qs[p]? = some (.ref a) ∧ H a = some (.tup (s.offs.map fun o => V.int ((p + o : Nat) : Int)))) ∧ ∃ a b, σ = [some (.int m), some (.str (St t.signs)), some (.ref le), some (.ref l), a, b]
abbrev N_children_by : List Str := ["many", "tree", "ends", "found", "place", "sign"]
theorem sc_children_by : FnScope N_children_by ["many", "tree"] (defScope s_children_by) := ⟨rfl, rfl, rfl, by decide +kernel, rfl, by decide +kernel, by decide +kernel⟩
theorem ok_children_by (G : Fs P K mg) : Okf P w K mg base 3 "children_by" ["many", "tree"] [] (sp_children_by K) := by
  refine mk_ok G.k_children_by sc_children_by (fun f fd F => ⟨[], .nil, FunD.bindsN F fun _ _ _ _ _ _ us hl => match us, hl with | [_, _], _ => rfl⟩) (fun vs H Q E h => h.1) ?_
  intro f cdv A outer s H vs Q E hr h
  have nd := sc_children_by.nd
  refine ⟨_, (pss_cons (ps_set (i := 2) nd rfl (Or.inl rfl) (pe_ok (ok_ends_by G) hr (by decide) rfl (pa_cons (pv 0) (pa_cons (pv 1) pa_nil))))
  (pss_cons (ps_set (i := 3) nd rfl (Or.inl rfl) (pe_lst pa_nil))
  (pss_cons (ps_for PassesOwn.never rfl (pi_enumS rfl G.f_enumerate (pa_cons (pv 1) pa_nil)) (pg_two (i := 4) (j := 5) rfl nd rfl rfl rfl rfl)
  (pss_one (ps_if (pt_not (pt_val (pe_ok (ok_has_children G) hr (by decide) rfl (pa_cons (pv 5) pa_nil)))) (pss_one (ps_expr (pe_bm F.plainAttrs_list F.slot_list_append F.type_list_append mt_append (pv 3) (pa_cons (pe_tup pa_nil) pa_nil)))) (pss_one (ps_if (pt_cmpR op_eq (pv 0) pe_int (nomark _)) (pss_one (ps_expr (pe_bm F.plainAttrs_list F.slot_list_append F.type_list_append mt_append (pv 3) (pa_cons (pe_tup (pa_cons (pe_op op_add (pv 4) pe_int) pa_nil)) pa_nil)))) (pss_one (ps_expr (pe_bm F.plainAttrs_list F.slot_list_append F.type_list_append mt_append (pv 3) (pa_cons (pe_tup (pa_cons (pe_op op_add (pv 4) pe_int) (pa_cons (pe_ix ix_list (pv 2) (pe_op op_add (pv 4) pe_int) (fun _ _ => rfl)) pa_nil))) pa_nil)))))))))
  (pss_one (ps_ret (pv 3)))))), ?_⟩
  obtain ⟨hl, Z, ⟨m, t, rfl, hm, ht, hz, rfl⟩, q⟩ := h
  refine q_asgL (el_callL (ea2 (ev_var rfl) (ev_var rfl)) rfl fun _ _ => ⟨m, t, rfl, hm, ht, hz, rfl⟩) fun le H1 _ e1 hle => ?_
  refine q_asgL (el_lst ea_nil (by decide)) fun l H2 hl0 e2 h2 => ?_
  refine q_forP (H := H1) (ei_enumS (ea1 (ev_var rfl))) e2 (Cb K m t le H1 l) (fun H3 e3 => ⟨e2.trans e3, ⟨[], e3 l _ h2, rfl, fun p s hp => absurd hp (Nat.not_lt_zero p)⟩, none, none, rfl⟩) (fun i σ' H2 hi p => p.1) (fun i x y σ' H3 hi hx hy p H4 e4 => ?_) (fun σ' H3 p => ?_)
  · obtain ⟨e3, ⟨qs, hq, hql, hqa⟩, a, b, rfl⟩ := p
    rw [st_size, Tr.signs_len] at hi
    obtain ⟨s', hs⟩ := Tr.sub_ex (t := t) (p := i) hi
    have hos := Tr.ok_at ht hs
    rw [sgn_st, List.getElem?_map, Tr.sign_at hs] at hy
    obtain rfl := Option.some.inj hy
    obtain rfl : x = .int (i : Nat) := (Option.some.inj hx).symm
    have step : ∀ (a : Addr) (H5 : Hp), H4 a = none → Ex H4 H5 → H5 a = some (.tup (s'.offs.map fun o => V.int ((i + o : Nat) : Int))) → Cb K m t le H1 l (i + 1) [some (.int m), some (.str (St t.signs)), some (.ref le), some (.ref l), some (.int (i : Nat)), some (sg s'.sign)] (upd H5 l (.lst (qs ++ [.ref a]))) := by
      intro a H5 ha e5 h5
      have hal : a ≠ l := by
        intro e
        rw [e, e4 l _ hq] at ha
        cases ha
      refine ⟨Ex.mut ((e3.trans e4).trans e5) hl0, ⟨_, upd_same, by simp [hql], fun p s hp hs' => ?_⟩, _, _, rfl⟩
      by_cases hpi : p = i
      · subst hpi
        rw [hs] at hs'
        cases hs'
        refine ⟨a, by rw [List.getElem?_append_right (by omega), hql, Nat.sub_self]; rfl, ?_⟩
        rw [upd_ne hal]
        exact h5
      · obtain ⟨a', h6, h7⟩ := hqa p s (by omega) hs'
        refine ⟨a', by rw [List.getElem?_append_left (by omega)]; exact h6, ?_⟩
        have : a' ≠ l := by
          intro e
          rw [e, hq] at h7
          cases h7
        rw [upd_ne this]
        exact e5 a' _ (e4 a' _ h7)
    have hq4 := e4 l _ hq
    refine s_if (b := !decide (s'.kids ≠ [])) (et_not (et_is (et_B (ev_callV (ea1 (ev_var rfl)) rfl fun _ _ => ⟨s'.sign, rfl, rfl⟩)) (Tr.sign_cap hos))) (fun hb H5 e5 => ?_) (fun hb H5 e5 => ?_)
    · refine s_appU (K := K) (e5 l _ hq4) (ev_var rfl) (eu_tup ea_nil (by decide)) (by omega) fun a H6 ha e6 h6 => step a H6 (fresh_back e5 ha) (e5.trans e6) ?_
      cases s' with
      | leaf _ => exact h6
      | one _ _ => simp [Tr.kids] at hb
      | two _ _ _ => simp [Tr.kids] at hb
    · refine s_if (b := decide (m = 1)) (et_is (et_test (ev_op (ev_var rfl) ev_c (rv_eq rfl))) (by simp; omega)) (fun hb2 H6 e6 => ?_) (fun hb2 H6 e6 => ?_)
      · refine s_appU (K := K) ((e5.trans e6) l _ hq4) (ev_var rfl) (eu_tup (ea1 (ev_op (ev_var rfl) ev_c rv_I0)) (by show 1 ≤ 100000; omega)) (by omega) fun a H7 ha e7 h7 => step a H7 (fresh_back (e5.trans e6) ha) ((e5.trans e6).trans e7) ?_
        cases s' with
        | leaf _ => simp [Tr.kids] at hb
        | one _ _ => exact h7
        | two _ _ _ => have := hos.1; simp at hb2; omega
      · cases s' with
        | leaf _ => simp [Tr.kids] at hb
        | one _ _ => have := hos.1; simp at hb2; omega
        | two ll la lb =>
          obtain ⟨kk, hkk, hsk⟩ := Tr.kids_at hs (i := 0) (o := 1) rfl
          obtain rfl : la = kk := Option.some.inj hkk
          have hle6 := ((e3.trans e4).trans (e5.trans e6)) le _ hle
          refine s_appU (K := K) ((e5.trans e6) l _ hq4) (ev_var rfl) (eu_tup (ea2 (ev_op (ev_var rfl) ev_c rv_I0) (ev_op (x := .ref le) (y := .int ((i + 1 : Nat) : Int)) (ev_var rfl) (ev_op (ev_var rfl) ev_c rv_I0) (rv_ixLn (sq_of hle6) (Tr.ends_at hsk)))) (by show 2 ≤ 100000; omega)) (by omega) fun a H7 ha e7 h7 => step a H7 (fresh_back (e5.trans e6) ha) ((e5.trans e6).trans e7) ?_
          rw [Nat.add_assoc] at h7
          exact h7
  · obtain ⟨e3, ⟨qs, hq, hql, hqa⟩, a, b, rfl⟩ := p
    rw [st_size, Tr.signs_len] at hql hqa
    refine s_ret (ev_var rfl) fun H4 e4 => q (.ref l) H4 ((e1.trans e3).trans e4) ⟨l, qs, rfl, sq_of (e4 l _ hq), hql, fun p s hs => ?_⟩
    have hp := (List.getElem?_eq_some_iff.mp hs).1
    rw [Tr.subs_len] at hp
    obtain ⟨a', h6, h7⟩ := hqa p s hp hs
    exact ⟨a', h6, st_of (e4 a' _ h7)⟩
end
end K64

set_option Elab.async false
set_option linter.all false
set_option maxRecDepth 100000
set_option maxHeartbeats 4000000
/-! W3: rows_by, digits_at, top_digits. -/
namespace K64
open PySem PySem.Spec PyProof.Rows L2 Evl
theorem mkT_inj {a b : Mk} (h : mkT a = mkT b) : a = b := by
  have := st_inj h
  simp at this
  exact Prod.ext this.1 this.2
/-- what is left of the rows that start with m -/
def restR (R : List (List Mk)) (m : Mk) : List (List Mk) := (R.filter fun r => decide (r.head? = some m)).map List.tail
theorem restR_snoc (R : List (List Mk)) (m0 : Mk) (tl : List Mk) (m : Mk) : restR (R ++ [m0 :: tl]) m = restR R m ++ (if m0 = m then [tl] else []) := by
  unfold restR
  rw [List.filter_append, List.map_append]
  congr 1
  by_cases h : m0 = m <;> simp [h]
def ListsAt (H : Hp) (l : Addr) (rs : List (List Mk)) : Prop := ∃ ps : List V, H l = some (.lst ps) ∧ ps.length = rs.length ∧ ∀ (i : Nat) (r : List Mk), rs[i]? = some r → ∃ p : Addr, ps[i]? = some (.ref p) ∧ H p = some (.lst (r.map mkV))
theorem ListsAt.mono {H H' : Hp} {l : Addr} {rs : List (List Mk)} (e : Ex H H') (h : ListsAt H l rs) : ListsAt H' l rs := by
  obtain ⟨ps, h1, h2, h3⟩ := h
  refine ⟨ps, e l _ h1, h2, fun i r hr => ?_⟩
  obtain ⟨p, h4, h5⟩ := h3 i r hr
  exact ⟨p, h4, e p _ h5⟩
/-- the dict of the rows -/
def RowsD (H : Hp) (v : V) (c : Ck) (dom : Mk → Bool) : Prop := ∃ d kvs, v = .ref d ∧ H d = some (.dK kvs) ∧ ∀ m : Mk, (dom m = false → valV kvs (.inr (mkT m)) = none ∧ rest c m = []) ∧ (dom m = true → ∃ l : Addr, valV kvs (.inr (mkT m)) = some (.ref l) ∧ ListsAt H l (rest c m))
theorem RowsD.mono {H H' : Hp} {v : V} {c : Ck} {dom : Mk → Bool} (e : Ex H H') (h : RowsD H v c dom) : RowsD H' v c dom := by
  obtain ⟨d, kvs, h1, h2, h3⟩ := h
  refine ⟨d, kvs, h1, e d _ h2, fun m => ⟨(h3 m).1, fun hm => ?_⟩⟩
  obtain ⟨l, h4, h5⟩ := (h3 m).2 hm
  exact ⟨l, h4, h5.mono e⟩
structure RBm (H0 : Hp) (d : Addr) (R : List (List Mk)) (n : Nat) (H : Hp) (kvs : List (Key × V)) (dom : Mk → Bool) : Prop where
  ex : Ex H0 H
  hd : H d = some (.dK kvs)
  ln : kvs.length ≤ n
  no : ∀ m, dom m = false → valV kvs (.inr (mkT m)) = none ∧ restR R m = []
  yes : ∀ m, dom m = true → ∃ l : Addr, valV kvs (.inr (mkT m)) = some (.ref l) ∧ H0 l = none ∧ ListsAt H l (restR R m)
  inj : ∀ m m' (l : Addr), valV kvs (.inr (mkT m)) = some (.ref l) → valV kvs (.inr (mkT m')) = some (.ref l) → m = m'
theorem RBm.mono {H0 H H' : Hp} {d : Addr} {R : List (List Mk)} {n : Nat} {kvs : List (Key × V)} {dom : Mk → Bool} (e : Ex H H') (h : RBm H0 d R n H kvs dom) : RBm H0 d R n H' kvs dom :=
  ⟨h.ex.trans e, e d _ h.hd, h.ln, h.no, fun m hm => by
    obtain ⟨l, h1, h2, h3⟩ := h.yes m hm
    exact ⟨l, h1, h2, h3.mono e⟩, h.inj⟩
theorem len_put {kvs : List (Key × V)} {k : Key} {v : V} : (putK kvs k v).length ≤ kvs.length + 1 := by
  unfold putK
  split <;> simp
/-- a new entry -/
theorem RBm.put {H0 H : Hp} {d z : Addr} {R : List (List Mk)} {n : Nat} {kvs : List (Key × V)} {dom : Mk → Bool} {m0 : Mk} (h : RBm H0 d R n H kvs dom) (hd0 : H0 d = none) (hz : H z = some (.lst [])) (hz0 : H0 z = none) (hnew : ∀ m l, valV kvs (.inr (mkT m)) = some (.ref l) → l ≠ z) (hn : dom m0 = false) :
    RBm H0 d R (n + 1) (upd H d (.dK (putK kvs (.inr (mkT m0)) (.ref z)))) (putK kvs (.inr (mkT m0)) (.ref z)) (fun m => decide (m = m0) || dom m) := by
  have hzd : z ≠ d := by
    intro e
    rw [e, h.hd] at hz
    cases hz
  have key : ∀ m, (Sum.inr (mkT m) : Key) = Sum.inr (mkT m0) ↔ m = m0 := fun m => ⟨fun e => mkT_inj (Sum.inr.inj e), fun e => by rw [e]⟩
  have lst : ∀ {l rs}, ListsAt H l rs → ListsAt (upd H d (.dK (putK kvs (.inr (mkT m0)) (.ref z)))) l rs := by
    intro l rs ⟨ps, h1, h2, h3⟩
    have hne : ∀ {a : Addr} {xs : List V}, H a = some (.lst xs) → a ≠ d := by
      intro a xs ha e
      rw [e, h.hd] at ha
      cases ha
    refine ⟨ps, by rw [upd_ne (hne h1)]; exact h1, h2, fun i r hr => ?_⟩
    obtain ⟨p, h4, h5⟩ := h3 i r hr
    exact ⟨p, h4, by rw [upd_ne (hne h5)]; exact h5⟩
  refine ⟨Ex.mut h.ex hd0, upd_same, Nat.le_trans len_put (Nat.succ_le_succ h.ln), fun m hm => ?_, fun m hm => ?_, fun m m' l h1 h2 => ?_⟩
  · have hm0 : m ≠ m0 := by
      intro e
      simp [e] at hm
    have hm1 : dom m = false := by simpa [hm0] using hm
    refine ⟨?_, (h.no m hm1).2⟩
    rw [valV_put, if_neg (fun e => hm0 ((key m).mp e))]
    exact (h.no m hm1).1
  · by_cases hm0 : m = m0
    · subst hm0
      refine ⟨z, by rw [valV_put, if_pos rfl], hz0, ?_⟩
      rw [(h.no m hn).2]
      exact lst ⟨[], hz, rfl, fun i r hr => by simp at hr⟩
    · have hm1 : dom m = true := by simpa [hm0] using hm
      obtain ⟨l, h1, h2, h3⟩ := h.yes m hm1
      exact ⟨l, by rw [valV_put, if_neg (fun e => hm0 ((key m).mp e))]; exact h1, h2, lst h3⟩
  · rw [valV_put] at h1 h2
    by_cases a1 : m = m0
    · by_cases a2 : m' = m0
      · rw [a1, a2]
      · rw [if_neg (fun e => a2 ((key m').mp e))] at h2
        rw [if_pos ((key m).mpr a1)] at h1
        cases h1
        exact absurd rfl (hnew m' _ h2)
    · rw [if_neg (fun e => a1 ((key m).mp e))] at h1
      by_cases a2 : m' = m0
      · rw [if_pos ((key m').mpr a2)] at h2
        cases h2
        exact absurd rfl (hnew m _ h1)
      · rw [if_neg (fun e => a2 ((key m').mp e))] at h2
        exact h.inj m m' l h1 h2
/-- one more row on the list of its first mark -/
theorem RBm.add {H0 H : Hp} {d l p : Addr} {R : List (List Mk)} {n : Nat} {kvs : List (Key × V)} {dom : Mk → Bool} {m0 : Mk} {tl : List Mk} {ps : List V} (h : RBm H0 d R n H kvs dom) (hne : ∀ r ∈ R, r.tail ≠ []) (hm0 : dom m0 = true) (hl : valV kvs (.inr (mkT m0)) = some (.ref l)) (hps : H l = some (.lst ps)) (hp : H p = some (.lst (tl.map mkV))) (hpl : p ≠ l) :
    RBm H0 d (R ++ [m0 :: tl]) n (upd H l (.lst (ps ++ [.ref p]))) kvs dom ∧ H0 l = none := by
  obtain ⟨l', h1, h2, ps', h3, h4, h5⟩ := h.yes m0 hm0
  rw [hl] at h1
  cases h1
  rw [hps] at h3
  cases h3
  have hdl : d ≠ l := by
    intro e
    rw [← e, h.hd] at hps
    cases hps
  have refs : ∀ i, i < ps.length → ∃ q : Addr, ps[i]? = some (.ref q) := by
    intro i hi
    rw [h4] at hi
    obtain ⟨q, hq, _⟩ := h5 i _ (List.getElem?_eq_getElem hi)
    exact ⟨q, hq⟩
  have nel : ∀ (q : Addr) (r : List Mk), r ≠ [] → H q = some (.lst (r.map mkV)) → q ≠ l := by
    intro q r hr hq e
    rw [e, hps] at hq
    have e1 : ps = r.map mkV := by
      have := Option.some.inj hq
      exact HO.lst.inj this
    cases r with
    | nil => exact hr rfl
    | cons a b =>
      obtain ⟨x, hx⟩ := refs 0 (by rw [e1]; simp)
      rw [e1] at hx
      cases hx
  have rne : ∀ m r, r ∈ restR R m → r ≠ [] := by
    intro m r hr
    obtain ⟨r', hr', rfl⟩ := List.mem_map.mp hr
    exact hne r' (List.mem_filter.mp hr').1
  refine ⟨⟨Ex.mut h.ex h2, by rw [upd_ne hdl]; exact h.hd, h.ln, fun m hm => ?_, fun m hm => ?_, h.inj⟩, h2⟩
  · have : m0 ≠ m := by
      intro e
      rw [e, hm] at hm0
      cases hm0
    rw [restR_snoc, if_neg this, List.append_nil]
    exact h.no m hm
  · obtain ⟨l', g1, g2, ps', g3, g4, g5⟩ := h.yes m hm
    refine ⟨l', g1, g2, ?_⟩
    by_cases e : m0 = m
    · subst e
      rw [hl] at g1
      cases g1
      rw [hps] at g3
      cases g3
      refine ⟨_, upd_same, by rw [restR_snoc, if_pos rfl]; simp [g4], fun i r hr => ?_⟩
      rw [restR_snoc, if_pos rfl] at hr
      by_cases hi : i < (restR R m0).length
      · rw [List.getElem?_append_left hi] at hr
        obtain ⟨q, q1, q2⟩ := g5 i r hr
        refine ⟨q, by rw [List.getElem?_append_left (by omega)]; exact q1, ?_⟩
        rw [upd_ne (nel q r (rne m0 r (List.mem_of_getElem? hr)) q2)]
        exact q2
      · rw [List.getElem?_append_right (by omega)] at hr
        have hi0 : i - (restR R m0).length = 0 := by
          have := (List.getElem?_eq_some_iff.mp hr).1
          simp at this
          omega
        rw [hi0] at hr
        cases hr
        refine ⟨p, by rw [List.getElem?_append_right (by omega), g4, hi0]; rfl, ?_⟩
        rw [upd_ne hpl]
        exact hp
    · have hne' : l' ≠ l := by
        intro e2
        rw [e2] at g1
        exact e (h.inj m0 m l hl g1)
      rw [restR_snoc, if_neg e, List.append_nil]
      refine ⟨ps', by rw [upd_ne hne']; exact g3, g4, fun i r hr => ?_⟩
      obtain ⟨q, q1, q2⟩ := g5 i r hr
      refine ⟨q, q1, ?_⟩
      rw [upd_ne (nel q r (rne m r (List.mem_of_getElem? hr)) q2)]
      exact q2
section
variable {P : Program} {w : World} {K : Fg} {mg : Str → Option Value} {base : Heap}
def sp_rows_by (K : Fg) : Sp := spP 1 fun vs H Z => ∃ v c, vs = [v] ∧ ChkV K H v c ∧ c.Ok ∧ Z = fun v H2 => ∃ dom, RowsD H2 v c dom
def Rb (v : V) (c : Ck) (d : Addr) (H0 : Hp) (i : Nat) (σ : L2.St) (H : Hp) : Prop := (∃ kvs dom, RBm H0 d (c.rows.take i) i H kvs dom) ∧ ∃ a b, σ = [some v, some (.ref d), a, b]
abbrev N_rows_by : List Str := ["checker", "found", "row", "marks"]
theorem sc_rows_by : FnScope N_rows_by ["checker"] (defScope s_rows_by) := ⟨rfl, rfl, rfl, by decide +kernel, rfl, by decide +kernel, by decide +kernel⟩
theorem ok_rows_by (G : Fs P K mg) : Okf P w K mg base 2 "rows_by" ["checker"] [] (sp_rows_by K) := by
  refine mk_ok G.k_rows_by sc_rows_by (fun f fd F => ⟨[], .nil, FunD.bindsN F fun _ _ _ _ _ _ us hl => match us, hl with | [_], _ => rfl⟩) (fun vs H Q E h => h.1) ?_
  intro f cdv A outer s H vs Q E hr h
  have nd := sc_rows_by.nd
  refine ⟨_, (pss_cons (ps_set (i := 1) nd rfl (Or.inl rfl) pe_dnewK)
  (pss_cons (ps_for PassesOwn.never rfl (pi_tup (pe_ix ix_tup (pv 0) pe_int (fun _ _ => rfl))) (pg_name (i := 2) nd rfl (Or.inl rfl))
  (pss_cons (ps_set (i := 3) nd rfl (Or.inl rfl) (pe_ok (ok_marks_of_row G) hr (by decide) rfl (pa_cons (pv 2) pa_nil)))
  (pss_one (ps_expr (pe_bm F.plainAttrs_list F.slot_list_append F.type_list_append mt_append (pe_dsetd (pv 1) (pe_ix ix_list (pv 3) pe_int (fun _ _ => rfl)) (pe_lst pa_nil) ⟨rfl, rfl, rfl, rfl⟩) (pa_cons (pe_slice sl_list (pv 3) (po_some pe_int) po_none) pa_nil))))))
  (pss_one (ps_ret (pv 1))))), ?_⟩
  obtain ⟨hl, Z, ⟨v, c, rfl, ⟨p, a, b, r, rfl, hp, ha, hb, hr'⟩, ok, rfl⟩, q⟩ := h
  refine fun d hd0 => ?_
  show tSeq _ _ _ [some (.ref p), some (.ref d), none, none] _
  have hrl := ok.rowsL
  refine q_forI (H := H) (ei_tup (ev_op (ev_var rfl) ev_c (rv_ixTn (j := 3) hp rfl)) hr') (Ex.new hd0) (Rb (.ref p) c d H) (fun H2 e2 => ⟨⟨[], fun _ => false, (Ex.new hd0).trans e2, e2 d _ upd_same, Nat.le_refl _, fun m _ => ⟨rfl, rfl⟩, fun m h => (nomatch h), fun m m' l h => (nomatch h)⟩, none, none, rfl⟩) (fun i σ' H2 hi p => p.1.choose_spec.choose_spec.ex) (fun i x σ' H2 H3 hi pv y => ?_) (fun σ' H2 pv => ?_)
  · obtain ⟨⟨kvs, dom, RB⟩, x1, x2, rfl⟩ := pv
    obtain ⟨rfl, y⟩ := y
    have hi' : i < c.rows.length := by simpa using hi
    obtain ⟨r0, hr0⟩ : ∃ r0, c.rows[i]? = some r0 := ⟨_, List.getElem?_eq_getElem hi'⟩
    obtain rfl : x = .str (rowT r0) := by
      rw [List.getElem?_map, hr0] at y
      exact (Option.some.inj y).symm
    have or0 := ok.rows r0 (List.mem_of_getElem? hr0)
    have om := ok.many
    obtain ⟨m0, tl, rfl⟩ : ∃ m0 tl, r0 = m0 :: tl := by
      cases r0 with
      | nil => simp at or0
      | cons a b => exact ⟨a, b, rfl⟩
    have htake : c.rows.take (i + 1) = c.rows.take i ++ [m0 :: tl] := by rw [List.take_succ, hr0]; rfl
    have hne : ∀ r ∈ c.rows.take i, r.tail ≠ [] := by
      intro r hr e
      have h1 := (ok.rows r (List.mem_of_mem_take hr)).1
      have h2 := congrArg List.length e
      simp at h2
      omega
    refine q_asgL (el_callL (ea1 (ev_var rfl)) rfl fun _ _ => ⟨m0 :: tl, rfl, by have := or0.1; omega, rfl⟩) fun mk H4 hmk e4 h4 => ?_
    have RB4 := RB.mono e4
    -- behind setdefault
    have fin : ∀ (l : Addr) (H8 : Hp) (kvs8 : List (Key × V)) (dom8 : Mk → Bool), RBm H d (c.rows.take i) (i + 1) H8 kvs8 dom8 → dom8 m0 = true → valV kvs8 (.inr (mkT m0)) = some (.ref l) → H8 mk = some (.lst ((m0 :: tl).map mkV)) →
        tyV K "list" (.ref l) H8 ∧ tCons (tSl (rSlL K) (tVar 3) (tPart (tC (.int 1))) tNoPart) tNil [some (.ref p), some (.ref d), some (.str (rowT (m0 :: tl))), some (.ref mk)] H8 fun xs H9 => rAppend (.ref l) xs H9 fun _ H' => Rb (.ref p) c d H (i + 1) [some (.ref p), some (.ref d), some (.str (rowT (m0 :: tl))), some (.ref mk)] H' := by
      intro l H8 kvs8 dom8 R8 hm8 hv8 hmk8
      obtain ⟨l', g1, g2, ps, g3, g4, g5⟩ := R8.yes m0 hm8
      rw [hv8] at g1
      cases g1
      refine ⟨Or.inl ⟨rfl, ps, sq_of g3⟩, ?_⟩
      have hv4 : EvL (tSl (rSlL K) (tVar 3) (tPart (tC (.int 1))) tNoPart) [some (.ref p), some (.ref d), some (.str (rowT (m0 :: tl))), some (.ref mk)] H8 (cutV ((m0 :: tl).map mkV) (some 1) none) := el_sl (ev_var (v := .ref mk) rfl) (eo_some (ev_c (v := .int 1))) eo_none (sq_of hmk8)
      refine hv4 H8 (Ex.refl _) _ fun q9 H9 hq9 e9 h9 => ?_
      rw [cut_tail] at h9
      have hql : q9 ≠ l := by
        intro e
        rw [e, g3] at hq9
        cases hq9
      have R9 := (R8.mono e9).add hne hm8 hv8 (e9 l _ g3) h9 hql
      have hpl : ps.length < 100000 := by
        rw [g4]
        unfold restR
        rw [List.length_map]
        have := List.length_filter_le (fun r : List Mk => decide (r.head? = some m0)) (c.rows.take i)
        have h2 : (c.rows.take i).length ≤ i := by simp; omega
        omega
      refine ⟨l, ps, .ref q9, rfl, rfl, e9 l _ g3, sz_lt hpl, ⟨kvs8, dom8, ?_⟩, _, _, rfl⟩
      rw [htake]
      exact R9.1
    have hv1 : Ev (tVar 1) [some (.ref p), some (.ref d), some (.str (rowT (m0 :: tl))), some (.ref mk)] H4 (.ref d) := ev_var rfl
    show tDrop _ _ [some (.ref p), some (.ref d), some (.str (rowT (m0 :: tl))), some (.ref mk)] H4
    unfold tDrop tBM tDSetd
    refine hv1 H4 (Ex.refl _) _ fun H5 e5 => ⟨d, rfl, .inl ⟨kvs, .inl (e5 d _ RB4.hd)⟩, ?_⟩
    have hv2 : Ev (tOp (rIxL K) (tVar 3) (tC (.int 0))) [some (.ref p), some (.ref d), some (.str (rowT (m0 :: tl))), some (.ref mk)] H4 (mkV m0) := ev_op (ev_var (v := .ref mk) rfl) (ev_c (v := .int 0)) (rv_ixLn (j := 0) (sq_of h4) rfl)
    refine hv2 H5 e5 _ fun H6 e6 => ?_
    have hv3 : EvL (tLst tNil) [some (.ref p), some (.ref d), some (.str (rowT (m0 :: tl))), some (.ref mk)] H6 [] := el_lst ea_nil (by decide)
    refine hv3 H6 (Ex.refl _) _ fun z H7 hz e7 h7 => ?_
    have R7 := RB4.mono ((e5.trans e6).trans e7)
    have hmk7 := ((e5.trans e6).trans e7) mk _ h4
    refine ⟨kvs, .inr (mkT m0), R7.hd, rfl, sz_lt (by have := R7.ln; omega), fun v hv => ?_, fun hn => ?_⟩
    · have hdm : dom m0 = true := by
        cases hh : dom m0 with
        | true => rfl
        | false => rw [(R7.no m0 hh).1] at hv; cases hv
      obtain ⟨l, g1, _⟩ := R7.yes m0 hdm
      rw [g1] at hv
      cases hv
      exact fin l H7 kvs dom ⟨R7.ex, R7.hd, Nat.le_succ_of_le R7.ln, R7.no, R7.yes, R7.inj⟩ hdm g1 hmk7
    · have hdm : dom m0 = false := by
        cases hh : dom m0 with
        | false => rfl
        | true =>
          obtain ⟨l, g1, _⟩ := R7.yes m0 hh
          rw [hn] at g1
          cases g1
      have hz0 : H z = none := fresh_back ((RB4.ex.trans e5).trans e6) hz
      refine fin z _ _ _ (R7.put hd0 h7 hz0 (fun m l hm e => ?_) hdm) (by simp) (by rw [valV_put, if_pos rfl]) ?_
      · have hdm' : dom m = true := by
          cases hh : dom m with
          | true => rfl
          | false => rw [(R7.no m hh).1] at hm; cases hm
        obtain ⟨l', g1, g2, ps', g3, _⟩ := (RB4.mono (e5.trans e6)).yes m hdm'
        rw [hm] at g1
        cases g1
        rw [e, hz] at g3
        cases g3
      · rw [upd_ne (fun e => by rw [e, R7.hd] at hmk7; cases hmk7)]
        exact hmk7
  · obtain ⟨⟨kvs, dom, RB⟩, x1, x2, rfl⟩ := pv
    have et : c.rows.take (c.rows.map fun q => V.str (rowT q)).length = c.rows := by simp
    rw [et] at RB
    refine s_ret (ev_var rfl) fun H3 e3 => ?_
    have R3 := RB.mono e3
    refine q (.ref d) H3 R3.ex ⟨dom, d, kvs, rfl, R3.hd, fun m => ⟨fun hm => R3.no m hm, fun hm => ?_⟩⟩
    obtain ⟨l, g1, _, g3⟩ := R3.yes m hm
    exact ⟨l, g1, g3⟩
end
end K64

set_option Elab.async false
set_option linter.all false
set_option maxRecDepth 100000
set_option maxHeartbeats 4000000
/-! W4: digits_at, top_digits, fitting_rows. -/
namespace K64
open PySem PySem.Spec PyProof.Rows L2 Evl
section
variable {K : Fg} {σ : L2.St} {H H' : Hp} {ta tb te tx tc td ty : TE} {t u : TT} {x y z v : V} {r : R2} {wi : TI}
theorem ev_addS {a b : Str} (h1 : Ev ta σ H (.str a)) (h2 : Ev tb σ H (.str b)) (h : a.length + b.length ≤ 100000) : Ev (tOp rAddS ta tb) σ H (.str (a ++ b)) := ev_op h1 h2 (rv_addS h)
/-- a letter and a digit joined -/
theorem ev_mk {l d : Nat} (h1 : Ev ta σ H (sg l)) (h2 : Ev tb σ H (sg d)) : Ev (tOp rAddS ta tb) σ H (mkV (l, d)) := by
  have e : (⟨#[l]⟩ : Str) ++ ⟨#[d]⟩ = mkT (l, d) := st_app [l] [d]
  have q := ev_addS (a := ⟨#[l]⟩) (b := ⟨#[d]⟩) h1 h2 (by show 1 + 1 ≤ 100000; omega)
  rw [e] at q
  exact q
theorem inV_str (x : Str) (xs : List Str) : inV (.str x) (xs.map V.str) = decide (x ∈ xs) := by
  unfold inV
  rw [List.any_map]
  induction xs with
  | nil => simp
  | cons a r ih =>
    rw [List.any_cons, ih]
    have : eqV (.str a) (.str x) = decide (x = a) := by
      show (a == x) = _
      by_cases h : x = a
      · subst h; simp
      · rw [decide_eq_false h]
        exact beq_eq_false_iff_ne.mpr (Ne.symm h)
    simp only [Function.comp, this, List.mem_cons]
    by_cases h1 : x = a <;> by_cases h2 : x ∈ r <;> simp [h1, h2]
theorem mem_mk {m : Mk} {ms : List Mk} : mkT m ∈ ms.map mkT ↔ m ∈ ms := ⟨fun h => by
  obtain ⟨m', h1, h2⟩ := List.mem_map.mp h
  rw [← mkT_inj h2]
  exact h1, fun h => List.mem_map.mpr ⟨m, h, rfl⟩⟩
theorem inV_mk (m : Mk) (ms : List Mk) : inV (mkV m) (ms.map mkV) = decide (m ∈ ms) := by
  have e : ms.map mkV = (ms.map mkT).map V.str := by simp [mkV, Function.comp]
  rw [e]
  show inV (.str (mkT m)) _ = _
  rw [inV_str]
  simp only [mem_mk]
theorem flat_strs (xs : List Str) : (xs.map V.str).all flatV = true := by simp [flatV]
theorem flat_mks (ms : List Mk) : (ms.map mkV).all flatV = true := by simp [flatV, mkV]
theorem ev_din {d : Addr} {kvs : List (Key × V)} {k : Key} (h1 : Ev ty σ H (kV k)) (h2 : Ev td σ H (.ref d)) (hd : H d = some (.dK kvs)) : Ev (tDIn ty td) σ H (.bl (valV kvs k).isSome) := fun H1 e Q q =>
  h1 H1 e _ fun H2 e2 => h2 H2 (e.trans e2) _ fun H3 e3 => ⟨d, _, rfl, .k (((e.trans e2).trans e3) d _ hd), q H3 (e2.trans e3)⟩
theorem ev_dget {d : Addr} {kvs : List (Key × V)} {k : Key} (h2 : Ev td σ H (.ref d)) (h1 : Ev ty σ H (kV k)) (hd : H d = some (.dK kvs)) (hk : valV kvs k = some v) : Ev (tDGet td ty) σ H v := fun H1 e Q q =>
  h2 H1 e _ fun H2 e2 => h1 H2 (e.trans e2) _ fun H3 e3 => ⟨d, v, rfl, by rw [← hk]; exact .k (((e.trans e2).trans e3) d _ hd), q H3 (e2.trans e3)⟩
/-- d.get(k, new): there | not there -/
theorem ev_dget2 {d : Addr} {kvs : List (Key × V)} {k : Key} {xs : List V} (h2 : Ev td σ H (.ref d)) (h1 : Ev ty σ H (kV k)) (h3 : EvL tx σ H xs) (hd : H d = some (.dK kvs)) (hk : valV kvs k = some v) : Ev (tDGet2 td ty tx) σ H v := fun H1 e Q q =>
  h2 H1 e _ fun H2 e2 => ⟨d, rfl, .inl ⟨kvs, .inl ((e.trans e2) d _ hd)⟩, h1 H2 (e.trans e2) _ fun H3 e3 => h3 H3 ((e.trans e2).trans e3) _ fun p H4 hp e4 h4 => ⟨some v, by rw [← hk]; exact .k ((((e.trans e2).trans e3).trans e4) d _ hd), q H4 ((e2.trans e3).trans e4)⟩⟩
theorem el_dget2 {d : Addr} {kvs : List (Key × V)} {k : Key} {xs : List V} (h2 : Ev td σ H (.ref d)) (h1 : Ev ty σ H (kV k)) (h3 : EvL tx σ H xs) (hd : H d = some (.dK kvs)) (hk : valV kvs k = none) : EvL (tDGet2 td ty tx) σ H xs := fun H1 e Q q =>
  h2 H1 e _ fun H2 e2 => ⟨d, rfl, .inl ⟨kvs, .inl ((e.trans e2) d _ hd)⟩, h1 H2 (e.trans e2) _ fun H3 e3 => h3 H3 ((e.trans e2).trans e3) _ fun p H4 hp e4 h4 => ⟨none, by rw [← hk]; exact .k ((((e.trans e2).trans e3).trans e4) d _ hd), q p H4 (fresh_back (e2.trans e3) hp) ((e2.trans e3).trans e4) h4⟩⟩
theorem sdig : sDIG = St digs := by decide +kernel
theorem ei_dig : EvI (iStr (tC (.str sDIG))) σ H 10 (YAt (digs.map sg)) := by
  have h := ei_str (σ := σ) (H := H) (te := tC (.str sDIG)) (w := sDIG) ev_c
  rw [show sDIG.cps.size = 10 from by decide +kernel, show sgn sDIG = digs.map sg from by rw [sdig, sgn_st]] at h
  exact h
theorem yat_get {xs : List V} {i : Nat} {H1 H2 : Hp} {x d : V} (hi : i < xs.length) (y : YAt xs i H1 x H2) : H2 = H1 ∧ x = xs.getD i d := by
  obtain ⟨rfl, y⟩ := y
  exact ⟨rfl, by have := getD_of (d := d) hi; rw [this] at y; exact (Option.some.inj y).symm⟩
/-- over the ten digits -/
theorem el_digs {j : Nat} {vs : List Nat} (b : Nat → Bool) (hw : ∀ x, wipe ((wipe σ vs).set j (some x)) vs = wipe σ vs) (hj : ∀ x, ((wipe σ vs).set j (some x))[j]? = some (some x))
    (ht : ∀ (d : Nat) H1, Ex H H1 → EvT t ((wipe σ vs).set j (some (sg d))) H1 (b d)) : EvL (tLc (iStr (tC (.str sDIG))) (gName j) t (tVar j) vs) σ H ((digs.filter b).map sg) := by
  have hd : ∀ i, (h : i < digs.length) → (digs.map sg).getD i .non = sg digs[i] := fun i h => by simp [List.getD, h]
  have g := el_lc (vs := vs) (j := j) (t := t) (te := tVar j) (fun i => b (digs.getD i 0)) (fun i => (digs.map sg).getD i .non) (f := fun i => (digs.map sg).getD i .non) (ei_dig (σ := σ) (H := H)).j (by omega) (fun i H1 x H2 hi y => yat_get hi y) hw
    (fun i H1 e hi => by
      have h : i < digs.length := hi
      rw [hd i h]
      have := ht digs[i] H1 e
      rw [show digs.getD i 0 = digs[i] by simp [List.getD, h]]
      exact this) (fun i H1 e hi _ => ev_var (hj _))
  rw [show (10 : Nat) = digs.length from rfl, given_list digs b sg _ _ (fun i h => by simp [List.getD, h]) (fun i h => hd i h)] at g
  exact g
/-- over pairs that stand in a list -/
theorem el_lc2L {j k : Nat} {vs : List Nat} {n : Nat} {f g : Nat → V} {qs : List V} (b : Nat → Bool) (v : Nat → V) (h : EvJ wi σ H n (YAt qs)) (hn : n ≤ 40000) (hq : ∀ i, i < n → ∃ T : Addr, qs[i]? = some (.ref T) ∧ SqT K H T [f i, g i])
    (hw : ∀ x y, wipe (((wipe σ vs).set j (some x)).set k (some y)) vs = wipe σ vs)
    (ht : ∀ (i : Nat) H1, Ex H H1 → i < n → EvT t (((wipe σ vs).set j (some (f i))).set k (some (g i))) H1 (b i)) (he : ∀ (i : Nat) H1, Ex H H1 → i < n → b i = true → Ev te (((wipe σ vs).set j (some (f i))).set k (some (g i))) H1 (v i)) :
    EvL (tLc wi (gTup K 2 (gCons (gName j) (gCons (gName k) gNil))) t te vs) σ H (given n b v) := fun H0 e Q q => h H0 e _ fun J G H1 e1 hG w Dl hD =>
  lc_it w (Cw H1 b v Dl) ⟨hD, Ex.new hD, upd_same⟩ (fun i H2 _ p => hG H2 p.2.1) (fun i x H2 H3 hi p y => by
    obtain ⟨rfl, y⟩ := y
    obtain ⟨T, h1, h2⟩ := hq i hi
    rw [h1] at y
    cases y
    exact ⟨T, [f i, g i], rfl, ex_t ((e.trans e1).trans p.2.1) h2, rfl, f i, [g i], rfl, g i, [], rfl, rfl, hw _ _, cw_turn p (by omega) (ht i H1 (e.trans e1) hi) (fun hf => he i H1 (e.trans e1) hi hf)⟩) (fun H2 p => q Dl H2 (fresh_back e1 p.1) (e1.trans p.2.1) p.2.2)
/-- all(..) of what the turns say -/
theorem ev_allG {n : Nat} {v : Nat → V} {b : Nat → Bool} (h : EvL te σ H (given n (fun _ => true) v)) (hv : ∀ i, i < n → v i = .bl (b i)) : Ev (tCB (rAll K) (tCons te tNil)) σ H (.bl (((List.range n).map b).all id)) := by
  have e : given n (fun _ => true) v = ((List.range n).map b).map V.bl := by
    rw [given_all, List.map_map]
    apply List.map_congr_left
    intro i hi
    exact hv i (List.mem_range.mp hi)
  exact ev_all (by rw [← e]; exact h)
theorem q_zipL {D : Ends} {tz : TS} {i : Nat} {a b : Addr} {xs ys : List V} (ha : Ev ta σ H (.ref a)) (hb : Ev tb σ H (.ref b)) (hx : SqL K H a xs) (hy : SqT K H b ys) (h1 : xs.length ≤ 1000) (h2 : ys.length ≤ 1000)
    (k : ∀ (ps : List Addr) (l : Addr) (H3 : Hp), Ex H H3 → ps.length = min xs.length ys.length → (∀ (j : Nat) (p : Addr), ps[j]? = some p → ∃ x y, xs[j]? = some x ∧ ys[j]? = some y ∧ H3 p = some (.tup [x, y])) → H l = none → H3 l = some (.lst (ps.map V.ref)) → tz D (σ.set i (some (.ref l))) H3) :
    tSeq (tAsg (tZipL K ta tb) (gName i)) tz D σ H :=
  ha H (Ex.refl H) _ fun H1 e1 => hb H1 e1 _ fun H2 e2 => ⟨a, b, xs, ys, rfl, rfl, ex_l (e1.trans e2) hx, ex_t (e1.trans e2) hy, h1, h2, fun ps l H3 e3 hl hp hn h3 => k ps l H3 ((e1.trans e2).trans e3) hl hp (fresh_back (e1.trans e2) hn) h3⟩
/-- tuple(a new list) -/
theorem eu_tupL {xs : List V} (h : EvL te σ H xs) : EvU (tCB (fun xs H Q => ∃ p ys, xs = [V.ref p] ∧ ((SqL K H p ys ∧ ∀ l, H l = none → Q (.ref l) (upd H l (.tup ys))) ∨ (SqT K H p ys ∧ Q (.ref p) H))) (tCons te tNil)) σ H xs := fun H1 e Q q =>
  h H1 e _ fun p H2 hp e2 h2 => ⟨p, xs, rfl, .inl ⟨sq_of h2, fun l hl => q l _ (fresh_back e2 hl) (e2.trans (Ex.new hl)) upd_same⟩⟩
end
/-- which digits are asked at a subtree -/
def dmOf (c : Ck) (dom : Mk → Bool) (s : Tr) (d : Nat) : Bool := if s.kids = [] then decide ((s.lab, d) ∈ c.leaves) else dom (s.lab, d)
theorem offs_len (s : Tr) : s.offs.length = s.kids.length := by cases s <;> rfl
def KvT (kvs : List (Key × V)) (T : Tab) : Prop := ∀ x : Nat, valV kvs (.inr (St [x])) = (T.lookup x).map fun k => V.int (k : Nat)
/-- what is known from the place p on -/
def KnownAt (H : Hp) (v : V) (t : Tr) (c : Ck) (ν : List Nat) (p : Nat) : Prop := ∃ (kl : Addr) (ds : List V), v = .ref kl ∧ H kl = some (.lst ds) ∧ ds.length = t.size ∧ ∀ (q : Nat) (s : Tr), p ≤ q → t.subs[q]? = some s → ∃ (d : Addr) (kvs : List (Key × V)), ds[q]? = some (.ref d) ∧ H d = some (.dK kvs) ∧ KvT kvs (tab c s (ν.drop q))
theorem KnownAt.mono {H H' : Hp} {v : V} {t : Tr} {c : Ck} {ν : List Nat} {p : Nat} (e : Ex H H') (h : KnownAt H v t c ν p) : KnownAt H' v t c ν p := by
  obtain ⟨kl, ds, h1, h2, h3, h4⟩ := h
  refine ⟨kl, ds, h1, e kl _ h2, h3, fun q s hq hs => ?_⟩
  obtain ⟨d, kvs, h5, h6, h7⟩ := h4 q s hq hs
  exact ⟨d, kvs, h5, e d _ h6, h7⟩
theorem ktabs_len (c : Ck) (s : Tr) (μ : List Nat) : (ktabs c s μ).length = s.kids.length := by cases s <;> rfl
theorem ktabs_at {c : Ck} {s kk : Tr} {μ : List Nat} {i o : Nat} (ho : s.offs[i]? = some o) (hk : s.kids[i]? = some kk) : (ktabs c s μ)[i]? = some (kk.lab, tab c kk (μ.drop o)) := by
  cases s with
  | leaf l => simp [Tr.offs] at ho
  | one l a =>
    rcases i with _ | i
    · cases ho; cases hk; rfl
    · simp [Tr.offs] at ho
  | two l a b =>
    rcases i with _ | _ | i
    · cases ho; cases hk; rfl
    · cases ho; cases hk; rfl
    · simp [Tr.offs] at ho
/-- one mark on one child -/
def fitB (k : Nat × Tab) (m : Mk) : Bool := decide (m.1 = k.1) && (k.2.lookup m.2).isSome
theorem fitR_eq : ∀ (ks : List (Nat × Tab)) (r : List Mk), r.length = ks.length → fitR ks r = if (List.zipWith fitB ks r).all id = true then some ((List.zipWith (fun (k : Nat × Tab) (m : Mk) => (k.2.lookup m.2).getD 0) ks r).sum, r.map (·.2)) else none
  | [], [], _ => rfl
  | (l, A) :: ks, m :: ms, h => by
    have ih := fitR_eq ks ms (by simpa using h)
    simp only [fitR, ih, List.zipWith_cons_cons, List.all_cons, id, List.sum_cons, List.map_cons, fitB]
    by_cases h1 : m.1 = l
    · cases h2 : A.lookup m.2 with
      | none => simp [h1]
      | some k =>
        by_cases h3 : (List.zipWith fitB ks ms).all id = true
        · simp [h1, h3]
        · simp [h1, h3]
    · simp [h1]
def FitW (K : Fg) (H : Hp) (v : V) (es : List (Nat × List Nat)) : Prop := ∃ (l : Addr) (qs : List V), v = .ref l ∧ H l = some (.lst qs) ∧ qs.length = es.length ∧ ∀ (j : Nat) (e : Nat × List Nat), es[j]? = some e → ∃ a : Addr, qs[j]? = some (.ref a) ∧ H a = some (.tup (e.2.map sg))
theorem FitW.mono {K : Fg} {H H' : Hp} {v : V} {es : List (Nat × List Nat)} (e : Ex H H') (h : FitW K H v es) : FitW K H' v es := by
  obtain ⟨l, qs, h1, h2, h3, h4⟩ := h
  refine ⟨l, qs, h1, e l _ h2, h3, fun j x hx => ?_⟩
  obtain ⟨a, h5, h6⟩ := h4 j x hx
  exact ⟨a, h5, e a _ h6⟩
section
variable {P : Program} {w : World} {K : Fg} {mg : Str → Option Value} {base : Heap}
def sp_digits_at (K : Fg) : Sp := spL 4 fun vs H xs => ∃ v c rv dom s ch xs' m, vs = [v, rv, sg s.sign, .ref ch] ∧ ChkV K H v c ∧ RowsD H rv c dom ∧ SqT K H ch xs' ∧ xs'.length = s.kids.length ∧ s.Ok m ∧ xs = (digs.filter (dmOf c dom s)).map sg
abbrev N_digits_at : List Str := ["checker", "rows", "sign", "children", "label", "digit"]
theorem sc_digits_at : FnScope N_digits_at ["checker", "rows", "sign", "children"] (defScope s_digits_at) := ⟨rfl, rfl, rfl, by decide +kernel, rfl, by decide +kernel, by decide +kernel⟩
theorem ok_digits_at (G : Fs P K mg) : Okf P w K mg base 3 "digits_at" ["checker", "rows", "sign", "children"] [] (sp_digits_at K) := by
  refine mk_ok G.k_digits_at sc_digits_at (fun f fd F => ⟨[], .nil, FunD.bindsN F fun _ _ _ _ _ _ us hl => match us, hl with | [_, _, _, _], _ => rfl⟩) (fun vs H Q E h => h.1) ?_
  intro f cdv A outer s H vs Q E hr h
  have nd := sc_digits_at.nd
  refine ⟨_, (pss_cons (ps_set (i := 4) nd rfl (Or.inr rfl) (pe_ok (ok_label_of G) hr (by decide) rfl (pa_cons (pv 2) pa_nil)))
  (pss_cons (ps_if (pt_cmpR op_eq (pe_callB call_len_seq rfl G.f_len boot_len (pa_cons (pv 3) pa_nil)) pe_int (nomark _)) (pss_one (ps_ret (pe_lc (g := gName 5) rfl nd (pi_str (pe_glob (v := .str sDIG) rfl G.c_DIGITS.choose_spec ⟨_, rfl⟩)) (blkOk_by (own := [("digit", 5)]) (N := N_digits_at) (sc := defScope s_digits_at) (by decide +kernel)) (fun _ _ _ _ _ => (pg_name (i := 5) nd rfl (Or.inl rfl))) (fun _ _ _ _ _ => (pts_one (pt_cmpR (op_inK (K := K) rfl) (pe_op op_add_str (pv 4) (pv 5)) (pe_ix (ix_tupK (K := K) rfl) (pv 0) pe_int (fun _ _ => rfl)) rfl))) (fun _ _ _ _ _ => (pv 5))))) pss_nil)
  (pss_one (ps_ret (pe_lc (g := gName 5) rfl nd (pi_str (pe_glob (v := .str sDIG) rfl G.c_DIGITS.choose_spec ⟨_, rfl⟩)) (blkOk_by (own := [("digit", 5)]) (N := N_digits_at) (sc := defScope s_digits_at) (by decide +kernel)) (fun _ _ _ _ _ => (pg_name (i := 5) nd rfl (Or.inl rfl))) (fun _ _ _ _ _ => (pts_one (pt_cmp (pc_din (hu_of hr) (pe_op op_add_str (pv 4) (pv 5)) (pv 1))))) (fun _ _ _ _ _ => (pv 5))))))), ?_⟩
  obtain ⟨hl, xs, ⟨v, c, rv, dom, s', ch, xs', m, rfl, hc, hR, hch, hlen, ho, rfl⟩, q⟩ := h
  refine q_asg (ev_callV (ea1 (ev_var rfl)) rfl fun _ _ => ⟨s', m, rfl, ho, rfl⟩) fun H1 e1 => ?_
  refine q_when (b := decide (s'.kids = [])) (et_is (et_test (ev_op (ev_cb (ea1 (ev_var rfl)) (rc_lenT (ex_t e1 hch))) ev_c (rv_eq rfl))) ?_) (fun hb H2 e2 => ?_) (fun hb H2 e2 => ?_)
  · rw [hlen]
    cases h : s'.kids with
    | nil => simp
    | cons a b => simp; omega
  · obtain ⟨p, a, b, r, rfl, hp, ha, hb', hr'⟩ := hc.mono (e1.trans e2)
    have hk := of_decide_eq_true hb
    refine s_retL (el_digs (fun d => dmOf c dom s' d) (fun _ => rfl) (fun _ => rfl) fun d H3 e3 => ?_) fun pp H3 hpp e3 h3 => q pp H3 (fresh_back (e1.trans e2) hpp) ((e1.trans e2).trans e3) h3
    refine et_is (et_test (ev_op (ev_mk (l := s'.lab) (d := d) (ev_var rfl) (ev_var rfl)) (ev_op (ev_var rfl) ev_c (rv_ixTn (j := 2) (ex_t e3 hp) rfl)) (rv_isT (ex_t e3 hb') rfl (flat_mks _)))) ?_
    rw [inV_mk, dmOf, if_pos hk]
  · obtain ⟨d, kvs, rfl, hd, hm⟩ := hR.mono (e1.trans e2)
    have hk := of_decide_eq_false hb
    refine s_retL (el_digs (fun d => dmOf c dom s' d) (fun _ => rfl) (fun _ => rfl) fun x H3 e3 => ?_) fun pp H3 hpp e3 h3 => q pp H3 (fresh_back (e1.trans e2) hpp) ((e1.trans e2).trans e3) h3
    refine et_is (et_B (ev_din (k := .inr (mkT (s'.lab, x))) (ev_mk (l := s'.lab) (d := x) (ev_var rfl) (ev_var rfl)) (ev_var rfl) (e3 d _ hd))) ?_
    rw [dmOf, if_neg hk]
    cases h : dom (s'.lab, x) with
    | false => rw [((hm _).1 h).1]; rfl
    | true => obtain ⟨l, h1, _⟩ := (hm _).2 h; rw [h1]; rfl
def sp_top_digits (K : Fg) : Sp := spL 3 fun vs H xs => ∃ v c t kv ν, vs = [v, .str (St t.signs), kv] ∧ ChkV K H v c ∧ t.Ok c.many ∧ t.size ≤ 1000 ∧ KnownAt H kv t c ν 0 ∧ xs = (digs.filter fun d => ((tab c t ν).lookup d).isSome && decide ((t.lab, d) ∈ c.tops)).map sg
abbrev N_top_digits : List Str := ["checker", "tree", "known", "digit"]
theorem sc_top_digits : FnScope N_top_digits ["checker", "tree", "known"] (defScope s_top_digits) := ⟨rfl, rfl, rfl, by decide +kernel, rfl, by decide +kernel, by decide +kernel⟩
theorem ok_top_digits (G : Fs P K mg) : Okf P w K mg base 3 "top_digits" ["checker", "tree", "known"] [] (sp_top_digits K) := by
  refine mk_ok G.k_top_digits sc_top_digits (fun f fd F => ⟨[], .nil, FunD.bindsN F fun _ _ _ _ _ _ us hl => match us, hl with | [_, _, _], _ => rfl⟩) (fun vs H Q E h => h.1) ?_
  intro f cdv A outer s H vs Q E hr h
  have nd := sc_top_digits.nd
  refine ⟨_, (pss_one (ps_ret (pe_lc (g := gName 3) rfl nd (pi_str (pe_glob (v := .str sDIG) rfl G.c_DIGITS.choose_spec ⟨_, rfl⟩)) (blkOk_by (own := [("digit", 3)]) (N := N_top_digits) (sc := defScope s_top_digits) (by decide +kernel)) (fun _ _ _ _ _ => (pg_name (i := 3) nd rfl (Or.inl rfl))) (fun _ _ _ _ _ => (pts_one (PW.pt (pw_and (pt_cmp (pc_din (hu_of hr) (pv 3) (pe_ix (ix_listK (K := K) rfl) (pv 2) pe_int (fun _ _ => rfl)))) (pw_and1 (pt_cmpR (op_inK (K := K) rfl) (pe_op op_add_str (pe_ok (ok_label_of G) hr (by decide) rfl (pa_cons (pe_ix ix_str (pv 1) pe_int (fun _ _ => rfl)) pa_nil)) (pv 3)) (pe_ix (ix_tupK (K := K) rfl) (pv 0) pe_int (fun _ _ => rfl)) rfl)))))) (fun _ _ _ _ _ => (pv 3))))), ?_⟩
  obtain ⟨hl, xs, ⟨v, c, t, kv, ν, rfl, ⟨p, a, b, r, rfl, hp, ha, hb, hr'⟩, ht, hz, ⟨kl, ds, rfl, hkl, hds, hk⟩, rfl⟩, q⟩ := h
  obtain ⟨d, kvs, hd0, hd, hT⟩ := hk 0 t (Nat.le_refl _) (Tr.subs_head t)
  refine s_retL (el_digs (fun d => ((tab c t ν).lookup d).isSome && decide ((t.lab, d) ∈ c.tops)) (fun _ => rfl) (fun _ => rfl) fun x H1 e1 => ?_) fun pp H3 hpp e3 h3 => q pp H3 hpp e3 h3
  refine et_and (et_is (et_B (ev_din (k := .inr (St [x])) (ev_var rfl) (ev_op (ev_var rfl) ev_c (rv_ixLn (j := 0) (sq_of (e1 kl _ hkl)) hd0)) (e1 d _ hd))) ?_) fun _ => ?_
  · rw [hT, List.drop_zero]
    cases (tab c t ν).lookup x <;> rfl
  · refine et_is (et_test (ev_op (ev_mk (l := t.lab) (d := x) (ev_callV (ea1 (ev_op (ev_var rfl) ev_c (rv_ixC (j := 0) (c := t.sign) (Tr.sign_at (Tr.subs_head t)) (by rw [Tr.signs_len]; omega)))) rfl fun _ _ => ⟨t, _, rfl, ht, rfl⟩) (ev_var rfl)) (ev_op (ev_var rfl) ev_c (rv_ixTn (j := 1) (ex_t e1 hp) rfl)) (rv_isT (ex_t e1 ha) rfl (flat_mks _)))) ?_
    rw [inV_mk]
def sp_fitting_rows (K : Fg) : Sp := spP 6 fun vs H Z => ∃ rv c dom t p s d ch kv ν, vs = [rv, .str (St t.signs), .int (p : Nat), sg d, .ref ch, kv] ∧ RowsD H rv c dom ∧ c.Ok ∧ t.Ok c.many ∧ t.size ≤ 1000 ∧ t.subs[p]? = some s ∧ s.kids ≠ [] ∧ SqT K H ch (s.offs.map fun o => V.int ((p + o : Nat) : Int)) ∧ KnownAt H kv t c ν (p + 1) ∧ Z = fun v H2 => FitW K H2 v (priced c s.lab d (ktabs c s (ν.drop p)))
def fitPre (c : Ck) (s : Tr) (d : Nat) (μ : List Nat) (i : Nat) : List (Nat × List Nat) := ((rest c (s.lab, d)).take i).filterMap (fitR (ktabs c s μ))
theorem fitPre_succ {c : Ck} {s : Tr} {d : Nat} {μ : List Nat} {i : Nat} {r : List Mk} (h : (rest c (s.lab, d))[i]? = some r) : fitPre c s d μ (i + 1) = fitPre c s d μ i ++ (match fitR (ktabs c s μ) r with | some e => [e] | none => []) := by
  unfold fitPre
  rw [List.take_succ, h, List.filterMap_append]
  congr 1
  simp only [Option.toList_some, List.filterMap_cons, List.filterMap_nil]
  cases fitR (ktabs c s μ) r <;> rfl
theorem fitPre_len (c : Ck) (s : Tr) (d : Nat) (μ : List Nat) (i : Nat) : (fitPre c s d μ i).length ≤ i := by
  unfold fitPre
  have := List.length_filterMap_le (fitR (ktabs c s μ)) ((rest c (s.lab, d)).take i)
  have h2 : ((rest c (s.lab, d)).take i).length ≤ i := by simp; omega
  omega
theorem rest_len {c : Ck} (ok : c.Ok) {m : Mk} : (rest c m).length ≤ 300 ∧ ∀ r ∈ rest c m, r.length = c.many := by
  constructor
  · unfold rest
    rw [List.length_map]
    have := List.length_filter_le (fun r : List Mk => decide (r.head? = some m)) c.rows
    have := ok.rowsL
    omega
  · intro r hr
    obtain ⟨r', hr', rfl⟩ := List.mem_map.mp hr
    have := (ok.rows r' (List.mem_filter.mp hr').1).1
    simp
    omega
theorem rest_dig {c : Ck} (ok : c.Ok) {m : Mk} : ∀ r ∈ rest c m, ∀ q ∈ r, okM q := by
  intro r hr q hq
  obtain ⟨r', hr', rfl⟩ := List.mem_map.mp hr
  exact (ok.rows r' (List.mem_filter.mp hr').1).2 q (List.mem_of_mem_tail hq)
def Fi (rv : V) (c : Ck) (t : Tr) (p : Nat) (s : Tr) (d : Nat) (ch : Addr) (kv : V) (ν : List Nat) (fl : Addr) (H0 : Hp) (i : Nat) (σ : L2.St) (H : Hp) : Prop :=
  Ex H0 H ∧ (∃ qs, H fl = some (.lst qs) ∧ qs.length = (fitPre c s d (ν.drop p) i).length ∧ ∀ (j : Nat) (e : Nat × List Nat), (fitPre c s d (ν.drop p) i)[j]? = some e → ∃ a : Addr, qs[j]? = some (.ref a) ∧ H a = some (.tup (e.2.map sg))) ∧
    ∃ x7 x8 x9 x10, σ = [some rv, some (.str (St t.signs)), some (.int (p : Nat)), some (sg d), some (.ref ch), some kv, some (.ref fl), x7, x8, x9, x10]
abbrev N_fitting_rows : List Str := ["rows", "tree", "place", "digit", "children", "known", "found", "marks", "pairs", "mark", "child"]
theorem sc_fitting_rows : FnScope N_fitting_rows ["rows", "tree", "place", "digit", "children", "known"] (defScope s_fitting_rows) := ⟨rfl, rfl, rfl, by decide +kernel, rfl, by decide +kernel, by decide +kernel⟩
theorem ok_fitting_rows (G : Fs P K mg) : Okf P w K mg base 3 "fitting_rows" ["rows", "tree", "place", "digit", "children", "known"] [] (sp_fitting_rows K) := by
  refine mk_ok G.k_fitting_rows sc_fitting_rows (fun f fd F => ⟨[], .nil, FunD.bindsN F fun _ _ _ _ _ _ us hl => match us, hl with | [_, _, _, _, _, _], _ => rfl⟩) (fun vs H Q E h => h.1) ?_
  intro f cdv A outer s H vs Q E hr h
  have nd := sc_fitting_rows.nd
  refine ⟨_, (pss_cons (ps_set (i := 6) nd rfl (Or.inl rfl) (pe_lst pa_nil))
  (pss_cons (ps_for PassesOwn.never rfl (pi_list (pe_dget2 (hu_of hr) (pv 0) (pe_op op_add_str (pe_ok (ok_label_of G) hr (by decide) rfl (pa_cons (pe_ix ix_str (pv 1) (pv 2) (fun _ _ => rfl)) pa_nil)) (pv 3)) (pe_lst pa_nil) ⟨rfl, rfl, rfl, rfl⟩)) (pg_name (i := 7) nd rfl (Or.inl rfl))
  (pss_cons (ps_set (i := 8) nd rfl (Or.inl rfl) (pe_zipL rfl rfl G.f_list rfl G.f_zip (pv 7) (pv 4)))
  (pss_one (ps_if (pt_val (pe_callB (cr_all rfl) rfl G.f_all boot_all (pa_cons (pe_lc (g := gTup K 2 (gCons (gName 9) (gCons (gName 10) gNil))) rfl nd (pi_list (pv 8)) (blkOk_by (own := [("mark", 9), ("child", 10)]) (N := N_fitting_rows) (sc := defScope s_fitting_rows) (by decide +kernel)) (fun _ _ _ _ _ => (pg_two (i := 9) (j := 10) rfl nd rfl rfl rfl rfl)) (fun _ _ _ _ _ => pts_nil) (fun _ _ _ _ _ => (pe_and (pe_cmpR op_eq (pe_ix ix_str (pv 9) pe_int (fun _ _ => rfl)) (pe_ok (ok_label_of G) hr (by decide) rfl (pa_cons (pe_ix ix_str (pv 1) (pv 10) (fun _ _ => rfl)) pa_nil)) (nomark _)) (pe_one (pe_cmp (pc_din (hu_of hr) (pe_ix ix_str (pv 9) pe_int (fun _ _ => rfl)) (pe_ix (ix_listK (K := K) rfl) (pv 5) (pv 10) (fun _ _ => rfl)))))))) pa_nil))) (pss_one (ps_expr (pe_bm F.plainAttrs_list F.slot_list_append F.type_list_append mt_append (pv 6) (pa_cons (pe_callTy call_tuple_of rfl G.f_tuple boot_tuple (pa_cons (pe_lc (g := gName 9) rfl nd (pi_list (pv 7)) (blkOk_by (own := [("mark", 9)]) (N := N_fitting_rows) (sc := defScope s_fitting_rows) (by decide +kernel)) (fun _ _ _ _ _ => (pg_name (i := 9) nd rfl (Or.inl rfl))) (fun _ _ _ _ _ => pts_nil) (fun _ _ _ _ _ => (pe_ix ix_str (pv 9) pe_int (fun _ _ => rfl)))) pa_nil)) pa_nil)))) pss_nil))))
  (pss_one (ps_ret (pv 6))))), ?_⟩
  obtain ⟨hl, Z, ⟨rv, c, dom, t, p, s', d, ch, kv, ν, rfl, hR, ok, ht, hz, hs, hkn, hch, hK, rfl⟩, q⟩ := h
  refine q_asgL (el_lst ea_nil (by decide)) fun fl H1 hfl e1 h1 => ?_
  have hos := Tr.ok_at ht hs
  have hkl : s'.kids.length = c.many := by
    rw [Tr.kids_len hos]
    have := Tr.sign_cap hos
    rw [if_pos (of_decide_eq_true (by rw [this, decide_eq_true hkn]))]
  have om := ok.many
  have hps : p < t.size := by
    have := (List.getElem?_eq_some_iff.mp hs).1
    rw [Tr.subs_len] at this
    exact this
  obtain ⟨kl, ds, rfl, hkd, hdl, hK'⟩ := hK
  have hend : ∀ σ' H2, Fi rv c t p s' d ch (.ref kl) ν fl H (rest c (s'.lab, d)).length σ' H2 → tRet (tVar 6) { nx := fun _ H' => Q .non H', rt := Q } σ' H2 := by
    intro σ' H2 pv
    obtain ⟨e2, ⟨qs, hq, hql, hqa⟩, x7, x8, x9, x10, rfl⟩ := pv
    have ee : fitPre c s' d (ν.drop p) (rest c (s'.lab, d)).length = priced c s'.lab d (ktabs c s' (ν.drop p)) := by
      unfold fitPre priced
      rw [List.take_length]
    rw [ee] at hql hqa
    refine s_ret (ev_var rfl) fun H3 e3 => q (.ref fl) H3 (e2.trans e3) ⟨fl, qs, rfl, e3 fl _ hq, hql, fun j e he => ?_⟩
    obtain ⟨a, h5, h6⟩ := hqa j e he
    exact ⟨a, h5, e3 a _ h6⟩
  have h00 : ∀ H2, Ex H1 H2 → Fi rv c t p s' d ch (.ref kl) ν fl H 0 [some rv, some (.str (St t.signs)), some (.int (p : Nat)), some (sg d), some (.ref ch), some (.ref kl), some (.ref fl), none, none, none, none] H2 := fun H2 e2 =>
    ⟨e1.trans e2, ⟨[], e2 fl _ h1, rfl, fun j e he => by simp [fitPre] at he⟩, none, none, none, none, rfl⟩
  have hkey : ∀ {H : Hp}, Ev (tOp rAddS (tCall (sp_label_of K) [] E0 (tCons (tOp rIxS (tVar 1) (tVar 2)) tNil)) (tVar 3)) [some rv, some (.str (St t.signs)), some (.int (p : Nat)), some (sg d), some (.ref ch), some (.ref kl), some (.ref fl), none, none, none, none] H (mkV (s'.lab, d)) :=
    ev_mk (ev_callV (ea1 (ev_op (ev_var rfl) (ev_var rfl) (rv_ixC (Tr.sign_at hs) (by rw [Tr.signs_len]; omega)))) rfl fun _ _ => ⟨s', _, rfl, hos, rfl⟩) (ev_var rfl)
  obtain ⟨dd, kvs, rfl, hd, hm⟩ := hR
  -- one row
  have step : ∀ (i : Nat) (r : List Mk) (mp : Addr) (σ' : L2.St) (H2 : Hp) (D : Ends), (rest c (s'.lab, d))[i]? = some r → Fi (.ref dd) c t p s' d ch (.ref kl) ν fl H i σ' H2 → H mp = some (.lst (r.map mkV)) → D.nx = Fi (.ref dd) c t p s' d ch (.ref kl) ν fl H (i + 1) →
      tSeq (tAsg (tZipL K (tVar 7) (tVar 4)) (gName 8)) (tIfS (tB (tCB (rAll K) (tCons (tLc (iList K (tVar 8)) (gTup K 2 (gCons (gName 9) (gCons (gName 10) gNil))) tYes
        (tAndV (tOp rEq (tOp rIxS (tVar 9) (tC (.int 0))) (tCall (sp_label_of K) [] E0 (tCons (tOp rIxS (tVar 1) (tVar 10)) tNil))) (tDIn (tOp rIxS (tVar 9) (tC (.int 1))) (tOp (rIxL K) (tVar 5) (tVar 10)))) [9, 10]) tNil)))
        (tDrop (tBM K "list" rAppend (tVar 6) (tCons (tCB (fun xs H Q => ∃ p ys, xs = [V.ref p] ∧ ((SqL K H p ys ∧ ∀ l, H l = none → Q (.ref l) (upd H l (.tup ys))) ∨ (SqT K H p ys ∧ Q (.ref p) H))) (tCons (tLc (iList K (tVar 7)) (gName 9) tYes (tOp rIxS (tVar 9) (tC (.int 1))) [9]) tNil)) tNil))) tNext) D (σ'.set 7 (some (.ref mp))) H2 := by
    intro i r mp σ' H2 D hr pv hmp hD
    obtain ⟨e2, ⟨qs, hq, hql, hqa⟩, x7, x8, x9, x10, rfl⟩ := pv
    have hrm := (rest_len ok).2 r (List.mem_of_getElem? hr)
    have hil : i < 300 := by
      have := (List.getElem?_eq_some_iff.mp hr).1
      have := (rest_len ok (m := (s'.lab, d))).1
      omega
    have hol : (s'.offs.map fun o => V.int ((p + o : Nat) : Int)).length = c.many := by rw [List.length_map, offs_len, hkl]
    refine q_zipL (ev_var rfl) (ev_var rfl) (sq_of (e2 mp _ hmp)) (ex_t e2 hch) (by simp; omega) (by omega) fun ps l H3 e3 hpl hpp hl3 h3 => ?_
    have hpn : ps.length = c.many := by rw [hpl, List.length_map, hrm, hol, Nat.min_self]
    have e23 := e2.trans e3
    have hksl : (ktabs c s' (ν.drop p)).length = c.many := by rw [ktabs_len, hkl]
    refine s_when (b := (List.zipWith fitB (ktabs c s' (ν.drop p)) r).all id) (et_is (et_B (ev_allG (b := fun i => fitB ((ktabs c s' (ν.drop p)).getD i (0, [])) (r.getD i (0, 0))) (el_lc2L (vs := [9, 10]) (n := ps.length) (f := fun i => (r.map mkV).getD i .non) (g := fun i => .int ((p + s'.offs.getD i 0 : Nat) : Int)) (fun _ => true) (fun i => .bl (fitB ((ktabs c s' (ν.drop p)).getD i (0, [])) (r.getD i (0, 0))))
      ((show EvI _ _ _ ps.length _ by
        have := ei_list (K := K) (te := tVar 8) (σ := ((([some (.ref dd), some (.str (St t.signs)), some (.int (p : Nat)), some (sg d), some (.ref ch), some (.ref kl), some (.ref fl), x7, x8, x9, x10] : L2.St).set 7 (some (.ref mp))).set 8 (some (.ref l)))) (ev_var rfl) (sq_of h3)
        rw [List.length_map] at this
        exact this).j) (by omega) (fun i hi => ?_) (fun _ _ => rfl) (fun _ _ _ _ => et_yes) fun i H4 e4 hi _ => ?_) fun _ _ => rfl)) ?_) (fun hb H4 e4 => ?_) (fun hb H4 e4 => ?_)
    · obtain ⟨x, y, g1, g2, g3⟩ := hpp i ps[i] (List.getElem?_eq_getElem hi)
      refine ⟨ps[i], by simp [hi], ?_⟩
      have hx : x = (r.map mkV).getD i .non := by
        rw [getD_of (d := V.non) (by rw [List.length_map]; omega)] at g1
        exact (Option.some.inj g1).symm
      have hy : y = .int ((p + s'.offs.getD i 0 : Nat) : Int) := by
        have : i < s'.offs.length := by rw [offs_len, hkl]; omega
        rw [List.getElem?_map, getD_of (d := 0) this] at g2
        exact (Option.some.inj g2).symm
      rw [← hx, ← hy]
      exact st_of g3
    · have hi' : i < c.many := by omega
      have hio : i < s'.offs.length := by rw [offs_len, hkl]; exact hi'
      obtain ⟨kk, hkk, hsk⟩ := Tr.kids_at hs (List.getElem?_eq_getElem hio)
      have hir : i < r.length := by omega
      have hx : (r.map mkV).getD i .non = .str (St [r[i].1, r[i].2]) := by simp [List.getD, hir]; rfl
      have hog : s'.offs.getD i 0 = s'.offs[i] := by simp [List.getD, hio]
      have hks : (ktabs c s' (ν.drop p)).getD i (0, []) = (kk.lab, tab c kk ((ν.drop p).drop s'.offs[i])) := by
        simp [List.getD, ktabs_at (c := c) (μ := ν.drop p) (List.getElem?_eq_getElem hio) hkk]
      have hrg : r.getD i (0, 0) = r[i] := by simp [List.getD, hir]
      have hpo : p + 1 ≤ p + s'.offs[i] := by
        have : 1 ≤ s'.offs[i] := by
          have hoff := Tr.off_at (t := s') (k := i) (by omega)
          rw [List.getElem?_eq_getElem hio] at hoff
          have := Option.some.inj hoff
          rw [this]
          unfold Tr.off
          omega
        omega
      obtain ⟨d2, kvs2, g1, g2, g3⟩ := hK' _ kk hpo hsk
      have e34 := e23.trans e4
      refine ev_is (ev_andV (a := decide (r[i].1 = kk.lab)) (b := ((tab c kk ((ν.drop p).drop s'.offs[i])).lookup r[i].2).isSome) (ev_is (ev_op (x := sg r[i].1) (y := sg kk.lab) (ev_op (x := .str (St [r[i].1, r[i].2])) (ev_var (by show some (some ((r.map mkV).getD i .non)) = _; rw [hx])) ev_c (rv_ixC (j := 0) rfl (by show 2 ≤ 100000; omega))) (ev_callV (vs := [sg kk.sign]) (ea1 (ev_op (x := .str (St t.signs)) (y := .int ((p + s'.offs[i] : Nat) : Int)) (ev_var rfl) (ev_var (by show some (some (V.int ((p + s'.offs.getD i 0 : Nat) : Int))) = _; rw [hog])) (rv_ixC (Tr.sign_at hsk) (by rw [Tr.signs_len]; omega)))) rfl fun _ _ => ⟨kk, _, rfl, Tr.ok_at ht hsk, rfl⟩) (rv_eq rfl)) ?_) fun _ =>
        ev_is (ev_din (k := .inr (St [r[i].2])) (ev_op (x := .str (St [r[i].1, r[i].2])) (ev_var (by show some (some ((r.map mkV).getD i .non)) = _; rw [hx])) ev_c (rv_ixC (j := 1) rfl (by show 2 ≤ 100000; omega))) (ev_op (x := .ref kl) (y := .int ((p + s'.offs[i] : Nat) : Int)) (ev_var rfl) (ev_var (by show some (some (V.int ((p + s'.offs.getD i 0 : Nat) : Int))) = _; rw [hog])) (rv_ixLn (sq_of (e34 kl _ hkd)) g1)) (e34 d2 _ g2)) ?_) ?_
      · congr 1
        have : (sg r[i].1 = sg kk.lab) ↔ r[i].1 = kk.lab := ⟨fun h => by
          have := st_inj (V.str.inj h)
          simpa using this, fun h => by rw [h]⟩
        simp only [this]
      · congr 1
        rw [g3, List.drop_drop]
        cases (tab c kk (ν.drop (p + s'.offs[i]))).lookup r[i].2 <;> rfl
      · rw [hks, hrg]
        rfl
    · congr 1
      apply List.ext_getElem
      · simp [hpn, hksl, hrm]
      · intro j h1 h2
        simp at h1 h2
        have h3 := Nat.lt_min.mp h2
        simp [List.getD, h3.1, h3.2]
    · have hfs := fitPre_succ (c := c) (s := s') (d := d) (μ := ν.drop p) hr
      rw [fitR_eq _ _ (by omega), if_pos hb] at hfs
      have hfl' : H fl = none := hfl
      refine s_appU (K := K) (e4 fl _ (e3 fl _ hq)) (ev_var rfl) (xs := qs) (ys := r.map fun m => sg m.2) (eu_tupL ?_) (by have := fitPre_len c s' d (ν.drop p) i; omega) fun a H5 ha e5 h5 => ?_
      · have hmp4 : SqL K H4 mp (r.map mkV) := sq_of (e4 mp _ (e23 mp _ hmp))
        have g := el_lc (vs := [9]) (j := 9) (t := tYes) (te := tOp rIxS (tVar 9) (tC (.int 1))) (σ := ((([some (.ref dd), some (.str (St t.signs)), some (.int (p : Nat)), some (sg d), some (.ref ch), some (.ref kl), some (.ref fl), x7, x8, x9, x10] : L2.St).set 7 (some (.ref mp))).set 8 (some (.ref l)))) (H := H4) (fun _ => true) (fun i => sg (r.getD i (0, 0)).2) (f := fun i => (r.map mkV).getD i .non) (ei_list (K := K) (te := tVar 7) (ev_var rfl) hmp4).j (by simp; omega) (fun i H1 x H2 hi y => yat_get hi y) (fun _ => rfl) (fun _ _ _ _ => et_yes) fun i H5 e5 hi _ => by
          have hir : i < r.length := by simpa using hi
          have hx : (r.map mkV).getD i .non = .str (St [r[i].1, r[i].2]) := by simp [List.getD, hir]; rfl
          have hrg : r.getD i (0, 0) = r[i] := by simp [List.getD, hir]
          rw [hrg]
          exact ev_op (x := .str (St [r[i].1, r[i].2])) (ev_var (by show some (some ((r.map mkV).getD i .non)) = _; rw [hx])) ev_c (rv_ixC (j := 1) rfl (by show 2 ≤ 100000; omega))
        rw [List.length_map, given_list r (fun _ => true) (fun m => sg m.2) _ _ (fun _ _ => rfl) (fun i hi => by simp [List.getD, hi]), List.filter_eq_self.mpr (fun _ _ => rfl)] at g
        exact g
      · rw [hD]
        have hafl : a ≠ fl := by
          intro e
          have := e4 fl _ (e3 fl _ hq)
          rw [← e, ha] at this
          cases this
        refine ⟨Ex.mut ((e23.trans e4).trans e5) hfl, ⟨_, upd_same, by rw [hfs]; simp [hql], fun j e he => ?_⟩, _, _, _, _, rfl⟩
        rw [hfs] at he
        by_cases hj : j < (fitPre c s' d (ν.drop p) i).length
        · rw [List.getElem?_append_left hj] at he
          obtain ⟨a', g1, g2⟩ := hqa j e he
          refine ⟨a', by rw [List.getElem?_append_left (by omega)]; exact g1, ?_⟩
          rw [upd_ne (fun e => by rw [e, hq] at g2; cases g2)]
          exact e5 a' _ (e4 a' _ (e3 a' _ g2))
        · rw [List.getElem?_append_right (by omega)] at he
          have hj0 : j - (fitPre c s' d (ν.drop p) i).length = 0 := by
            have := (List.getElem?_eq_some_iff.mp he).1
            simp at this
            omega
          rw [hj0] at he
          cases he
          refine ⟨a, by rw [List.getElem?_append_right (by omega), hql, hj0]; rfl, ?_⟩
          rw [upd_ne hafl, h5, List.map_map]
          rfl
    · have hfs := fitPre_succ (c := c) (s := s') (d := d) (μ := ν.drop p) hr
      rw [fitR_eq _ _ (by omega), if_neg (by rw [hb]; decide)] at hfs
      rw [hD]
      rw [List.append_nil] at hfs
      refine ⟨e23.trans e4, ⟨qs, e4 fl _ (e3 fl _ hq), by rw [hfs]; exact hql, fun j e he => ?_⟩, _, _, _, _, rfl⟩
      rw [hfs] at he
      obtain ⟨a', g1, g2⟩ := hqa j e he
      exact ⟨a', g1, (e3.trans e4) a' _ g2⟩
  cases hdm : dom (s'.lab, d) with
  | true =>
    obtain ⟨l, hvl, ps, hl1, hl2, hl3⟩ := (hm _).2 hdm
    refine q_forI (H := H) (ei_list (ev_dget2 (k := .inr (mkT (s'.lab, d))) (ev_var rfl) hkey (el_lst ea_nil (by decide)) hd hvl) (sq_of hl1)) e1 (Fi (.ref dd) c t p s' d ch (.ref kl) ν fl H) h00 (fun i σ' H2 hi p => p.1) (fun i x σ' H2 H3 hi pv y => ?_) (fun σ' H2 pv => hend σ' H2 (by rw [← hl2]; exact pv))
    obtain ⟨rfl, y⟩ := y
    rw [hl2] at hi
    obtain ⟨mp, g1, g2⟩ := hl3 i _ (List.getElem?_eq_getElem hi)
    rw [g1] at y
    cases y
    exact step i _ mp σ' H3 _ (List.getElem?_eq_getElem hi) pv g2 rfl
  | false =>
    have hr0 := ((hm _).1 hdm).2
    refine q_forNLn (K := K) (el_dget2 (k := .inr (mkT (s'.lab, d))) (ev_var rfl) hkey (el_lst ea_nil (by decide)) (e1 dd _ hd) ((hm _).1 hdm).1) (fun o i σ' H2 => Fi (.ref dd) c t p s' d ch (.ref kl) ν fl H 0 σ' H2 ∧ H2 o = some (.lst [])) (fun o H2 _ e2 h2 => ⟨h00 H2 e2, h2⟩) (fun o i σ' H2 _ pv => sq_of pv.2) (fun o i x σ' H2 hx _ => nomatch hx) (fun o σ' H2 pv => hend σ' H2 (by rw [hr0]; exact pv.1))
end
end K64

set_option Elab.async false
set_option linter.all false
set_option maxRecDepth 100000
set_option maxHeartbeats 4000000
/-! W5: costs_by. -/
namespace K64
open PySem PySem.Spec PyProof.Rows L2 Evl
/-- evaluates to a new object -/
def EvF (te : TE) (σ : L2.St) (H : Hp) (o : HO) : Prop := ∀ H1, Ex H H1 → ∀ Q : VK, (∀ p H2, H1 p = none → Ex H1 H2 → H2 p = some o → Q (.ref p) H2) → te σ H1 Q
def inat (n : Nat) : V := .int (n : Int)
section
variable {K : Fg} {σ : L2.St} {H H' : Hp} {ta tb te tx tc td ty : TE} {t u : TT} {x y z v : V} {r : R2} {wi : TI} {D : Ends} {tz : TS}
theorem el_lcF {j : Nat} {vs : List Nat} {n : Nat} {f : Nat → V} {Y : Nat → Hp → V → Hp → Prop} (o : Nat → HO) (h : EvJ wi σ H n Y) (hn : n ≤ 40000) (hY : ∀ i H1 x H2, i < n → Y i H1 x H2 → H2 = H1 ∧ x = f i) (hw : ∀ x, wipe ((wipe σ vs).set j (some x)) vs = wipe σ vs)
    (he : ∀ (i : Nat) H1, Ex H H1 → i < n → EvF te ((wipe σ vs).set j (some (f i))) H1 (o i)) :
    ∀ H1, Ex H H1 → ∀ Q : VK, (∀ (l : Addr) (ps : List Addr) H2, H1 l = none → Ex H1 H2 → H2 l = some (.lst (ps.map V.ref)) → ps.length = n → (∀ (i : Nat) (p : Addr), ps[i]? = some p → H1 p = none ∧ p ≠ l ∧ H2 p = some (o i)) → ps.Nodup → Q (.ref l) H2) → tLc wi (gName j) tYes te vs σ H1 Q := fun H0 e Q q =>
  h H0 e _ fun J G H1 e1 hG w Dl hD =>
  lc_it w (fun i H' => Ex H1 H' ∧ ∃ ps : List Addr, ps.length = i ∧ H' Dl = some (.lst (ps.map V.ref)) ∧ (∀ (k : Nat) (p : Addr), ps[k]? = some p → H1 p = none ∧ p ≠ Dl ∧ H' p = some (o k)) ∧ ps.Nodup)
    ⟨Ex.new hD, [], rfl, upd_same, fun k p hk => by simp at hk, List.nodup_nil⟩ (fun i H2 _ p => hG H2 p.1) (fun i x H2 H3 hi pv y => by
      obtain ⟨rfl, rfl⟩ := hY i H2 x H3 hi y
      obtain ⟨e2, ps, hl, hDl, hp, hnd⟩ := pv
      refine ⟨hw _, ?_⟩
      change te ((wipe σ vs).set j (some (f i))) H3 _
      refine he i H1 (e.trans e1) hi H3 e2 _ fun p H4 hp4 e4 h4 => ⟨ps.map V.ref, e4 Dl _ hDl, sz_lt (by rw [List.length_map]; omega), Ex.mut (e2.trans e4) hD, ps ++ [p], by simp [hl], ?_, fun k q hk => ?_, ?_⟩
      · rw [upd_same]
        simp
      · have hpD : p ≠ Dl := by
          intro e
          rw [e, hDl] at hp4
          cases hp4
        by_cases hkl : k < ps.length
        · rw [List.getElem?_append_left hkl] at hk
          obtain ⟨g1, g2, g3⟩ := hp k q hk
          exact ⟨g1, g2, by rw [upd_ne g2]; exact e4 q _ g3⟩
        · rw [List.getElem?_append_right (by omega)] at hk
          have hk0 : k - ps.length = 0 := by
            have := (List.getElem?_eq_some_iff.mp hk).1
            simp at this
            omega
          rw [hk0] at hk
          cases hk
          refine ⟨fresh_back e2 hp4, hpD, ?_⟩
          rw [upd_ne hpD, h4]
          congr 2
          omega
      · rw [List.nodup_append]
        refine ⟨hnd, by simp, fun a ha b hb => ?_⟩
        intro hab
        have hbp : b = p := by simpa using hb
        obtain ⟨k, hk⟩ := List.getElem?_of_mem ha
        have := (hp k a hk).2.2
        rw [hab, hbp, hp4] at this
        cases this) (fun H2 pv => by
      obtain ⟨e2, ps, hl, hDl, hp, hnd⟩ := pv
      exact q Dl ps H2 (fresh_back e1 hD) (e1.trans e2) hDl hl (fun k p hk => ⟨fresh_back e1 (hp k p hk).1, (hp k p hk).2⟩) hnd)
theorem q_lcF {i j : Nat} {vs : List Nat} {n : Nat} {f : Nat → V} {Y : Nat → Hp → V → Hp → Prop} (o : Nat → HO) (h : EvJ wi σ H n Y) (hn : n ≤ 40000) (hY : ∀ i H1 x H2, i < n → Y i H1 x H2 → H2 = H1 ∧ x = f i) (hw : ∀ x, wipe ((wipe σ vs).set j (some x)) vs = wipe σ vs)
    (he : ∀ (i : Nat) H1, Ex H H1 → i < n → EvF te ((wipe σ vs).set j (some (f i))) H1 (o i))
    (k : ∀ (l : Addr) (ps : List Addr) H2, H l = none → Ex H H2 → H2 l = some (.lst (ps.map V.ref)) → ps.length = n → (∀ (i : Nat) (p : Addr), ps[i]? = some p → H p = none ∧ p ≠ l ∧ H2 p = some (o i)) → ps.Nodup → tz D (σ.set i (some (.ref l))) H2) : tSeq (tAsg (tLc wi (gName j) tYes te vs) (gName i)) tz D σ H :=
  by
  show tLc wi (gName j) tYes te vs σ H (fun x H1 => tz D (σ.set i (some x)) H1)
  exact el_lcF o h hn hY hw he H (Ex.refl _) _ fun l ps H2 h1 e2 h2 h3 h4 h5 => k l ps H2 h1 e2 h2 h3 h4 h5
theorem ef_dK : EvF tDNewK σ H (.dK []) := fun H1 _ Q q p hp => q p _ hp (Ex.new hp) upd_same
theorem ef_tup {ta : TA} {vs : List V} (h : EvA ta σ H vs) (hl : vs.length ≤ 100000) : EvF (tTup ta) σ H (.tup vs) := eu_tup h hl
/-- a, b = (.., ..), told by words -/
theorem q_pairZ {Z1 Z2 : V → Hp → Prop} {i j : Nat} (ha : EvZ ta σ H Z1) (hb : EvZ tb σ H Z2) (s1 : ∀ v H H', Ex H H' → Z1 v H → Z1 v H') (s2 : ∀ v H H', Ex H H' → Z2 v H → Z2 v H') (k : ∀ v1 v2 H1, Ex H H1 → Z1 v1 H1 → Z2 v2 H1 → tz D ((σ.set i (some v1)).set j (some v2)) H1) :
    tSeq (tAsg (tTup (tCons ta (tCons tb tNil))) (gTup K 2 (gCons (gName i) (gCons (gName j) gNil)))) tz D σ H :=
  ha H (Ex.refl H) _ fun v1 H1 e1 z1 => hb H1 e1 _ fun v2 H2 e2 z2 => ⟨(by show 2 ≤ sizeLine; decide), fun T hT => ⟨T, [v1, v2], rfl, st_of upd_same, rfl, v1, [v2], rfl, v2, [], rfl, rfl, k v1 v2 _ ((e1.trans e2).trans (Ex.new hT)) (s1 v1 H1 _ (e2.trans (Ex.new hT)) z1) (s2 v2 H2 _ (Ex.new hT) z2)⟩⟩
theorem ev_sum {ns : List Nat} (h : EvL te σ H (ns.map inat)) : Ev (tCB (rSum K) (tCons te tNil)) σ H (inat ns.sum) := fun H1 e Q q =>
  h H1 e _ fun p H2 _ e2 hp => ⟨p, ns.map Int.ofNat, rfl, by rw [List.map_map]; exact sq_of hp, by
    have : (ns.map Int.ofNat).sum = (ns.sum : Nat) := by
      induction ns with
      | nil => rfl
      | cons a r ih =>
        rw [List.map_cons, List.sum_cons, List.sum_cons]
        have hh : (r.map Int.ofNat).sum = (r.sum : Nat) := by
          clear ih q hp h
          induction r with
          | nil => rfl
          | cons b r ih => rw [List.map_cons, List.sum_cons, List.sum_cons, ih]; rfl
        rw [hh]
        rfl
    rw [this]
    exact q H2 e2⟩
theorem foldl_min (r : List Nat) : ∀ x, (r.foldl Nat.min x = x ∨ r.foldl Nat.min x ∈ r) ∧ r.foldl Nat.min x ≤ x ∧ ∀ y ∈ r, r.foldl Nat.min x ≤ y := by
  induction r with
  | nil => intro x; exact ⟨Or.inl rfl, Nat.le_refl _, fun y h => nomatch h⟩
  | cons a r ih =>
    intro x
    obtain ⟨h1, h2, h3⟩ := ih (Nat.min x a)
    simp only [List.foldl_cons]
    have hm : Nat.min x a ≤ x ∧ Nat.min x a ≤ a ∧ (Nat.min x a = x ∨ Nat.min x a = a) := by
      have : Nat.min x a = min x a := rfl
      omega
    refine ⟨?_, by omega, fun y hy => ?_⟩
    · rcases h1 with h1 | h1
      · rcases hm.2.2 with h | h
        · left; omega
        · right; rw [h1, h]; exact List.mem_cons_self
      · right; exact List.mem_cons_of_mem _ h1
    · rcases List.mem_cons.mp hy with rfl | hy
      · omega
      · exact h3 y hy
theorem least_some {l : List Nat} {k : Nat} (h : least l = some k) : k ∈ l ∧ ∀ y ∈ l, k ≤ y := by
  cases l with
  | nil => cases h
  | cons x r =>
    obtain rfl := Option.some.inj h
    obtain ⟨h1, h2, h3⟩ := foldl_min r x
    refine ⟨?_, fun y hy => ?_⟩
    · rcases h1 with h1 | h1
      · rw [h1]; exact List.mem_cons_self
      · exact List.mem_cons_of_mem _ h1
    · rcases List.mem_cons.mp hy with rfl | hy
      · exact h2
      · exact h3 y hy
theorem least_ne {l : List Nat} (h : l ≠ []) : ∃ k, least l = some k := by
  cases l with
  | nil => exact absurd rfl h
  | cons x r => exact ⟨_, rfl⟩
theorem rc_min {a : Addr} {ns : List Nat} {k : Nat} (h : SqL K H a (ns.map inat)) (hk : least ns = some k) : RC (rMin K) [.ref a] H (inat k) := fun H1 e Q q => by
  obtain ⟨h1, h2⟩ := least_some hk
  refine ⟨a, ns.map Int.ofNat, rfl, by rw [List.map_map]; exact ex_l e h, by rw [List.length_map]; exact List.length_pos_of_mem h1, fun m hm hall => ?_⟩
  obtain ⟨m', hm', rfl⟩ := List.mem_map.mp hm
  have g1 := hall (Int.ofNat k) (List.mem_map.mpr ⟨k, h1, rfl⟩)
  have g2 := h2 m' hm'
  have : m' = k := by
    have : (m' : Int) ≤ k := g1
    omega
  rw [this]
  exact q H1 (Ex.refl H1)
end
/-! ### the table, digit by digit -/
def ent (c : Ck) (s : Tr) (μ : List Nat) (d : Nat) : Option (Nat × Nat) := if s.kids = [] then some (d, chg μ d) else (least ((priced c s.lab d (ktabs c s μ)).map (·.1))).map fun k => (d, k + chg μ d)
theorem priced_nil {c : Ck} {l d : Nat} {ks : List (Nat × Tab)} (h : rest c (l, d) = []) : priced c l d ks = [] := by
  unfold priced
  rw [h]
  rfl
theorem tab_eq (c : Ck) (s : Tr) (μ : List Nat) (dom : Mk → Bool) (hd : ∀ m, dom m = false → rest c m = []) : tab c s μ = (digs.filter (dmOf c dom s)).filterMap (ent c s μ) := by
  rw [List.filterMap_filter]
  have key : ∀ d, (if (s.kids = []) then (if (s.lab, d) ∈ c.leaves then some (d, chg μ d) else none) else (least ((priced c s.lab d (ktabs c s μ)).map (·.1))).map fun k => (d, k + chg μ d)) = if dmOf c dom s d = true then ent c s μ d else none := by
    intro d
    unfold dmOf ent
    by_cases hk : s.kids = []
    · simp only [hk, if_true]
      by_cases hm : (s.lab, d) ∈ c.leaves <;> simp [hm]
    · simp only [hk, if_false]
      cases hq : dom (s.lab, d) with
      | true => simp
      | false => rw [priced_nil (hd _ hq)]; rfl
  rw [← funext key]
  cases s with
  | leaf l => simp only [Tr.kids, if_true]; rfl
  | one l a => simp only [Tr.kids]; rfl
  | two l a b => simp only [Tr.kids]; rfl
theorem ent_key {c : Ck} {s : Tr} {μ : List Nat} {d : Nat} {e : Nat × Nat} (h : ent c s μ d = some e) : e.1 = d := by
  unfold ent at h
  split at h
  · cases h; rfl
  · obtain ⟨k, _, rfl⟩ := Option.map_eq_some_iff.mp h
    rfl
theorem lookup_snoc (T : Tab) (d k x : Nat) (h : T.lookup d = none) : (T ++ [(d, k)]).lookup x = if x = d then some k else T.lookup x := by
  induction T with
  | nil =>
    by_cases hx : x = d
    · subst hx; simp
    · have : (x == d) = false := beq_eq_false_iff_ne.mpr hx
      simp [List.lookup, this, hx]
  | cons e r ih =>
    obtain ⟨e1, e2⟩ := e
    simp only [List.cons_append, List.lookup_cons] at h ⊢
    by_cases hx : x = e1
    · subst hx
      simp only [beq_self_eq_true] at h ⊢
      by_cases hd : x = d
      · subst hd; simp at h
      · simp [hd]
    · have hx' : (x == e1) = false := beq_eq_false_iff_ne.mpr hx
      have hd' : (d == e1) = false := by
        cases hq : d == e1 with
        | false => rfl
        | true => rw [hq] at h; cases h
      rw [hd'] at h
      rw [hx']
      exact ih h
theorem lookup_none (c : Ck) (s : Tr) (μ : List Nat) (L : List Nat) (d : Nat) (h : d ∉ L) : (L.filterMap (ent c s μ)).lookup d = none := by
  induction L with
  | nil => rfl
  | cons a r ih =>
    have ha : d ≠ a := fun e => h (by rw [e]; exact List.mem_cons_self)
    have hr : d ∉ r := fun e => h (List.mem_cons_of_mem _ e)
    rw [List.filterMap_cons]
    cases he : ent c s μ a with
    | none => exact ih hr
    | some e =>
      have hk := ent_key he
      obtain ⟨e1, e2⟩ := e
      simp only [List.lookup_cons]
      have : (d == e1) = false := by
        apply beq_eq_false_iff_ne.mpr
        intro q
        exact ha (by rw [q]; exact hk)
      rw [this]
      exact ih hr
theorem kvt_put {kvs : List (Key × V)} {T : Tab} {d k : Nat} (h : KvT kvs T) (hn : T.lookup d = none) : KvT (putK kvs (.inr (St [d])) (inat k)) (T ++ [(d, k)]) := by
  intro x
  rw [valV_put, lookup_snoc T d k x hn]
  by_cases hx : x = d
  · subst hx
    rw [if_pos rfl, if_pos rfl]
    rfl
  · rw [if_neg hx, if_neg (fun e => hx (by have := st_inj (Sum.inr.inj e); simpa using this))]
    exact h x
theorem digs_nodup : digs.Nodup := by decide
theorem drop_cons {ν : List Nat} {p : Nat} (h : p < ν.length) : ν.drop p = ν[p] :: ν.drop (p + 1) := by
  exact List.drop_eq_getElem_cons h
section
variable {P : Program} {w : World} {K : Fg} {mg : Str → Option Value} {base : Heap}
def sp_costs_by (K : Fg) : Sp := spP 3 fun vs H Z => ∃ v c t ν, vs = [v, .str (St t.signs), .str (St ν)] ∧ ChkV K H v c ∧ c.Ok ∧ t.Ok c.many ∧ t.size ≤ 1000 ∧ ν.length = t.size ∧ Z = fun v H2 => KnownAt H2 v t c ν 0
/-- the list of dicts, those behind the first places done -/
structure Kw (H0 : Hp) (kl : Addr) (ps : List Addr) (t : Tr) (c : Ck) (ν : List Nat) (p : Nat) (H : Hp) : Prop where
  ex : Ex H0 H
  hl : H kl = some (.lst (ps.map V.ref))
  n0 : ∀ (q : Nat) (a : Addr), ps[q]? = some a → H0 a = none ∧ a ≠ kl
  at1 : ∀ (q : Nat) (s : Tr) (a : Addr), p ≤ q → t.subs[q]? = some s → ps[q]? = some a → ∃ kvs, H a = some (.dK kvs) ∧ KvT kvs (tab c s (ν.drop q))
  at0 : ∀ (q : Nat) (a : Addr), q < p → ps[q]? = some a → H a = some (.dK [])
theorem Kw.mono {H0 : Hp} {kl : Addr} {ps : List Addr} {t : Tr} {c : Ck} {ν : List Nat} {p : Nat} {H H' : Hp} (e : Ex H H') (h : Kw H0 kl ps t c ν p H) : Kw H0 kl ps t c ν p H' :=
  ⟨h.ex.trans e, e kl _ h.hl, h.n0, fun q s a hq hs ha => by
    obtain ⟨kvs, h1, h2⟩ := h.at1 q s a hq hs ha
    exact ⟨kvs, e a _ h1, h2⟩, fun q a hq ha => e a _ (h.at0 q a hq ha)⟩
theorem Kw.known {H0 : Hp} {kl : Addr} {ps : List Addr} {t : Tr} {c : Ck} {ν : List Nat} {p : Nat} {H : Hp} (hn : ps.length = t.size) (h : Kw H0 kl ps t c ν p H) : KnownAt H (.ref kl) t c ν p := by
  refine ⟨kl, ps.map V.ref, rfl, h.hl, by rw [List.length_map]; exact hn, fun q s hq hs => ?_⟩
  have hqs := (List.getElem?_eq_some_iff.mp hs).1
  rw [Tr.subs_len] at hqs
  have ha : ps[q]? = some ps[q] := List.getElem?_eq_getElem (by omega)
  obtain ⟨kvs, h1, h2⟩ := h.at1 q s _ hq hs ha
  exact ⟨ps[q], kvs, by rw [List.getElem?_map, ha]; rfl, h1, h2⟩
/-- the dict of one place under way -/
structure Kx (H0 : Hp) (kl : Addr) (ps : List Addr) (t : Tr) (c : Ck) (ν : List Nat) (p : Nat) (a : Addr) (T : Tab) (H : Hp) : Prop where
  ex : Ex H0 H
  hl : H kl = some (.lst (ps.map V.ref))
  n0 : ∀ (q : Nat) (a : Addr), ps[q]? = some a → H0 a = none ∧ a ≠ kl
  at1 : ∀ (q : Nat) (s : Tr) (a : Addr), p + 1 ≤ q → t.subs[q]? = some s → ps[q]? = some a → ∃ kvs, H a = some (.dK kvs) ∧ KvT kvs (tab c s (ν.drop q))
  at0 : ∀ (q : Nat) (a : Addr), q < p → ps[q]? = some a → H a = some (.dK [])
  me : ∃ kvs, H a = some (.dK kvs) ∧ KvT kvs T ∧ kvs.length ≤ T.length
theorem Kx.mono {H0 : Hp} {kl : Addr} {ps : List Addr} {t : Tr} {c : Ck} {ν : List Nat} {p : Nat} {a : Addr} {T : Tab} {H H' : Hp} (e : Ex H H') (h : Kx H0 kl ps t c ν p a T H) : Kx H0 kl ps t c ν p a T H' :=
  ⟨h.ex.trans e, e kl _ h.hl, h.n0, fun q s a hq hs ha => by
    obtain ⟨kvs, h1, h2⟩ := h.at1 q s a hq hs ha
    exact ⟨kvs, e a _ h1, h2⟩, fun q a hq ha => e a _ (h.at0 q a hq ha), by
    obtain ⟨kvs, h1, h2, h3⟩ := h.me
    exact ⟨kvs, e a _ h1, h2, h3⟩⟩
theorem Kx.known {H0 : Hp} {kl : Addr} {ps : List Addr} {t : Tr} {c : Ck} {ν : List Nat} {p : Nat} {a : Addr} {T : Tab} {H : Hp} (hn : ps.length = t.size) (h : Kx H0 kl ps t c ν p a T H) : KnownAt H (.ref kl) t c ν (p + 1) := by
  refine ⟨kl, ps.map V.ref, rfl, h.hl, by rw [List.length_map]; exact hn, fun q s hq hs => ?_⟩
  have hqs := (List.getElem?_eq_some_iff.mp hs).1
  rw [Tr.subs_len] at hqs
  have ha : ps[q]? = some ps[q] := List.getElem?_eq_getElem (by omega)
  obtain ⟨kvs, h1, h2⟩ := h.at1 q s _ hq hs ha
  exact ⟨ps[q], kvs, by rw [List.getElem?_map, ha]; rfl, h1, h2⟩
theorem Kx.put {H0 : Hp} {kl : Addr} {ps : List Addr} {t : Tr} {c : Ck} {ν : List Nat} {p : Nat} {a : Addr} {T : Tab} {H : Hp} (hnd : ps.Nodup) (ha : ps[p]? = some a) (h : Kx H0 kl ps t c ν p a T H) {kvs : List (Key × V)} (hk : H a = some (.dK kvs)) {d k : Nat} (hT : T.lookup d = none) :
    Kx H0 kl ps t c ν p a (T ++ [(d, k)]) (upd H a (.dK (putK kvs (.inr (St [d])) (inat k)))) := by
  obtain ⟨kvs', g1, g2, g3⟩ := h.me
  rw [hk] at g1
  cases g1
  have hne : ∀ (q : Nat) (b : Addr), q ≠ p → ps[q]? = some b → b ≠ a := by
    intro q b hq hb e
    rw [e] at hb
    obtain ⟨i1, j1⟩ := List.getElem?_eq_some_iff.mp hb
    obtain ⟨i2, j2⟩ := List.getElem?_eq_some_iff.mp ha
    exact hq ((List.getElem_inj hnd).mp (j1.trans j2.symm))
  refine ⟨Ex.mut h.ex (h.n0 p a ha).1, by rw [upd_ne (h.n0 p a ha).2.symm]; exact h.hl, h.n0, fun q s b hq hs hb => ?_, fun q b hq hb => ?_, _, upd_same, kvt_put g2 hT, by have := len_put (kvs := kvs) (k := (.inr (St [d]) : Key)) (v := inat k); simp; omega⟩
  · obtain ⟨kv, h1, h2⟩ := h.at1 q s b hq hs hb
    exact ⟨kv, by rw [upd_ne (hne q b (by omega) hb)]; exact h1, h2⟩
  · rw [upd_ne (hne q b (by omega) hb)]
    exact h.at0 q b hq hb
end
end K64

set_option Elab.async false
set_option linter.all false
set_option maxRecDepth 100000
set_option maxHeartbeats 4000000
/-! W6: costs_by's walk. -/
namespace K64
open PySem PySem.Spec PyProof.Rows L2 Evl
def fitF (k : Nat × Tab) (m : Mk) : Nat := (k.2.lookup m.2).getD 0
theorem priced_mem {c : Ck} {l d : Nat} {ks : List (Nat × Tab)} (hk : ks.length = c.many) (ok : c.Ok) {e : Nat × List Nat} (h : e ∈ priced c l d ks) : ∃ r ∈ rest c (l, d), r.length = ks.length ∧ (List.zipWith fitB ks r).all id = true ∧ e = ((List.zipWith fitF ks r).sum, r.map (·.2)) := by
  obtain ⟨r, hr, he⟩ := List.mem_filterMap.mp h
  have hl : r.length = ks.length := by rw [hk]; exact (rest_len ok).2 r hr
  rw [fitR_eq _ _ hl] at he
  split at he
  · rename_i hb
    exact ⟨r, hr, hl, hb, (Option.some.inj he).symm⟩
  · cases he
theorem range_zip {α β : Type} (ks : List α) (r : List β) (n : Nat) (hk : ks.length = n) (hr : r.length = n) (F : α → β → Nat) (v : Nat → V) (hv : ∀ (j : Nat) (a : α) (b : β), ks[j]? = some a → r[j]? = some b → v j = inat (F a b)) : (List.range n).map v = (List.zipWith F ks r).map inat := by
  apply List.ext_getElem
  · simp [hk, hr]
  · intro j h1 h2
    simp at h1 h2
    simp only [List.getElem_map, List.getElem_range, List.getElem_zipWith]
    exact hv j _ _ (List.getElem?_eq_getElem (by omega)) (List.getElem?_eq_getElem (by omega))
section
variable {K : Fg} {σ : L2.St} {H H' : Hp} {ta tb te tx tc td ty : TE} {t u : TT} {x y z v : V} {r : R2} {wi : TI} {D : Ends} {tz : TS}
theorem s_dput {tv : TE} {d : Addr} {kvs : List (Key × V)} {k : Key} (hv : Ev tv σ H v) (hd : Ev td σ H (.ref d)) (hy : Ev ty σ H (kV k)) (hH : H d = some (.dK kvs)) (hl : kvs.length < 100000) (g : ∀ H1, Ex H H1 → D.nx σ (upd H1 d (.dK (putK kvs k v)))) : sDPut td ty tv D σ H :=
  hv H (Ex.refl H) _ fun H1 e1 => hd H1 e1 _ fun H2 e2 => hy H2 (e1.trans e2) _ fun H3 e3 => ⟨d, _, rfl, .k (((e1.trans e2).trans e3) d _ hH) (sz_lt hl), g H3 ((e1.trans e2).trans e3)⟩
/-- the sum of a row's costs over the children -/
theorem ev_rowsum {j k : Nat} {vs : List Nat} {tr tch tkn : TE} {a b kl : Addr} {rw : List Mk} {t : Tr} {s : Tr} {c : Ck} {ν : List Nat} {p : Nat} (hs : t.subs[p]? = some s) (hlen : rw.length = s.kids.length) (hb2 : s.kids.length ≤ 2)
    (hr : Ev tr σ H (.ref a)) (ha : SqT K H a (rw.map fun m => sg m.2)) (hch : Ev tch σ H (.ref b)) (hb : SqT K H b (s.offs.map fun o => V.int ((p + o : Nat) : Int)))
    (hk : ∀ x y, Ev tkn (((wipe σ vs).set j (some x)).set k (some y)) H (.ref kl)) (hK : KnownAt H (.ref kl) t c ν (p + 1)) (hall : (List.zipWith fitB (ktabs c s (ν.drop p)) rw).all id = true)
    (hw : ∀ x y, wipe (((wipe σ vs).set j (some x)).set k (some y)) vs = wipe σ vs) (hj : ∀ x y : V, (((wipe σ vs).set j (some x)).set k (some y))[j]? = some (some x)) (hkk : ∀ x y : V, (((wipe σ vs).set j (some x)).set k (some y))[k]? = some (some y)) :
    Ev (tCB (rSum K) (tCons (tLc (RZ.iZipA K (tCons tr (tCons tch tNil))) (gTup K 2 (gCons (gName j) (gCons (gName k) gNil))) tYes (tDGet (tOp (rIxL K) tkn (tVar k)) (tVar j)) vs) tNil)) σ H (inat (List.zipWith fitF (ktabs c s (ν.drop p)) rw).sum) := by
  obtain ⟨kl', ds, e, hkl, hdl, hat⟩ := hK
  cases e
  have hol : s.offs.length = s.kids.length := offs_len s
  have g := el_lc2 (K := K) (vs := vs) (j := j) (k := k) (n := s.kids.length) (t := tYes) (te := tDGet (tOp (rIxL K) tkn (tVar k)) (tVar j)) (f := fun i => (rw.map fun m => sg m.2).getD i .non) (g := fun i => (s.offs.map fun o => V.int ((p + o : Nat) : Int)).getD i .non) (fun _ => true) (fun i => inat (fitF ((ktabs c s (ν.drop p)).getD i (0, [])) (rw.getD i (0, 0))))
    (ei_zipT (ea2 hr hch) ha hb (by simp [hol, hlen])).j (by omega) (fun i hi => getD_of (by rw [List.length_map]; omega)) (fun i hi => getD_of (by rw [List.length_map]; omega)) hw (fun _ _ _ _ => et_yes) fun i H1 e1 hi _ => by
      have hir : i < rw.length := by omega
      have hio : i < s.offs.length := by omega
      obtain ⟨kk, hkk', hsk⟩ := Tr.kids_at hs (List.getElem?_eq_getElem hio)
      have hks := ktabs_at (c := c) (μ := ν.drop p) (List.getElem?_eq_getElem hio) hkk'
      have hx : (rw.map fun m => sg m.2).getD i .non = sg rw[i].2 := by simp [List.getD, hir]
      have hy : (s.offs.map fun o => V.int ((p + o : Nat) : Int)).getD i .non = .int ((p + s.offs[i] : Nat) : Int) := by simp [List.getD, hio]
      have h1 : 1 ≤ s.offs[i] := by
        have hoff := Tr.off_at (t := s) (k := i) (by omega)
        rw [List.getElem?_eq_getElem hio] at hoff
        rw [Option.some.inj hoff]
        unfold Tr.off
        omega
      obtain ⟨d2, kvs2, g1, g2, g3⟩ := hat _ kk (by omega) hsk
      have hfb : fitB (kk.lab, tab c kk ((ν.drop p).drop s.offs[i])) rw[i] = true := by
        rw [List.all_eq_true] at hall
        obtain ⟨hki, hke⟩ := List.getElem?_eq_some_iff.mp hks
        have : fitB ((ktabs c s (ν.drop p))[i]'hki) rw[i] ∈ List.zipWith fitB (ktabs c s (ν.drop p)) rw := by
          rw [List.mem_iff_getElem]
          exact ⟨i, by simp; exact Nat.lt_min.mpr ⟨hki, hir⟩, by simp⟩
        have := hall _ this
        rw [hke] at this
        exact this
      have hval : valV kvs2 (.inr (St [rw[i].2])) = some (inat (fitF ((ktabs c s (ν.drop p)).getD i (0, [])) (rw.getD i (0, 0)))) := by
        rw [g3, ← List.drop_drop]
        have e2 : (ktabs c s (ν.drop p)).getD i (0, []) = (kk.lab, tab c kk ((ν.drop p).drop s.offs[i])) := by simp [List.getD, hks]
        have e3 : rw.getD i (0, 0) = rw[i] := by simp [List.getD, hir]
        rw [e2, e3]
        unfold fitB at hfb
        simp only [Bool.and_eq_true] at hfb
        obtain ⟨kq, hkq⟩ := Option.isSome_iff_exists.mp hfb.2
        unfold fitF
        simp only at hkq ⊢
        rw [hkq]
        rfl
      simp only [hx, hy]
      exact ev_dget (k := .inr (St [rw[i].2])) (ev_op (hk _ _ |>.mono e1) (ev_var (hkk _ _)) (rv_ixLn (sq_of (e1 kl _ hkl)) g1)) (ev_var (hj _ _)) (e1 d2 _ g2) hval
  rw [given_all, range_zip (ktabs c s (ν.drop p)) rw s.kids.length (ktabs_len c s _) hlen fitF _ (fun i a b h1 h2 => by simp [List.getD, h1, h2])] at g
  exact ev_sum g
end
section
variable {P : Program} {w : World} {K : Fg} {mg : Str → Option Value} {base : Heap}
def sumsOf (c : Ck) (s : Tr) (μ : List Nat) (d : Nat) : List Nat := if s.kids = [] then [0] else (priced c s.lab d (ktabs c s μ)).map (·.1)
theorem ent_sums (c : Ck) (s : Tr) (μ : List Nat) (d : Nat) : ent c s μ d = (least (sumsOf c s μ d)).map fun k => (d, k + chg μ d) := by
  unfold ent sumsOf
  split
  · show _ = some (d, 0 + chg μ d)
    rw [Nat.zero_add]
  · rfl
abbrev N_costs_by : List Str := ["checker", "tree", "notes", "known", "place", "rows", "children", "digit", "sign", "sums", "some", "row", "d", "c"]
theorem sc_costs_by : FnScope N_costs_by ["checker", "tree", "notes"] (defScope s_costs_by) := ⟨rfl, rfl, rfl, by decide +kernel, rfl, by decide +kernel, by decide +kernel⟩
theorem ok_costs_by (G : Fs P K mg) : Okf P w K mg base 4 "costs_by" ["checker", "tree", "notes"] [] (sp_costs_by K) := by
  refine mk_ok G.k_costs_by sc_costs_by (fun f fd F => ⟨[], .nil, FunD.bindsN F fun _ _ _ _ _ _ us hl => match us, hl with | [_, _, _], _ => rfl⟩) (fun vs H Q E h => h.1) ?_
  intro f cdv A outer s H vs Q E hr h
  have nd := sc_costs_by.nd
  refine ⟨_, (pss_cons (ps_asg (pe_tup (pa_cons (pe_ok (ok_rows_by G) hr (by decide) rfl (pa_cons (pv 0) pa_nil)) (pa_cons (pe_ok (ok_children_by G) hr (by decide) rfl (pa_cons (pe_ix ix_tup (pv 0) pe_int (fun _ _ => rfl)) (pa_cons (pv 1) pa_nil))) pa_nil))) (pg_tup rfl (pgs_cons (pg_name (i := 5) nd rfl (Or.inl rfl)) (pgs_cons (pg_name (i := 6) nd rfl (Or.inr rfl)) pgs_nil))))
  (pss_cons (ps_set (i := 3) nd rfl (Or.inr rfl) (pe_lc (g := gName 8) rfl nd (pi_str (pv 1)) (blkOk_by (own := [("sign", 8)]) (N := N_costs_by) (sc := defScope s_costs_by) (by decide +kernel)) (fun _ _ _ _ _ => (pg_name (i := 8) nd rfl (Or.inl rfl))) (fun _ _ _ _ _ => pts_nil) (fun _ _ _ _ _ => pe_dnewK)))
  (pss_cons (ps_for PassesOwn.never rfl (pi_range3 rfl G.f_range (pa_cons (pe_op op_sub (pe_callB call_len_str rfl G.f_len boot_len (pa_cons (pv 1) pa_nil)) pe_int) (pa_cons (pe_un un_neg pe_int) (pa_cons (pe_un un_neg pe_int) pa_nil)))) (pg_name (i := 4) nd rfl (Or.inr rfl))
  (pss_one (ps_for PassesOwn.never rfl (pi_list (pe_ok (ok_digits_at G) hr (by decide) rfl (pa_cons (pv 0) (pa_cons (pv 5) (pa_cons (pe_ix ix_str (pv 1) (pv 4) (fun _ _ => rfl)) (pa_cons (pe_ix ix_list (pv 6) (pv 4) (fun _ _ => rfl)) pa_nil)))))) (pg_name (i := 7) nd rfl (Or.inl rfl))
  (pss_cons (ps_set (i := 9) nd rfl (Or.inl rfl) (pe_lst (pa_cons pe_int pa_nil)))
  (pss_cons (ps_if (pt_cmpR op_gt (pe_callB call_len_seq rfl G.f_len boot_len (pa_cons (pe_ix ix_list (pv 6) (pv 4) (fun _ _ => rfl)) pa_nil)) pe_int (nomark _)) (pss_cons (ps_set (i := 10) nd rfl (Or.inl rfl) (pe_ok (ok_fitting_rows G) hr (by decide) rfl (pa_cons (pv 5) (pa_cons (pv 1) (pa_cons (pv 4) (pa_cons (pv 7) (pa_cons (pe_ix ix_list (pv 6) (pv 4) (fun _ _ => rfl)) (pa_cons (pv 3) pa_nil))))))))
  (pss_one (ps_setLc (i := 9) (g := gName 11) rfl nd rfl rfl (sw_true rfl rfl rfl (by decide +kernel)) (pi_list (pv 10)) (blkOk_by (own := [("row", 11)]) (N := N_costs_by) (sc := defScope s_costs_by) (by decide +kernel)) (fun _ _ _ _ _ => (pg_name (i := 11) nd rfl (Or.inl rfl))) (fun _ _ _ _ _ => pts_nil) (fun _ _ _ _ _ => (pe_callB (cr_sumK (K := K) rfl rfl) rfl G.f_sum boot_sum (pa_cons (pe_lc (g := gTup K 2 (gCons (gName 12) (gCons (gName 13) gNil))) rfl nd (pi_zipK (K := K) rfl rfl G.f_zip (pa_cons (pv 11) (pa_cons (pe_ix (ix_listK (K := K) rfl) (pv 6) (pv 4) (fun _ _ => rfl)) pa_nil))) (by show BlkOk N_costs_by (relS _ (defScope s_costs_by)) _ [("d", 12), ("c", 13)]; exact blkOk_by (by decide +kernel)) (fun _ _ _ _ _ => (pg_two (i := 12) (j := 13) rfl nd rfl rfl rfl rfl)) (fun _ _ _ _ _ => pts_nil) (fun _ _ _ _ _ => (pe_dget (hu_of hr) (pe_ix (ix_listK (K := K) rfl) (pv 3) (pv 13) (fun _ _ => rfl)) (pv 12) (fun _ _ => rfl)))) pa_nil)))))) pss_nil)
  (pss_one (ps_if (pt_cmpR op_gt (pe_callB call_len_seq rfl G.f_len boot_len (pa_cons (pv 9) pa_nil)) pe_int (nomark _)) (pss_one (ps_dput (hu_of hr) (pe_ix ix_list (pv 3) (pv 4) (fun _ _ => rfl)) (pv 7) (pe_op op_add (pe_callB (cr_min rfl) rfl G.f_min boot_min (pa_cons (pv 9) pa_nil)) (pe_ifExp (pt_cmpR op_in_seq (pe_ix ix_str (pv 2) (pv 4) (fun _ _ => rfl)) (pe_tup (pa_cons (pe_glob (v := .str "?") rfl G.c_OPEN.choose_spec ⟨_, rfl⟩) (pa_cons (pv 7) pa_nil))) rfl) pe_int pe_int)) rfl)) pss_nil)))))))
  (pss_one (ps_ret (pv 3)))))), ?_⟩
  obtain ⟨hl, Z, ⟨v, c, t, ν, rfl, hc, ok, ht, hz, hν, rfl⟩, q⟩ := h
  have hc0 := hc
  obtain ⟨p, a, b, r, rfl, hp, ha, hb, hr'⟩ := hc0
  refine q_pairZ (ez_call (ea1 (ev_var rfl)) rfl fun H1 e => ⟨_, c, rfl, hc.mono e, ok, rfl⟩) (ez_call (ea2 (ev_op (ev_var rfl) ev_c (rv_ixTn (j := 0) hp rfl)) (ev_var rfl)) rfl fun H1 e => ⟨c.many, t, rfl, ok.many, ht, hz, rfl⟩) (fun v H H' e h => ⟨h.choose, h.choose_spec.mono e⟩) (fun v H H' e h => Chi.mono e h) fun rv chv H1 e1 ⟨dom, hR⟩ hChi => ?_
  refine q_lcF (f := fun i => (t.signs.map sg).getD i .non) (fun _ => .dK []) (ei_str (ev_var rfl)).j (by rw [st_size, Tr.signs_len]; omega) (fun i H1 x H2 hi y => by
    rw [sgn_st] at y
    rw [st_size] at hi
    exact yat_get (by simpa using hi) y) (fun _ => rfl) (fun i H2 e hi => ef_dK) fun kl ps H2 hkl e2 hkl2 hpn hps hnd => ?_
  rw [st_size, Tr.signs_len] at hpn
  have hsub : ∀ (q : Nat) (s : Tr), t.subs[q]? = some s → q < t.size := fun q s hs => by
    have := (List.getElem?_eq_some_iff.mp hs).1
    rw [Tr.subs_len] at this
    exact this
  have elen : ∀ {σ : L2.St} {H : Hp}, σ[1]? = some (some (.str (St t.signs))) → Ev (tCB rLenC (tCons (tVar 1) tNil)) σ H (.int (t.size : Nat)) := fun hs => ev_is (ev_cb (ea1 (ev_var hs)) (rc_lenC (by rw [st_len, Tr.signs_len]; omega))) (by rw [st_len, Tr.signs_len])
  refine q_forI (H := H1) (ei_rng3 (ea3 (ev_op (elen rfl) ev_c rv_I0) (ev_un ev_c ru_neg) (ev_un ev_c ru_neg)) (rg_down (by omega))) e2 (fun i σ' H' => Kw H1 kl ps t c ν (t.size - i) H' ∧ ∃ x4 x7 x8 x9 x10 x11 x12 x13, σ' = [some (.ref p), some (.str (St t.signs)), some (.str (St ν)), some (.ref kl), x4, some rv, some chv, x7, x8, x9, x10, x11, x12, x13])
    (fun H3 e3 => ⟨⟨e2.trans e3, e3 kl _ hkl2, fun q b hb => ⟨(hps q b hb).1, (hps q b hb).2.1⟩, fun q s b hq hs _ => absurd (hsub q s hs) (by omega), fun q b _ hb => e3 b _ (hps q b hb).2.2⟩, none, none, none, none, none, none, none, none, rfl⟩) (fun i σ' H2 hi p => p.1.ex) (fun i x σ' H3 H4 hi pv y => ?_) (fun σ' H3 pv => ?_)
  · obtain ⟨kw, x4, x7, x8, x9, x10, x11, x12, x13, rfl⟩ := pv
    obtain ⟨rfl, rfl⟩ := y
    obtain ⟨pp, hpp⟩ : ∃ pp : Nat, pp + i + 1 = t.size := ⟨t.size - 1 - i, by omega⟩
    obtain ⟨s', hs⟩ := Tr.sub_ex (t := t) (p := pp) (by omega)
    have hos := Tr.ok_at ht hs
    have om := ok.many
    change tFor _ _ _ _ [some (.ref p), some (.str (St t.signs)), some (.str (St ν)), some (.ref kl), some (.int ((t.size : Int) - 1 + (i : Nat) * -1)), some rv, some chv, x7, x8, x9, x10, x11, x12, x13] H4
    rw [show (t.size : Int) - 1 + (i : Nat) * -1 = (pp : Nat) by omega]
    rw [show t.size - i = pp + 1 by omega] at kw
    obtain ⟨lch, qch, rfl, hq1, hq2, hq3⟩ := hChi
    obtain ⟨cha, hch1, hch2⟩ := hq3 pp s' hs
    have hpa : ps[pp]? = some ps[pp] := List.getElem?_eq_getElem (by omega)
    have hkl2' : s'.kids.length ≤ 2 := by rw [Tr.kids_len hos]; split <;> omega
    have hνp : pp < ν.length := by omega
    have hchg : ∀ d, chg (ν.drop pp) d = if (ν[pp] = 63 ∨ ν[pp] = d) then 0 else 1 := fun d => by rw [drop_cons hνp]; rfl
    have kx0 : Kx H1 kl ps t c ν pp ps[pp] [] H4 := ⟨kw.ex, kw.hl, kw.n0, kw.at1, fun q b hq hb => kw.at0 q b (by omega) hb, [], kw.at0 pp _ (by omega) hpa, fun x => rfl, Nat.le_refl _⟩
    have hchild : ∀ {σ : L2.St} {H5 : Hp}, Ex H1 H5 → σ[6]? = some (some (.ref lch)) → σ[4]? = some (some (.int (pp : Nat))) → Ev (tOp (rIxL K) (tVar 6) (tVar 4)) σ H5 (.ref cha) := fun e h6 h4 => ev_op (ev_var h6) (ev_var h4) (rv_ixLn (ex_l e hq1) hch1)
    refine s_forNL (K := K) (xs := (digs.filter (dmOf c dom s')).map sg) (el_callL (ea_cons (ev_var rfl) (ea_cons (ev_var rfl) (ea2 (ev_op (ev_var rfl) (ev_var rfl) (rv_ixC (Tr.sign_at hs) (by rw [Tr.signs_len]; omega))) (hchild kw.ex rfl rfl)))) rfl fun H5 e5 =>
        ⟨_, c, rv, dom, s', cha, _, c.many, rfl, hc.mono ((e1.trans kw.ex).trans e5), hR.mono (kw.ex.trans e5), ex_t (kw.ex.trans e5) hch2, by rw [List.length_map, offs_len], hos, rfl⟩)
      (fun dl i σ' H' => Kx H1 kl ps t c ν pp ps[pp] (((digs.filter (dmOf c dom s')).take i).filterMap (ent c s' (ν.drop pp))) H' ∧ H' dl = some (.lst ((digs.filter (dmOf c dom s')).map sg)) ∧ ∃ x7 x8 x9 x10 x11 x12 x13, σ' = [some (.ref p), some (.str (St t.signs)), some (.str (St ν)), some (.ref kl), some (.int (pp : Nat)), some rv, some (.ref lch), x7, x8, x9, x10, x11, x12, x13])
      (fun dl H5 _ e5 h5 => ⟨by simpa using kx0.mono e5, h5, _, _, _, _, _, _, _, rfl⟩) (fun dl i σ' H' _ pv => sq_of pv.2.1) (fun dl i x σ' H5 hx pv => ?_) (fun dl σ' H5 pv => ?_)
    · obtain ⟨kx, hdl, y7, y8, y9, y10, y11, y12, y13, rfl⟩ := pv
      obtain ⟨hid, hxd⟩ := List.getElem?_eq_some_iff.mp hx
      rw [List.length_map] at hid
      rw [List.getElem_map] at hxd
      subst hxd
      generalize hd : (digs.filter (dmOf c dom s'))[i] = d at *
      have hdi : (digs.filter (dmOf c dom s'))[i]? = some d := by rw [List.getElem?_eq_getElem hid, hd]
      have hDn : (digs.filter (dmOf c dom s')).Nodup := digs_nodup.filter _
      have hdt : d ∉ (digs.filter (dmOf c dom s')).take i := by
        intro hm
        obtain ⟨j, hj, hjd⟩ := List.mem_iff_getElem.mp hm
        have hj' : j < i := by simp at hj; omega
        rw [List.getElem_take] at hjd
        have : j = i := (List.getElem_inj hDn).mp (hjd.trans hd.symm)
        omega
      have htk : (digs.filter (dmOf c dom s')).take (i + 1) = (digs.filter (dmOf c dom s')).take i ++ [d] := by rw [List.take_succ, hdi]; rfl
      have hi10 : i < 10 := by
        have := List.length_filter_le (dmOf c dom s') digs
        have h10 : digs.length = 10 := rfl
        omega
      have htl : (((digs.filter (dmOf c dom s')).take i).filterMap (ent c s' (ν.drop pp))).length ≤ 10 := by
        have h1 := List.length_filterMap_le (ent c s' (ν.drop pp)) ((digs.filter (dmOf c dom s')).take i)
        have h2 : ((digs.filter (dmOf c dom s')).take i).length ≤ i := by simp; omega
        omega
      show tSeq _ _ _ [some (.ref p), some (.str (St t.signs)), some (.str (St ν)), some (.ref kl), some (.int (pp : Nat)), some rv, some (.ref lch), some (sg d), y8, y9, y10, y11, y12, y13] H5
      -- the last statement
      have fin : ∀ (sl : Addr) (x10 x11 x12 x13 : Option V) (H6 : Hp) (D : Ends), Kx H1 kl ps t c ν pp ps[pp] (((digs.filter (dmOf c dom s')).take i).filterMap (ent c s' (ν.drop pp))) H6 → H6 dl = some (.lst ((digs.filter (dmOf c dom s')).map sg)) → H6 sl = some (.lst ((sumsOf c s' (ν.drop pp) d).map inat)) →
          (∀ σ' H', (Kx H1 kl ps t c ν pp ps[pp] (((digs.filter (dmOf c dom s')).take (i + 1)).filterMap (ent c s' (ν.drop pp))) H' ∧ H' dl = some (.lst ((digs.filter (dmOf c dom s')).map sg)) ∧ ∃ x7 x8 x9 x10 x11 x12 x13, σ' = [some (.ref p), some (.str (St t.signs)), some (.str (St ν)), some (.ref kl), some (.int (pp : Nat)), some rv, some (.ref lch), x7, x8, x9, x10, x11, x12, x13]) → D.nx σ' H') →
          tIfS (tTest (tOp (rI0 fun i j => .bl (decide (j < i))) (tCB (rLenQ K) (tCons (tVar 9) tNil)) (tC (.int 0)))) (sDPut (tOp (rIxL K) (tVar 3) (tVar 4)) (tVar 7) (tOp (rI0 fun i j => .int (i + j)) (tCB (rMin K) (tCons (tVar 9) tNil)) (tIf (tTest (tOp (rIn K false) (tOp rIxS (tVar 2) (tVar 4)) (tTup (tCons (tC (.str "?")) (tCons (tVar 7) tNil))))) (tC (.int 0)) (tC (.int 1))))) tNext D
            [some (.ref p), some (.str (St t.signs)), some (.str (St ν)), some (.ref kl), some (.int (pp : Nat)), some rv, some (.ref lch), some (sg d), y8, some (.ref sl), x10, x11, x12, x13] H6 := by
        intro sl x10 x11 x12 x13 H6 D kx6 hdl6 hsl hD
        refine s_when (et_test (ev_op (ev_cb (ea1 (ev_var rfl)) (rc_lenL (sq_of hsl))) ev_c rv_I0)) (fun hb H7 e7 => ?_) (fun hb H7 e7 => ?_)
        · have hne : sumsOf c s' (ν.drop pp) d ≠ [] := by
            intro e
            rw [e] at hb
            simp at hb
          obtain ⟨kq, hkq⟩ := least_ne hne
          obtain ⟨kvs, g1, g2, g3⟩ := (kx6.mono e7).me
          have hent : ent c s' (ν.drop pp) d = some (d, kq + chg (ν.drop pp) d) := by rw [ent_sums, hkq]; rfl
          refine s_dput (d := ps[pp]) (kvs := kvs) (k := .inr (St [d])) (v := inat (kq + chg (ν.drop pp) d)) (ev_is (ev_op (ev_cb (ea1 (ev_var rfl)) (rc_min (sq_of (e7 sl _ hsl)) hkq)) (ev_if (v := inat (chg (ν.drop pp) d)) (et_test (ev_inU (ev_op (ev_var rfl) (ev_var rfl) (rv_ixC (List.getElem?_eq_getElem hνp) (by omega))) (eu_tup (ea2 ev_c (ev_var rfl)) (by show 2 ≤ 100000; omega)) rfl rfl)) (fun hb2 => ?_) (fun hb2 => ?_)) rv_I0) ?_) (ev_op (ev_var rfl) (ev_var rfl) (rv_ixLn (sq_of (kx6.mono e7).hl) (by rw [List.getElem?_map, hpa]; rfl))) (ev_var rfl) g1 (by omega) fun H8 e8 => hD _ _ ⟨?_, ?_, _, _, _, _, _, _, _, rfl⟩
          · have : inV (.str ⟨#[ν[pp]]⟩) [.str "?", sg d] = decide (ν[pp] = 63 ∨ ν[pp] = d) := by
              have h1 : ([.str "?", sg d] : List V) = [(St [63]), (St [d])].map V.str := rfl
              rw [h1, show (⟨#[ν[pp]]⟩ : Str) = St [ν[pp]] from rfl, inV_str]
              simp only [List.mem_cons, List.not_mem_nil, or_false]
              congr 1
              apply propext
              constructor
              · rintro (h | h)
                · left; simpa using st_inj h
                · right; simpa using st_inj h
              · rintro (h | h)
                · left; rw [h]
                · right; rw [h]
            rw [this] at hb2
            have h3 := of_decide_eq_true hb2
            rw [hchg, if_pos h3]
            exact ev_c
          · have : inV (.str ⟨#[ν[pp]]⟩) [.str "?", sg d] = decide (ν[pp] = 63 ∨ ν[pp] = d) := by
              have h1 : ([.str "?", sg d] : List V) = [(St [63]), (St [d])].map V.str := rfl
              rw [h1, show (⟨#[ν[pp]]⟩ : Str) = St [ν[pp]] from rfl, inV_str]
              simp only [List.mem_cons, List.not_mem_nil, or_false]
              congr 1
              apply propext
              constructor
              · rintro (h | h)
                · left; simpa using st_inj h
                · right; simpa using st_inj h
              · rintro (h | h)
                · left; rw [h]
                · right; rw [h]
            rw [this] at hb2
            have h3 := of_decide_eq_false hb2
            rw [hchg, if_neg h3]
            exact ev_c
          · show V.int _ = V.int _
            congr 1
          · have hT := lookup_none c s' (ν.drop pp) _ d hdt
            have := ((kx6.mono e7).mono e8).put hnd hpa (e8 _ _ g1) (d := d) (k := kq + chg (ν.drop pp) d) hT
            rw [htk, List.filterMap_append]
            rw [show List.filterMap (ent c s' (ν.drop pp)) [d] = [(d, kq + chg (ν.drop pp) d)] by simp [hent]]
            exact this
          · have h8 := e8 dl _ (e7 dl _ hdl6)
            rw [upd_ne (fun e => by rw [e, e8 _ _ g1] at h8; cases h8)]
            exact h8
        · have hne : sumsOf c s' (ν.drop pp) d = [] := by
            cases hq : sumsOf c s' (ν.drop pp) d with
            | nil => rfl
            | cons x r => rw [hq] at hb; simp at hb
          have hent : ent c s' (ν.drop pp) d = none := by rw [ent_sums, hne]; rfl
          refine hD _ _ ⟨?_, e7 dl _ hdl6, _, _, _, _, _, _, _, rfl⟩
          rw [htk, List.filterMap_append]
          rw [show List.filterMap (ent c s' (ν.drop pp)) [d] = [] by simp [hent], List.append_nil]
          exact kx6.mono e7
      refine q_asgL (el_lst (ea1 ev_c) (by decide)) fun sl H6 _ e6 h6 => ?_
      have kx6 := kx.mono e6
      refine q_if (b := decide (s'.kids ≠ [])) (et_is (et_test (ev_op (ev_cb (ea1 (hchild kx6.ex rfl rfl)) (rc_lenT (ex_t kx6.ex hch2))) ev_c rv_I0)) ?_) (fun hb H7 e7 => ?_) (fun hb H7 e7 => ?_)
      · rw [List.length_map, offs_len]
        cases h : s'.kids with
        | nil => simp
        | cons a b => simp
      · have hkn := of_decide_eq_true hb
        have kx7 := kx6.mono e7
        have hkm : s'.kids.length = c.many := by
          rw [Tr.kids_len hos]
          have := Tr.sign_cap hos
          rw [if_pos (of_decide_eq_true (by rw [this, decide_eq_true hkn]))]
        refine q_asgZ (ez_call (ea_cons (ev_var rfl) (ea_cons (ev_var rfl) (ea_cons (ev_var rfl) (ea_cons (ev_var rfl) (ea2 (hchild kx7.ex rfl rfl) (ev_var rfl)))))) rfl fun H8 e8 => ⟨rv, c, dom, t, pp, s', d, cha, .ref kl, ν, rfl, hR.mono (kx7.ex.trans e8), ok, ht, hz, hs, hkn, ex_t (kx7.ex.trans e8) hch2, (kx7.mono e8).known hpn, rfl⟩) fun fv H8 e8 hf => ?_
        obtain ⟨fl, qs, rfl, hf1, hf2, hf3⟩ := hf
        have kx8 := kx7.mono e8
        have hpr : (priced c s'.lab d (ktabs c s' (ν.drop pp))).length ≤ 300 := by
          have h1 := List.length_filterMap_le (fitR (ktabs c s' (ν.drop pp))) (rest c (s'.lab, d))
          have h2 := (rest_len ok (m := (s'.lab, d))).1
          unfold priced
          omega
        refine s_asgL (xs := (sumsOf c s' (ν.drop pp) d).map inat) ?_ fun sl2 H9 _ e9 h9 => fin sl2 _ _ _ _ H9 _ (kx8.mono e9) (e9 dl _ (e8 dl _ (e7 dl _ (e6 dl _ hdl)))) h9 fun σ' H' g => g
        have g := el_lc (vs := [11]) (j := 11) (t := tYes) (te := tCB (rSum K) (tCons (tLc (RZ.iZipA K (tCons (tVar 11) (tCons (tOp (rIxL K) (tVar 6) (tVar 4)) tNil))) (gTup K 2 (gCons (gName 12) (gCons (gName 13) gNil))) tYes (tDGet (tOp (rIxL K) (tVar 3) (tVar 13)) (tVar 12)) [12, 13]) tNil))
          (σ := [some (.ref p), some (.str (St t.signs)), some (.str (St ν)), some (.ref kl), some (.int (pp : Nat)), some rv, some (.ref lch), some (sg d), y8, some (.ref sl), some (.ref fl), y11, y12, y13]) (H := H8) (fun _ => true) (fun i => inat ((priced c s'.lab d (ktabs c s' (ν.drop pp))).getD i (0, [])).1) (f := fun i => qs.getD i .non)
          (ei_list (K := K) (te := tVar 10) (ev_var rfl) (sq_of hf1)).j (by omega) (fun i H1 x H2 hi y => yat_get hi y) (fun _ => rfl) (fun _ _ _ _ => et_yes) fun i H9 e9 hi _ => by
            have hi2 : i < (priced c s'.lab d (ktabs c s' (ν.drop pp))).length := by omega
            obtain ⟨ai, ha1, ha2⟩ := hf3 i _ (List.getElem?_eq_getElem hi2)
            obtain ⟨r0, hr0, hrl, hrb, hre⟩ := priced_mem (by rw [ktabs_len, hkm]) ok (List.getElem_mem hi2)
            rw [ktabs_len] at hrl
            have e3 : (priced c s'.lab d (ktabs c s' (ν.drop pp))).getD i (0, []) = (priced c s'.lab d (ktabs c s' (ν.drop pp)))[i] := by simp [List.getD, hi2]
            have e4 : qs.getD i .non = .ref ai := by simp [List.getD, ha1]
            rw [e3, e4, hre]
            refine ev_rowsum (t := t) (p := pp) hs hrl hkl2' (ev_var (v := .ref ai) rfl) (st_of (e9 ai _ (by rw [ha2, hre, List.map_map]; rfl))) (hchild ((kx8.mono e9).ex) rfl rfl) (ex_t ((kx8.mono e9).ex) hch2) (fun x y => ev_var rfl) ((kx8.mono e9).known hpn) hrb (fun _ _ => rfl) (fun _ _ => rfl) (fun _ _ => rfl)
        rw [hf2, given_list (priced c s'.lab d (ktabs c s' (ν.drop pp))) (fun _ => true) (fun e => inat e.1) _ _ (fun _ _ => rfl) (fun i hi => by simp [List.getD, hi]), List.filter_eq_self.mpr (fun _ _ => rfl)] at g
        unfold sumsOf
        rw [if_neg hkn, List.map_map]
        exact g
      · have hkn : s'.kids = [] := by simpa using hb
        refine fin sl _ _ _ _ H7 _ (kx6.mono e7) (e7 dl _ (e6 dl _ hdl)) ?_ fun σ' H' g => g
        unfold sumsOf
        rw [if_pos hkn]
        exact e7 sl _ h6
    · obtain ⟨kx, hdl, y7, y8, y9, y10, y11, y12, y13, rfl⟩ := pv
      rw [List.length_map, List.take_length, ← tab_eq c s' (ν.drop pp) dom (fun m hm => by
        obtain ⟨d, kvs, _, _, h3⟩ := hR
        exact ((h3 m).1 hm).2)] at kx
      obtain ⟨kvs, g1, g2, g3⟩ := kx.me
      refine ⟨?_, _, _, _, _, _, _, _, _, rfl⟩
      rw [show t.size - (i + 1) = pp by omega]
      refine ⟨kx.ex, kx.hl, kx.n0, fun q s b hq hs2 hb => ?_, kx.at0⟩
      by_cases hqp : q = pp
      · subst hqp
        rw [hs] at hs2
        cases hs2
        rw [hpa] at hb
        cases hb
        exact ⟨kvs, g1, g2⟩
      · exact kx.at1 q s b (by omega) hs2 hb
  · obtain ⟨kw, x4, x7, x8, x9, x10, x11, x12, x13, rfl⟩ := pv
    rw [Nat.sub_self] at kw
    exact s_ret (ev_var rfl) fun H4 e4 => q _ _ (e1.trans (kw.ex.trans e4)) ((kw.mono e4).known hpn)
end
end K64

set_option Elab.async false
set_option linter.all false
set_option maxRecDepth 100000
set_option maxHeartbeats 4000000
/-! W7: the least of priced rows, the notes picked: plain. -/
namespace K64
open PySem PySem.Spec PyProof.Rows L2 Evl
open PySem.W (Datum DatumOrd Tup)
def conv (e : Nat × List Nat) : Int × Tup Str := ((e.1 : Int), ⟨e.2.map fun d => St [d]⟩)
theorem toD_inj {α : Type} [DecidableEq α] [Datum α] {a b : α} (h : Datum.toD a = Datum.toD b) : a = b := by
  have h1 := Datum.eqv a b
  rw [h, Datum.eqv b b] at h1
  have h2 : decide (a = b) = true := by rw [← h1]; simp
  exact of_decide_eq_true h2
theorem conv_inj {a b : Nat × List Nat} (h : conv a = conv b) : a = b := by
  have h1 := congrArg Prod.fst h
  have h2 := congrArg (fun z : Int × Tup Str => z.2.items) h
  have e1 : a.1 = b.1 := Int.ofNat.inj h1
  have e2 : a.2 = b.2 := by
    have : ∀ (xs ys : List Nat), xs.map (fun d => St [d]) = ys.map (fun d => St [d]) → xs = ys := by
      intro xs
      induction xs with
      | nil => intro ys h; cases ys with
        | nil => rfl
        | cons y r => cases h
      | cons x r ih => intro ys h; cases ys with
        | nil => cases h
        | cons y r2 =>
          simp only [List.map_cons, List.cons.injEq] at h
          rw [ih r2 h.2]
          have := st_inj h.1
          simp at this
          rw [this]
    exact this _ _ h2
  exact Prod.ext e1 e2
theorem lt_digs : ∀ xs ys : List Nat, PySem.W.listLt (xs.map fun d => St [d]) (ys.map fun d => St [d]) = decide (xs < ys)
  | [], [] => by simp [PySem.W.listLt]
  | [], _ :: _ => by simp [PySem.W.listLt]
  | _ :: _, [] => by simp [PySem.W.listLt]
  | x :: xs, y :: ys => by
    simp only [List.map_cons, PySem.W.listLt]
    by_cases h : x = y
    · subst h
      rw [if_pos rfl, lt_digs xs ys]
      simp [List.cons_lt_cons_iff]
    · have h2 : St [x] ≠ St [y] := fun e => h (by simpa using st_inj e)
      rw [if_neg h2]
      show decide ((St [x]).cps.toList < (St [y]).cps.toList) = _
      rw [st_list, st_list]
      simp [List.cons_lt_cons_iff, h]
theorem lt_conv (a b : Nat × List Nat) : DatumOrd.lt (conv a) (conv b) = ltP a b := by
  show (if (conv a).1 = (conv b).1 then PySem.W.listLt (conv a).2.items (conv b).2.items else decide ((conv a).1 < (conv b).1)) = _
  show (if (a.1 : Int) = (b.1 : Int) then PySem.W.listLt (a.2.map fun d => St [d]) (b.2.map fun d => St [d]) else decide ((a.1 : Int) < (b.1 : Int))) = _
  unfold ltP
  by_cases h : a.1 = b.1
  · rw [if_pos (by rw [h]), lt_digs]
    simp [h]
  · rw [if_neg (by omega)]
    simp [h]
theorem minOf_conv : ∀ (r : List (Nat × List Nat)) (x : Nat × List Nat), PySem.W.minOf (conv x) (r.map conv) = conv (r.foldl (fun m y => if ltP y m then y else m) x)
  | [], x => rfl
  | y :: r, x => by
    have ih := minOf_conv r (if ltP y x then y else x)
    rw [List.foldl_cons, ← ih]
    unfold PySem.W.minOf
    rw [List.map_cons, List.foldl_cons, lt_conv]
    by_cases h : ltP y x = true <;> simp [h]
theorem foldP_mem : ∀ (r : List (Nat × List Nat)) (x : Nat × List Nat), r.foldl (fun m y => if ltP y m then y else m) x ∈ x :: r
  | [], x => List.mem_cons_self
  | y :: r, x => by
    rw [List.foldl_cons]
    have ih := foldP_mem r (if ltP y x then y else x)
    rcases List.mem_cons.mp ih with h | h
    · rw [h]
      by_cases hq : ltP y x = true <;> simp [hq]
    · exact List.mem_cons_of_mem _ (List.mem_cons_of_mem _ h)
theorem minP_mem {l : List (Nat × List Nat)} {m : Nat × List Nat} (h : minP l = some m) : m ∈ l := by
  cases l with
  | nil => cases h
  | cons x r =>
    obtain rfl := Option.some.inj h
    exact foldP_mem r x
theorem minP_ne {l : List (Nat × List Nat)} (h : l ≠ []) : ∃ m, minP l = some m := by
  cases l with
  | nil => exact absurd rfl h
  | cons x r => exact ⟨_, rfl⟩
/-! ### an entry of the table -/
theorem tab_ent (c : Ck) (s : Tr) (μ : List Nat) : tab c s μ = (digs.filter (dmOf c (fun m => decide (rest c m ≠ [])) s)).filterMap (ent c s μ) := tab_eq c s μ _ fun m h => by simpa using h
theorem lookup_fm (c : Ck) (s : Tr) (μ : List Nat) : ∀ (L : List Nat) (d k : Nat), (L.filterMap (ent c s μ)).lookup d = some k → d ∈ L ∧ ent c s μ d = some (d, k)
  | [], d, k, h => by cases h
  | a :: r, d, k, h => by
    rw [List.filterMap_cons] at h
    cases he : ent c s μ a with
    | none =>
      rw [he] at h
      obtain ⟨h1, h2⟩ := lookup_fm c s μ r d k h
      exact ⟨List.mem_cons_of_mem _ h1, h2⟩
    | some e =>
      rw [he] at h
      have hk := ent_key he
      obtain ⟨e1, e2⟩ := e
      simp only [List.lookup_cons] at h
      by_cases hd : d = e1
      · subst hd
        simp at h
        subst h
        have hk' : d = a := hk
        subst hk'
        exact ⟨List.mem_cons_self, he⟩
      · rw [beq_eq_false_iff_ne.mpr hd] at h
        obtain ⟨h1, h2⟩ := lookup_fm c s μ r d k h
        exact ⟨List.mem_cons_of_mem _ h1, h2⟩
theorem tab_look {c : Ck} {s : Tr} {μ : List Nat} {d k : Nat} (h : (tab c s μ).lookup d = some k) : d ∈ digs ∧ ent c s μ d = some (d, k) := by
  rw [tab_ent] at h
  obtain ⟨h1, h2⟩ := lookup_fm c s μ _ d k h
  exact ⟨(List.mem_filter.mp h1).1, h2⟩
/-- where a digit has a price, a row fits -/
theorem tab_min {c : Ck} {s : Tr} {μ : List Nat} {d : Nat} (ok : c.Ok) (ho : s.Ok c.many) (hk : s.kids ≠ []) (h : ((tab c s μ).lookup d).isSome) :
    ∃ k es, minP (priced c s.lab d (ktabs c s μ)) = some (k, es) ∧ es.length = s.kids.length ∧ ∀ (i : Nat) (ki : Nat × Tab) (x : Nat), (ktabs c s μ)[i]? = some ki → es[i]? = some x → (ki.2.lookup x).isSome := by
  obtain ⟨k0, h0⟩ := Option.isSome_iff_exists.mp h
  obtain ⟨_, he⟩ := tab_look h0
  unfold ent at he
  rw [if_neg hk] at he
  obtain ⟨k1, hk1, _⟩ := Option.map_eq_some_iff.mp he
  have hne : priced c s.lab d (ktabs c s μ) ≠ [] := by
    intro e
    rw [e] at hk1
    cases hk1
  obtain ⟨⟨k, es⟩, hm⟩ := minP_ne hne
  have hkm : (ktabs c s μ).length = c.many := by
    rw [ktabs_len, Tr.kids_len ho]
    have := Tr.sign_cap ho
    rw [if_pos (of_decide_eq_true (by rw [this, decide_eq_true hk]))]
  obtain ⟨r, hr, hrl, hrb, hre⟩ := priced_mem hkm ok (minP_mem hm)
  have hes : es = r.map (·.2) := congrArg Prod.snd hre
  refine ⟨k, es, hm, by rw [hes, List.length_map, hrl, ktabs_len], fun i ki x h1 h2 => ?_⟩
  obtain ⟨i1, e1⟩ := List.getElem?_eq_some_iff.mp h1
  have hir : i < r.length := by omega
  rw [hes, List.getElem?_map, List.getElem?_eq_getElem hir] at h2
  have hx : r[i].2 = x := Option.some.inj h2
  rw [List.all_eq_true] at hrb
  have hm2 : fitB ((ktabs c s μ)[i]'i1) r[i] ∈ List.zipWith fitB (ktabs c s μ) r := by
    rw [List.mem_iff_getElem]
    exact ⟨i, by simp; exact Nat.lt_min.mpr ⟨i1, hir⟩, by simp⟩
  have := hrb _ hm2
  rw [e1] at this
  unfold fitB at this
  simp only [id, Bool.and_eq_true] at this
  rw [← hx]
  exact this.2
theorem pick_len {c : Ck} (ok : c.Ok) : ∀ {t : Tr} {ν : List Nat} {d : Nat}, t.Ok c.many → ((tab c t ν).lookup d).isSome → (pick c t ν d).length = t.size ∧ (pick c t ν d)[0]? = some d
  | .leaf l, ν, d, _, _ => ⟨rfl, rfl⟩
  | .one l a, ν, d, ho, h => by
    obtain ⟨k, es, h1, h2, h3⟩ := tab_min ok ho (by simp [Tr.kids]) h
    match es, h2 with
    | [e1], _ =>
      have ha := h3 0 (a.lab, tab c a (ν.drop 1)) e1 rfl rfl
      obtain ⟨i1, i2⟩ := pick_len ok ho.2.2 ha
      have hm : minP (priced c l d [(a.lab, tab c a (ν.drop 1))]) = some (k, [e1]) := h1
      unfold pick
      rw [hm]
      refine ⟨?_, rfl⟩
      show (d :: pick c a (ν.drop 1) e1).length = 1 + a.size
      rw [List.length_cons, i1]
      omega
  | .two l a b, ν, d, ho, h => by
    obtain ⟨k, es, h1, h2, h3⟩ := tab_min ok ho (by simp [Tr.kids]) h
    match es, h2 with
    | [e1, e2], _ =>
      have ha := h3 0 (a.lab, tab c a (ν.drop 1)) e1 rfl rfl
      have hb := h3 1 (b.lab, tab c b (ν.drop (1 + a.size))) e2 rfl rfl
      obtain ⟨i1, i2⟩ := pick_len ok ho.2.2.1 ha
      obtain ⟨j1, j2⟩ := pick_len ok ho.2.2.2 hb
      have hm : minP (priced c l d [(a.lab, tab c a (ν.drop 1)), (b.lab, tab c b (ν.drop (1 + a.size)))]) = some (k, [e1, e2]) := h1
      unfold pick
      rw [hm]
      refine ⟨?_, rfl⟩
      show (d :: (pick c a (ν.drop 1) e1 ++ pick c b (ν.drop (1 + a.size)) e2)).length = 1 + a.size + b.size
      rw [List.length_cons, List.length_append, i1, j1]
      omega
theorem pick_sub {c : Ck} (ok : c.Ok) : ∀ {t : Tr} {ν : List Nat} {d : Nat}, t.Ok c.many → ((tab c t ν).lookup d).isSome → ∀ {p : Nat} {s : Tr}, t.subs[p]? = some s →
    ∃ e, (pick c t ν d)[p]? = some e ∧ ((tab c s (ν.drop p)).lookup e).isSome ∧ (s.kids ≠ [] → ∃ k es, minP (priced c s.lab e (ktabs c s (ν.drop p))) = some (k, es) ∧ es.length = s.kids.length ∧ ∀ (i o : Nat), s.offs[i]? = some o → ∃ x, es[i]? = some x ∧ (pick c t ν d)[p + o]? = some x)
  | .leaf l, ν, d, ho, h, p, s, hs => by
    rcases p with _ | p
    · obtain rfl : Tr.leaf l = s := Option.some.inj hs
      exact ⟨d, rfl, h, fun hk => absurd rfl hk⟩
    · simp [Tr.subs] at hs
  | .one l a, ν, d, ho, h, p, s, hs => by
    obtain ⟨k, es, h1, h2, h3⟩ := tab_min ok ho (by simp [Tr.kids]) h
    match es, h2 with
    | [e1], _ =>
      have ha := h3 0 (a.lab, tab c a (ν.drop 1)) e1 rfl rfl
      have hm : minP (priced c l d [(a.lab, tab c a (ν.drop 1))]) = some (k, [e1]) := h1
      have hp : pick c (.one l a) ν d = d :: pick c a (ν.drop 1) e1 := by
        conv => lhs; unfold pick
        rw [hm]
      rcases p with _ | p
      · obtain rfl : Tr.one l a = s := Option.some.inj hs
        refine ⟨d, by rw [hp]; rfl, h, fun _ => ⟨k, [e1], h1, rfl, fun i o ho' => ?_⟩⟩
        rcases i with _ | i
        · cases ho'
          refine ⟨e1, rfl, ?_⟩
          rw [hp, Nat.zero_add]
          exact (pick_len ok ho.2.2 ha).2
        · simp [Tr.offs] at ho'
      · have hs' : a.subs[p]? = some s := by simpa [Tr.subs] using hs
        obtain ⟨e, g1, g2, g3⟩ := pick_sub ok ho.2.2 ha hs'
        rw [List.drop_drop, Nat.add_comm 1 p] at g2 g3
        refine ⟨e, by rw [hp]; simpa using g1, g2, fun hk => ?_⟩
        obtain ⟨k', es', q1, q2, q3⟩ := g3 hk
        refine ⟨k', es', q1, q2, fun i o ho' => ?_⟩
        obtain ⟨x, x1, x2⟩ := q3 i o ho'
        refine ⟨x, x1, ?_⟩
        rw [hp, show p + 1 + o = (p + o) + 1 by omega]
        simpa using x2
  | .two l a b, ν, d, ho, h, p, s, hs => by
    obtain ⟨k, es, h1, h2, h3⟩ := tab_min ok ho (by simp [Tr.kids]) h
    match es, h2 with
    | [e1, e2], _ =>
      have ha := h3 0 (a.lab, tab c a (ν.drop 1)) e1 rfl rfl
      have hb := h3 1 (b.lab, tab c b (ν.drop (1 + a.size))) e2 rfl rfl
      have hm : minP (priced c l d [(a.lab, tab c a (ν.drop 1)), (b.lab, tab c b (ν.drop (1 + a.size)))]) = some (k, [e1, e2]) := h1
      have hp : pick c (.two l a b) ν d = d :: (pick c a (ν.drop 1) e1 ++ pick c b (ν.drop (1 + a.size)) e2) := by
        conv => lhs; unfold pick
        rw [hm]
      have la := (pick_len ok ho.2.2.1 ha).1
      rcases p with _ | p
      · obtain rfl : Tr.two l a b = s := Option.some.inj hs
        refine ⟨d, by rw [hp]; rfl, h, fun _ => ⟨k, [e1, e2], h1, rfl, fun i o ho' => ?_⟩⟩
        rcases i with _ | _ | i
        · cases ho'
          refine ⟨e1, rfl, ?_⟩
          rw [hp, Nat.zero_add, List.getElem?_cons_succ, List.getElem?_append_left (by rw [la]; exact Tr.size_pos a)]
          exact (pick_len ok ho.2.2.1 ha).2
        · have ho2 : 1 + a.size = o := by simpa [Tr.offs] using ho'
          subst ho2
          refine ⟨e2, rfl, ?_⟩
          rw [hp, Nat.zero_add, Nat.add_comm 1 a.size, List.getElem?_cons_succ, List.getElem?_append_right (by omega), la, Nat.sub_self, Nat.add_comm a.size 1]
          exact (pick_len ok ho.2.2.2 hb).2
        · simp [Tr.offs] at ho'
      · have hs' : (a.subs ++ b.subs)[p]? = some s := by simpa [Tr.subs] using hs
        by_cases hpa : p < a.subs.length
        · rw [List.getElem?_append_left hpa] at hs'
          obtain ⟨e, g1, g2, g3⟩ := pick_sub ok ho.2.2.1 ha hs'
          rw [List.drop_drop, Nat.add_comm 1 p] at g2 g3
          rw [Tr.subs_len] at hpa
          refine ⟨e, by rw [hp, List.getElem?_cons_succ, List.getElem?_append_left (by omega)]; exact g1, g2, fun hk => ?_⟩
          obtain ⟨k', es', q1, q2, q3⟩ := g3 hk
          refine ⟨k', es', q1, q2, fun i o ho' => ?_⟩
          obtain ⟨x, x1, x2⟩ := q3 i o ho'
          refine ⟨x, x1, ?_⟩
          have := (List.getElem?_eq_some_iff.mp x2).1
          rw [hp, show p + 1 + o = (p + o) + 1 by omega, List.getElem?_cons_succ, List.getElem?_append_left (by omega)]
          exact x2
        · rw [List.getElem?_append_right (by omega)] at hs'
          rw [Tr.subs_len] at hpa hs'
          obtain ⟨e, g1, g2, g3⟩ := pick_sub ok ho.2.2.2 hb hs'
          rw [List.drop_drop, show 1 + a.size + (p - a.size) = p + 1 by omega] at g2 g3
          refine ⟨e, by rw [hp, List.getElem?_cons_succ, List.getElem?_append_right (by omega), la]; exact g1, g2, fun hk => ?_⟩
          obtain ⟨k', es', q1, q2, q3⟩ := g3 hk
          refine ⟨k', es', q1, q2, fun i o ho' => ?_⟩
          obtain ⟨x, x1, x2⟩ := q3 i o ho'
          refine ⟨x, x1, ?_⟩
          rw [hp, show p + 1 + o = (p + o) + 1 by omega, List.getElem?_cons_succ, List.getElem?_append_right (by omega), la, show p + o - a.size = p - a.size + o by omega]
          exact x2
/-- every place but the first is a child's -/
theorem parent : ∀ (t : Tr) {q : Nat}, 0 < q → q < t.size → ∃ (p : Nat) (s : Tr) (k o : Nat), p < q ∧ t.subs[p]? = some s ∧ s.offs[k]? = some o ∧ q = p + o
  | .leaf l, q, h0, h => by simp [Tr.size] at h; omega
  | .one l a, q, h0, h => by
    by_cases h1 : q = 1
    · subst h1
      exact ⟨0, .one l a, 0, 1, by omega, rfl, rfl, rfl⟩
    · obtain ⟨p, s, k, o, g1, g2, g3, g4⟩ := parent a (q := q - 1) (by omega) (by simp [Tr.size] at h; omega)
      exact ⟨p + 1, s, k, o, by omega, by simpa [Tr.subs] using g2, g3, by omega⟩
  | .two l a b, q, h0, h => by
    simp only [Tr.size] at h
    by_cases h1 : q = 1
    · subst h1
      exact ⟨0, .two l a b, 0, 1, by omega, rfl, rfl, rfl⟩
    · by_cases h2 : q = 1 + a.size
      · subst h2
        exact ⟨0, .two l a b, 1, 1 + a.size, by omega, rfl, rfl, by omega⟩
      · by_cases h3 : q < 1 + a.size
        · obtain ⟨p, s, k, o, g1, g2, g3, g4⟩ := parent a (q := q - 1) (by omega) (by omega)
          refine ⟨p + 1, s, k, o, by omega, ?_, g3, by omega⟩
          show (a.subs ++ b.subs)[p]? = some s
          rw [List.getElem?_append_left (by rw [Tr.subs_len]; omega)]
          exact g2
        · obtain ⟨p, s, k, o, g1, g2, g3, g4⟩ := parent b (q := q - 1 - a.size) (by omega) (by omega)
          refine ⟨a.size + p + 1, s, k, o, by omega, ?_, g3, by omega⟩
          show (a.subs ++ b.subs)[a.size + p]? = some s
          rw [List.getElem?_append_right (by rw [Tr.subs_len]; omega), Tr.subs_len, show a.size + p - a.size = p by omega]
          exact g2
/-! ### the digits at the top -/
def topD (c : Ck) (t : Tr) (ν : List Nat) : List Nat := digs.filter fun d => ((tab c t ν).lookup d).isSome && decide ((t.lab, d) ∈ c.tops)
theorem lookup_of_fm (c : Ck) (s : Tr) (μ : List Nat) : ∀ (L : List Nat) (d : Nat), d ∈ L → (L.filterMap (ent c s μ)).lookup d = (ent c s μ d).map (·.2)
  | [], d, h => nomatch h
  | a :: r, d, h => by
    rw [List.filterMap_cons]
    by_cases hd : d = a
    · subst hd
      cases he : ent c s μ d with
      | none =>
        cases hq : (r.filterMap (ent c s μ)).lookup d with
        | none => simp [hq]
        | some k =>
          have := (lookup_fm c s μ r d k hq).2
          rw [he] at this
          cases this
      | some e =>
        have hk := ent_key he
        obtain ⟨e1, e2⟩ := e
        have hk' : e1 = d := hk
        subst hk'
        simp
    · have hr : d ∈ r := by
        rcases List.mem_cons.mp h with h | h
        · exact absurd h hd
        · exact h
      have ih := lookup_of_fm c s μ r d hr
      cases he : ent c s μ a with
      | none => exact ih
      | some e =>
        have hk := ent_key he
        obtain ⟨e1, e2⟩ := e
        have hk' : e1 = a := hk
        subst hk'
        show List.lookup d ((e1, e2) :: r.filterMap (ent c s μ)) = _
        rw [List.lookup_cons, beq_eq_false_iff_ne.mpr hd]
        exact ih
theorem fm_filter (c : Ck) (s : Tr) (μ : List Nat) (P : Nat → Bool) (F : Nat → Option Nat) : ∀ (L : List Nat), (∀ d ∈ L, F d = (ent c s μ d).map (·.2)) →
    (L.filterMap (ent c s μ)).filter (fun p => P p.1) = (L.filter fun d => (F d).isSome && P d).map fun d => (d, (F d).getD 0)
  | [], _ => rfl
  | a :: r, h => by
    have ih := fm_filter c s μ P F r fun d hd => h d (List.mem_cons_of_mem _ hd)
    have ha := h a List.mem_cons_self
    rw [List.filterMap_cons]
    cases he : ent c s μ a with
    | none =>
      rw [he] at ha
      have hF : (F a) = none := ha
      simp only [ih, List.filter_cons, hF, Option.isSome_none, Bool.false_and]
      simp
    | some e =>
      have hk := ent_key he
      obtain ⟨e1, e2⟩ := e
      have hk' : e1 = a := hk
      subst hk'
      rw [he] at ha
      have hF : F e1 = some e2 := ha
      show List.filter (fun p => P p.1) ((e1, e2) :: r.filterMap (ent c s μ)) = _
      simp only [List.filter_cons, ih, hF, Option.isSome_some, Bool.true_and]
      cases P e1 <;> simp [hF]
theorem topTab_eq (c : Ck) (t : Tr) (ν : List Nat) : topTab c t ν = (topD c t ν).map fun d => (d, ((tab c t ν).lookup d).getD 0) := by
  unfold topTab topD
  conv => lhs; rw [tab_ent]
  have hsub : ∀ d ∈ (digs.filter (dmOf c (fun m => decide (rest c m ≠ [])) t)), ((tab c t ν).lookup d) = (ent c t ν d).map (·.2) := by
    intro d hd
    rw [tab_ent]
    exact lookup_of_fm c t ν _ d hd
  have g := fm_filter c t ν (fun d => decide ((t.lab, d) ∈ c.tops)) (fun d => (tab c t ν).lookup d) _ hsub
  rw [g, List.filter_filter]
  congr 1
  apply List.filter_congr
  intro d hd
  cases hq : (tab c t ν).lookup d with
  | none => rfl
  | some k =>
    rw [tab_ent] at hq
    have := (List.mem_filter.mp (lookup_fm c t ν _ d k hq).1).2
    rw [this]
    simp
end K64

set_option Elab.async false
set_option linter.all false
set_option maxRecDepth 100000
set_option maxHeartbeats 4000000
/-! W8: cheapest_by, fewest_changes. -/
namespace K64
open PySem PySem.Spec PyProof.Rows L2 Evl
open PySem.W (Datum DatumOrd Tup)
theorem sum_ones : ∀ l : List Nat, ((l.map fun d => [d]).map (·.length)).sum = l.length
  | [] => rfl
  | a :: b => by
    have ih := sum_ones b
    rw [List.map_cons, List.map_cons, List.sum_cons, ih]
    show 1 + b.length = b.length + 1
    omega
theorem joinL_nil : ∀ ps : List (List Nat), TL.joinL [] ps = ps.flatten
  | [] => rfl
  | [p] => by simp [TL.joinL]
  | p :: q :: r => by
    rw [TL.joinL, joinL_nil (q :: r)]
    simp
theorem join_st (ps : List (List Nat)) : Txt.join "" (ps.map St) = St ps.flatten := by
  have h : Txt.join (St []) (ps.map St) = St (TL.joinL [] ps) := SX.join_S [] ps
  rw [joinL_nil] at h
  exact h
theorem dpa_of {K : Fg} {H : Hp} : ∀ {vs : List V} {ds : List PyData}, vs.length = ds.length → (∀ (i : Nat) (v : V) (d : PyData), vs[i]? = some v → ds[i]? = some d → Dp K H v d) → DpAll K H vs ds
  | [], [], _, _ => .nil
  | v :: vs, d :: ds, h, g => .cons (g 0 v d rfl rfl) (dpa_of (by simpa using h) fun i v d h1 h2 => g (i + 1) v d (by simpa using h1) (by simpa using h2))
theorem dconv (e : Nat × List Nat) : Datum.toD (conv e) = PyData.tuple [.int (e.1 : Int), .tuple (e.2.map fun d => .str (St [d]))] := by
  show PyData.tuple [.int (e.1 : Int), .tuple ((e.2.map fun d => St [d]).map PyData.str)] = _
  rw [List.map_map]
  rfl
section
variable {K : Fg} {σ : L2.St} {H H' : Hp} {ta tb te tx tc td ty : TE} {t u : TT} {x y z v : V} {r : R2} {wi : TI} {D : Ends} {tz : TS}
abbrev rJoinK (K : Fg) : V → List V → Hp → VK → Prop := fun x xs H Q => ∃ a p, ∃ ys : List Str, x = .str a ∧ xs = [.ref p] ∧ (SqL K H p (ys.map V.str) ∨ SqT K H p (ys.map V.str)) ∧ (ys.map (·.length)).sum + ys.length * a.length ≤ 16777216 ∧ Q (.str (Txt.join a ys)) H
theorem ev_join {l : Addr} {ps : List (List Nat)} (h0 : Ev ta σ H (.str "")) (h : Ev te σ H (.ref l)) (hl : SqL K H l (ps.map fun d => V.str (St d))) (hz : (ps.map (·.length)).sum ≤ 100000) : Ev (tM1 (rJoinK K) ta te) σ H (.str (St ps.flatten)) := fun H1 e Q q =>
  h0 H1 e _ fun H2 e2 => ⟨⟨_, rfl⟩, h H2 (e.trans e2) _ fun H3 e3 => ⟨"", l, ps.map St, rfl, rfl, .inl (by rw [List.map_map]; exact ex_l ((e.trans e2).trans e3) hl), by
    have : ((ps.map St).map (·.length)).sum = (ps.map (·.length)).sum := by
      rw [List.map_map]
      congr 1
    rw [this]
    have h2 : (("" : Str).length) = 0 := rfl
    rw [h2, Nat.mul_zero]
    omega, by rw [join_st]; exact q H3 (e2.trans e3)⟩⟩
theorem ev_joinN {ps : List (List Nat)} (h0 : Ev ta σ H (.str "")) (h : EvL te σ H (ps.map fun d => V.str (St d))) (hz : (ps.map (·.length)).sum ≤ 100000) : Ev (tM1 (rJoinK K) ta te) σ H (.str (St ps.flatten)) := fun H1 e Q q =>
  h0 H1 e _ fun H2 e2 => ⟨⟨_, rfl⟩, h H2 (e.trans e2) _ fun l H3 _ e3 hl => ⟨"", l, ps.map St, rfl, rfl, .inl (by rw [List.map_map]; exact sq_of hl), by
    have : ((ps.map St).map (·.length)).sum = (ps.map (·.length)).sum := by
      rw [List.map_map]
      congr 1
    rw [this]
    have h2 : (("" : Str).length) = 0 := rfl
    rw [h2, Nat.mul_zero]
    omega, by rw [join_st]; exact q H3 (e2.trans e3)⟩⟩
theorem ev_minN {ns : List Nat} {k : Nat} (h : EvL te σ H (ns.map inat)) (hk : least ns = some k) : Ev (tCB (rMin K) (tCons te tNil)) σ H (inat k) := fun H1 e Q q =>
  h H1 e _ fun p H2 _ e2 hp => rc_min (H := H2) (sq_of hp) hk H2 (Ex.refl _) Q fun H3 e3 => q H3 (e2.trans e3)
/-- the least of the priced rows: its digits -/
theorem ez_minrow {l : Addr} {ps : List Addr} {es : List (Nat × List Nat)} {k : Nat} {ds : List Nat} (h : Ev te σ H (.ref l)) (hl : H l = some (.lst (ps.map V.ref))) (hn : ps.length = es.length) (hq : ∀ (j : Nat) (e : Nat × List Nat), es[j]? = some e → ∃ p a : Addr, ps[j]? = some p ∧ H p = some (.tup [inat e.1, .ref a]) ∧ H a = some (.tup (e.2.map sg)))
    (hm : minP es = some (k, ds)) : EvZ (tOp (rIxT K) (tCB (rMinD K) (tCons te tNil)) (tC (.int 1))) σ H (fun v H' => ∃ a : Addr, v = .ref a ∧ H' a = some (.tup (ds.map sg))) := fun H1 e Q q => by
  refine h H1 e _ fun H2 e2 => ?_
  have e12 := e.trans e2
  cases es with
  | nil => cases hm
  | cons x0 r0 =>
    have hmin : PySem.W.minD (Datum.toD (conv x0)) ((r0.map conv).map Datum.toD) = Datum.toD (conv (k, ds)) := by
      rw [PySem.W.minD_map, minOf_conv]
      have := Option.some.inj hm
      rw [← this]
    have hdp : DpAll K H2 (ps.map V.ref) (((x0 :: r0).map conv).map Datum.toD) := by
      refine dpa_of (by simp [hn]) fun i v d h1 h2 => ?_
      rw [List.getElem?_map] at h1 h2
      rw [List.getElem?_map] at h2
      obtain ⟨p, hp, rfl⟩ := Option.map_eq_some_iff.mp h1
      obtain ⟨ce, hce, rfl⟩ := Option.map_eq_some_iff.mp h2
      obtain ⟨e', he', rfl⟩ := Option.map_eq_some_iff.mp hce
      obtain ⟨p', a, g1, g2, g3⟩ := hq i e' he'
      rw [hp] at g1
      cases g1
      rw [dconv]
      refine .tup (st_of (e12 p _ g2)) (.cons (.int _) (.cons (.tup (st_of (e12 a _ g3)) ?_) .nil))
      have hh := dpa_strs (K := K) (H := H2) (e'.2.map fun d => St [d])
      rw [List.map_map, List.map_map] at hh
      exact hh
    refine ⟨l, ps.map V.ref, Datum.toD (conv x0), (r0.map conv).map Datum.toD, rfl, sq_of (e12 l _ hl), hdp, PySem.W.alikeAll_datum ((x0 :: r0).map conv), ?_, fun i v h1 h2 => ?_⟩
    · have key : ∀ L : List (Nat × List Nat), PyData.depthAll ((L.map conv).map Datum.toD) ≤ 3 := by
        intro L
        have := PySem.W.depthAll_map (L.map conv)
        exact Nat.le_trans this (by decide)
      have := key (x0 :: r0)
      exact Nat.le_trans this (by decide)
    · rw [hmin] at h2
      have h2' : (((x0 :: r0).map conv).map Datum.toD)[i]? = some (Datum.toD (conv (k, ds))) := h2
      rw [List.getElem?_map] at h2' h1
      rw [List.getElem?_map] at h2'
      obtain ⟨ce, hce, hce2⟩ := Option.map_eq_some_iff.mp h2'
      obtain ⟨e', he', rfl⟩ := Option.map_eq_some_iff.mp hce
      have := conv_inj (toD_inj hce2)
      subst this
      obtain ⟨p, hp, rfl⟩ := Option.map_eq_some_iff.mp h1
      obtain ⟨p', a, g1, g2, g3⟩ := hq i _ he'
      rw [hp] at g1
      cases g1
      exact ⟨p, [inat k, .ref a], 1, .ref a, rfl, rfl, st_of (e12 p _ g2), rfl, q _ H2 e2 ⟨a, rfl, e12 a _ g3⟩⟩
theorem q_tripleZ {Z1 Z2 Z3 : V → Hp → Prop} {i j k : Nat} (ha : EvZ ta σ H Z1) (hb : EvZ tb σ H Z2) (hc : EvZ tc σ H Z3) (s1 : ∀ v H H', Ex H H' → Z1 v H → Z1 v H') (s2 : ∀ v H H', Ex H H' → Z2 v H → Z2 v H') (s3 : ∀ v H H', Ex H H' → Z3 v H → Z3 v H')
    (g : ∀ v1 v2 v3 H1, Ex H H1 → Z1 v1 H1 → Z2 v2 H1 → Z3 v3 H1 → tz D (((σ.set i (some v1)).set j (some v2)).set k (some v3)) H1) :
    tSeq (tAsg (tTup (tCons ta (tCons tb (tCons tc tNil)))) (gTup K 3 (gCons (gName i) (gCons (gName j) (gCons (gName k) gNil))))) tz D σ H :=
  ha H (Ex.refl H) _ fun v1 H1 e1 z1 => hb H1 e1 _ fun v2 H2 e2 z2 => hc H2 (e1.trans e2) _ fun v3 H3 e3 z3 => ⟨(by show 3 ≤ sizeLine; decide), fun T hT => ⟨T, [v1, v2, v3], rfl, st_of upd_same, rfl, v1, [v2, v3], rfl, v2, [v3], rfl, v3, [], rfl, rfl,
    g v1 v2 v3 _ (((e1.trans e2).trans e3).trans (Ex.new hT)) (s1 v1 H1 _ ((e2.trans e3).trans (Ex.new hT)) z1) (s2 v2 H2 _ (e3.trans (Ex.new hT)) z2) (s3 v3 H3 _ (Ex.new hT) z3)⟩⟩
/-- for a, b in zip(two tuples): the loop may change what it likes but these -/
theorem s_forZipT {tu : TS} {j k n : Nat} {b : Addr} {xs ys : List V} (ha : EvZ ta σ H (fun v H' => ∃ a : Addr, v = .ref a ∧ H' a = some (.tup xs))) (hb : ∀ H1, Ex H H1 → Ev tb σ H1 (.ref b)) (hy : SqT K H b ys) (hn : n = min xs.length ys.length)
    (g : ∀ (a : Addr) H1, Ex H H1 → H1 a = some (.tup xs) → ∃ Pv : Nat → L2.St → Hp → Prop, Pv 0 σ H1 ∧ (∀ i σ' H', i ≤ n → Pv i σ' H' → SqT K H' a xs ∧ SqT K H' b ys) ∧
      (∀ i x y σ' H', i < n → xs[i]? = some x → ys[i]? = some y → Pv i σ' H' → ∀ H2, Ex H' H2 → tu { D with nx := Pv (i + 1), ct := Pv (i + 1), bk := D.nx } ((σ'.set j (some x)).set k (some y)) H2) ∧ ∀ σ' H', Pv n σ' H' → D.nx σ' H') :
    tFor (RZ.iZipA K (tCons ta (tCons tb tNil))) (gTup K 2 (gCons (gName j) (gCons (gName k) gNil))) tu D σ H :=
  ha H (Ex.refl _) _ fun v H1 e1 ⟨a, hv, hx⟩ => hb H1 e1 H1 (Ex.refl _) _ fun H2 e2 => by
    subst hv
    obtain ⟨Pv, h0, hG, hs, hd⟩ := g a H2 (e1.trans e2) (e2 a _ hx)
    refine ⟨a, b, xs, ys, rfl, .inr ⟨st_of (e2 a _ hx), ex_t (e1.trans e2) hy, ?_⟩⟩
    exact for_it (walk_zipT hn) Pv h0 hG (fun i x σ' H' H'' hi p y => by
      obtain ⟨T, a1, c1, rfl, hT, rfl, h1, h2⟩ := y
      exact ⟨T, [a1, c1], rfl, st_of upd_same, rfl, a1, [c1], rfl, c1, [], rfl, rfl, hs i a1 c1 σ' H' hi h1 h2 p _ (Ex.new hT)⟩) hd
end
/-! ### what is cheapest, told by the digits at the top -/
def costD (c : Ck) (t : Tr) (ν : List Nat) (d : Nat) : Nat := ((tab c t ν).lookup d).getD 0
theorem cheap_none {c : Ck} {t : Tr} {ν : List Nat} (h : topD c t ν = []) : cheapest c t ν = none := by
  unfold cheapest
  rw [topTab_eq, h]
  rfl
theorem cheap_some {c : Ck} {t : Tr} {ν : List Nat} {k : Nat} (h : least ((topD c t ν).map (costD c t ν)) = some k) : ∃ d r, (topD c t ν).filter (fun d => decide (costD c t ν d = k)) = d :: r ∧ cheapest c t ν = some (k, pick c t ν d) := by
  obtain ⟨h1, _⟩ := least_some h
  obtain ⟨d0, hd0, hk⟩ := List.mem_map.mp h1
  have hne : d0 ∈ (topD c t ν).filter (fun d => decide (costD c t ν d = k)) := List.mem_filter.mpr ⟨hd0, by simp [hk]⟩
  cases hf : (topD c t ν).filter (fun d => decide (costD c t ν d = k)) with
  | nil => rw [hf] at hne; cases hne
  | cons d r =>
    refine ⟨d, r, rfl, ?_⟩
    unfold cheapest
    rw [topTab_eq, List.map_map]
    have e1 : ((topD c t ν).map ((fun x : Nat × Nat => x.2) ∘ fun d => (d, ((tab c t ν).lookup d).getD 0))) = (topD c t ν).map (costD c t ν) := rfl
    rw [e1, h]
    show (match List.filter (fun p => decide (p.2 = k)) (List.map (fun d => (d, ((tab c t ν).lookup d).getD 0)) (topD c t ν)) with | [] => none | p :: _ => some (k, pick c t ν p.1)) = _
    rw [List.filter_map]
    have e2 : (topD c t ν).filter ((fun p : Nat × Nat => decide (p.2 = k)) ∘ fun d => (d, ((tab c t ν).lookup d).getD 0)) = d :: r := hf
    rw [e2]
    rfl
theorem topD_some {c : Ck} {t : Tr} {ν : List Nat} {d : Nat} (h : d ∈ topD c t ν) : (tab c t ν).lookup d = some (costD c t ν d) := by
  have := (List.mem_filter.mp h).2
  simp only [Bool.and_eq_true] at this
  obtain ⟨k, hk⟩ := Option.isSome_iff_exists.mp this.1
  unfold costD
  rw [hk]
  rfl
section
variable {P : Program} {w : World} {K : Fg} {mg : Str → Option Value} {base : Heap}
/-- the places whose digit stands -/
def Done (t : Tr) (i q : Nat) : Prop := q = 0 ∨ ∃ (p : Nat) (s : Tr) (k o : Nat), p < i ∧ t.subs[p]? = some s ∧ s.offs[k]? = some o ∧ q = p + o
def CheapV (K : Fg) (H : Hp) (v : V) (o : Option (Nat × List Nat)) : Prop := match o with
  | none => v = .non
  | some (k, ds) => ∃ a : Addr, v = .ref a ∧ SqT K H a [inat k, .str (St ds)]
def sp_cheapest_by (K : Fg) : Sp := spP 3 fun vs H Z => ∃ v c t ν, vs = [v, .str (St t.signs), .str (St ν)] ∧ ChkV K H v c ∧ c.Ok ∧ t.Ok c.many ∧ t.size ≤ 1000 ∧ ν.length = t.size ∧ Z = fun v H2 => CheapV K H2 v (cheapest c t ν)
abbrev N_cheapest_by : List Str := ["checker", "tree", "notes", "digits", "cost", "laid", "known", "rows", "children", "place", "some", "sign", "choices", "priced", "digit", "child", "row", "d", "c"]
theorem sc_cheapest_by : FnScope N_cheapest_by ["checker", "tree", "notes"] (defScope s_cheapest_by) := ⟨rfl, rfl, rfl, by decide +kernel, rfl, by decide +kernel, by decide +kernel⟩
theorem ok_cheapest_by (G : Fs P K mg) : Okf P w K mg base 5 "cheapest_by" ["checker", "tree", "notes"] [] (sp_cheapest_by K) := by
  refine mk_ok G.k_cheapest_by sc_cheapest_by (fun f fd F => ⟨[], .nil, FunD.bindsN F fun _ _ _ _ _ _ us hl => match us, hl with | [_, _, _], _ => rfl⟩) (fun vs H Q E h => h.1) ?_
  intro f cdv A outer s H vs Q E hr h
  have nd := sc_cheapest_by.nd
  refine ⟨_, (pss_cons (ps_asg (pe_tup (pa_cons (pe_ok (ok_costs_by G) hr (by decide) rfl (pa_cons (pv 0) (pa_cons (pv 1) (pa_cons (pv 2) pa_nil)))) (pa_cons (pe_ok (ok_rows_by G) hr (by decide) rfl (pa_cons (pv 0) pa_nil)) (pa_cons (pe_ok (ok_children_by G) hr (by decide) rfl (pa_cons (pe_ix ix_tup (pv 0) pe_int (fun _ _ => rfl)) (pa_cons (pv 1) pa_nil))) pa_nil)))) (pg_tup rfl (pgs_cons (pg_name (i := 6) nd rfl (Or.inr rfl)) (pgs_cons (pg_name (i := 7) nd rfl (Or.inl rfl)) (pgs_cons (pg_name (i := 8) nd rfl (Or.inl rfl)) pgs_nil)))))
  (pss_cons (ps_set (i := 3) nd rfl (Or.inl rfl) (pe_ok (ok_top_digits G) hr (by decide) rfl (pa_cons (pv 0) (pa_cons (pv 1) (pa_cons (pv 6) pa_nil)))))
  (pss_cons (ps_if (pt_cmpR op_eq (pe_callB call_len_seq rfl G.f_len boot_len (pa_cons (pv 3) pa_nil)) pe_int (nomark _)) (pss_one (ps_ret pe_non)) pss_nil)
  (pss_cons (ps_set (i := 4) nd rfl (Or.inr rfl) (pe_callB (cr_min rfl) rfl G.f_min boot_min (pa_cons (pe_lc (g := gName 14) rfl nd (pi_list (pv 3)) (blkOk_by (own := [("digit", 14)]) (N := N_cheapest_by) (sc := defScope s_cheapest_by) (by decide +kernel)) (fun _ _ _ _ _ => (pg_name (i := 14) nd rfl (Or.inl rfl))) (fun _ _ _ _ _ => pts_nil) (fun _ _ _ _ _ => (pe_dget (hu_of hr) (pe_ix (ix_listK (K := K) rfl) (pv 6) pe_int (fun _ _ => rfl)) (pv 14) (fun _ _ => rfl)))) pa_nil)))
  (pss_cons (ps_setLc (i := 5) (g := gName 11) rfl nd rfl rfl (sw_true rfl rfl rfl (by decide +kernel)) (pi_str (pv 1)) (blkOk_by (own := [("sign", 11)]) (N := N_cheapest_by) (sc := defScope s_cheapest_by) (by decide +kernel)) (fun _ _ _ _ _ => (pg_name (i := 11) nd rfl (Or.inl rfl))) (fun _ _ _ _ _ => pts_nil) (fun _ _ _ _ _ => pe_str))
  (pss_cons (ps_asg (pe_ix ix_list (pe_lc (g := gName 14) rfl nd (pi_list (pv 3)) (blkOk_by (own := [("digit", 14)]) (N := N_cheapest_by) (sc := defScope s_cheapest_by) (by decide +kernel)) (fun _ _ _ _ _ => (pg_name (i := 14) nd rfl (Or.inl rfl))) (fun _ _ _ _ _ => (pts_one (pt_cmpR op_eq (pe_dget (hu_of hr) (pe_ix (ix_listK (K := K) rfl) (pv 6) pe_int (fun _ _ => rfl)) (pv 14) (fun _ _ => rfl)) (pv 4) (nomark _)))) (fun _ _ _ _ _ => (pv 14))) pe_int (fun _ _ => rfl)) (pg_sub (pv 5) pe_int set_list))
  (pss_cons (ps_for PassesOwn.never rfl (pi_enum rfl G.f_enumerate (pa_cons (pv 8) pa_nil)) (pg_tup rfl (pgs_cons (pg_name (i := 9) nd rfl (Or.inl rfl)) (pgs_cons (pg_name (i := 10) nd rfl (Or.inr rfl)) pgs_nil)))
  (pss_one (ps_if (pt_cmpR op_gt (pe_callB call_len_seq rfl G.f_len boot_len (pa_cons (pv 10) pa_nil)) pe_int (nomark _)) (pss_cons (ps_set (i := 12) nd rfl (Or.inl rfl) (pe_ok (ok_fitting_rows G) hr (by decide) rfl (pa_cons (pv 7) (pa_cons (pv 1) (pa_cons (pv 9) (pa_cons (pe_ix ix_list (pv 5) (pv 9) (fun _ _ => rfl)) (pa_cons (pv 10) (pa_cons (pv 6) pa_nil))))))))
  (pss_cons (ps_setLc (i := 13) (g := gName 16) rfl nd rfl rfl (sw_true rfl rfl rfl (by decide +kernel)) (pi_list (pv 12)) (blkOk_by (own := [("row", 16)]) (N := N_cheapest_by) (sc := defScope s_cheapest_by) (by decide +kernel)) (fun _ _ _ _ _ => (pg_name (i := 16) nd rfl (Or.inl rfl))) (fun _ _ _ _ _ => pts_nil) (fun _ _ _ _ _ => (pe_tup (pa_cons (pe_callB (cr_sumK (K := K) rfl rfl) rfl G.f_sum boot_sum (pa_cons (pe_lc (g := gTup K 2 (gCons (gName 17) (gCons (gName 18) gNil))) rfl nd (pi_zipK (K := K) rfl rfl G.f_zip (pa_cons (pv 16) (pa_cons (pv 10) pa_nil))) (by show BlkOk N_cheapest_by (relS _ (defScope s_cheapest_by)) _ [("d", 17), ("c", 18)]; exact blkOk_by (by decide +kernel)) (fun _ _ _ _ _ => (pg_two (i := 17) (j := 18) rfl nd rfl rfl rfl rfl)) (fun _ _ _ _ _ => pts_nil) (fun _ _ _ _ _ => (pe_dget (hu_of hr) (pe_ix (ix_listK (K := K) rfl) (pv 6) (pv 18) (fun _ _ => rfl)) (pv 17) (fun _ _ => rfl)))) pa_nil)) (pa_cons (pv 16) pa_nil)))))
  (pss_one (ps_for PassesOwn.never rfl (RZ.pi_zipA rfl G.f_zip (pa_cons (pe_ix ix_tup (pe_callB (cr_minD rfl (hu64 hr)) rfl G.f_min boot_min (pa_cons (pv 13) pa_nil)) pe_int (fun _ _ => rfl)) (pa_cons (pv 10) pa_nil))) (pg_two (i := 14) (j := 15) rfl nd rfl rfl rfl rfl)
  (pss_one (ps_asg (pv 14) (pg_sub (pv 5) (pv 15) set_list))))))) pss_nil)))
  (pss_one (ps_ret (pe_tup (pa_cons (pv 4) (pa_cons (pe_join pe_str (pv 5)) pa_nil)))))))))))), ?_⟩
  obtain ⟨hl, Z, ⟨v, c, t, ν, rfl, hc, ok, ht, hz, hν, rfl⟩, q⟩ := h
  have hc0 := hc
  obtain ⟨p, a, b, r, rfl, hp, ha, hb, hr'⟩ := hc0
  refine q_tripleZ (ez_call (ea3 (ev_var rfl) (ev_var rfl) (ev_var rfl)) rfl fun H1 e => ⟨_, c, t, ν, rfl, hc.mono e, ok, ht, hz, hν, rfl⟩) (ez_call (ea1 (ev_var rfl)) rfl fun H1 e => ⟨_, c, rfl, hc.mono e, ok, rfl⟩) (ez_call (ea2 (ev_op (ev_var rfl) ev_c (rv_ixTn (j := 0) hp rfl)) (ev_var rfl)) rfl fun H1 e => ⟨c.many, t, rfl, ok.many, ht, hz, rfl⟩)
    (fun v H H' e h => KnownAt.mono e h) (fun v H H' e h => ⟨h.choose, h.choose_spec.mono e⟩) (fun v H H' e h => Chi.mono e h) fun kv rv chv H1 e1 hK ⟨dom, hR⟩ hChi => ?_
  obtain ⟨lch, qch, rfl, hq1, hq2, hq3⟩ := hChi
  obtain ⟨kl, kds, hkv, hkl, hkdl, hkat⟩ := id hK
  subst hkv
  obtain ⟨kd0, kvs0, hd1, hd2, hd3⟩ := hkat 0 t (Nat.zero_le _) (Tr.subs_head t)
  rw [List.drop_zero] at hd3
  refine q_asgL (el_callL (ea3 (ev_var rfl) (ev_var rfl) (ev_var rfl)) rfl fun H2 e2 => ⟨_, c, t, .ref kl, ν, rfl, hc.mono (e1.trans e2), ht, hz, hK.mono e2, rfl⟩) fun dl H2 _ e2 hdl => ?_
  change H2 dl = some (.lst ((topD c t ν).map sg)) at hdl
  have htl : (topD c t ν).length ≤ 10 := by
    have h1 := List.length_filter_le (fun d => ((tab c t ν).lookup d).isSome && decide ((t.lab, d) ∈ c.tops)) digs
    exact h1
  refine q_when (b := decide (topD c t ν = [])) (et_is (et_test (ev_op (ev_cb (ea1 (ev_var rfl)) (rc_lenL (sq_of hdl))) ev_c (rv_eq rfl))) ?_) (fun hb3 H3 e3 => ?_) (fun hb3 H3 e3 => ?_)
  · rw [List.length_map]
    cases topD c t ν with
    | nil => simp
    | cons a b => simp; omega
  · refine s_ret ev_c fun H4 e4 => q .non H4 ((e1.trans e2).trans (e3.trans e4)) ?_
    rw [cheap_none (of_decide_eq_true hb3)]
    rfl
  have hne := of_decide_eq_false hb3
  have e123 := (e1.trans e2).trans e3
  have e23 := e2.trans e3
  obtain ⟨k, hk⟩ := least_ne (l := (topD c t ν).map (costD c t ν)) (by simpa using hne)
  obtain ⟨d0, drest, hdf, hch⟩ := cheap_some hk
  have hd0m : d0 ∈ topD c t ν := by
    have : d0 ∈ (topD c t ν).filter (fun d => decide (costD c t ν d = k)) := by rw [hdf]; exact List.mem_cons_self
    exact (List.mem_filter.mp this).1
  have hlk : ((tab c t ν).lookup d0).isSome := by rw [topD_some hd0m]; rfl
  have cost : ∀ {σ : L2.St} {H5 : Hp} {d : Nat} {i : Nat}, Ex H1 H5 → d ∈ topD c t ν → σ[6]? = some (some (.ref kl)) → σ[i]? = some (some (sg d)) → Ev (tDGet (tOp (rIxL K) (tVar 6) (tC (.int 0))) (tVar i)) σ H5 (inat (costD c t ν d)) := fun e5 hd h6 hi =>
    ev_dget (k := .inr (St [_])) (ev_op (ev_var h6) ev_c (rv_ixLn (j := 0) (sq_of (e5 kl _ hkl)) hd1)) (ev_var hi) (e5 kd0 _ hd2) (by rw [hd3, topD_some hd]; rfl)
  have hgd : ∀ i, (h : i < (topD c t ν).length) → ((topD c t ν).map sg).getD i .non = sg (topD c t ν)[i] := fun i h => by simp [List.getD, h]
  refine q_asg (ev_minN (ns := (topD c t ν).map (costD c t ν)) ?_ hk) fun H4 e4 => ?_
  · have g := el_lc (vs := [14]) (j := 14) (t := tYes) (te := tDGet (tOp (rIxL K) (tVar 6) (tC (.int 0))) (tVar 14)) (σ := [some (.ref p), some (.str (St t.signs)), some (.str (St ν)), some (.ref dl), none, none, some (.ref kl), some rv, some (.ref lch), none, none, none, none, none, none, none, none, none, none]) (H := H3) (fun _ => true) (fun i => inat (costD c t ν ((topD c t ν).getD i 0))) (f := fun i => ((topD c t ν).map sg).getD i .non)
      (ei_list (K := K) (te := tVar 3) (ev_var rfl) (sq_of (e3 dl _ hdl))).j (by simp; omega) (fun i H1 x H2 hi y => yat_get hi y) (fun _ => rfl) (fun _ _ _ _ => et_yes) fun i H5 e5 hi _ => by
        have hi' : i < (topD c t ν).length := by simpa using hi
        rw [hgd i hi', show (topD c t ν).getD i 0 = (topD c t ν)[i] by simp [List.getD, hi']]
        exact cost (e23.trans e5) (List.getElem_mem hi') rfl rfl
    rw [List.length_map, given_list (topD c t ν) (fun _ => true) (fun d => inat (costD c t ν d)) _ _ (fun _ _ => rfl) (fun i hi => by simp [List.getD, hi]), List.filter_eq_self.mpr (fun _ _ => rfl)] at g
    rw [List.map_map]
    exact g
  refine q_asgL (xs := (List.range t.size).map fun _ => V.str "") ?_ fun ll H5 hll e5 hl5 => ?_
  · have g := el_lc (vs := [11]) (j := 11) (t := tYes) (te := tC (.str "")) (σ := [some (.ref p), some (.str (St t.signs)), some (.str (St ν)), some (.ref dl), some (inat k), none, some (.ref kl), some rv, some (.ref lch), none, none, none, none, none, none, none, none, none, none]) (H := H4) (fun _ => true) (fun i => V.str "") (f := fun i => (t.signs.map sg).getD i .non) (ei_str (te := tVar 1) (ev_var rfl)).j (by rw [st_size, Tr.signs_len]; omega)
      (fun i H1 x H2 hi y => by
        rw [sgn_st] at y
        rw [st_size] at hi
        exact yat_get (by simpa using hi) y) (fun _ => rfl) (fun _ _ _ _ => et_yes) fun i H5 e5 hi _ => ev_c
    rw [given_all, st_size, Tr.signs_len] at g
    exact g
  have e234 := e23.trans e4
  refine q_setL (j := 0) (v := sg d0) hl5 ?_ (ev_var rfl) ev_c (by simp; exact Tr.size_pos t) fun H6 e6 => ?_
  · refine ev_opL1 (xs := ((topD c t ν).filter fun d => decide (costD c t ν d = k)).map sg) ?_ (fun _ _ => ev_c (v := .int 0)) fun p' H7 hp' e7 => rv_ixLn (j := 0) (sq_of hp') (by rw [hdf]; rfl)
    have g := el_lc (vs := [14]) (j := 14) (t := tTest (tOp rEq (tDGet (tOp (rIxL K) (tVar 6) (tC (.int 0))) (tVar 14)) (tVar 4))) (te := tVar 14) (σ := [some (.ref p), some (.str (St t.signs)), some (.str (St ν)), some (.ref dl), some (inat k), some (.ref ll), some (.ref kl), some rv, some (.ref lch), none, none, none, none, none, none, none, none, none, none]) (H := H5) (fun i => decide (costD c t ν ((topD c t ν).getD i 0) = k)) (fun i => ((topD c t ν).map sg).getD i .non) (f := fun i => ((topD c t ν).map sg).getD i .non)
      (ei_list (K := K) (te := tVar 3) (ev_var rfl) (sq_of ((e3.trans (e4.trans e5)) dl _ hdl))).j (by simp; omega) (fun i H1 x H2 hi y => yat_get hi y) (fun _ => rfl) (fun i H6 e6 hi => by
        have hi' : i < (topD c t ν).length := by simpa using hi
        rw [hgd i hi', show (topD c t ν).getD i 0 = (topD c t ν)[i] by simp [List.getD, hi']]
        refine et_is (et_test (ev_op (cost ((e234.trans e5).trans e6) (List.getElem_mem hi') rfl rfl) (ev_var rfl) (rv_eq rfl))) ?_
        congr 1
        apply propext
        constructor
        · intro h
          have := V.int.inj h
          omega
        · intro h
          rw [h]) fun i H6 e6 hi _ => ev_var rfl
    rw [List.length_map, given_list (topD c t ν) (fun d => decide (costD c t ν d = k)) sg _ _ (fun i hi => by simp [List.getD, hi]) (fun i hi => hgd i hi)] at g
    exact g
  have hpl := pick_len ok ht hlk
  have hbase : Ex H1 H4 := e234
  -- the walk down
  refine q_forP (H := H4) (ei_enumL (ea1 (ev_var rfl)) (ex_l e234 hq1)) (Ex.mut (e5.trans e6) hll) (fun i σ' H' => Ex H4 H' ∧ (∃ L, H' ll = some (.lst L) ∧ L.length = t.size ∧ ∀ q, q < t.size → Done t i q → L[q]? = ((pick c t ν d0)[q]?).map sg) ∧ ∃ x9 x10 x11 x12 x13 x14 x15 x16 x17 x18, σ' = [some (.ref p), some (.str (St t.signs)), some (.str (St ν)), some (.ref dl), some (inat k), some (.ref ll), some (.ref kl), some rv, some (.ref lch), x9, x10, x11, x12, x13, x14, x15, x16, x17, x18])
    (fun H7 e7 => ⟨(Ex.mut (e5.trans e6) hll).trans e7, ⟨_, e7 ll _ upd_same, by simp, fun q hq hd => ?_⟩, none, none, none, none, none, none, none, none, none, none, rfl⟩) (fun i σ' H' hi pv => pv.1) (fun i x y σ' H7 hi hx hy pv H8 e8 => ?_) (fun σ' H7 pv => ?_)
  · rcases hd with rfl | ⟨p', s, k', o, hp', _⟩
    · rw [hpl.2, List.getElem?_set_self (by simp; exact Tr.size_pos t)]
      rfl
    · omega
  · obtain ⟨e7, ⟨L, hL, hLl, hLa⟩, x9, x10, x11, x12, x13, x14, x15, x16, x17, x18, rfl⟩ := pv
    rw [hq2] at hi
    obtain rfl : x = .int (i : Nat) := (Option.some.inj hx).symm
    obtain ⟨s', hs⟩ := Tr.sub_ex (t := t) (p := i) hi
    obtain ⟨cha, hc1, hc2⟩ := hq3 i s' hs
    rw [hc1] at hy
    cases hy
    have hos := Tr.ok_at ht hs
    have om := ok.many
    obtain ⟨e, he1, he2, he3⟩ := pick_sub ok ht hlk hs
    have hLi : L[i]? = some (sg e) := by
      rw [hLa i hi ?_, he1]
      · rfl
      · by_cases h0 : i = 0
        · exact Or.inl h0
        · obtain ⟨p', s2, k', o, g1, g2, g3, g4⟩ := parent t (by omega) hi
          exact Or.inr ⟨p', s2, k', o, g1, g2, g3, g4⟩
    have hcha8 : SqT K H8 cha (s'.offs.map fun o => V.int ((i + o : Nat) : Int)) := ex_t (e234.trans (e7.trans e8)) hc2
    refine s_when (b := decide (s'.kids ≠ [])) (et_is (et_test (ev_op (ev_cb (ea1 (ev_var rfl)) (rc_lenT hcha8)) ev_c rv_I0)) ?_) (fun hb9 H9 e9 => ?_) (fun hb9 H9 e9 => ?_)
    · rw [List.length_map, offs_len]
      cases h : s'.kids with
      | nil => simp
      | cons a b => simp
    · have hkn := of_decide_eq_true hb9
      obtain ⟨km, es, hm1, hm2, hm3⟩ := he3 hkn
      have hkm : s'.kids.length = c.many := by
        rw [Tr.kids_len hos]
        have := Tr.sign_cap hos
        rw [if_pos (of_decide_eq_true (by rw [this, decide_eq_true hkn]))]
      have hkl2 : s'.kids.length ≤ 2 := by omega
      have e19 : Ex H1 H9 := (hbase.trans e7).trans (e8.trans e9)
      have hL9 := (e8.trans e9) ll _ hL
      refine q_asgZ (ez_call (ea_cons (ev_var rfl) (ea_cons (ev_var rfl) (ea_cons (ev_var rfl) (ea_cons (ev_op (x := .ref ll) (y := .int (i : Nat)) (ev_var rfl) (ev_var rfl) (rv_ixLn (sq_of hL9) hLi)) (ea2 (ev_var rfl) (ev_var rfl)))))) rfl fun H10 e10 => ⟨rv, c, dom, t, i, s', e, cha, .ref kl, ν, rfl, hR.mono (e19.trans e10), ok, ht, hz, hs, hkn, ex_t (e9.trans e10) hcha8, (by
          obtain ⟨kl', ds', g1, g2, g3, g4⟩ := hK.mono (e19.trans e10)
          exact ⟨kl', ds', g1, g2, g3, fun q s hq hs => g4 q s (Nat.zero_le _) hs⟩), rfl⟩) fun fv H10 e10 hf => ?_
      obtain ⟨fl, qs, rfl, hf1, hf2, hf3⟩ := hf
      have hK10 : KnownAt H10 (.ref kl) t c ν (i + 1) := by
        obtain ⟨kl', ds', g1, g2, g3, g4⟩ := hK.mono (e19.trans e10)
        exact ⟨kl', ds', g1, g2, g3, fun q s hq hs => g4 q s (Nat.zero_le _) hs⟩
      have hcha10 := ex_t (e9.trans e10) hcha8
      have hpr : (priced c s'.lab e (ktabs c s' (ν.drop i))).length ≤ 300 := by
        have h1 := List.length_filterMap_le (fitR (ktabs c s' (ν.drop i))) (rest c (s'.lab, e))
        have h2 := (rest_len ok (m := (s'.lab, e))).1
        unfold priced
        omega
      refine q_lcF (f := fun j => qs.getD j .non) (fun j => .tup [inat ((priced c s'.lab e (ktabs c s' (ν.drop i))).getD j (0, [])).1, qs.getD j .non]) (ei_list (K := K) (ev_var rfl) (sq_of hf1)).j (by omega) (fun j H1 x H2 hj y => yat_get hj y) (fun _ => rfl) (fun j H11 e11 hj => ?_) fun pl ps2 H11 hpl0 e11 hpl1 hpn hps hnd => ?_
      · have hj2 : j < (priced c s'.lab e (ktabs c s' (ν.drop i))).length := by omega
        obtain ⟨ai, ha1, ha2⟩ := hf3 j _ (List.getElem?_eq_getElem hj2)
        obtain ⟨r0, hr0, hrl, hrb, hre⟩ := priced_mem (by rw [ktabs_len, hkm]) ok (List.getElem_mem hj2)
        rw [ktabs_len] at hrl
        have e3' : (priced c s'.lab e (ktabs c s' (ν.drop i))).getD j (0, []) = (priced c s'.lab e (ktabs c s' (ν.drop i)))[j] := by simp [List.getD, hj2]
        have e4' : qs.getD j .non = .ref ai := by simp [List.getD, ha1]
        rw [e3', e4', hre]
        refine ef_tup (ea2 (ev_rowsum (t := t) (p := i) hs hrl hkl2 (ev_var (v := .ref ai) rfl) (st_of (e11 ai _ (by rw [ha2, hre, List.map_map]; rfl))) (ev_var (v := .ref cha) rfl) (ex_t e11 hcha10) (fun x y => ev_var rfl) (hK10.mono e11) hrb (fun _ _ => rfl) (fun _ _ => rfl) (fun _ _ => rfl)) (ev_var rfl)) (by show 2 ≤ 100000; omega)
      · have hrow : ∀ (j : Nat) (e' : Nat × List Nat), (priced c s'.lab e (ktabs c s' (ν.drop i)))[j]? = some e' → ∃ p' a' : Addr, ps2[j]? = some p' ∧ H11 p' = some (.tup [inat e'.1, .ref a']) ∧ H11 a' = some (.tup (e'.2.map sg)) := by
          intro j e' he'
          have hj := (List.getElem?_eq_some_iff.mp he').1
          obtain ⟨ai, ha1, ha2⟩ := hf3 j e' he'
          have hpj : ps2[j]? = some ps2[j] := List.getElem?_eq_getElem (by omega)
          have h3 := (hps j _ hpj).2.2
          have e3' : (priced c s'.lab e (ktabs c s' (ν.drop i))).getD j (0, []) = e' := by simp [List.getD, he']
          have e4' : qs.getD j .non = .ref ai := by simp [List.getD, ha1]
          rw [e3', e4'] at h3
          exact ⟨_, ai, hpj, h3, e11 ai _ ha2⟩
        have hol : (s'.offs.map fun o => V.int ((i + o : Nat) : Int)).length = s'.kids.length := by rw [List.length_map, offs_len]
        refine s_forZipT (K := K) (n := s'.kids.length) (ez_minrow (K := K) (ev_var rfl) hpl1 (by omega) hrow hm1) (fun _ _ => ev_var (v := .ref cha) rfl) (ex_t e11 hcha10) (by rw [hol, List.length_map, hm2, Nat.min_self]) fun a' H12 e12 ha' => ⟨fun j σ' H' => Ex H4 H' ∧ H' a' = some (.tup (es.map sg)) ∧ (∃ L, H' ll = some (.lst L) ∧ L.length = t.size ∧ ∀ q, q < t.size → (Done t i q ∨ ∃ k' o, k' < j ∧ s'.offs[k']? = some o ∧ q = i + o) → L[q]? = ((pick c t ν d0)[q]?).map sg) ∧ ∃ x9 x10 x11 x12 x13 x14 x15 x16 x17 x18, σ' = [some (.ref p), some (.str (St t.signs)), some (.str (St ν)), some (.ref dl), some (inat k), some (.ref ll), some (.ref kl), some rv, some (.ref lch), x9, x10, x11, x12, x13, x14, x15, x16, x17, x18], ?_, ?_, ?_, ?_⟩
        · exact ⟨((e7.trans e8).trans (e9.trans e10)).trans (e11.trans e12), ha', ⟨L, (e10.trans (e11.trans e12)) ll _ hL9, hLl, fun q hq hd => hLa q hq (by
            rcases hd with hd | ⟨k', o, hk', _⟩
            · exact hd
            · omega)⟩, _, _, _, _, _, _, _, _, _, _, rfl⟩
        · intro j σ' H' _ pv
          exact ⟨st_of pv.2.1, ex_t (e234.trans pv.1) hc2⟩
        · intro j x y σ' H' hj hx hy pv H13 e13
          obtain ⟨f1, f2, ⟨L2, g1, g2, g3⟩, y9, y10, y11, y12, y13, y14, y15, y16, y17, y18, rfl⟩ := pv
          have hjo : j < s'.offs.length := by rw [offs_len]; exact hj
          have hoj := List.getElem?_eq_getElem hjo
          rw [List.getElem?_map, hoj] at hy
          obtain rfl := Option.some.inj hy
          obtain ⟨xd, hx1, hx2⟩ := hm3 j _ hoj
          rw [List.getElem?_map, hx1] at hx
          obtain rfl := Option.some.inj hx
          have hio : i + s'.offs[j] < t.size := by
            have := (List.getElem?_eq_some_iff.mp hx2).1
            omega
          refine s_setL (j := i + s'.offs[j]) (v := sg xd) (e13 ll _ g1) (ev_var rfl) (ev_var rfl) (ev_var rfl) (by omega) fun H14 e14 => ⟨Ex.mut (f1.trans (e13.trans e14)) hll, ?_, ⟨_, upd_same, by rw [List.length_set]; exact g2, fun q hq hd => ?_⟩, _, _, _, _, _, _, _, _, _, _, rfl⟩
          · rw [upd_ne (fun e => by rw [e, g1] at f2; cases f2)]
            exact e14 a' _ (e13 a' _ f2)
          · by_cases hqe : q = i + s'.offs[j]
            · subst hqe
              rw [List.getElem?_set_self (by omega), hx2]
              rfl
            · rw [List.getElem?_set_ne (fun h => hqe h.symm)]
              refine g3 q hq ?_
              rcases hd with hd | ⟨k', o, hk', ho, hq'⟩
              · exact Or.inl hd
              · refine Or.inr ⟨k', o, ?_, ho, hq'⟩
                by_cases hkj : k' = j
                · subst hkj
                  rw [hoj] at ho
                  cases ho
                  exact absurd hq' hqe
                · omega
        · intro σ' H' pv
          obtain ⟨f1, f2, ⟨L2, g1, g2, g3⟩, y9, y10, y11, y12, y13, y14, y15, y16, y17, y18, rfl⟩ := pv
          refine ⟨f1, ⟨L2, g1, g2, fun q hq hd => g3 q hq ?_⟩, _, _, _, _, _, _, _, _, _, _, rfl⟩
          rcases hd with rfl | ⟨p', s2, k', o, h1, h2, h3, h4⟩
          · exact Or.inl (Or.inl rfl)
          · by_cases hpi : p' = i
            · subst hpi
              rw [hs] at h2
              cases h2
              have hk' := (List.getElem?_eq_some_iff.mp h3).1
              rw [offs_len] at hk'
              exact Or.inr ⟨k', o, hk', h3, h4⟩
            · exact Or.inl (Or.inr ⟨p', s2, k', o, by omega, h2, h3, h4⟩)
    · have hkn : s'.kids = [] := by simpa using hb9
      refine ⟨e7.trans (e8.trans e9), ⟨L, (e8.trans e9) ll _ hL, hLl, fun q hq hd => hLa q hq ?_⟩, _, _, _, _, _, _, _, _, _, _, rfl⟩
      rcases hd with rfl | ⟨p', s2, k', o, h1, h2, h3, h4⟩
      · exact Or.inl rfl
      · by_cases hpi : p' = i
        · subst hpi
          rw [hs] at h2
          cases h2
          have hk' := (List.getElem?_eq_some_iff.mp h3).1
          rw [offs_len, hkn] at hk'
          exact absurd hk' (Nat.not_lt_zero _)
        · exact Or.inr ⟨p', s2, k', o, by omega, h2, h3, h4⟩
  · obtain ⟨e7, ⟨L, hL, hLl, hLa⟩, x9, x10, x11, x12, x13, x14, x15, x16, x17, x18, rfl⟩ := pv
    rw [hq2] at hLa
    have hLe : L = (pick c t ν d0).map sg := by
      apply List.ext_getElem?
      intro q
      by_cases hq : q < t.size
      · rw [List.getElem?_map]
        refine hLa q hq ?_
        by_cases h0 : q = 0
        · exact Or.inl h0
        · obtain ⟨p', s2, k', o, g1, g2, g3, g4⟩ := parent t (by omega) hq
          exact Or.inr ⟨p', s2, k', o, by omega, g2, g3, g4⟩
      · rw [List.getElem?_eq_none (by omega), List.getElem?_eq_none (by rw [List.length_map, hpl.1]; omega)]
    have hLm : L = ((pick c t ν d0).map fun d => [d]).map fun d => V.str (St d) := by rw [hLe, List.map_map]; rfl
    have hfl : ((pick c t ν d0).map fun d => [d]).flatten = pick c t ν d0 := by
      induction pick c t ν d0 with
      | nil => rfl
      | cons a b ih => simp [ih]
    have hsum : (((pick c t ν d0).map fun d => [d]).map (·.length)).sum ≤ 100000 := by
      rw [sum_ones, hpl.1]
      omega
    have hj := ev_join (K := K) (ta := tC (.str "")) (te := tVar 5) (σ := [some (.ref p), some (.str (St t.signs)), some (.str (St ν)), some (.ref dl), some (inat k), some (.ref ll), some (.ref kl), some rv, some (.ref lch), x9, x10, x11, x12, x13, x14, x15, x16, x17, x18]) (H := H7) (ps := (pick c t ν d0).map fun d => [d]) ev_c (ev_var rfl) (sq_of (by rw [hL, hLm])) hsum
    rw [hfl] at hj
    refine s_retU (eu_tup (ea2 (ev_var rfl) hj) (by show 2 ≤ 100000; omega)) fun pp H8 _ e8 h8 => q _ H8 ((e123.trans e4).trans (e7.trans e8)) ?_
    rw [hch]
    exact ⟨pp, rfl, st_of h8⟩
def sp_fewest_changes (K : Fg) : Sp := spV 3 fun vs H z => ∃ v c t ν, vs = [v, .str (St t.signs), .str (St ν)] ∧ ChkV K H v c ∧ c.Ok ∧ t.Ok c.many ∧ t.size ≤ 1000 ∧ ν.length = t.size ∧ okN ν ∧ z = (match cheapest c t ν with | none => V.non | some (k, _) => inat k)
abbrev N_fewest_changes : List Str := ["checker", "tree", "notes", "found"]
theorem sc_fewest_changes : FnScope N_fewest_changes ["checker", "tree", "notes"] (defScope s_fewest_changes) := ⟨rfl, rfl, rfl, by decide +kernel, rfl, by decide +kernel, by decide +kernel⟩
theorem ok_fewest_changes (G : Fs P K mg) : Okf P w K mg base 8 "fewest_changes" ["checker", "tree", "notes"] [] (sp_fewest_changes K) := by
  refine mk_ok G.k_fewest_changes sc_fewest_changes (fun f fd F => ⟨[], .nil, FunD.bindsN F fun _ _ _ _ _ _ us hl => match us, hl with | [_, _, _], _ => rfl⟩) (fun vs H Q E h => h.1) ?_
  intro f cdv A outer s H vs Q E hr h
  have nd := sc_fewest_changes.nd
  refine ⟨_, (pss_cons (ps_expr (pe_ok (ok_want_case G) hr (by decide) rfl (pa_cons (pv 0) (pa_cons (pv 1) (pa_cons (pv 2) pa_nil)))))
  (pss_cons (ps_set (i := 3) nd rfl (Or.inl rfl) (pe_ok (ok_cheapest_by G) hr (by decide) rfl (pa_cons (pv 0) (pa_cons (pv 1) (pa_cons (pv 2) pa_nil)))))
  (pss_one (ps_ret (pe_ifExp (pt_cmpR op_isN (pv 3) pe_non (nomark _)) pe_non (pe_ix ix_tup (pv 3) pe_int (fun _ _ => rfl))))))), ?_⟩
  obtain ⟨hl, z, ⟨v, c, t, ν, rfl, hc, ok, ht, hz, hν, hoν, rfl⟩, q⟩ := h
  refine q_drop (ev_callV (ea3 (ev_var rfl) (ev_var rfl) (ev_var rfl)) rfl fun H1 e => ⟨v, c, t, ν, rfl, hc.mono e, ok, ht, hz, hν, hoν, rfl⟩) fun H1 e1 => ?_
  refine q_asgZ (ez_call (ea3 (ev_var rfl) (ev_var rfl) (ev_var rfl)) rfl fun H2 e => ⟨v, c, t, ν, rfl, hc.mono (e1.trans e), ok, ht, hz, hν, rfl⟩) fun fv H2 e2 hf => ?_
  cases hch : cheapest c t ν with
  | none =>
    rw [hch] at hf q
    obtain rfl : fv = .non := hf
    exact s_ret (ev_if (b := true) (et_is (et_test (ev_op (ev_var rfl) ev_c rv_isN)) rfl) (fun _ => ev_c) (fun h => nomatch h)) fun H3 e3 => q H3 ((e1.trans e2).trans e3)
  | some kd =>
    obtain ⟨k, ds⟩ := kd
    rw [hch] at hf q
    obtain ⟨a, rfl, ha⟩ := hf
    exact s_ret (ev_if (b := false) (et_is (et_test (ev_op (ev_var rfl) ev_c rv_isN)) rfl) (fun h => nomatch h) (fun _ => ev_op (ev_var rfl) ev_c (rv_ixTn (j := 0) ha rfl))) fun H3 e3 => q H3 ((e1.trans e2).trans e3)
end
end K64

set_option Elab.async false
set_option linter.all false
set_option maxRecDepth 100000
set_option maxHeartbeats 4000000
/-! W9: least_changed: the notes, or NoNotes raised. -/
namespace K64
open PySem PySem.Spec PyProof.Rows L2 Evl
structure OkX (P : Program) (w : World) (K : Fg) (mg : Str → Option Value) (base : Heap) (k : Nat) (x : Str) (ps : List Str) (dvs : List V) (sp : Sp) : Prop where
  ex : ∃ (f : Addr) (fd : FuncData) (ds : List Value), mg x = some (.ref f) ∧ PySem.W.keepIn K (.ref f) = true ∧ Binds K fd ps ds ∧ Vals dvs ds ∧ FnOk P w K mg base (L2.CX P w) k f fd ps sp
def spLc (K : Fg) (C : Addr) : Sp := fun vs H Q E => vs.length = 3 ∧ ∃ v c t ν, vs = [v, .str (St t.signs), .str (St ν)] ∧ ChkV K H v c ∧ c.Ok ∧ t.Ok c.many ∧ t.size ≤ 1000 ∧ ν.length = t.size ∧ okN ν ∧
  (match cheapest c t ν with
  | some (_, ds) => ∀ H2, Ex H H2 → Q (.str (St ds)) H2
  | none => ∀ d H2, Ex H H2 → H2 d = some (.xd [("tree", .str (St t.signs))]) → E (.ref C) (some d) H2)
abbrev N_least_changed : List Str := ["checker", "tree", "notes", "found"]
theorem sc_least_changed : FnScope N_least_changed ["checker", "tree", "notes"] (defScope s_least_changed) := ⟨rfl, rfl, rfl, by decide +kernel, rfl, by decide +kernel, by decide +kernel⟩
section
variable {P : Program} {w : World} {K : Fg} {mg : Str → Option Value} {base : Heap}
/-- its body, under any facts f and fd -/
theorem lc_fn (G : Fs P K mg) {f : Addr} {fd : FuncData} (F : FunD K "least_changed" "least_changed" (defArgs s_least_changed) (defBody s_least_changed) (defScope s_least_changed) [] [] f fd) {C : Addr} (hC : mg "NoNotes" = some (.ref C)) : FnOk P w K mg base (L2.CX P w) 8 f fd ["checker", "tree", "notes"] (spLc K C) := by
  refine F.ok sc_least_changed (fun vs H Q E h => h.1) fun cdv A outer s H vs Q E hr h => ?_
  have nd := sc_least_changed.nd
  obtain ⟨C', hC', HX, fI, fdI, hN, hI, hT, hB⟩ := G.nn
  rw [hC] at hC'
  cases hC'
  refine ⟨_, (pss_cons (ps_expr (pe_ok (ok_want_case G) hr (by decide) rfl (pa_cons (pv 0) (pa_cons (pv 1) (pa_cons (pv 2) pa_nil)))))
  (pss_cons (ps_set (i := 3) nd rfl (Or.inl rfl) (pe_ok (ok_cheapest_by G) hr (by decide) rfl (pa_cons (pv 0) (pa_cons (pv 1) (pa_cons (pv 2) pa_nil)))))
  (pss_cons (ps_if (pt_cmpR op_isN (pv 3) pe_non (nomark _)) (pss_one (ps_raise rfl (takes_of (E₁ := _) rfl rfl rfl rfl) (pmk_oex (k := 1) hN.cls hI hT (ni_ok hN) (hr.mono (by decide)) hB .nil pass0 rfl hC (pa_cons (pv 1) pa_nil)))) pss_nil)
  (pss_one (ps_ret (pe_ix ix_tup (pv 3) pe_int (fun _ _ => rfl))))))), ?_⟩
  obtain ⟨hl, v, c, t, ν, rfl, hc, ok, ht, hz, hν, hoν, q⟩ := h
  refine q_drop (ev_callV (ea3 (ev_var rfl) (ev_var rfl) (ev_var rfl)) rfl fun H1 e => ⟨v, c, t, ν, rfl, hc.mono e, ok, ht, hz, hν, hoν, rfl⟩) fun H1 e1 => ?_
  refine q_asgZ (ez_call (ea3 (ev_var rfl) (ev_var rfl) (ev_var rfl)) rfl fun H2 e => ⟨v, c, t, ν, rfl, hc.mono (e1.trans e), ok, ht, hz, hν, rfl⟩) fun fv H2 e2 hf => ?_
  cases hch : cheapest c t ν with
  | some kd =>
    obtain ⟨k, ds⟩ := kd
    rw [hch] at hf q
    obtain ⟨a, rfl, ha⟩ := hf
    refine q_when (b := false) (et_is (et_test (ev_op (ev_var rfl) ev_c rv_isN)) rfl) (fun h => nomatch h) fun _ H3 e3 => ?_
    exact s_ret (ev_op (ev_var rfl) ev_c (rv_ixTn (j := 1) (ex_t e3 ha) rfl)) fun H4 e4 => q H4 ((e1.trans e2).trans (e3.trans e4))
  | none =>
    rw [hch] at hf q
    obtain rfl : fv = .non := hf
    refine q_when (b := true) (et_is (et_test (ev_op (ev_var rfl) ev_c rv_isN)) rfl) (fun _ H3 e3 => ?_) (fun h => nomatch h)
    refine (show EvA (tCons (tVar 1) tNil) _ H3 [.str (St t.signs)] from ea1 (ev_var rfl)) H3 (Ex.refl _) _ fun H4 e4 => ⟨(by show 1 ≤ 1000; decide), fun a ha => ⟨a, St t.signs, rfl, upd_same, fun dx hdx hne => ⟨rfl, dx, [("tree", .str (St t.signs))], upd_same, ?_, ?_, ?_⟩⟩⟩
    · rw [upd_ne hne, upd_same]
    · rw [upd_ne hne] at hdx
      exact hdx
    · have hdx' : H4 dx = none := by
        rw [upd_ne hne] at hdx
        exact hdx
      refine q dx _ (fun b o hb => ?_) upd_same
      have hb4 := e4 b _ (e3 b _ (e2 b _ (e1 b _ hb)))
      have h1 : b ≠ dx := fun e => by rw [e, hdx'] at hb4; cases hb4
      have h2 : b ≠ a := fun e => by rw [e, ha] at hb4; cases hb4
      rw [upd_ne h1, del_ne h2, upd_ne h2, upd_ne h1, upd_ne h2]
      exact hb4
end
end K64

set_option Elab.async false
set_option linter.all false
set_option maxRecDepth 100000
set_option maxHeartbeats 4000000
/-! W10: the law's feed: _law_feed, _law_draw, _law_any. -/
namespace K64
open PySem PySem.Spec PyProof.Rows L2 Evl
theorem putK_len {kvs : List (Key × V)} {k : Key} {v x : V} (h : valV kvs k = some x) : (putK kvs k v).length = kvs.length := by
  unfold putK
  rw [valV_any, h]
  simp
/-- the feed -/
structure Fd (H : Hp) (d : Addr) (kvs : List (Key × V)) (cl : Addr) (ns : List Int) (b l t : Int) : Prop where
  hd : H d = some (.dK kvs)
  len : kvs.length ≤ 4
  kc : valV kvs (.inr "cells") = some (.ref cl)
  kb : valV kvs (.inr "begun") = some (.int b)
  kl : valV kvs (.inr "left") = some (.int l)
  kt : valV kvs (.inr "turn") = some (.int t)
  hc : H cl = some (.lst (ns.map V.int))
  nz : ns.length ≤ 63
theorem Fd.mono {H H' : Hp} {d cl : Addr} {kvs : List (Key × V)} {ns : List Int} {b l t : Int} (e : Ex H H') (h : Fd H d kvs cl ns b l t) : Fd H' d kvs cl ns b l t := ⟨e d _ h.hd, h.len, h.kc, h.kb, h.kl, h.kt, e cl _ h.hc, h.nz⟩
theorem Fd.ne {H : Hp} {d cl : Addr} {kvs : List (Key × V)} {ns : List Int} {b l t : Int} (h : Fd H d kvs cl ns b l t) : cl ≠ d := fun e => by
  have := h.hc
  rw [e, h.hd] at this
  cases this
theorem Fd.turn {H : Hp} {d cl : Addr} {kvs : List (Key × V)} {ns : List Int} {b l t : Int} (h : Fd H d kvs cl ns b l t) (x : Int) : Fd (upd H d (.dK (putK kvs (.inr "turn") (.int x)))) d (putK kvs (.inr "turn") (.int x)) cl ns b l x :=
  ⟨upd_same, by rw [putK_len h.kt]; exact h.len, by rw [valV_put, if_neg (by decide)]; exact h.kc, by rw [valV_put, if_neg (by decide)]; exact h.kb, by rw [valV_put, if_neg (by decide)]; exact h.kl, by rw [valV_put, if_pos rfl], by rw [upd_ne h.ne]; exact h.hc, h.nz⟩
theorem Fd.left {H : Hp} {d cl : Addr} {kvs : List (Key × V)} {ns : List Int} {b l t : Int} (h : Fd H d kvs cl ns b l t) (x : Int) : Fd (upd H d (.dK (putK kvs (.inr "left") (.int x)))) d (putK kvs (.inr "left") (.int x)) cl ns b x t :=
  ⟨upd_same, by rw [putK_len h.kl]; exact h.len, by rw [valV_put, if_neg (by decide)]; exact h.kc, by rw [valV_put, if_neg (by decide)]; exact h.kb, by rw [valV_put, if_pos rfl], by rw [valV_put, if_neg (by decide)]; exact h.kt, by rw [upd_ne h.ne]; exact h.hc, h.nz⟩
theorem Fd.begun {H : Hp} {d cl : Addr} {kvs : List (Key × V)} {ns : List Int} {b l t : Int} (h : Fd H d kvs cl ns b l t) (x : Int) : Fd (upd H d (.dK (putK kvs (.inr "begun") (.int x)))) d (putK kvs (.inr "begun") (.int x)) cl ns x l t :=
  ⟨upd_same, by rw [putK_len h.kb]; exact h.len, by rw [valV_put, if_neg (by decide)]; exact h.kc, by rw [valV_put, if_pos rfl], by rw [valV_put, if_neg (by decide)]; exact h.kl, by rw [valV_put, if_neg (by decide)]; exact h.kt, by rw [upd_ne h.ne]; exact h.hc, h.nz⟩
def Feed (H : Hp) (d cl : Addr) : Prop := ∃ kvs ns b l t, Fd H d kvs cl ns b l t
theorem Feed.mono {H H' : Hp} {d cl : Addr} (e : Ex H H') (h : Feed H d cl) : Feed H' d cl := by
  obtain ⟨kvs, ns, b, l, t, h⟩ := h
  exact ⟨kvs, ns, b, l, t, h.mono e⟩
/-- all but the feed's own dict -/
theorem ex_del {H H' : Hp} {d : Addr} (e : Ex H H') : Ex (del H d) H' := fun a o h => by
  by_cases hd : a = d
  · rw [hd, del_same] at h; cases h
  · rw [del_ne hd] at h; exact e a o h
theorem ex_dd {B H : Hp} {d : Addr} (e : Ex B H) (hB : B d = none) : Ex B (del H d) := fun a o h => by
  have hd : a ≠ d := fun z => by rw [z, hB] at h; cases h
  rw [del_ne hd]
  exact e a o h
theorem ex_upd {H : Hp} {d : Addr} {o : HO} : Ex (del H d) (upd H d o) := fun a o' h => by
  by_cases hd : a = d
  · rw [hd, del_same] at h; cases h
  · rw [del_ne hd] at h; rw [upd_ne hd]; exact h
section
variable {K : Fg} {σ : L2.St} {H H' : Hp} {ta tb te tx tc td ty : TE} {t u : TT} {x y z v : V} {r : R2} {wi : TI} {D : Ends} {tz : TS}
theorem q_dput {tv : TE} {d : Addr} {kvs : List (Key × V)} {k : Key} (hv : Ev tv σ H v) (hd : Ev td σ H (.ref d)) (hy : Ev ty σ H (kV k)) (hH : H d = some (.dK kvs)) (hl : kvs.length < 100000) (g : ∀ H1, Ex H H1 → tz D σ (upd H1 d (.dK (putK kvs k v)))) : tSeq (sDPut td ty tv) tz D σ H :=
  s_dput (D := { D with nx := tz D }) hv hd hy hH hl g
theorem q_par {i j : Nat} {ta : TA} (h : EvA ta σ H [x, y]) (k : ∀ H1, Ex H H1 → tz D ((σ.set i (some x)).set j (some y)) H1) : tSeq (tPar i j ta) tz D σ H := h H (Ex.refl H) _ fun H1 e => ⟨x, y, rfl, k H1 e⟩
theorem rc_int {i : Int} : RC (fun xs H Q => (∃ i, xs = [V.int i] ∧ Q (.int i) H) ∨ ∃ k, xs = [V.bl k] ∧ Q (.int (if k then 1 else 0)) H) [.int i] H (.int i) := fun H1 _ Q q => .inl ⟨i, rfl, q H1 (Ex.refl H1)⟩
theorem canl_ints : ∀ ns : List Int, PyData.canLayAll0 (ns.map PyData.int) = true
  | [] => rfl
  | a :: r => by
    rw [List.map_cons, PyData.canLayAll0, canl_ints r]
    rfl
theorem dep_flat (f : α → PyData) (hf : ∀ a, (f a).depth = 0) : ∀ ns : List α, PyData.depthAll (ns.map f) = 0
  | [] => rfl
  | a :: r => by
    rw [List.map_cons, PyData.depthAll, dep_flat f hf r, hf a]
    rfl
theorem shaped_ints (ns : List Int) : SeqAt.shaped (.list (ns.map PyData.int)) = true := by
  unfold SeqAt.shaped
  rw [PyData.canLay0, canl_ints, PyData.depth, dep_flat PyData.int (fun _ => rfl)]
  rfl
theorem dpa_ints {K : Fg} {H : Hp} : ∀ ns : List Int, DpAll K H (ns.map V.int) (ns.map PyData.int)
  | [] => .nil
  | x :: r => .cons (.int x) (dpa_ints r)
theorem canl_strs : ∀ ws : List Str, (∀ x ∈ ws, PyData.strOk x = true) → PyData.canLayAll0 (ws.map PyData.str) = true
  | [], _ => rfl
  | a :: r, h => by
    rw [List.map_cons, PyData.canLayAll0, canl_strs r fun x hx => h x (List.mem_cons_of_mem _ hx), PyData.canLay0, h a List.mem_cons_self]
    rfl
theorem shaped_strs (ws : List Str) (h : ∀ x ∈ ws, PyData.strOk x = true) : SeqAt.shaped (.list (ws.map PyData.str)) = true := by
  unfold SeqAt.shaped
  rw [PyData.canLay0, canl_strs ws h, PyData.depth, dep_flat PyData.str (fun _ => rfl)]
  rfl
theorem eqv_nil (ds : List PyData) : PyData.eqv (.list ds) (.list []) = decide (ds = []) := by
  cases ds with
  | nil => rfl
  | cons a b => rfl
/-- xs != [], xs == [] -/
theorem ev_neNil {p : Addr} {xs : List V} {ds : List PyData} (ha : Ev ta σ H (.ref p)) (hp : SqL K H p xs) (hd : DpAll K H xs ds) (hs : SeqAt.shaped (.list ds) = true) (hb : EvL tb σ H []) : Ev (tOp (rNeD K) ta tb) σ H (.bl (!decide (ds = []))) :=
  ev_opL ha hb fun q H1 hq e H2 e2 Q k => ⟨.list ds, .list [], .lst (ex_l (e.trans e2) hp) (dpa_ex (e.trans e2) hd), .lst (sq_of (e2 q _ hq)) .nil, hs, by decide, by rw [eqv_nil]; exact k H2 (Ex.refl H2)⟩
theorem ev_eqNilL {xs : List V} {ds : List PyData} (ha : EvL ta σ H xs) (hd : DpAll K H xs ds) (hs : SeqAt.shaped (.list ds) = true) (hb : EvL tb σ H []) : Ev (tOp (rEqD K) ta tb) σ H (.bl (decide (ds = []))) :=
  ev_opLL ha hb fun p q H1 hp hq e H2 e2 Q k => ⟨.list ds, .list [], .lst (sq_of (e2 p _ hp)) (dpa_ex (e.trans e2) hd), .lst (sq_of (e2 q _ hq)) .nil, hs, by decide, by rw [eqv_nil]; exact k H2 (Ex.refl H2)⟩
theorem ev_neNilL {xs : List V} {ds : List PyData} (ha : EvL ta σ H xs) (hd : DpAll K H xs ds) (hs : SeqAt.shaped (.list ds) = true) (hb : EvL tb σ H []) : Ev (tOp (rNeD K) ta tb) σ H (.bl (!decide (ds = []))) :=
  ev_opLL ha hb fun p q H1 hp hq e H2 e2 Q k => ⟨.list ds, .list [], .lst (sq_of (e2 p _ hp)) (dpa_ex (e.trans e2) hd), .lst (sq_of (e2 q _ hq)) .nil, hs, by decide, by rw [eqv_nil]; exact k H2 (Ex.refl H2)⟩
/-- evaluates with a draw: all but the feed stays -/
def EvX (d cl : Addr) (te : TE) (σ : L2.St) (B : Hp) (Z : V → Hp → Prop) : Prop := ∀ H1, Ex B H1 → Feed H1 d cl → ∀ Q : VK, (∀ v H2, Ex (del H1 d) H2 → Feed H2 d cl → Z v H2 → Q v H2) → te σ H1 Q
theorem ex_ev {d cl : Addr} {Z : V → Hp → Prop} (h : Ev te σ H v) (hZ : ∀ H1, Ex H H1 → Z v H1) : EvX d cl te σ H Z := fun H1 e f Q q => h H1 e Q fun H2 e2 => q v H2 (ex_del e2) (f.mono e2) (hZ H2 (e.trans e2))
theorem ex_dtrans {B H1 H2 H3 : Hp} {d : Addr} (a : Ex (del H1 d) H2) (b : Ex (del H2 d) H3) : Ex (del H1 d) H3 := fun x o h => by
  have hd : x ≠ d := fun z => by rw [z, del_same] at h; cases h
  have := a x o h
  exact b x o (by rw [del_ne hd]; exact this)
/-- a promise with a draw -/
def spX (n : Nat) (R : List V → Hp → Addr → (V → Hp → Prop) → Prop) : Sp := fun vs H Q _ => vs.length = n ∧ ∃ d cl Z, Feed H d cl ∧ R vs H d Z ∧ ∀ v H2, Ex (del H d) H2 → Feed H2 d cl → Z v H2 → Q v H2
theorem ex_call {n : Nat} {R : List V → Hp → Addr → (V → Hp → Prop) → Prop} {Z : V → Hp → Prop} {d cl : Addr} {vs : List V} {E : XK} {ta : TA} (h : EvA ta σ H vs) (hl : vs.length = n) (hR : ∀ H1, Ex H H1 → R vs H1 d Z) : EvX d cl (tCall (spX n R) [] E ta) σ H Z := fun H1 e f Q q =>
  h H1 e _ fun H2 e2 => by
    refine ⟨by rw [List.append_nil]; exact hl, d, cl, Z, f.mono e2, by rw [List.append_nil]; exact hR H2 (e.trans e2), fun v H3 e3 f3 z => q v H3 (fun a o ha => ?_) f3 z⟩
    have hd : a ≠ d := fun z => by rw [z, del_same] at ha; cases ha
    rw [del_ne hd] at ha
    exact e3 a o (by rw [del_ne hd]; exact e2 a o ha)
theorem q_asgX {i : Nat} {B : Hp} {d cl : Addr} {Z : V → Hp → Prop} (h : EvX d cl te σ B Z) (e : Ex B H) (f : Feed H d cl) (k : ∀ v H1, Ex (del H d) H1 → Feed H1 d cl → Z v H1 → tz D (σ.set i (some v)) H1) : tSeq (tAsg te (gName i)) tz D σ H := h H e f _ fun v H1 e1 f1 z => k v H1 e1 f1 z
theorem s_asgX {i : Nat} {B : Hp} {d cl : Addr} {Z : V → Hp → Prop} (h : EvX d cl te σ B Z) (e : Ex B H) (f : Feed H d cl) (k : ∀ v H1, Ex (del H d) H1 → Feed H1 d cl → Z v H1 → D.nx (σ.set i (some v)) H1) : tAsg te (gName i) D σ H := h H e f _ fun v H1 e1 f1 z => k v H1 e1 f1 z
theorem s_retX {B : Hp} {d cl : Addr} {Z : V → Hp → Prop} (h : EvX d cl te σ B Z) (e : Ex B H) (f : Feed H d cl) (k : ∀ v H1, Ex (del H d) H1 → Feed H1 d cl → Z v H1 → D.rt v H1) : tRet te D σ H := h H e f _ fun v H1 e1 f1 z => k v H1 e1 f1 z
end
section
variable {P : Program} {w : World} {K : Fg} {mg : Str → Option Value} {base : Heap}
/-! ### _law_feed -/
def sp_law_feed (K : Fg) : Sp := fun vs H Q _ => vs.length = 1 ∧ ∃ (a : Addr) (ns : List Int), vs = [.ref a] ∧ SqL K H a (ns.map V.int) ∧ ns.length ≤ 63 ∧ ∀ d cl H2, H d = none → H cl = none → d ≠ cl → Ex H H2 → Feed H2 d cl → Q (.ref d) H2
abbrev N_law_feed : List Str := ["_law_script", "_law_cell"]
theorem sc_law_feed : FnScope N_law_feed ["_law_script"] (defScope s_law_feed) := ⟨rfl, rfl, rfl, by decide +kernel, rfl, by decide +kernel, by decide +kernel⟩
theorem ok_law_feed (G : Fs P K mg) : Okf P w K mg base 1 "_law_feed" ["_law_script"] [] (sp_law_feed K) := by
  refine mk_ok G.k_law_feed sc_law_feed (fun f fd F => ⟨[], .nil, FunD.bindsN F fun _ _ _ _ _ _ us hl => match us, hl with | [_], _ => rfl⟩) (fun vs H Q E h => h.1) ?_
  intro f cdv A outer s H vs Q E hr h
  have nd := sc_law_feed.nd
  refine ⟨_, (pss_one (ps_ret (pe_disp (pps_cons pe_str (pe_lc (g := gName 1) rfl nd (pi_list (pe_slice sl_list (pv 0) po_none (po_some pe_int))) (blkOk_by (own := [("_law_cell", 1)]) (N := N_law_feed) (sc := defScope s_law_feed) (by decide +kernel)) (fun _ _ _ _ _ => (pg_name (i := 1) nd rfl (Or.inl rfl))) (fun _ _ _ _ _ => pts_nil) (fun _ _ _ _ _ => (pe_callTy call_int1 rfl G.f_int boot_int (pa_cons (pv 1) pa_nil)))) (pps_cons pe_str pe_int (pps_cons pe_str pe_int (pps_cons pe_str pe_int pps_nil)))) rfl rfl (by simp) (by decide)))), ?_⟩
  obtain ⟨hl, a, ns, rfl, ha, hn, q⟩ := h
  intro d hd
  have e0 : Ex H (upd H d (.dK [])) := Ex.new hd
  obtain ⟨ns', hns, hns2⟩ : ∃ ns' : List Int, cutV (ns.map V.int) none (some 63) = ns'.map V.int ∧ ns'.length ≤ 63 := by
    refine ⟨(ns.drop (HT.sIx (ns.map V.int).length 0 none)).take (HT.sIx (ns.map V.int).length (ns.map V.int).length (some 63) - HT.sIx (ns.map V.int).length 0 none), ?_, ?_⟩
    · unfold cutV
      rw [List.map_take, List.map_drop]
    · have : ((ns.drop (HT.sIx (ns.map V.int).length 0 none)).take (HT.sIx (ns.map V.int).length (ns.map V.int).length (some 63) - HT.sIx (ns.map V.int).length 0 none)).length ≤ ns.length := by
        rw [List.length_take, List.length_drop]
        omega
      omega
  have hlst : EvL (tLc (iList K (tSl (rSlL K) (tVar 0) tNoPart (tPart (tC (.int 63))))) (gName 1) tYes (tCB (fun xs H Q => (∃ i, xs = [V.int i] ∧ Q (.int i) H) ∨ ∃ k, xs = [V.bl k] ∧ Q (.int (if k then 1 else 0)) H) (tCons (tVar 1) tNil)) [1]) (start N_law_feed [.ref a]) (upd H d (.dK [])) (ns'.map V.int) := by
    have g := el_lc (vs := [1]) (j := 1) (t := tYes) (te := tCB (fun xs H Q => (∃ i, xs = [V.int i] ∧ Q (.int i) H) ∨ ∃ k, xs = [V.bl k] ∧ Q (.int (if k then 1 else 0)) H) (tCons (tVar 1) tNil)) (σ := start N_law_feed [.ref a]) (H := upd H d (.dK [])) (fun _ => true) (fun i => .int (ns'.getD i 0)) (f := fun i => (ns'.map V.int).getD i .non)
      (ej_list (K := K) (te := tSl (rSlL K) (tVar 0) tNoPart (tPart (tC (.int 63)))) (xs := ns'.map V.int) (by rw [← hns]; exact el_sl (ev_var rfl) eo_none (eo_some ev_c) (ex_l e0 ha))) (by simp; omega) (fun i H1 x H2 hi y => yat_get hi y) (fun _ => rfl) (fun _ _ _ _ => et_yes) fun i H1 e1 hi _ => by
        have hi' : i < ns'.length := by simpa using hi
        have hx : (ns'.map V.int).getD i .non = .int (ns'.getD i 0) := by simp [List.getD, hi']
        exact ev_cb (ea1 (ev_var (v := .int (ns'.getD i 0)) (by rw [hx]; rfl))) rc_int
    rw [List.length_map, given_list ns' (fun _ => true) V.int _ _ (fun _ _ => rfl) (fun i hi => by simp [List.getD, hi]), List.filter_eq_self.mpr (fun _ _ => rfl)] at g
    exact g
  unfold tPairs tC
  show tLc _ _ _ _ _ _ (upd H d (.dK [])) _
  refine hlst _ (Ex.refl _) _ fun cl H2 hcl e2 h2 => ⟨e2 d _ upd_same, [(.inr "cells", .ref cl), (.inr "begun", .int 0), (.inr "left", .int 0), (.inr "turn", .int 0)], rfl, (by show 4 ≤ 15; omega), ?_⟩
  have hcd : cl ≠ d := fun e => by rw [e, upd_same] at hcl; cases hcl
  refine q d cl _ hd (fresh_back e0 hcl) hcd.symm (Ex.mut (e0.trans e2) hd) ⟨_, ns', 0, 0, 0, upd_same, (by show 4 ≤ 4; omega), rfl, rfl, rfl, rfl, by rw [upd_ne hcd]; exact h2, hns2⟩
/-! ### _law_draw -/
def sp_law_draw (K : Fg) : Sp := spX 2 fun vs H d Z => ∃ n : Int, vs = [.ref d, .int n] ∧ 0 < n ∧ n < 1000000 ∧ Z = fun v _ => ∃ k : Int, v = .int k ∧ 0 ≤ k ∧ k < n
abbrev N_law_draw : List Str := ["_law_feed_here", "_law_size", "_law_cell", "_law_mixed", "_law_digit", "_law_cells", "_law_begun"]
theorem sc_law_draw : FnScope N_law_draw ["_law_feed_here", "_law_size"] (defScope s_law_draw) := ⟨rfl, rfl, rfl, by decide +kernel, rfl, by decide +kernel, by decide +kernel⟩
theorem ok_law_draw (G : Fs P K mg) : Okf P w K mg base 1 "_law_draw" ["_law_feed_here", "_law_size"] [] (sp_law_draw K) := by
  refine mk_ok G.k_law_draw sc_law_draw (fun f fd F => ⟨[], .nil, FunD.bindsN F fun _ _ _ _ _ _ us hl => match us, hl with | [_, _], _ => rfl⟩) (fun vs H Q E h => h.1) ?_
  intro f cdv A outer s H vs Q E hr h
  have nd := sc_law_draw.nd
  refine ⟨_, (pss_cons (ps_dput (hu_of hr) (pv 0) pe_str (pe_op op_add (pe_dget (hu_of hr) (pv 0) pe_str (fun _ _ => rfl)) pe_int) rfl)
  (pss_cons (ps_if (pt_cmpR op_gt (pe_dget (hu_of hr) (pv 0) pe_str (fun _ _ => rfl)) pe_int (nomark _)) (pss_cons (ps_set (i := 4) nd rfl (Or.inl rfl) (pe_op op_mod (pe_callTy call_int1 rfl G.f_int boot_int (pa_cons (pe_dget (hu_of hr) (pv 0) pe_str (fun _ _ => rfl)) pa_nil)) (pv 1)))
  (pss_cons (ps_dput (hu_of hr) (pv 0) pe_str (pe_op op_fdiv (pe_dget (hu_of hr) (pv 0) pe_str (fun _ _ => rfl)) (pv 1)) rfl)
  (pss_one (ps_ret (pv 4))))) pss_nil)
  (pss_cons (ps_par (i := 5) (j := 6) rfl nd rfl rfl (by decide) rfl rfl (pa_cons (pe_dget (hu_of hr) (pv 0) pe_str (fun _ _ => rfl)) (pa_cons (pe_dget (hu_of hr) (pv 0) pe_str (fun _ _ => rfl)) pa_nil)) (by rfl))
  (pss_cons (ps_dput (hu_of hr) (pv 0) pe_str (pe_op op_add (pv 6) pe_int) rfl)
  (pss_cons (ps_set (i := 2) nd rfl (Or.inl rfl) (pe_ifExp (pt_cmpR (op_neD (hu64 hr)) (pv 5) (pe_lst pa_nil) (nomark _)) (pe_ix ix_list (pv 5) (pe_op op_mod (pe_callTy call_int1 rfl G.f_int boot_int (pa_cons (pv 6) pa_nil)) (pe_callB call_len_seq rfl G.f_len boot_len (pa_cons (pv 5) pa_nil))) (fun _ _ => rfl)) pe_int))
  (pss_cons (ps_if (PW.pt (pw_and (pt_cmpR op_ge (pv 2) (pe_op op_pow pe_int pe_int) (nomark _)) (pw_and1 (pt_cmpR op_lt (pv 6) (pe_callB call_len_seq rfl G.f_len boot_len (pa_cons (pv 5) pa_nil)) (nomark _))))) (pss_cons (ps_dput (hu_of hr) (pv 0) pe_str (pe_op op_fdiv (pv 2) (pv 1)) rfl)
  (pss_one (ps_ret (pe_op op_mod (pe_callTy call_int1 rfl G.f_int boot_int (pa_cons (pv 2) pa_nil)) (pv 1))))) pss_nil)
  (pss_cons (ps_set (i := 3) nd rfl (Or.inl rfl) (pe_op op_mod (pe_callTy call_int1 rfl G.f_int boot_int (pa_cons (pe_op op_add (pe_op op_add (pe_op op_mod (pe_callTy call_int1 rfl G.f_int boot_int (pa_cons (pv 2) pa_nil)) pe_int) (pe_op op_mul pe_int (pe_dget (hu_of hr) (pv 0) pe_str (fun _ _ => rfl)))) pe_int) pa_nil)) pe_int))
  (pss_cons (ps_set (i := 3) nd rfl (Or.inl rfl) (pe_op op_mod (pe_callTy call_int1 rfl G.f_int boot_int (pa_cons (pe_op op_add (pe_op op_add (pe_op op_mul (pv 3) (pv 3)) (pe_op op_mul pe_int (pe_dget (hu_of hr) (pv 0) pe_str (fun _ _ => rfl)))) pe_int) pa_nil)) pe_int))
  (pss_one (ps_ret (pe_op op_mod (pe_callTy call_int1 rfl G.f_int boot_int (pa_cons (pe_op op_fdiv (pe_op op_mod (pe_callTy call_int1 rfl G.f_int boot_int (pa_cons (pe_op op_add (pe_op op_mul (pv 3) (pv 3)) (pe_op op_mul pe_int (pv 3))) pa_nil)) pe_int) pe_int) pa_nil)) (pv 1)))))))))))), ?_⟩
  obtain ⟨hl, d, cl, Z, ⟨kvs, ns, b, l, t, F⟩, ⟨n, rfl, hn0, hn1, rfl⟩, q⟩ := h
  have l1 := F.len
  refine q_dput (v := .int (t + 1)) (k := .inr "turn") (ev_op (ev_dget (k := .inr "turn") (ev_var rfl) ev_c F.hd F.kt) ev_c rv_I0) (ev_var rfl) ev_c F.hd (by omega) fun H1 e1 => ?_
  have F1 := (F.mono e1).turn (t + 1)
  have E1 : Ex (del H d) (upd H1 d (.dK (putK kvs (.inr "turn") (.int (t + 1))))) := Ex.mut (ex_del e1) del_same
  generalize upd H1 d (.dK (putK kvs (.inr "turn") (.int (t + 1)))) = G1 at F1 E1 ⊢
  generalize putK kvs (.inr "turn") (.int (t + 1)) = kvs1 at F1
  have l2 := F1.len
  refine q_when (et_test (ev_op (ev_dget (k := .inr "left") (ev_var rfl) ev_c F1.hd F1.kl) ev_c rv_I0)) (fun _ H2 e2 => ?_) (fun _ H2 e2 => ?_)
  · have F2 := F1.mono e2
    refine q_asg (ev_op (ev_cb (ea1 (ev_dget (k := .inr "left") (ev_var rfl) ev_c F2.hd F2.kl)) rc_int) (ev_var rfl) (rv_I hn0)) fun H3 e3 => ?_
    have F3 := F2.mono e3
    refine q_dput (v := .int (l / n)) (k := .inr "left") (ev_op (ev_dget (k := .inr "left") (ev_var rfl) ev_c F3.hd F3.kl) (ev_var rfl) (rv_I ⟨hn0, by omega⟩)) (ev_var rfl) ev_c F3.hd (by omega) fun H4 e4 => ?_
    have F4 := (F3.mono e4).left (l / n)
    refine s_ret (ev_var rfl) fun H5 e5 => q _ H5 ((Ex.mut ((E1.trans e2).trans (e3.trans e4)) del_same).trans e5) ⟨_, _, _, _, _, F4.mono e5⟩ ⟨l % n, rfl, Int.emod_nonneg _ (by omega), Int.emod_lt_of_pos _ hn0⟩
  have F2 := F1.mono e2
  refine q_par (ea2 (ev_dget (k := .inr "cells") (ev_var rfl) ev_c F2.hd F2.kc) (ev_dget (k := .inr "begun") (ev_var rfl) ev_c F2.hd F2.kb)) fun H3 e3 => ?_
  have F3 := F2.mono e3
  show tSeq _ _ _ [some (.ref d), some (.int n), none, none, none, some (.ref cl), some (.int b)] H3
  refine q_dput (v := .int (b + 1)) (k := .inr "begun") (ev_op (ev_var rfl) ev_c rv_I0) (ev_var rfl) ev_c F3.hd (by omega) fun H4 e4 => ?_
  have F4 := (F3.mono e4).begun (b + 1)
  have E4 : Ex (del H d) (upd H4 d (.dK (putK kvs1 (.inr "begun") (.int (b + 1))))) := Ex.mut ((E1.trans e2).trans (e3.trans e4)) del_same
  generalize upd H4 d (.dK (putK kvs1 (.inr "begun") (.int (b + 1)))) = G4 at F4 E4 ⊢
  generalize putK kvs1 (.inr "begun") (.int (b + 1)) = kvs4 at F4
  have l4 := F4.len
  obtain ⟨c, hc⟩ : ∃ c : Int, Ev (tIf (tTest (tOp (rNeD K) (tVar 5) (tLst tNil))) (tOp (rIxL K) (tVar 5) (tOp (rI (fun _ j => 0 < j) fun i j => .int (i % j)) (tCB (fun xs H Q => (∃ i, xs = [V.int i] ∧ Q (.int i) H) ∨ ∃ k, xs = [V.bl k] ∧ Q (.int (if k then 1 else 0)) H) (tCons (tVar 6) tNil)) (tCB (rLenQ K) (tCons (tVar 5) tNil)))) (tC (.int 6218))) [some (.ref d), some (.int n), none, none, none, some (.ref cl), some (.int b)] G4 (.int c) := by
    have htest : ∀ {bb : Bool}, (!decide (ns.map PyData.int = [])) = bb → EvT (tTest (tOp (rNeD K) (tVar 5) (tLst tNil))) [some (.ref d), some (.int n), none, none, none, some (.ref cl), some (.int b)] G4 bb := fun hb => et_is (et_test (ev_neNil (ev_var rfl) (sq_of F4.hc) (dpa_ints ns) (shaped_ints ns) (el_lst ea_nil (by decide)))) hb
    cases hns : ns with
    | nil => exact ⟨6218, ev_if (b := false) (htest (by rw [hns]; rfl)) (fun h => nomatch h) fun _ => ev_c⟩
    | cons z r =>
      have hlen : 0 < ((ns.map V.int).length : Int) := by rw [hns]; simp
      have h1 := Int.emod_nonneg b (show ((ns.map V.int).length : Int) ≠ 0 by omega)
      have h2 := Int.emod_lt_of_pos b hlen
      obtain ⟨j, hj⟩ : ∃ j : Nat, b % ((ns.map V.int).length : Int) = j := ⟨(b % ((ns.map V.int).length : Int)).toNat, by omega⟩
      have hjl : j < ns.length := by
        rw [List.length_map] at h2 hj
        omega
      refine ⟨ns[j], ev_if (b := true) (htest (by rw [hns]; rfl)) (fun _ => ev_op (ev_var rfl) (ev_is (ev_op (ev_cb (ea1 (ev_var rfl)) rc_int) (ev_cb (ea1 (ev_var rfl)) (rc_lenL (sq_of F4.hc))) (rv_I hlen)) (by rw [hj])) (rv_ixLn (sq_of F4.hc) (by rw [List.getElem?_map, List.getElem?_eq_getElem hjl]; rfl))) fun h => nomatch h⟩
  refine q_asg hc fun H5 e5 => ?_
  have F5 := F4.mono e5
  have E5 := E4.trans e5
  refine q_when (et_and (et_test (ev_op (ev_var rfl) (ev_op ev_c ev_c (rv_I ⟨by decide, by decide, by decide⟩)) rv_I0)) fun _ => et_test (ev_op (ev_var rfl) (ev_cb (ea1 (ev_var rfl)) (rc_lenL (sq_of F5.hc))) rv_I0)) (fun _ H6 e6 => ?_) (fun _ H6 e6 => ?_)
  · have F6 := F5.mono e6
    refine q_dput (v := .int (c / n)) (k := .inr "left") (ev_op (ev_var rfl) (ev_var rfl) (rv_I ⟨hn0, by omega⟩)) (ev_var rfl) ev_c F6.hd (by omega) fun H7 e7 => ?_
    have F7 := (F6.mono e7).left (c / n)
    refine s_ret (ev_op (ev_cb (ea1 (ev_var rfl)) rc_int) (ev_var rfl) (rv_I hn0)) fun H8 e8 => q _ H8 ((Ex.mut ((E5.trans e6).trans e7) del_same).trans e8) ⟨_, _, _, _, _, F7.mono e8⟩ ⟨c % n, rfl, Int.emod_nonneg _ (by omega), Int.emod_lt_of_pos _ hn0⟩
  have F6 := F5.mono e6
  have E6 := E5.trans e6
  have m1 : ∀ x : Int, 0 ≤ x % 2147481311 ∧ x % 2147481311 < 2147481311 := fun x => ⟨Int.emod_nonneg _ (by decide), Int.emod_lt_of_pos _ (by decide)⟩
  have m2 : ∀ x : Int, 0 ≤ x % 2147481283 ∧ x % 2147481283 < 2147481283 := fun x => ⟨Int.emod_nonneg _ (by decide), Int.emod_lt_of_pos _ (by decide)⟩
  refine q_asg (ev_op (ev_cb (ea1 (ev_op (ev_op (ev_op (ev_cb (ea1 (ev_var rfl)) rc_int) ev_c (rv_I (by decide))) (ev_op ev_c (ev_dget (k := .inr "turn") (ev_var rfl) ev_c F6.hd F6.kt) (rv_I (.inl (by decide)))) rv_I0) ev_c rv_I0)) rc_int) ev_c (rv_I (by decide))) fun H7 e7 => ?_
  have F7 := F6.mono e7
  have b1 := m1 (c % 1999989461 + 72912 * (t + 1) + 478)
  generalize (c % 1999989461 + 72912 * (t + 1) + 478) % 2147481311 = x1 at b1 ⊢
  refine q_asg (ev_op (ev_cb (ea1 (ev_op (ev_op (ev_op (ev_var rfl) (ev_var rfl) (rv_I (.inl ⟨by omega, by omega⟩))) (ev_op ev_c (ev_dget (k := .inr "turn") (ev_var rfl) ev_c F7.hd F7.kt) (rv_I (.inl (by decide)))) rv_I0) ev_c rv_I0)) rc_int) ev_c (rv_I (by decide))) fun H8 e8 => ?_
  have F8 := F7.mono e8
  have b2 := m2 (x1 * x1 + 11447198 * (t + 1) + 408)
  generalize (x1 * x1 + 11447198 * (t + 1) + 408) % 2147481283 = x2 at b2 ⊢
  refine s_ret (ev_op (ev_cb (ea1 (ev_op (ev_op (ev_cb (ea1 (ev_op (ev_op (ev_var rfl) (ev_var rfl) (rv_I (.inl ⟨by omega, by omega⟩))) (ev_op ev_c (ev_var rfl) (rv_I (.inl (by decide)))) rv_I0)) rc_int) ev_c (rv_I (by decide))) ev_c (rv_I ⟨by decide, by decide⟩))) rc_int) (ev_var rfl) (rv_I hn0)) fun H9 e9 => q _ H9 (((E6.trans e7).trans e8).trans e9) ⟨_, _, _, _, _, F8.mono e9⟩ ⟨_, rfl, Int.emod_nonneg _ (by omega), Int.emod_lt_of_pos _ hn0⟩
/-! ### _law_any -/
/-- something that is drawn from: a list, a tuple, a text -/
def Pool (K : Fg) (H : Hp) (v : V) (vs : List V) : Prop := (∃ a, v = .ref a ∧ (SqL K H a vs ∨ SqT K H a vs)) ∨ ∃ l : List Nat, v = .str (St l) ∧ vs = l.map sg
theorem Pool.mono {K : Fg} {H H' : Hp} {v : V} {vs : List V} (e : Ex H H') (h : Pool K H v vs) : Pool K H' v vs := by
  rcases h with ⟨a, h1, h2 | h2⟩ | h
  · exact .inl ⟨a, h1, .inl (ex_l e h2)⟩
  · exact .inl ⟨a, h1, .inr (ex_t e h2)⟩
  · exact .inr h
def sp_law_any (K : Fg) : Sp := spX 2 fun vs H d Z => ∃ v xs, vs = [.ref d, v] ∧ Pool K (del H d) v xs ∧ xs ≠ [] ∧ xs.length ≤ 100000 ∧ Z = fun z _ => z ∈ xs
abbrev N_law_any : List Str := ["_law_feed_here", "_law_some"]
theorem sc_law_any : FnScope N_law_any ["_law_feed_here", "_law_some"] (defScope s_law_any) := ⟨rfl, rfl, rfl, by decide +kernel, rfl, by decide +kernel, by decide +kernel⟩
theorem ok_law_any (G : Fs P K mg) : Okf P w K mg base 2 "_law_any" ["_law_feed_here", "_law_some"] [] (sp_law_any K) := by
  refine mk_ok G.k_law_any sc_law_any (fun f fd F => ⟨[], .nil, FunD.bindsN F fun _ _ _ _ _ _ us hl => match us, hl with | [_, _], _ => rfl⟩) (fun vs H Q E h => h.1) ?_
  intro f cdv A outer s H vs Q E hr h
  have nd := sc_law_any.nd
  refine ⟨_, (pss_one (ps_ret (pe_ix ix_seq (pv 1) (pe_ok (ok_law_draw G) hr (by decide) rfl (pa_cons (pv 0) (pa_cons (pe_callB (call_len_seq.or call_len_str) rfl G.f_len boot_len (pa_cons (pv 1) pa_nil)) pa_nil))) (fun _ _ => rfl)))), ?_⟩
  obtain ⟨hl, d, cl, Z, hF, ⟨v, xs, rfl, hP, hne, hlen, rfl⟩, q⟩ := h
  have hx : 0 < (xs.length : Int) := by
    have := List.length_pos_iff.mpr hne
    omega
  have hlenE : Ev (tCB (fun ys H Q => rLenQ K ys H Q ∨ rLenC ys H Q) (tCons (tVar 1) tNil)) (start N_law_any [.ref d, v]) (del H d) (.int xs.length) := ev_cb (ea1 (ev_var rfl)) fun H1 e1 Q k => by
    rcases hP.mono e1 with ⟨a, rfl, h | h⟩ | ⟨l, rfl, rfl⟩
    · exact .inl ⟨a, xs, rfl, .inl h, k H1 (Ex.refl _)⟩
    · exact .inl ⟨a, xs, rfl, .inr h, k H1 (Ex.refl _)⟩
    · refine .inr ⟨St l, rfl, by rw [st_len]; rw [List.length_map] at hlen; exact sz_of hlen, ?_⟩
      rw [st_len]
      have := k H1 (Ex.refl _)
      rw [List.length_map] at this
      exact this
  have hdr : EvX d cl (tCall (sp_law_draw K) [] E0 (tCons (tVar 0) (tCons (tCB (fun ys H Q => rLenQ K ys H Q ∨ rLenC ys H Q) (tCons (tVar 1) tNil)) tNil))) (start N_law_any [.ref d, v]) (del H d) (fun v _ => ∃ k : Int, v = .int k ∧ 0 ≤ k ∧ k < xs.length) :=
    ex_call (ea2 (ev_var rfl) hlenE) rfl fun H1 e => ⟨_, rfl, hx, by omega, rfl⟩
  have hv1 : Ev (tVar 1) (start N_law_any [.ref d, v]) H v := ev_var rfl
  unfold tRet tOp
  refine hv1 H (Ex.refl _) _ fun H1 e1 => ?_
  refine hdr H1 (ex_del e1) (hF.mono e1) _ fun z H2 e2 f2 ⟨k, hz, hk0, hk1⟩ => ?_
  subst hz
  obtain ⟨j, rfl⟩ : ∃ j : Nat, k = j := ⟨k.toNat, by omega⟩
  have hj : j < xs.length := by omega
  have e02 : Ex (del H d) H2 := fun a o h => by
    have had : a ≠ d := fun z => by rw [z, del_same] at h; cases h
    rw [del_ne had] at h
    exact e2 a o (by rw [del_ne had]; exact e1 a o h)
  have hat : atI xs (j : Int) = some xs[j] := by
    unfold atI
    rw [ixN_nat hj]
    exact List.getElem?_eq_getElem hj
  rcases hP.mono e02 with ⟨a, rfl, h | h⟩ | ⟨l, rfl, rfl⟩
  · exact .inl ⟨a, xs, j, xs[j], rfl, rfl, h, hat, q _ H2 e02 f2 (List.getElem_mem hj)⟩
  · exact .inr (.inl ⟨a, xs, j, xs[j], rfl, rfl, h, hat, q _ H2 e02 f2 (List.getElem_mem hj)⟩)
  · rw [List.length_map] at hj hlen
    refine .inr (.inr ⟨St l, j, l[j], rfl, rfl, by rw [st_len]; exact sz_of hlen, ?_, q _ H2 e02 f2 (List.mem_map.mpr ⟨l[j], List.getElem_mem hj, rfl⟩)⟩)
    rw [st_list]
    unfold atI
    rw [ixN_nat hj]
    exact List.getElem?_eq_getElem hj
/-! ### _law_price -/
def diffs (l w : List Nat) : Nat := ((List.range l.length).filter fun i => !decide (l.getD i 0 = 63) && !decide (l.getD i 0 = w.getD i 0)).length
def sp_law_price (K : Fg) : Sp := spV 2 fun vs H z => ∃ l w : List Nat, vs = [.str (St l), .str (St w)] ∧ l.length ≤ 1000 ∧ w.length = l.length ∧ z = inat (diffs l w)
abbrev N_law_price : List Str := ["_law_laid_here", "_law_late", "_law_k"]
theorem sc_law_price : FnScope N_law_price ["_law_laid_here", "_law_late"] (defScope s_law_price) := ⟨rfl, rfl, rfl, by decide +kernel, rfl, by decide +kernel, by decide +kernel⟩
theorem ok_law_price (G : Fs P K mg) : Okf P w K mg base 1 "_law_price" ["_law_laid_here", "_law_late"] [] (sp_law_price K) := by
  refine mk_ok G.k_law_price sc_law_price (fun f fd F => ⟨[], .nil, FunD.bindsN F fun _ _ _ _ _ _ us hl => match us, hl with | [_, _], _ => rfl⟩) (fun vs H Q E h => h.1) ?_
  intro f cdv A outer s H vs Q E hr h
  have nd := sc_law_price.nd
  refine ⟨_, (pss_one (ps_ret (pe_callB call_len_seq rfl G.f_len boot_len (pa_cons (pe_lc (g := gName 2) rfl nd (pi_range1 rfl G.f_range (pa_cons (pe_callB call_len_str rfl G.f_len boot_len (pa_cons (pv 0) pa_nil)) pa_nil)) (blkOk_by (own := [("_law_k", 2)]) (N := N_law_price) (sc := defScope s_law_price) (by decide +kernel)) (fun _ _ _ _ _ => (pg_name (i := 2) nd rfl (Or.inl rfl))) (fun _ _ _ _ _ => (pts_one (PW.pt (pw_and (pt_cmpR op_ne (pe_ix ix_str (pv 0) (pv 2) (fun _ _ => rfl)) pe_str (nomark _)) (pw_and1 (pt_cmpR op_ne (pe_ix ix_str (pv 0) (pv 2) (fun _ _ => rfl)) (pe_ix ix_str (pv 1) (pv 2) (fun _ _ => rfl)) (nomark _))))))) (fun _ _ _ _ _ => (pv 2))) pa_nil)))), ?_⟩
  obtain ⟨hl, z, ⟨l, w, rfl, h1, h2, rfl⟩, q⟩ := h
  refine s_ret ?_ fun H1 e => q H1 e
  have g := el_lc (vs := [2]) (j := 2) (t := tAnd (tTest (tOp rNe (tOp rIxS (tVar 0) (tVar 2)) (tC (.str "?")))) (tTest (tOp rNe (tOp rIxS (tVar 0) (tVar 2)) (tOp rIxS (tVar 1) (tVar 2))))) (te := tVar 2) (σ := start N_law_price [.str (St l), .str (St w)]) (H := H) (n := l.length) (fun i => !decide (l.getD i 0 = 63) && !decide (l.getD i 0 = w.getD i 0)) (fun i => .int (i : Nat)) (f := fun i => .int (i : Nat))
    (ei_rng1 (n := (l.length : Int)) (ea1 (ev_is (ev_cb (ea1 (ev_var (i := 0) rfl)) (rc_lenC (by rw [st_len]; omega))) (by rw [st_len]))) (by omega) (by omega)).j (by omega) (fun i H1 x H2 hi y => y) (fun _ => rfl) (fun i H1 e hi => by
      have e1 : l.getD i 0 = l[i] := by simp [List.getD, hi]
      have e2 : w.getD i 0 = w[i] := by simp [List.getD, h2, hi]
      have hs : ∀ a b : Nat, (V.str (⟨#[a]⟩ : Str) = V.str ⟨#[b]⟩) ↔ a = b := fun a b => ⟨fun h => by
        have := st_inj (l := [a]) (m := [b]) (V.str.inj h)
        simpa using this, fun h => by rw [h]⟩
      rw [e1, e2]
      refine et_and (et_is (et_test (ev_op (ev_op (ev_var rfl) (ev_var rfl) (rv_ixC (List.getElem?_eq_getElem hi) (by omega))) ev_c (rv_ne rfl))) ?_) fun _ => et_is (et_test (ev_op (ev_op (ev_var rfl) (ev_var rfl) (rv_ixC (List.getElem?_eq_getElem hi) (by omega))) (ev_op (ev_var rfl) (ev_var rfl) (rv_ixC (List.getElem?_eq_getElem (by omega)) (by omega))) (rv_ne rfl))) ?_
      · have := hs l[i] 63
        show (!decide (V.str (⟨#[l[i]]⟩ : Str) = V.str ⟨#[63]⟩)) = _
        simp only [this]
      · simp only [hs]) fun i H1 e hi _ => ev_var rfl
  refine ev_is (ev_lenN g) ?_
  unfold given diffs
  rw [List.length_map]
  rfl
end
end K64

set_option Elab.async false
set_option linter.all false
set_option maxRecDepth 100000
set_option maxHeartbeats 4000000
/-! W11: _law_marks, _law_labels. -/
namespace K64
open PySem PySem.Spec PyProof.Rows L2 Evl
theorem low_cap : ∀ i, i < 26 → Txt.lower ⟨#[i + 65]⟩ = ⟨#[i + 97]⟩ := by decide +kernel
theorem low_let : ∀ i, i < 26 → Txt.lower ⟨#[i + 97]⟩ = ⟨#[i + 97]⟩ := by decide +kernel
theorem up_let : ∀ i, i < 26 → Txt.upper ⟨#[i + 97]⟩ = ⟨#[i + 65]⟩ := by decide +kernel
theorem isup_cap : ∀ i, i < 26 → Txt.isupper ⟨#[i + 65]⟩ = true := by decide +kernel
theorem isup_let : ∀ i, i < 26 → Txt.isupper ⟨#[i + 97]⟩ = false := by decide +kernel
theorem sign_low {s : Tr} {m : Nat} (h : s.Ok m) : Txt.lower ⟨#[s.sign]⟩ = ⟨#[s.lab]⟩ := by
  have hl := Tr.ok_lab h
  unfold isLet at hl
  obtain ⟨i, hi, h97⟩ : ∃ i, i < 26 ∧ s.lab = i + 97 := ⟨s.lab - 97, by omega, by omega⟩
  cases s with
  | leaf l =>
    have e : l = i + 97 := h97
    show Txt.lower ⟨#[l]⟩ = ⟨#[l]⟩
    rw [e]
    exact low_let i hi
  | one l a =>
    have e : l = i + 97 := h97
    show Txt.lower ⟨#[l - 32]⟩ = ⟨#[l]⟩
    rw [e, show i + 97 - 32 = i + 65 by omega]
    exact low_cap i hi
  | two l a b =>
    have e : l = i + 97 := h97
    show Txt.lower ⟨#[l - 32]⟩ = ⟨#[l]⟩
    rw [e, show i + 97 - 32 = i + 65 by omega]
    exact low_cap i hi
theorem sign_up {s : Tr} {m : Nat} (h : s.Ok m) : Txt.isupper ⟨#[s.sign]⟩ = decide (s.kids ≠ []) := by
  have hl := Tr.ok_lab h
  unfold isLet at hl
  obtain ⟨i, hi, h97⟩ : ∃ i, i < 26 ∧ s.lab = i + 97 := ⟨s.lab - 97, by omega, by omega⟩
  cases s with
  | leaf l =>
    have e : l = i + 97 := h97
    show Txt.isupper ⟨#[l]⟩ = false
    rw [e]
    exact isup_let i hi
  | one l a =>
    have e : l = i + 97 := h97
    show Txt.isupper ⟨#[l - 32]⟩ = true
    rw [e, show i + 97 - 32 = i + 65 by omega]
    exact isup_cap i hi
  | two l a b =>
    have e : l = i + 97 := h97
    show Txt.isupper ⟨#[l - 32]⟩ = true
    rw [e, show i + 97 - 32 = i + 65 by omega]
    exact isup_cap i hi
theorem rising_pw : ∀ (r : List Str) (x : Str), risingS x r = true → (x :: r).Nodup → (x :: r).Pairwise ltS
  | [], x, _, _ => List.pairwise_singleton _ _
  | y :: r, x, h, nd => by
    unfold risingS at h
    simp only [Bool.and_eq_true] at h
    have ih := rising_pw r y h.2 (List.nodup_cons.mp nd).2
    have hxy : ltS x y := by
      have h1 := h.1
      have hne : x ≠ y := fun e => (List.nodup_cons.mp nd).1 (by rw [e]; exact List.mem_cons_self)
      rw [ltCps_eq] at h1
      have h2 : ¬ (y.cps.toList < x.cps.toList) := by simpa using h1
      show x.cps.toList < y.cps.toList
      rcases Std.lt_trichotomy x.cps.toList y.cps.toList with h3 | h3 | h3
      · exact h3
      · exact absurd (by
          have := congrArg St h3
          rw [st_back, st_back] at this
          exact this) hne
      · exact absurd h3 h2
    refine List.pairwise_cons.mpr ⟨fun z hz => ?_, ih⟩
    rcases List.mem_cons.mp hz with rfl | hz
    · exact hxy
    · exact List.lt_trans hxy ((List.pairwise_cons.mp ih).1 z hz)
theorem sorted_pw {ys : List Str} (h : sortedS ys = true) (nd : ys.Nodup) : ys.Pairwise ltS := by
  cases ys with
  | nil => exact List.Pairwise.nil
  | cons x r => exact rising_pw r x h nd
theorem unmk : ∀ (ys : List Str), (∀ y ∈ ys, ∃ m, y = mkT m) → ∃ ms : List Mk, ys = ms.map mkT
  | [], _ => ⟨[], rfl⟩
  | y :: r, h => by
    obtain ⟨m, hm⟩ := h y List.mem_cons_self
    obtain ⟨ms, hms⟩ := unmk r fun z hz => h z (List.mem_cons_of_mem _ hz)
    exact ⟨m :: ms, by rw [hm, hms]; rfl⟩
theorem unst : ∀ (ys : List Str), (∀ y ∈ ys, ∃ m : Nat, y = St [m]) → ∃ ms : List Nat, ys = ms.map fun d => St [d]
  | [], _ => ⟨[], rfl⟩
  | y :: r, h => by
    obtain ⟨m, hm⟩ := h y List.mem_cons_self
    obtain ⟨ms, hms⟩ := unst r fun z hz => h z (List.mem_cons_of_mem _ hz)
    exact ⟨m :: ms, by rw [hm, hms]; rfl⟩
section
variable {X : Cx} {σ : L2.St} {H H' : Hp} {ta tb te : TE} {x y z v : V}
/-- sorted(set(texts)) -/
theorem ez_sortset {xs : List Str} (h : EvL te σ H (xs.map V.str)) (hl : xs.length ≤ 2000) (h64 : ∀ ys : List Str, ys.Nodup → (∀ x, x ∈ ys ↔ x ∈ xs) → ys.length < 64) :
    EvZ (tCB (rSortT X) (tCons (tCB (rSetL X) (tCons te tNil)) tNil)) σ H (fun v H' => ∃ (ys : List Str) (p : Addr), v = .ref p ∧ H' p = some (.lst (ys.map V.str)) ∧ ys.Nodup ∧ (∀ x, x ∈ ys ↔ x ∈ xs) ∧ sortedS ys = true) := fun H1 e Q q =>
  h H1 e _ fun a H2 _ e2 ha => ⟨a, xs, rfl, sq_of ha, hl, fun p ys hp nd hm => ⟨p, ys, rfl, upd_same, h64 ys nd hm, fun zs r hz hs hr => q _ _ ((e2.trans (Ex.new hp)).trans (Ex.new hr)) ⟨zs, r, rfl, upd_same, hz.nodup_iff.mpr nd, fun x => ⟨fun hx => (hm x).mp (hz.mem_iff.mp hx), fun hx => hz.mem_iff.mpr ((hm x).mpr hx)⟩, hs⟩⟩⟩
theorem el_listT {K : Fg} {p : Addr} {xs : List V} (ha : Ev ta σ H (.ref p)) (h : SqT K H p xs) : EvL (tCB (rListS K) (tCons ta tNil)) σ H xs := fun H1 e Q q =>
  ha H1 e _ fun H2 e2 => ⟨p, xs, rfl, Or.inr (ex_t (e.trans e2) h), fun l hl => q l _ (fresh_back e2 hl) (e2.trans (Ex.new hl)) upd_same⟩
end
/-- all marks of a checker -/
def allM (c : Ck) : List Mk := c.tops ++ c.leaves ++ c.rows.flatten
/-- few marks -/
structure Ck.Sm (c : Ck) : Prop where
  few : ∃ M : List Mk, M.length ≤ 4 ∧ ∀ m ∈ allM c, m ∈ M
  lens : (allM c).length ≤ 2000
theorem nodup_len {α : Type} : ∀ (l M : List α), l.Nodup → (∀ x ∈ l, x ∈ M) → l.length ≤ M.length
  | [], M, _, _ => Nat.zero_le _
  | x :: r, M, nd, h => by
    obtain ⟨i, hi, hx⟩ := List.mem_iff_getElem.mp (h x List.mem_cons_self)
    have h2 : ∀ y ∈ r, y ∈ M.eraseIdx i := by
      intro y hy
      obtain ⟨j, hj, hyj⟩ := List.mem_iff_getElem.mp (h y (List.mem_cons_of_mem _ hy))
      have hne : j ≠ i := by
        intro e
        subst e
        rw [hx] at hyj
        exact (List.nodup_cons.mp nd).1 (by rw [hyj]; exact hy)
      rw [List.mem_eraseIdx_iff_getElem]
      exact ⟨j, hj, hne, hyj⟩
    have := nodup_len r _ (List.nodup_cons.mp nd).2 h2
    rw [List.length_eraseIdx] at this
    rw [if_pos hi] at this
    rw [List.length_cons]
    omega
/-- the marks, sorted -/
structure MarksOf (c : Ck) (ms : List Mk) : Prop where
  srt : (ms.map mkT).Pairwise ltS
  mem : ∀ m, m ∈ ms ↔ m ∈ allM c
theorem MarksOf.len {c : Ck} (h : c.Sm) {ms : List Mk} (g : MarksOf c ms) : ms.length ≤ 4 := by
  obtain ⟨M, h1, h2⟩ := h.few
  have nd : ms.Nodup := by
    refine (List.pairwise_map.mp g.srt).imp fun {a b} hab e => ?_
    subst e
    exact List.lt_irrefl _ hab
  exact Nat.le_trans (nodup_len ms M nd fun m hm => h2 m ((g.mem m).mp hm)) h1
theorem allM_ok {c : Ck} (ok : c.Ok) : ∀ m ∈ allM c, okM m := by
  intro m hm
  unfold allM at hm
  rcases List.mem_append.mp hm with hm | hm
  · rcases List.mem_append.mp hm with hm | hm
    · exact ok.tops m hm
    · exact ok.leaves m hm
  · obtain ⟨r, hr, hmr⟩ := List.mem_flatten.mp hm
    exact (ok.rows r hr).2 m hmr
theorem row_cut2 {r : List Mk} (hr : r.length = 2 ∨ r.length = 3) {i : Nat} (hi : i < r.length) : cutS (rowT r) (some (2 * (i : Int))) (some (2 * (i : Int) + 2)) = mkT r[i] := by
  match r, hr, hi with
  | [a, b], _, hi =>
    have : i = 0 ∨ i = 1 := by simp at hi; omega
    rcases this with rfl | rfl <;> rfl
  | [a, b, c], _, hi =>
    have : i = 0 ∨ i = 1 ∨ i = 2 := by simp at hi; omega
    rcases this with rfl | rfl | rfl <;> rfl
section
variable {P : Program} {w : World} {K : Fg} {mg : Str → Option Value} {base : Heap}
def sp_law_marks (K : Fg) : Sp := spP 1 fun vs H Z => ∃ v c, vs = [v] ∧ ChkV K H v c ∧ c.Ok ∧ c.Sm ∧ Z = fun v H2 => ∃ ms p, v = .ref p ∧ H2 p = some (.lst (ms.map mkV)) ∧ MarksOf c ms
def Lm (v : V) (c : Ck) (H0 : Hp) (i : Nat) (σ : L2.St) (H : Hp) : Prop := Ex H0 H ∧ (∃ p, H p = some (.lst ((c.tops ++ c.leaves ++ (c.rows.take i).flatten).map mkV)) ∧ ∃ a b, σ = [some v, some (.ref p), a, b])
abbrev N_law_marks : List Str := ["_law_table", "_law_found", "_law_trio", "_law_k"]
theorem sc_law_marks : FnScope N_law_marks ["_law_table"] (defScope s_law_marks) := ⟨rfl, rfl, rfl, by decide +kernel, rfl, by decide +kernel, by decide +kernel⟩
theorem ok_law_marks (G : Fs P K mg) : Okf P w K mg base 1 "_law_marks" ["_law_table"] [] (sp_law_marks K) := by
  refine mk_ok G.k_law_marks sc_law_marks (fun f fd F => ⟨[], .nil, FunD.bindsN F fun _ _ _ _ _ _ us hl => match us, hl with | [_], _ => rfl⟩) (fun vs H Q E h => h.1) ?_
  intro f cdv A outer s H vs Q E hr h
  have nd := sc_law_marks.nd
  refine ⟨_, (pss_cons (ps_set (i := 1) nd rfl (Or.inl rfl) (pe_op op_cat (pe_callTy call_list_of rfl G.f_list boot_list (pa_cons (pe_ix ix_tup (pv 0) pe_int (fun _ _ => rfl)) pa_nil)) (pe_callTy call_list_of rfl G.f_list boot_list (pa_cons (pe_ix ix_tup (pv 0) pe_int (fun _ _ => rfl)) pa_nil))))
  (pss_cons (ps_for PassesOwn.never rfl (pi_tup (pe_ix ix_tup (pv 0) pe_int (fun _ _ => rfl))) (pg_name (i := 2) nd rfl (Or.inr rfl))
  (pss_one (ps_set (i := 1) nd rfl (Or.inl rfl) (pe_op op_cat (pv 1) (pe_lc (g := gName 3) rfl nd (pi_range1 rfl G.f_range (pa_cons (pe_op op_add (pe_ix ix_tup (pv 0) pe_int (fun _ _ => rfl)) pe_int) pa_nil)) (blkOk_by (own := [("_law_k", 3)]) (N := N_law_marks) (sc := defScope s_law_marks) (by decide +kernel)) (fun _ _ _ _ _ => (pg_name (i := 3) nd rfl (Or.inl rfl))) (fun _ _ _ _ _ => pts_nil) (fun _ _ _ _ _ => (pe_slice sl_str (pv 2) (po_some (pe_op op_mul pe_int (pv 3))) (po_some (pe_op op_add (pe_op op_mul pe_int (pv 3)) pe_int)))))))))
  (pss_one (ps_ret (pe_callB (cr_sortT rfl) rfl G.f_sorted boot_sorted (pa_cons (pe_callTy (cr_setL rfl) rfl G.f_set boot_set (pa_cons (pv 1) pa_nil)) pa_nil)))))), ?_⟩
  obtain ⟨hl, Z, ⟨v, c, rfl, hc, ok, sm, rfl⟩, q⟩ := h
  have hc0 := hc
  obtain ⟨p, a, b, r, rfl, hp, ha, hb, hr'⟩ := hc0
  have hlens := sm.lens
  unfold allM at hlens
  rw [List.length_append, List.length_append] at hlens
  refine q_asgL (el_catN (el_listT (ev_op (ev_var rfl) ev_c (rv_ixTn (j := 1) hp rfl)) ha) (el_listT (ev_op (ev_var rfl) ev_c (rv_ixTn (j := 2) hp rfl)) hb) (by simp; omega)) fun l1 H1 _ e1 h1 => ?_
  refine q_forI (H := H) (ei_tup (ev_op (ev_var rfl) ev_c (rv_ixTn (j := 3) hp rfl)) hr') e1 (Lm (.ref p) c H) (fun H2 e2 => ⟨e1.trans e2, l1, by rw [e2 l1 _ h1, List.take_zero, List.flatten_nil, List.append_nil, List.map_append], none, none, rfl⟩) (fun i σ' H2 hi p => p.1) (fun i x σ' H2 H3 hi pv y => ?_) (fun σ' H2 pv => ?_)
  · obtain ⟨e2, p2, h2, x1, x2, rfl⟩ := pv
    obtain ⟨rfl, y⟩ := y
    have hi' : i < c.rows.length := by simpa using hi
    rw [List.getElem?_map, List.getElem?_eq_getElem hi'] at y
    obtain rfl := Option.some.inj y
    have orow := ok.rows _ (List.getElem_mem hi')
    have om := ok.many
    have hr23 : c.rows[i].length = 2 ∨ c.rows[i].length = 3 := by omega
    have hflat : ((c.rows.take i).flatten).length + c.rows[i].length ≤ c.rows.flatten.length := by
      have e : c.rows = c.rows.take i ++ c.rows[i] :: c.rows.drop (i + 1) := by rw [← List.drop_eq_getElem_cons hi', List.take_append_drop]
      have := congrArg (fun l => (List.flatten l).length) e
      simp only [List.flatten_append, List.flatten_cons, List.length_append] at this
      omega
    have hcount : EvA (tCons (tOp (rI0 fun i j => .int (i + j)) (tOp (rIxT K) (tVar 0) (tC (.int 0))) (tC (.int 1))) tNil) [some (.ref p), some (.ref p2), some (.str (rowT c.rows[i])), x2] H3 [.int ((c.rows[i].length : Nat) : Int)] := by
      have q := ea1 (ev_op (ta := tOp (rIxT K) (tVar 0) (tC (.int 0))) (tb := tC (.int 1)) (r := rI0 fun i j => .int (i + j)) (σ := [some (.ref p), some (.ref p2), some (.str (rowT c.rows[i])), x2]) (H := H3) (ev_op (x := .ref p) (y := .int 0) (ev_var rfl) ev_c (rv_ixTn (j := 0) (ex_t e2 hp) rfl)) ev_c rv_I0)
      rw [orow.1]
      exact q
    have g : EvL (tLc (iRng1 (tCons (tOp (rI0 fun i j => .int (i + j)) (tOp (rIxT K) (tVar 0) (tC (.int 0))) (tC (.int 1))) tNil)) (gName 3) tYes (tSl rSlS (tVar 2) (tPart (tOp (rI CMul fun i j => .int (i * j)) (tC (.int 2)) (tVar 3))) (tPart (tOp (rI0 fun i j => .int (i + j)) (tOp (rI CMul fun i j => .int (i * j)) (tC (.int 2)) (tVar 3)) (tC (.int 2))))) [3]) [some (.ref p), some (.ref p2), some (.str (rowT c.rows[i])), x2] H3 (c.rows[i].map mkV) := by
      have g := el_lc (vs := [3]) (j := 3) (t := tYes) (te := tSl rSlS (tVar 2) (tPart (tOp (rI CMul fun i j => .int (i * j)) (tC (.int 2)) (tVar 3))) (tPart (tOp (rI0 fun i j => .int (i + j)) (tOp (rI CMul fun i j => .int (i * j)) (tC (.int 2)) (tVar 3)) (tC (.int 2))))) (σ := [some (.ref p), some (.ref p2), some (.str (rowT c.rows[i])), x2]) (H := H3) (n := c.rows[i].length) (fun _ => true) (fun k => .str (cutS (rowT c.rows[i]) (some (2 * (k : Int))) (some (2 * (k : Int) + 2)))) (f := fun k => .int (k : Nat))
        (ei_rng1 (n := ((c.rows[i].length : Nat) : Int)) hcount (by omega) (by omega)).j (by omega) (fun i H1 x H2 hi y => y) (fun _ => rfl) (fun _ _ _ _ => et_yes) fun k H1 e hk _ => ev_slS (ev_var rfl) (eo_some (ev_op ev_c (ev_var rfl) (rv_I (.inl (by decide))))) (eo_some (ev_op (ev_op ev_c (ev_var rfl) (rv_I (.inl (by decide)))) ev_c rv_I0)) (by rw [rowT_len]; omega)
      rw [given_list c.rows[i] (fun _ => true) mkV _ _ (fun _ _ => rfl) (fun k hk => by rw [row_cut2 hr23 hk]; rfl), List.filter_eq_self.mpr (fun _ _ => rfl)] at g
      exact g
    refine s_asgL (el_cat (ev_var (v := .ref p2) rfl) h2 g (by rw [List.length_map, List.length_map, List.length_append, List.length_append]; omega)) fun l4 H4 _ e4 h4 => ⟨e2.trans e4, l4, ?_, _, _, rfl⟩
    rw [h4, List.take_succ, List.getElem?_eq_getElem hi', List.flatten_append, ← List.append_assoc, List.map_append (l₁ := c.tops ++ c.leaves ++ (c.rows.take i).flatten)]
    congr 3
    simp
  · obtain ⟨e2, p2, h2, x1, x2, rfl⟩ := pv
    have et : c.rows.take (c.rows.map fun q => V.str (rowT q)).length = c.rows := by simp
    rw [et] at h2
    have ems : (allM c).map mkV = ((allM c).map mkT).map V.str := by rw [List.map_map]; rfl
    have hset : EvL (tVar 1) [some (.ref p), some (.ref p2), x1, x2] H2 (((allM c).map mkT).map V.str) → True := fun _ => trivial
    obtain ⟨M, hM1, hM2⟩ := sm.few
    have h64 : ∀ ys : List Str, ys.Nodup → (∀ x, x ∈ ys ↔ x ∈ (allM c).map mkT) → ys.length < 64 := by
      intro ys nd hm
      have := nodup_len ys (M.map mkT) nd fun x hx => by
        obtain ⟨m, hm2, rfl⟩ := List.mem_map.mp ((hm x).mp hx)
        exact List.mem_map.mpr ⟨m, hM2 m hm2, rfl⟩
      rw [List.length_map] at this
      omega
    have hsq : SqL K H2 p2 (((allM c).map mkT).map V.str) := by rw [← ems]; exact sq_of h2
    refine s_retZ (Z := fun v H' => ∃ (ys : List Str) (p : Addr), v = .ref p ∧ H' p = some (.lst (ys.map V.str)) ∧ ys.Nodup ∧ (∀ x, x ∈ ys ↔ x ∈ (allM c).map mkT) ∧ sortedS ys = true) (fun H3 e3 Q3 q3 => ?_) fun v H3 e3 ⟨ys, p3, hv, h3, nd, hm, hs⟩ => ?_
    · have hv2 : Ev (tVar 1) [some (.ref p), some (.ref p2), x1, x2] H2 (.ref p2) := ev_var rfl
      refine hv2 H3 e3 _ fun H4 e4 => ⟨p2, (allM c).map mkT, rfl, ex_l (e3.trans e4) hsq, by rw [List.length_map]; exact sm.lens, fun p5 ys hp nd hm => ⟨p5, ys, rfl, upd_same, h64 ys nd hm, fun zs r hz hs hr => q3 _ _ ((e4.trans (Ex.new hp)).trans (Ex.new hr)) ⟨zs, r, rfl, upd_same, hz.nodup_iff.mpr nd, fun x => ⟨fun hx => (hm x).mp (hz.mem_iff.mp hx), fun hx => hz.mem_iff.mpr ((hm x).mpr hx)⟩, hs⟩⟩⟩
    · subst hv
      obtain ⟨ms, rfl⟩ := unmk ys fun y hy => by
        obtain ⟨m, _, rfl⟩ := List.mem_map.mp ((hm y).mp hy)
        exact ⟨m, rfl⟩
      refine q _ H3 (e2.trans e3) ⟨ms, p3, rfl, by rw [h3, List.map_map]; rfl, sorted_pw hs nd, fun m => ?_⟩
      rw [← mem_mk (ms := ms), hm, mem_mk]
def sp_law_labels (K : Fg) : Sp := spP 1 fun vs H Z => ∃ v c, vs = [v] ∧ ChkV K H v c ∧ c.Ok ∧ c.Sm ∧ Z = fun v _ => ∃ ls : List Nat, v = .str (St ls) ∧ ls ≠ [] ∧ ls.length ≤ 64 ∧ ∀ x ∈ ls, isLet x
theorem ez_lcL {σ : L2.St} {H : Hp} {t0 t1 : TE} {t : TT} {W : List V → Prop} {j : Nat} {vs : List Nat} (b : List V → Nat → Bool) (v : List V → Nat → V) (h : EvZ t0 σ H (fun v H' => ∃ (p : Addr) (xs : List V), v = .ref p ∧ H' p = some (.lst xs) ∧ W xs)) (hn : ∀ xs, W xs → xs.length ≤ 40000)
    (hw : ∀ x, wipe ((wipe σ vs).set j (some x)) vs = wipe σ vs) (ht : ∀ xs, W xs → ∀ (i : Nat) (x : V) H1, Ex H H1 → xs[i]? = some x → EvT t ((wipe σ vs).set j (some x)) H1 (b xs i))
    (he : ∀ xs, W xs → ∀ (i : Nat) (x : V) H1, Ex H H1 → xs[i]? = some x → b xs i = true → Ev t1 ((wipe σ vs).set j (some x)) H1 (v xs i)) :
    EvZ (tLc (iList K t0) (gName j) t t1 vs) σ H (fun v' H' => ∃ (p : Addr) (ys : List V), v' = .ref p ∧ H' p = some (.lst ys) ∧ ∃ xs, W xs ∧ ys = given xs.length (b xs) (v xs)) := fun H1 e Q q =>
  h H1 e _ fun v0 H2 e2 ⟨a, xs, hv, hx, hW⟩ => by
    subst hv
    refine ⟨a, rfl, ⟨xs, sq_of hx⟩, fun Dl hD => ?_⟩
    exact lc_list (xs := xs) (Cw H2 (b xs) (v xs) Dl) ⟨hD, Ex.new hD, upd_same⟩ (fun i H' _ p => sq_of (p.2.1 a _ hx)) (fun i x H' hi p => ⟨hw x, cw_turn p (by have := (List.getElem?_eq_some_iff.mp hi).1; have := hn xs hW; omega) (ht xs hW i x H2 (e.trans e2) hi) (fun hf => he xs hW i x H2 (e.trans e2) hi hf)⟩)
      (fun H' p => q _ H' (e2.trans p.2.1) ⟨Dl, _, rfl, p.2.2, xs, hW, rfl⟩)
theorem ez_sortsetZ {X : Cx} {σ : L2.St} {H : Hp} {te : TE} {W : List Str → Prop} (h : EvZ te σ H (fun v H' => ∃ (p : Addr) (xs : List Str), v = .ref p ∧ H' p = some (.lst (xs.map V.str)) ∧ W xs)) (hl : ∀ xs, W xs → xs.length ≤ 2000) (h64 : ∀ xs, W xs → ∀ ys : List Str, ys.Nodup → (∀ x, x ∈ ys ↔ x ∈ xs) → ys.length < 64) :
    EvZ (tCB (rSortT X) (tCons (tCB (rSetL X) (tCons te tNil)) tNil)) σ H (fun v H' => ∃ (p : Addr) (ys : List Str), v = .ref p ∧ H' p = some (.lst (ys.map V.str)) ∧ ∃ xs, W xs ∧ ys.Nodup ∧ (∀ x, x ∈ ys ↔ x ∈ xs) ∧ sortedS ys = true) := fun H1 e Q q =>
  h H1 e _ fun v0 H2 e2 ⟨a, xs, hv, ha, hW⟩ => by
    subst hv
    exact ⟨a, xs, rfl, sq_of ha, hl xs hW, fun p ys hp nd hm => ⟨p, ys, rfl, upd_same, h64 xs hW ys nd hm, fun zs r hz hs hr => q _ _ ((e2.trans (Ex.new hp)).trans (Ex.new hr)) ⟨r, zs, rfl, upd_same, xs, hW, hz.nodup_iff.mpr nd, fun x => ⟨fun hx => (hm x).mp (hz.mem_iff.mp hx), fun hx => hz.mem_iff.mpr ((hm x).mpr hx)⟩, hs⟩⟩⟩
theorem ez_joinZ {σ : L2.St} {H : Hp} {ta te : TE} {W : List (List Nat) → Prop} (h0 : ∀ H1, Ex H H1 → Ev ta σ H1 (.str "")) (h : EvZ te σ H (fun v H' => ∃ (p : Addr) (ps : List (List Nat)), v = .ref p ∧ H' p = some (.lst (ps.map fun d => V.str (St d))) ∧ W ps)) (hz : ∀ ps, W ps → (ps.map (·.length)).sum ≤ 100000) :
    EvZ (tM1 (rJoinK K) ta te) σ H (fun v _ => ∃ ps, W ps ∧ v = .str (St ps.flatten)) := fun H1 e Q q =>
  h0 H1 e H1 (Ex.refl _) _ fun H2 e2 => ⟨⟨_, rfl⟩, h H2 (e.trans e2) _ fun v H3 e3 ⟨l, ps, hv, hl, hW⟩ => by
    subst hv
    refine ⟨"", l, ps.map St, rfl, rfl, .inl (by rw [List.map_map]; exact sq_of hl), ?_, ?_⟩
    · have : ((ps.map St).map (·.length)).sum = (ps.map (·.length)).sum := by
        rw [List.map_map]
        congr 1
      rw [this]
      have h2 : (("" : Str).length) = 0 := rfl
      rw [h2, Nat.mul_zero]
      have := hz ps hW
      omega
    · rw [join_st]
      exact q _ H3 (e2.trans e3) ⟨ps, hW, rfl⟩⟩
theorem ez_imp {σ : L2.St} {H : Hp} {te : TE} {Z Z' : V → Hp → Prop} (h : EvZ te σ H Z) (g : ∀ v H', Ex H H' → Z v H' → Z' v H') : EvZ te σ H Z' := fun H1 e Q q => h H1 e Q fun v H2 e2 z => q v H2 e2 (g v H2 (e.trans e2) z)
theorem marks_given {c : Ck} {ms : List Mk} {f : Mk → Nat} {v : Nat → V} (hv : ∀ i (h : i < ms.length), v i = sg (f ms[i])) : given (ms.map mkV).length (fun _ => true) v = (ms.map fun m => sg (f m)) := by
  rw [List.length_map, given_list ms (fun _ => true) (fun m => sg (f m)) _ _ (fun _ _ => rfl) (fun i hi => hv i hi), List.filter_eq_self.mpr (fun _ _ => rfl)]
abbrev N_law_labels : List Str := ["_law_table", "_law_found", "_law_mark"]
theorem sc_law_labels : FnScope N_law_labels ["_law_table"] (defScope s_law_labels) := ⟨rfl, rfl, rfl, by decide +kernel, rfl, by decide +kernel, by decide +kernel⟩
theorem ok_law_labels (G : Fs P K mg) : Okf P w K mg base 2 "_law_labels" ["_law_table"] [] (sp_law_labels K) := by
  refine mk_ok G.k_law_labels sc_law_labels (fun f fd F => ⟨[], .nil, FunD.bindsN F fun _ _ _ _ _ _ us hl => match us, hl with | [_], _ => rfl⟩) (fun vs H Q E h => h.1) ?_
  intro f cdv A outer s H vs Q E hr h
  have nd := sc_law_labels.nd
  refine ⟨_, (pss_cons (ps_set (i := 1) nd rfl (Or.inl rfl) (pe_join pe_str (pe_callB (cr_sortT rfl) rfl G.f_sorted boot_sorted (pa_cons (pe_callTy (cr_setL rfl) rfl G.f_set boot_set (pa_cons (pe_lc (g := gName 2) rfl nd (pi_list (pe_ok (ok_law_marks G) hr (by decide) rfl (pa_cons (pv 0) pa_nil))) (blkOk_by (own := [("_law_mark", 2)]) (N := N_law_labels) (sc := defScope s_law_labels) (by decide +kernel)) (fun _ _ _ _ _ => (pg_name (i := 2) nd rfl (Or.inl rfl))) (fun _ _ _ _ _ => pts_nil) (fun _ _ _ _ _ => (pe_ix ix_str (pv 2) pe_int (fun _ _ => rfl)))) pa_nil)) pa_nil))))
  (pss_one (ps_ret (pe_ifExp (pt_cmpR op_ne (pv 1) pe_str (nomark _)) (pv 1) pe_str)))), ?_⟩
  obtain ⟨hl, Z, ⟨v, c, rfl, hc, ok, sm, rfl⟩, q⟩ := h
  have h1 : EvZ (tLc (iList K (tCall (sp_law_marks K) [] E0 (tCons (tVar 0) tNil))) (gName 2) tYes (tOp rIxS (tVar 2) (tC (.int 0))) [2]) (start N_law_labels [v]) H (fun v H' => ∃ (p : Addr) (xs : List Str), v = .ref p ∧ H' p = some (.lst (xs.map V.str)) ∧ ∃ ms, MarksOf c ms ∧ xs = ms.map fun m => St [m.1]) := by
    refine ez_imp (ez_lcL (K := K) (W := fun xs => ∃ ms, MarksOf c ms ∧ xs = ms.map mkV) (fun _ _ => true) (fun xs i => match xs.getD i .non with | .str s => .str ⟨#[s.cps.toList.headD 0]⟩ | _ => .non) (ez_imp (ez_call (ea1 (ev_var rfl)) rfl fun H1 e => ⟨v, c, rfl, hc.mono e, ok, sm, rfl⟩) fun v' H' _ ⟨ms, p, h1, h2, h3⟩ => ⟨p, _, h1, h2, ms, h3, rfl⟩) (fun xs ⟨ms, h1, h2⟩ => by rw [h2, List.length_map]; have := h1.len sm; omega) (fun _ => rfl) (fun _ _ _ _ _ _ _ => et_yes) fun xs ⟨ms, h1, h2⟩ i x H1 e hi _ => ?_) fun v' H' _ ⟨p, ys, g1, g2, xs, ⟨ms, g3, g4⟩, g5⟩ => ?_
    · subst h2
      obtain ⟨hi1, hi2⟩ := List.getElem?_eq_some_iff.mp hi
      rw [List.length_map] at hi1
      have hx : (ms.map mkV).getD i .non = .str (St [ms[i].1, ms[i].2]) := by simp [List.getD, hi1]; rfl
      have hx2 : x = .str (St [ms[i].1, ms[i].2]) := by rw [← hi2]; simp; rfl
      subst hx2
      rw [hx]
      exact ev_op (x := .str (St [ms[i].1, ms[i].2])) (ev_var rfl) ev_c (rv_ixC (j := 0) rfl (by show 2 ≤ 100000; omega))
    · subst g4
      refine ⟨p, ms.map fun m => St [m.1], g1, ?_, ms, g3, rfl⟩
      rw [g2, g5, marks_given (c := c) (f := fun m => m.1) (fun i h => by simp [List.getD, h, mkV, mkT]; rfl), List.map_map]
      rfl
  refine q_asgZ (ez_joinZ (K := K) (W := fun ps => ∃ ls : List Nat, ps = ls.map (fun d => [d]) ∧ ls.length ≤ 63 ∧ ∀ x ∈ ls, isLet x) (fun _ _ => ev_c) (ez_imp (ez_sortsetZ h1 (fun xs ⟨ms, g1, g2⟩ => by rw [g2, List.length_map]; have := g1.len sm; omega) (fun xs ⟨ms, g1, g2⟩ ys nd hm => by
      have := nodup_len ys xs nd fun x hx => (hm x).mp hx
      rw [g2, List.length_map] at this
      have := g1.len sm
      omega)) fun v' H' _ ⟨p, ys, g1, g2, xs, ⟨ms, g3, g4⟩, nd, hm, hs⟩ => ?_) (fun ps ⟨ls, e1, e2, _⟩ => by rw [e1, sum_ones]; omega)) fun v1 H1 e1 ⟨ps, ⟨ls, hps, hls, hlet⟩, hv1⟩ => ?_
  · obtain ⟨ls, rfl⟩ := unst ys fun y hy => by
      have := (hm y).mp hy
      rw [g4] at this
      obtain ⟨m, _, rfl⟩ := List.mem_map.mp this
      exact ⟨m.1, rfl⟩
    refine ⟨p, ls.map fun d => [d], g1, by rw [g2, List.map_map, List.map_map]; rfl, ls, rfl, ?_, fun x hx => ?_⟩
    · have := nodup_len _ xs nd fun x hx => (hm x).mp hx
      rw [g4, List.length_map, List.length_map] at this
      have := g3.len sm
      omega
    · have := (hm (St [x])).mp (List.mem_map.mpr ⟨x, hx, rfl⟩)
      rw [g4] at this
      obtain ⟨m, hm1, hm2⟩ := List.mem_map.mp this
      have : m.1 = x := by simpa using st_inj hm2
      rw [← this]
      exact (allM_ok ok m ((g3.mem m).mp hm1)).1
  · have hfl : ps.flatten = ls := by
      rw [hps]
      clear hps hls hlet hv1
      induction ls with
      | nil => rfl
      | cons a b ih => simp [ih]
    subst hv1
    rw [hfl]
    cases hls' : ls with
    | nil => exact s_ret (ev_if (b := false) (et_is (et_test (ev_op (ev_var rfl) ev_c (rv_ne rfl))) (by decide)) (fun h => nomatch h) (fun _ => ev_c (v := .str "a"))) fun H2 e2 => q _ H2 (e1.trans e2) ⟨[97], rfl, by simp, by simp, by simp [isLet]⟩
    | cons a r =>
      refine s_ret (ev_if (b := true) (et_is (et_test (ev_op (ev_var rfl) ev_c (rv_ne rfl))) ?_) (fun _ => ev_var rfl) (fun h => nomatch h)) fun H2 e2 => q _ H2 (e1.trans e2) ⟨a :: r, rfl, by simp, by rw [← hls']; omega, by rw [← hls']; exact hlet⟩
      have : ¬ (V.str (St (a :: r)) = V.str "") := fun e => by
        have e2 := congrArg (fun z : Str => z.cps.toList) (V.str.inj e)
        rw [st_list] at e2
        cases e2
      rw [decide_eq_false this]
      rfl
end
end K64

set_option Elab.async false
set_option linter.all false
set_option maxRecDepth 100000
set_option maxHeartbeats 4000000
/-! W12: _law_kids. -/
namespace K64
open PySem PySem.Spec PyProof.Rows L2 Evl
/-- the roots from the place p on -/
def rts (t : Tr) : Nat → Nat → List Nat
  | 0, _ => []
  | f + 1, p => if p < t.size then p :: rts t f (t.endAt p) else []
theorem endAt_gt (t : Tr) (p : Nat) : p < t.endAt p := by
  unfold Tr.endAt
  have := Tr.size_pos ((t.subs[p]?).getD t)
  omega
theorem rts_fuel (t : Tr) : ∀ (f g p : Nat), t.size ≤ p + f → t.size ≤ p + g → rts t f p = rts t g p
  | 0, 0, _, _, _ => rfl
  | 0, g + 1, p, h, _ => by
    unfold rts
    rw [if_neg (by omega)]
  | f + 1, 0, p, _, h => by
    unfold rts
    rw [if_neg (by omega)]
  | f + 1, g + 1, p, h1, h2 => by
    unfold rts
    have := endAt_gt t p
    rw [rts_fuel t f g (t.endAt p) (by omega) (by omega)]
def roots (t : Tr) (p : Nat) : List Nat := rts t t.size p
theorem roots_at {t s : Tr} {p : Nat} (h : t.subs[p]? = some s) : roots t p = p :: roots t (p + s.size) := by
  have hp := (List.getElem?_eq_some_iff.mp h).1
  rw [Tr.subs_len] at hp
  have he := endAt_gt t p
  unfold roots
  rw [rts_fuel t t.size (t.size + 1) p (by omega) (by omega)]
  conv => lhs; unfold rts
  rw [if_pos hp, ← Tr.endAt_of h]
theorem roots_end {t : Tr} {p : Nat} (h : t.size ≤ p) : roots t p = [] := by
  unfold roots
  cases hs : t.size with
  | zero => rfl
  | succ n =>
    unfold rts
    rw [if_neg (by omega)]
theorem roots_len (t : Tr) : ∀ (f p : Nat), (rts t f p).length ≤ f
  | 0, _ => Nat.le_refl _
  | f + 1, p => by
    unfold rts
    split
    · have := roots_len t f (t.endAt p)
      simp
      omega
    · simp
/-- the roots behind a place: its children first -/
theorem roots_kids {t s : Tr} {p : Nat} (h : t.subs[p]? = some s) : roots t (p + 1) = (s.offs.map fun o => p + o) ++ roots t (p + s.size) := by
  cases s with
  | leaf l => rfl
  | one l a =>
    obtain ⟨k, hk, hs⟩ := Tr.kids_at h (i := 0) (o := 1) rfl
    obtain rfl : a = k := Option.some.inj hk
    rw [roots_at hs]
    simp only [Tr.offs, Tr.size, List.map_cons, List.map_nil, List.cons_append, List.nil_append]
    rw [show p + 1 + a.size = p + (1 + a.size) by omega]
  | two l a b =>
    obtain ⟨k, hk, hs⟩ := Tr.kids_at h (i := 0) (o := 1) rfl
    obtain rfl : a = k := Option.some.inj hk
    obtain ⟨k2, hk2, hs2⟩ := Tr.kids_at h (i := 1) (o := 1 + a.size) rfl
    obtain rfl : b = k2 := Option.some.inj hk2
    rw [roots_at hs, show p + 1 + a.size = p + (1 + a.size) by omega, roots_at hs2]
    simp only [Tr.offs, Tr.size, List.map_cons, List.map_nil, List.cons_append, List.nil_append]
    rw [show p + (1 + a.size) + b.size = p + (1 + a.size + b.size) by omega]
section
variable {K : Fg} {σ : L2.St} {H H' : Hp} {ta tb te tx tc td ty : TE} {t u : TT} {x y z v : V} {r : R2} {wi : TI} {D : Ends} {tz : TS}
/-- [xs.pop() for .. in range(n)] -/
theorem lc_pops {B : Hp} {ol : Addr} {xs ys : List V} {i j : Nat} {vs : List Nat} {tN : TA} (hN : EvA tN σ B [.int (ys.length : Nat)]) (hB : B ol = none) (e : Ex B H) (ho : H ol = some (.lst (xs ++ ys.reverse))) (hz : ys.length ≤ 1000) (hw : ∀ x, wipe ((wipe σ vs).set j (some x)) vs = wipe σ vs) (hv : ∀ x : V, ((wipe σ vs).set j (some x))[i]? = some (some (.ref ol)))
    {Q : VK} (q : ∀ (p : Addr) H2, B p = none → Ex B H2 → H2 p = some (.lst ys) → H2 ol = some (.lst xs) → p ≠ ol → Q (.ref p) H2) : tLc (iRng1 tN) (gName j) tYes (tBM0 K "list" rPop (tVar i)) vs σ H Q := by
  have hH : ∀ H1, Ex B H1 → Ex H H1 → True := fun _ _ _ => trivial
  refine (ei_rng1 (n := ((ys.length : Nat) : Int)) hN (by omega) (by omega)) H e _ fun J G H1 e1 hG w Dl hD => ?_
  have hDo : Dl ≠ ol := fun z => by
    rw [z, e1 ol _ ho] at hD
    cases hD
  refine lc_it w (fun k H' => Ex B H' ∧ H' Dl = some (.lst (ys.take k)) ∧ H' ol = some (.lst (xs ++ (ys.drop k).reverse))) ⟨(e.trans e1).trans (Ex.new hD), upd_same, by rw [upd_ne hDo.symm]; exact e1 ol _ ho⟩ (fun k H' _ p => hG H' p.1) (fun k x H2 H3 hk p y => ?_) (fun H2 p => ?_)
  · obtain ⟨rfl, rfl⟩ := y
    obtain ⟨p1, p2, p3⟩ := p
    have hk' : k < ys.length := hk
    refine ⟨hw _, ?_⟩
    change tBM0 K "list" rPop (tVar i) ((wipe σ vs).set j (some (.int (k : Nat)))) H3 _
    have hd : ys.drop k = ys[k] :: ys.drop (k + 1) := List.drop_eq_getElem_cons hk'
    rw [hd, List.reverse_cons, ← List.append_assoc] at p3
    refine ⟨.ref ol, hv _, Or.inl ⟨rfl, _, sq_of p3⟩, ol, _, ys[k], rfl, rfl, p3, by simp, ?_⟩
    rw [List.dropLast_concat]
    refine ⟨ys.take k, ?_, sz_lt (by rw [List.length_take]; omega), ?_, ?_, ?_⟩
    · rw [upd_ne hDo]; exact p2
    · exact Ex.mut (Ex.mut p1 hB) (fresh_back (e.trans e1) hD)
    · rw [upd_same, List.take_succ, List.getElem?_eq_getElem hk']; rfl
    · rw [upd_ne hDo.symm, upd_same]
  · obtain ⟨p1, p2, p3⟩ := p
    have hk : ((ys.length : Nat) : Int).toNat = ys.length := rfl
    rw [hk, List.take_length] at p2
    rw [hk, List.drop_length, List.reverse_nil, List.append_nil] at p3
    exact q Dl H2 (fresh_back (e.trans e1) hD) p1 p2 p3 hDo
end
section
variable {P : Program} {w : World} {K : Fg} {mg : Str → Option Value} {base : Heap}
def sp_law_kids (K : Fg) : Sp := spP 2 fun vs H Z => ∃ (m : Nat) (t : Tr), vs = [.int m, .str (St t.signs)] ∧ (m = 1 ∨ m = 2) ∧ t.Ok m ∧ t.size ≤ 1000 ∧ Z = fun v H2 => Chi K H2 v t
structure Lk (t : Tr) (H0 : Hp) (fl ol : Addr) (p : Nat) (H : Hp) : Prop where
  ex : Ex H0 H
  fo : ∃ qs, H fl = some (.lst qs) ∧ qs.length = t.size ∧ (∀ (q : Nat) (s : Tr), p ≤ q → t.subs[q]? = some s → ∃ a : Addr, qs[q]? = some (.ref a) ∧ H a = some (.tup (s.offs.map fun o => V.int ((q + o : Nat) : Int)))) ∧ ∀ q, q < p → ∃ a : Addr, qs[q]? = some (.ref a) ∧ H a = some (.tup [])
  op : H ol = some (.lst ((roots t p).reverse.map fun (q : Nat) => V.int (q : Int)))
theorem Lk.mono {t : Tr} {H0 H H' : Hp} {fl ol : Addr} {p : Nat} (e : Ex H H') (h : Lk t H0 fl ol p H) : Lk t H0 fl ol p H' := by
  obtain ⟨h1, ⟨qs, h2, h3, h4, h5⟩, h6⟩ := h
  refine ⟨h1.trans e, ⟨qs, e fl _ h2, h3, fun q s hq hs => ?_, fun q hq => ?_⟩, e ol _ h6⟩
  · obtain ⟨a, g1, g2⟩ := h4 q s hq hs
    exact ⟨a, g1, e a _ g2⟩
  · obtain ⟨a, g1, g2⟩ := h5 q hq
    exact ⟨a, g1, e a _ g2⟩
abbrev N_law_kids : List Str := ["_law_many", "_law_wood", "_law_back", "_law_found", "_law_open_ones", "_law_k", "_law_sign", "_law_lap"]
theorem sc_law_kids : FnScope N_law_kids ["_law_many", "_law_wood"] (defScope s_law_kids) := ⟨rfl, rfl, rfl, by decide +kernel, rfl, by decide +kernel, by decide +kernel⟩
theorem ok_law_kids (G : Fs P K mg) : Okf P w K mg base 1 "_law_kids" ["_law_many", "_law_wood"] [] (sp_law_kids K) := by
  refine mk_ok G.k_law_kids sc_law_kids (fun f fd F => ⟨[], .nil, FunD.bindsN F fun _ _ _ _ _ _ us hl => match us, hl with | [_, _], _ => rfl⟩) (fun vs H Q E h => h.1) ?_
  intro f cdv A outer s H vs Q E hr h
  have nd := sc_law_kids.nd
  refine ⟨_, (pss_cons (ps_asg (pe_tup (pa_cons (pe_lc (g := gName 6) rfl nd (pi_str (pv 1)) (blkOk_by (own := [("_law_sign", 6)]) (N := N_law_kids) (sc := defScope s_law_kids) (by decide +kernel)) (fun _ _ _ _ _ => (pg_name (i := 6) nd rfl (Or.inl rfl))) (fun _ _ _ _ _ => pts_nil) (fun _ _ _ _ _ => (pe_tup pa_nil))) (pa_cons (pe_lst pa_nil) pa_nil))) (pg_tup rfl (pgs_cons (pg_name (i := 3) nd rfl (Or.inl rfl)) (pgs_cons (pg_name (i := 4) nd rfl (Or.inr rfl)) pgs_nil))))
  (pss_cons (ps_for PassesOwn.never rfl (pi_range1 rfl G.f_range (pa_cons (pe_callB call_len_str rfl G.f_len boot_len (pa_cons (pv 1) pa_nil)) pa_nil)) (pg_name (i := 2) nd rfl (Or.inl rfl))
  (pss_cons (ps_set (i := 5) nd rfl (Or.inl rfl) (pe_op op_sub (pe_op op_sub (pe_callB call_len_str rfl G.f_len boot_len (pa_cons (pv 1) pa_nil)) pe_int) (pv 2)))
  (pss_cons (ps_if (pt_val (pe_bm0 F.plainAttrs_str F.slot_str_isupper F.type_str_isupper mt_isupper (pe_ix ix_str (pv 1) (pv 5) (fun _ _ => rfl)))) (pss_one (ps_asg (pe_callTy call_tuple_of rfl G.f_tuple boot_tuple (pa_cons (pe_lc (g := gName 7) rfl nd (pi_range1 rfl G.f_range (pa_cons (pv 0) pa_nil)) (blkOk_by (own := [("_law_lap", 7)]) (N := N_law_kids) (sc := defScope s_law_kids) (by decide +kernel)) (fun _ _ _ _ _ => (pg_name (i := 7) nd rfl (Or.inl rfl))) (fun _ _ _ _ _ => pts_nil) (fun _ _ _ _ _ => (pe_popK (K := K) rfl (pv 4)))) pa_nil)) (pg_sub (pv 3) (pv 5) set_list))) pss_nil)
  (pss_one (ps_expr (pe_bm F.plainAttrs_list F.slot_list_append F.type_list_append mt_append (pv 4) (pa_cons (pv 5) pa_nil)))))))
  (pss_one (ps_ret (pv 3))))), ?_⟩
  obtain ⟨hl, Z, ⟨m, t, rfl, hm, ht, hz, rfl⟩, q⟩ := h
  have hlen : (St t.signs).length = t.size := by rw [st_len, Tr.signs_len]
  have elen : ∀ {σ : L2.St} {H : Hp}, σ[1]? = some (some (.str (St t.signs))) → Ev (tCB rLenC (tCons (tVar 1) tNil)) σ H (.int (t.size : Nat)) := fun hs => ev_is (ev_cb (ea1 (ev_var hs)) (rc_lenC (by rw [hlen]; omega))) (by rw [hlen])
  have hpos := Tr.size_pos t
  refine q_pairZ (Z1 := fun v H' => ∃ (fl : Addr) (ps : List Addr), v = .ref fl ∧ H fl = none ∧ H' fl = some (.lst (ps.map V.ref)) ∧ ps.length = t.size ∧ ∀ (i : Nat) (p : Addr), ps[i]? = some p → H' p = some (.tup [])) (Z2 := fun v H' => ∃ ol : Addr, v = .ref ol ∧ H ol = none ∧ H' ol = some (.lst []))
    (fun H1 e Q1 q1 => el_lcF (σ := start N_law_kids [.int m, .str (St t.signs)]) (H := H) (j := 6) (vs := [6]) (f := fun i => (t.signs.map sg).getD i .non) (fun _ => .tup []) (ei_str (te := tVar 1) (ev_var rfl)).j (by rw [st_size, Tr.signs_len]; omega) (fun i H1 x H2 hi y => by
        rw [sgn_st] at y
        rw [st_size] at hi
        exact yat_get (by simpa using hi) y) (fun _ => rfl) (fun i H2 e hi => ef_tup ea_nil (by decide)) H1 e _ fun l ps H2 hl0 e2 h2 hpn hps _ => q1 _ H2 e2 ⟨l, ps, rfl, fresh_back e hl0, h2, by rw [hpn, st_size, Tr.signs_len], fun i p hp => (hps i p hp).2.2⟩)
    (fun H1 e Q1 q1 => (el_lst (H := H) (σ := start N_law_kids [.int m, .str (St t.signs)]) ea_nil (by decide)) H1 e _ fun p H2 hp e2 h2 => q1 _ H2 e2 ⟨p, rfl, fresh_back e hp, h2⟩)
    (fun v H1 H2 e ⟨fl, ps, g1, g2, g3, g4, g5⟩ => ⟨fl, ps, g1, g2, e fl _ g3, g4, fun i p hp => e p _ (g5 i p hp)⟩) (fun v H1 H2 e ⟨ol, g1, g2, g3⟩ => ⟨ol, g1, g2, e ol _ g3⟩) fun v1 v2 H1 e1 ⟨fl, ps, hv1, hfl0, hfl, hpn, hps⟩ ⟨ol, hv2, hol0, hol⟩ => ?_
  subst hv1 hv2
  have hflo : fl ≠ ol := by
    intro e
    rw [e, hol] at hfl
    have h1 := HO.lst.inj (Option.some.inj hfl)
    have h2 := congrArg List.length h1
    simp at h2
    omega
  refine q_forI (H := H) (ei_rng1 (ea1 (elen rfl)) (by omega) (by omega)) e1 (fun i σ' H' => Lk t H fl ol (t.size - i) H' ∧ ∃ x2 x5 x6 x7, σ' = [some (.int m), some (.str (St t.signs)), x2, some (.ref fl), some (.ref ol), x5, x6, x7])
    (fun H2 e2 => ⟨⟨e1.trans e2, ⟨_, e2 fl _ hfl, by simp [hpn], fun q s hq hs => absurd ((List.getElem?_eq_some_iff.mp hs).1) (by rw [Tr.subs_len]; omega), fun q hq => ⟨ps[q]'(by omega), by simp [show q < ps.length by omega], e2 _ _ (hps q _ (List.getElem?_eq_getElem (by omega)))⟩⟩, by rw [e2 ol _ hol, roots_end (by omega)]; rfl⟩, none, none, none, none, rfl⟩) (fun i σ' H2 hi p => p.1.ex) (fun i x σ' H2 H3 hi pv y => ?_) (fun σ' H2 pv => ?_)
  · obtain ⟨lk, x2, x5, x6, x7, rfl⟩ := pv
    obtain ⟨rfl, rfl⟩ := y
    have hi' : i < t.size := hi
    obtain ⟨pp, hpp⟩ : ∃ pp : Nat, pp + i + 1 = t.size := ⟨t.size - 1 - i, by omega⟩
    obtain ⟨s', hs⟩ := Tr.sub_ex (t := t) (p := pp) (by omega)
    have hos := Tr.ok_at ht hs
    rw [show t.size - i = pp + 1 by omega] at lk
    refine q_asg (v := .int (pp : Nat)) (ev_is (ev_op (ev_op (elen rfl) ev_c rv_I0) (ev_var rfl) rv_I0) (by rw [show (t.size : Int) - 1 - (i : Nat) = (pp : Nat) by omega])) fun H4 e4 => ?_
    have lk4 := lk.mono e4
    show tSeq _ _ _ [some (.int m), some (.str (St t.signs)), some (.int (i : Nat)), some (.ref fl), some (.ref ol), some (.int (pp : Nat)), x6, x7] H4
    have hrk := roots_kids hs
    -- the last statement
    have fin : ∀ (H5 : Hp) (D : Ends), Ex H H5 → (∃ qs, H5 fl = some (.lst qs) ∧ qs.length = t.size ∧ (∀ (q : Nat) (s : Tr), pp ≤ q → t.subs[q]? = some s → ∃ a : Addr, qs[q]? = some (.ref a) ∧ H5 a = some (.tup (s.offs.map fun o => V.int ((q + o : Nat) : Int)))) ∧ ∀ q, q < pp → ∃ a : Addr, qs[q]? = some (.ref a) ∧ H5 a = some (.tup [])) → H5 ol = some (.lst ((roots t (pp + s'.size)).reverse.map fun (q : Nat) => V.int (q : Int))) →
        (∀ σ' H', (Lk t H fl ol (t.size - (i + 1)) H' ∧ ∃ x2 x5 x6 x7, σ' = [some (.int m), some (.str (St t.signs)), x2, some (.ref fl), some (.ref ol), x5, x6, x7]) → D.nx σ' H') → tDrop (tBM K "list" rAppend (tVar 4) (tCons (tVar 5) tNil)) D [some (.int m), some (.str (St t.signs)), some (.int (i : Nat)), some (.ref fl), some (.ref ol), some (.int (pp : Nat)), x6, x7] H5 := by
      intro H5 D e5 ⟨qs, g1, g2, g3, g4⟩ ho hD
      have hrl : (roots t (pp + s'.size)).length ≤ t.size := roots_len t t.size _
      refine s_app (K := K) ho (ev_var rfl) (ev_var rfl) (by rw [List.length_map, List.length_reverse]; omega) fun H6 e6 => hD _ _ ⟨?_, _, _, _, _, rfl⟩
      rw [show t.size - (i + 1) = pp by omega]
      have hne : ∀ {a : Addr} {xs : List V}, H5 a = some (.tup xs) → a ≠ ol := by
        intro a xs ha e
        rw [e, ho] at ha
        cases ha
      refine ⟨Ex.mut (e5.trans e6) hol0, ⟨qs, by rw [upd_ne hflo]; exact e6 fl _ g1, g2, fun q s hq hs2 => ?_, fun q hq => ?_⟩, ?_⟩
      · obtain ⟨a, f1, f2⟩ := g3 q s hq hs2
        exact ⟨a, f1, by rw [upd_ne (hne f2)]; exact e6 a _ f2⟩
      · obtain ⟨a, f1, f2⟩ := g4 q hq
        exact ⟨a, f1, by rw [upd_ne (hne f2)]; exact e6 a _ f2⟩
      · rw [upd_same, roots_at hs]
        simp
    obtain ⟨h1, ⟨qs, g1, g2, g3, g4⟩, h6⟩ := lk4
    refine q_if (b := decide (s'.kids ≠ [])) (et_is (et_B (b := Txt.isupper ⟨#[s'.sign]⟩) fun H5 e5 Q5 q5 => ?_) (sign_up hos)) (fun hb H5 e5 => ?_) (fun hb H5 e5 => ?_)
    · have hx : Ev (tOp rIxS (tVar 1) (tVar 5)) [some (.int m), some (.str (St t.signs)), some (.int (i : Nat)), some (.ref fl), some (.ref ol), some (.int (pp : Nat)), x6, x7] H4 (.str ⟨#[s'.sign]⟩) := ev_op (ev_var rfl) (ev_var rfl) (rv_ixC (Tr.sign_at hs) (by rw [Tr.signs_len]; omega))
      exact hx H5 e5 _ fun H6 e6 => ⟨rfl, _, rfl, rfl, trivial, q5 H6 e6⟩
    · have hkn := of_decide_eq_true hb
      have hkm : s'.offs.length = m := by
        rw [offs_len, Tr.kids_len hos]
        have := Tr.sign_cap hos
        rw [if_pos (of_decide_eq_true (by rw [this, decide_eq_true hkn]))]
      have h65 := e5 ol _ h6
      have hstk : ((roots t (pp + 1)).reverse.map fun (q : Nat) => V.int (q : Int)) = ((roots t (pp + s'.size)).reverse.map fun (q : Nat) => V.int (q : Int)) ++ (s'.offs.map fun o => V.int ((pp + o : Nat) : Int)).reverse := by
        rw [hrk, List.reverse_append, List.map_append, List.map_reverse, List.map_reverse, List.map_map]
        rfl
      rw [hstk] at h65
      unfold tAsg tCB tCons
      refine lc_pops (K := K) (B := del H5 ol) (ys := s'.offs.map fun o => V.int ((pp + o : Nat) : Int)) (ea1 (ev_is (ev_var (v := .int (m : Nat)) rfl) (by rw [List.length_map, hkm]))) del_same (ex_del (Ex.refl _)) h65 (by rw [List.length_map]; omega) (fun _ => rfl) (fun _ => rfl) fun p6 H6 hp60 e6 hp6 ho6 hpo => ?_
      have keep : ∀ {b : Addr} {o : HO}, b ≠ ol → H5 b = some o → H6 b = some o := fun hb ho => e6 _ _ (by rw [del_ne hb]; exact ho)
      have hfl6 := keep hflo (e5 fl _ g1)
      refine ⟨p6, _, rfl, .inl ⟨sq_of hp6, fun l hl => ?_⟩⟩
      have hlf : l ≠ fl := fun e => by rw [e, hfl6] at hl; cases hl
      have hlo : l ≠ ol := fun e => by rw [e, ho6] at hl; cases hl
      have hqpp : pp < qs.length := by omega
      refine ⟨_, rfl, _, rfl, fl, qs, (pp : Int), pp, rfl, rfl, by rw [upd_ne hlf.symm]; exact hfl6, ixN_nat hqpp, ?_⟩
      have ne2 : ∀ {a : Addr} {ys : List V}, H4 a = some (.tup ys) → a ≠ ol ∧ a ≠ fl ∧ a ≠ l := by
        intro a ys ha
        have hao : a ≠ ol := fun e => by rw [e, h6] at ha; cases ha
        refine ⟨hao, (fun e => by rw [e, g1] at ha; cases ha), fun e => ?_⟩
        have := keep hao (e5 a _ ha)
        rw [e, hl] at this
        cases this
      refine fin _ _ (fun b o hb => ?_) ⟨_, upd_same, by rw [List.length_set]; exact g2, fun q s hq hs2 => ?_, fun q hq => ?_⟩ ?_ fun σ' H' g => g
      · have h5 := (h1.trans e5) b o hb
        have hbo : b ≠ ol := fun e => by rw [e, hol0] at hb; cases hb
        have hbf : b ≠ fl := fun e => by rw [e, hfl0] at hb; cases hb
        have h6' := keep hbo h5
        have hbl : b ≠ l := fun e => by rw [e, hl] at h6'; cases h6'
        rw [upd_ne hbf, upd_ne hbl]
        exact h6'
      · by_cases hqp : q = pp
        · subst hqp
          rw [hs] at hs2
          cases hs2
          exact ⟨l, by rw [List.getElem?_set_self hqpp], by rw [upd_ne hlf, upd_same]⟩
        · obtain ⟨a, f1, f2⟩ := g3 q s (by omega) hs2
          obtain ⟨n1, n2, n3⟩ := ne2 f2
          exact ⟨a, by rw [List.getElem?_set_ne (by omega)]; exact f1, by rw [upd_ne n2, upd_ne n3]; exact keep n1 (e5 a _ f2)⟩
      · obtain ⟨a, f1, f2⟩ := g4 q (by omega)
        obtain ⟨n1, n2, n3⟩ := ne2 f2
        exact ⟨a, by rw [List.getElem?_set_ne (by omega)]; exact f1, by rw [upd_ne n2, upd_ne n3]; exact keep n1 (e5 a _ f2)⟩
      · rw [upd_ne hflo.symm, upd_ne hlo.symm]
        exact ho6
    · have hkn : s'.kids = [] := by simpa using hb
      have hoff : s'.offs = [] := by
        have := offs_len s'
        rw [hkn] at this
        exact List.eq_nil_of_length_eq_zero this
      refine fin H5 _ (h1.trans e5) ⟨qs, e5 fl _ g1, g2, fun q s hq hs2 => ?_, fun q hq => ?_⟩ ?_ fun σ' H' g => g
      · by_cases hqp : q = pp
        · subst hqp
          rw [hs] at hs2
          cases hs2
          obtain ⟨a, f1, f2⟩ := g4 q (by omega)
          exact ⟨a, f1, by rw [hoff]; exact e5 a _ f2⟩
        · obtain ⟨a, f1, f2⟩ := g3 q s (by omega) hs2
          exact ⟨a, f1, e5 a _ f2⟩
      · obtain ⟨a, f1, f2⟩ := g4 q (by omega)
        exact ⟨a, f1, e5 a _ f2⟩
      · rw [hrk, hoff] at h6
        exact e5 ol _ h6
  · obtain ⟨lk, x2, x5, x6, x7, rfl⟩ := pv
    have hk : ((t.size : Nat) : Int).toNat = t.size := rfl
    rw [hk, Nat.sub_self] at lk
    obtain ⟨h1, ⟨qs, g1, g2, g3, g4⟩, h6⟩ := lk
    refine s_ret (ev_var rfl) fun H3 e3 => q _ H3 (h1.trans e3) ⟨fl, qs, rfl, sq_of (e3 fl _ g1), g2, fun p s hs => ?_⟩
    obtain ⟨a, f1, f2⟩ := g3 p s (Nat.zero_le _) hs
    exact ⟨a, f1, st_of (e3 a _ f2)⟩
end
end K64

set_option Elab.async false
set_option linter.all false
set_option maxRecDepth 100000
set_option maxHeartbeats 4000000
/-! W13: _law_cries, _law_right. -/
namespace K64
open PySem PySem.Spec PyProof.Rows L2 Evl
def mkAt (t : Tr) (w : List Nat) (j : Nat) : Mk := (((t.subs[j]?).getD t).lab, w.getD j 0)
def marksAt (t s : Tr) (w : List Nat) (p : Nat) : List Mk := mkAt t w p :: s.offs.map fun o => mkAt t w (p + o)
/-- what stands at the place is let -/
def letAt (c : Ck) (t : Tr) (w : List Nat) (p : Nat) : Bool := if ((t.subs[p]?).getD t).kids = [] then decide (mkAt t w p ∈ c.leaves) else decide (marksAt t ((t.subs[p]?).getD t) w p ∈ c.rows)
def goodP (c : Ck) (t : Tr) (w : List Nat) (p : Nat) : Bool := letAt c t w p && (decide (0 < p) || decide (mkAt t w p ∈ c.tops))
def rightB (c : Ck) (t : Tr) (w : List Nat) : Bool := (List.range t.size).all (goodP c t w)
theorem rowT_inj : ∀ a b : List Mk, rowT a = rowT b → a = b
  | [], [], _ => rfl
  | [], m :: r, h => by have := st_inj h; simp at this
  | m :: r, [], h => by have := st_inj h; simp at this
  | m :: r, n :: q, h => by
    have h1 := st_inj h
    simp only [List.flatMap_cons, List.cons_append, List.nil_append, List.cons.injEq] at h1
    have h2 := rowT_inj r q (by unfold rowT; rw [h1.2.2])
    rw [h2, Prod.ext h1.1 h1.2.1]
theorem row_in (r : List Mk) (rows : List (List Mk)) : inV (.str (rowT r)) (rows.map fun q => V.str (rowT q)) = decide (r ∈ rows) := by
  have e : (rows.map fun q => V.str (rowT q)) = (rows.map rowT).map V.str := by rw [List.map_map]; rfl
  rw [e, inV_str]
  have : rowT r ∈ rows.map rowT ↔ r ∈ rows := ⟨fun h => by
    obtain ⟨q, h1, h2⟩ := List.mem_map.mp h
    rw [← rowT_inj q r h2]
    exact h1, fun h => List.mem_map.mpr ⟨r, h, rfl⟩⟩
  simp only [this]
section
variable {K : Fg} {σ : L2.St} {H H' : Hp} {ta tb te tx tc td ty : TE} {t u : TT} {x y z v : V} {r : R2} {wi : TI} {D : Ends} {tz : TS}
theorem es_catA {xs ys : List V} (ha : EvS K ta σ H xs) (hb : EvS K tb σ H ys) (hz : xs.length + ys.length ≤ 100000) : EvS K (tOp (rCatA K) ta tb) σ H (xs ++ ys) := fun H1 e Q q =>
  ha H1 e _ fun a H2 e2 h2 => hb H2 (e.trans e2) _ fun b H3 e3 h3 => ⟨a, b, xs, ys, rfl, rfl, ex_t e3 h2, h3, sz_of hz, fun hx => q b H3 (e2.trans e3) (by rw [hx]; exact h3), fun _ hy => q a H3 (e2.trans e3) (by rw [hy, List.append_nil]; exact ex_t e3 h2), fun _ _ p hp => q p _ ((e2.trans e3).trans (Ex.new hp)) (st_of upd_same)⟩
theorem ej_tupS {xs : List V} (h : EvS K te σ H xs) : EvJ (iTup K te) σ H xs.length (YAt xs) := fun H1 e R q =>
  h H1 e _ fun a H2 e2 hx => ⟨a, rfl, ⟨xs, hx⟩, q _ _ H2 e2 (fun H3 e3 => ex_t e3 hx) walk_tup⟩
theorem ev_neNilT {p : Addr} {xs : List V} {ds : List PyData} (ha : Ev ta σ H (.ref p)) (hp : SqT K H p xs) (hd : DpAll K H xs ds) (hs : SeqAt.shaped (.tuple ds) = true) (hb : EvU tb σ H []) : Ev (tOp (rNeD K) ta tb) σ H (.bl (!decide (ds = []))) :=
  ev_opU ha hb fun q H1 hq e H2 e2 Q k => ⟨.tuple ds, .tuple [], .tup (ex_t (e.trans e2) hp) (dpa_ex (e.trans e2) hd), .tup (st_of (e2 q _ hq)) .nil, hs, by decide, by
    have : PyData.eqv (.tuple ds) (.tuple []) = decide (ds = []) := by cases ds <;> rfl
    rw [this]; exact k H2 (Ex.refl H2)⟩
theorem shaped_intsT (ns : List Int) : SeqAt.shaped (.tuple (ns.map PyData.int)) = true := by
  unfold SeqAt.shaped
  rw [PyData.canLay0, canl_ints, PyData.depth, dep_flat PyData.int (fun _ => rfl)]
  rfl
theorem q_parZL {Z : V → Hp → Prop} {i j : Nat} {xs : List V} (ha : EvZ ta σ H Z) (hb : EvL tb σ H xs) (s1 : ∀ v H H', Ex H H' → Z v H → Z v H') (k : ∀ v1 p H1, Ex H H1 → Z v1 H1 → H p = none → H1 p = some (.lst xs) → tz D ((σ.set i (some v1)).set j (some (.ref p))) H1) : tSeq (tPar i j (tCons ta (tCons tb tNil))) tz D σ H :=
  ha H (Ex.refl H) _ fun v1 H1 e1 z1 => hb H1 e1 _ fun p H2 hp e2 h2 => ⟨v1, .ref p, rfl, k v1 p H2 (e1.trans e2) (s1 v1 H1 H2 e2 z1) (fresh_back e1 hp) h2⟩
end
theorem shaped_flat {n : Nat} {f : Nat → Int} : True := trivial
section
variable {P : Program} {w : World} {K : Fg} {mg : Str → Option Value} {base : Heap}
def sp_law_cries (K : Fg) : Sp := spP 3 fun vs H Z => ∃ v c t w, vs = [v, .str (St t.signs), .str (St w)] ∧ ChkV K H v c ∧ c.Ok ∧ t.Ok c.many ∧ t.size ≤ 1000 ∧ w.length = t.size ∧ (∀ x ∈ w, isDig x) ∧ Z = fun v H2 => ∃ (p : Addr) (ns : List Int), v = .ref p ∧ H2 p = some (.lst (ns.map V.int)) ∧ (decide (ns = []) = rightB c t w)
abbrev N_law_cries : List Str := ["_law_table", "_law_wood", "_law_laid_here", "_law_k", "_law_kids_here", "_law_found", "_law_marks_here", "_law_is_open", "_law_is_let", "_law_j", "_law_mark"]
theorem sc_law_cries : FnScope N_law_cries ["_law_table", "_law_wood", "_law_laid_here"] (defScope s_law_cries) := ⟨rfl, rfl, rfl, by decide +kernel, rfl, by decide +kernel, by decide +kernel⟩
theorem ok_law_cries (G : Fs P K mg) : Okf P w K mg base 2 "_law_cries" ["_law_table", "_law_wood", "_law_laid_here"] [] (sp_law_cries K) := by
  refine mk_ok G.k_law_cries sc_law_cries (fun f fd F => ⟨[], .nil, FunD.bindsN F fun _ _ _ _ _ _ us hl => match us, hl with | [_, _, _], _ => rfl⟩) (fun vs H Q E h => h.1) ?_
  intro f cdv A outer s H vs Q E hr h
  have nd := sc_law_cries.nd
  refine ⟨_, (pss_cons (ps_par (i := 4) (j := 5) rfl nd rfl rfl (by decide) rfl rfl (pa_cons (pe_ok (ok_law_kids G) hr (by decide) rfl (pa_cons (pe_ix ix_tup (pv 0) pe_int (fun _ _ => rfl)) (pa_cons (pv 1) pa_nil))) (pa_cons (pe_lst pa_nil) pa_nil)) (by rfl))
  (pss_cons (ps_for PassesOwn.never rfl (pi_range1 rfl G.f_range (pa_cons (pe_callB call_len_str rfl G.f_len boot_len (pa_cons (pv 1) pa_nil)) pa_nil)) (pg_name (i := 3) nd rfl (Or.inl rfl))
  (pss_cons (ps_setLc (i := 6) (g := gName 9) rfl nd rfl rfl (sw_true rfl rfl rfl (by decide +kernel)) (pi_tup (pe_op op_catA (pe_tup (pa_cons (pv 3) pa_nil)) (pe_ix ix_list (pv 4) (pv 3) (fun _ _ => rfl)))) (blkOk_by (own := [("_law_j", 9)]) (N := N_law_cries) (sc := defScope s_law_cries) (by decide +kernel)) (fun _ _ _ _ _ => (pg_name (i := 9) nd rfl (Or.inl rfl))) (fun _ _ _ _ _ => pts_nil) (fun _ _ _ _ _ => (pe_op op_add_str (pe_lower (pe_ix ix_str (pv 1) (pv 9) (fun _ _ => rfl))) (pe_ix ix_str (pv 2) (pv 9) (fun _ _ => rfl)))))
  (pss_cons (ps_set (i := 7) nd rfl (Or.inl rfl) (pe_cmpR (op_neD (hu64 hr)) (pe_lc (g := gName 10) rfl nd (pi_list (pv 6)) (blkOk_by (own := [("_law_mark", 10)]) (N := N_law_cries) (sc := defScope s_law_cries) (by decide +kernel)) (fun _ _ _ _ _ => (pg_name (i := 10) nd rfl (Or.inl rfl))) (fun _ _ _ _ _ => (pts_one (pt_cmpR op_eq (pe_ix ix_str (pv 10) pe_int (fun _ _ => rfl)) pe_str (nomark _)))) (fun _ _ _ _ _ => (pv 10))) (pe_lst pa_nil) (nomark _)))
  (pss_cons (ps_set (i := 8) nd rfl (Or.inl rfl) (pe_cmpR op_in_seq (pe_join pe_str (pv 6)) (pe_ifExp (pt_cmpR (op_neD (hu64 hr)) (pe_ix ix_list (pv 4) (pv 3) (fun _ _ => rfl)) (pe_tup pa_nil) (nomark _)) (pe_ix ix_tup (pv 0) pe_int (fun _ _ => rfl)) (pe_ix ix_tup (pv 0) pe_int (fun _ _ => rfl))) rfl))
  (pss_one (ps_if (PW.pt (pw_and (pt_not (pt_val (pv 7))) (pw_and1 (pt_not (PW.pt (pw_and (pt_val (pv 8)) (pw_and1 (PW.pt (pw_or (pt_cmpR op_gt (pv 3) pe_int (nomark _)) (pw_or1 (pt_cmpR op_in_seq (pe_ix ix_list (pv 6) pe_int (fun _ _ => rfl)) (pe_ix ix_tup (pv 0) pe_int (fun _ _ => rfl)) rfl))))))))))) (pss_one (ps_expr (pe_bm F.plainAttrs_list F.slot_list_append F.type_list_append mt_append (pv 5) (pa_cons (pv 3) pa_nil)))) pss_nil))))))
  (pss_one (ps_ret (pv 5))))), ?_⟩
  obtain ⟨hl, Z, ⟨v, c, t, w', rfl, hc, ok, ht, hz, hw, hdg, rfl⟩, q⟩ := h
  have hc0 := hc
  obtain ⟨p, a, b, r, rfl, hp, ha, hb, hr'⟩ := hc0
  have om := ok.many
  refine q_parZL (ez_call (ea2 (ev_op (ev_var rfl) ev_c (rv_ixTn (j := 0) hp rfl)) (ev_var rfl)) rfl fun H1 e => ⟨c.many, t, rfl, ok.many, ht, hz, rfl⟩) (el_lst ea_nil (by decide)) (fun v H H' e h => Chi.mono e h) fun kv fl H1 e1 hChi hfl0 hfl => ?_
  obtain ⟨lch, qch, rfl, hq1, hq2, hq3⟩ := hChi
  have elen : ∀ {σ : L2.St} {H : Hp}, σ[1]? = some (some (.str (St t.signs))) → Ev (tCB rLenC (tCons (tVar 1) tNil)) σ H (.int (t.size : Nat)) := fun hs => ev_is (ev_cb (ea1 (ev_var hs)) (rc_lenC (by rw [st_len, Tr.signs_len]; omega))) (by rw [st_len, Tr.signs_len])
  -- what H1 holds but the list itself
  have hB : del H1 fl fl = none := del_same
  have nfl : ∀ {x : Addr} {xs : List V}, SqT K H1 x xs → SqT K (del H1 fl) x xs := by
    intro x xs h
    rcases h with (h | ⟨o, h⟩) | h
    · exact .inl (.inl (by rw [del_ne (fun e => by rw [e, hfl] at h; cases h)]; exact h))
    · exact .inl (.inr ⟨o, by rw [del_ne (fun e => by rw [e, hfl] at h; cases h)]; exact h⟩)
    · exact .inr h
  have hp1 := nfl (ex_t e1 hp)
  have ha1 := nfl (ex_t e1 ha)
  have hb1 := nfl (ex_t e1 hb)
  have hr1 := nfl (ex_t e1 hr')
  have hch1 : t.size = 0 ∨ SqL K (del H1 fl) lch qch := by
    rcases hq1 with (h | ⟨o, h⟩) | h
    · by_cases hlf : lch = fl
      · rw [hlf, hfl] at h
        have := HO.lst.inj (Option.some.inj h)
        left
        rw [← hq2, ← this]
        rfl
      · exact .inr (.inl (.inl (by rw [del_ne hlf]; exact h)))
    · exact .inr (.inl (.inr ⟨o, by rw [del_ne (fun e => by rw [e, hfl] at h; cases h)]; exact h⟩))
    · exact .inr (.inr h)
  have hpos := Tr.size_pos t
  have hch : SqL K (del H1 fl) lch qch := by
    rcases hch1 with h | h
    · omega
    · exact h
  refine q_forI (H := del H1 fl) (ei_rng1 (ea1 (elen rfl)) (by omega) (by omega)) (ex_del (Ex.refl _)) (fun i σ' H' => Ex (del H1 fl) H' ∧ H' fl = some (.lst (((List.range i).filter fun p => !goodP c t w' p).map fun (k : Nat) => V.int (k : Int))) ∧ ∃ x3 x6 x7 x8 x9 x10, σ' = [some (.ref p), some (.str (St t.signs)), some (.str (St w')), x3, some (.ref lch), some (.ref fl), x6, x7, x8, x9, x10])
    (fun H2 e2 => ⟨(ex_del (Ex.refl _)).trans e2, e2 fl _ hfl, none, none, none, none, none, none, rfl⟩) (fun i σ' H2 hi p => p.1) (fun i x σ' H2 H3 hi pv y => ?_) (fun σ' H2 pv => ?_)
  · obtain ⟨e3, h3, x3, x6, x7, x8, x9, x10, rfl⟩ := pv
    obtain ⟨rfl, rfl⟩ := y
    have hi' : i < t.size := hi
    obtain ⟨s', hs⟩ := Tr.sub_ex (t := t) (p := i) hi'
    have hos := Tr.ok_at ht hs
    obtain ⟨cha, hc1, hc2⟩ := hq3 i s' hs
    have hc3 := nfl hc2
    have hol : s'.offs.length ≤ 2 := by rw [offs_len, Tr.kids_len hos]; split <;> omega
    show tSeq _ _ _ [some (.ref p), some (.str (St t.signs)), some (.str (St w')), some (.int (i : Nat)), some (.ref lch), some (.ref fl), x6, x7, x8, x9, x10] H3
    have hsub : (t.subs[i]?).getD t = s' := by rw [hs]; rfl
    -- the places
    let js : List Nat := i :: s'.offs.map (fun o => i + o)
    have hjs : ∀ j ∈ js, ∃ k, t.subs[j]? = some k := by
      intro j hj
      rcases List.mem_cons.mp hj with rfl | hj
      · exact ⟨s', hs⟩
      · obtain ⟨o, ho, rfl⟩ := List.mem_map.mp hj
        obtain ⟨n, hn⟩ := List.getElem?_of_mem ho
        obtain ⟨k, _, hk⟩ := Tr.kids_at hs hn
        exact ⟨k, hk⟩
    have hkidv : ∀ {σ : L2.St} {H : Hp}, Ex (del H1 fl) H → σ[4]? = some (some (.ref lch)) → σ[3]? = some (some (.int (i : Nat))) → Ev (tOp (rIxL K) (tVar 4) (tVar 3)) σ H (.ref cha) := fun e h4 h3 => ev_op (ev_var h4) (ev_var h3) (rv_ixLn (ex_l e hch) hc1)
    have hmarks : EvL (tLc (iTup K (tOp (rCatA K) (tTup (tCons (tVar 3) tNil)) (tOp (rIxL K) (tVar 4) (tVar 3)))) (gName 9) tYes (tOp rAddS (tM0 (fun x xs H Q => ∃ a, x = V.str a ∧ xs = [] ∧ a.length ≤ 5592405 ∧ Q (.str (Txt.lower a)) H) (tOp rIxS (tVar 1) (tVar 9))) (tOp rIxS (tVar 2) (tVar 9))) [9]) [some (.ref p), some (.str (St t.signs)), some (.str (St w')), some (.int (i : Nat)), some (.ref lch), some (.ref fl), x6, x7, x8, x9, x10] H3 ((marksAt t s' w' i).map mkV) := by
      have hsrc := es_catA (K := K) (ta := tTup (tCons (tVar 3) tNil)) (tb := tOp (rIxL K) (tVar 4) (tVar 3)) (σ := [some (.ref p), some (.str (St t.signs)), some (.str (St w')), some (.int (i : Nat)), some (.ref lch), some (.ref fl), x6, x7, x8, x9, x10]) (H := H3) (es_u (eu_tup (ea1 (ev_var (v := .int (i : Nat)) rfl)) (by show 1 ≤ 100000; omega))) (es_ev (hkidv e3 rfl rfl) (ex_t e3 hc3)) (by simp; omega)
      have ejs : ([V.int (i : Nat)] ++ s'.offs.map fun o => V.int ((i + o : Nat) : Int)) = js.map fun (j : Nat) => V.int (j : Int) := by
        simp only [js, List.map_cons, List.map_map]
        rfl
      rw [ejs] at hsrc
      have g := el_lc (vs := [9]) (j := 9) (t := tYes) (te := tOp rAddS (tM0 (fun x xs H Q => ∃ a, x = V.str a ∧ xs = [] ∧ a.length ≤ 5592405 ∧ Q (.str (Txt.lower a)) H) (tOp rIxS (tVar 1) (tVar 9))) (tOp rIxS (tVar 2) (tVar 9))) (fun _ => true) (fun k => mkV (mkAt t w' (js.getD k 0))) (f := fun k => (js.map fun (j : Nat) => V.int (j : Int)).getD k .non) (ej_tupS hsrc) (by simp [js]; omega) (fun i H1 x H2 hi y => yat_get hi y) (fun _ => rfl) (fun _ _ _ _ => et_yes) fun k H4 e4 hk _ => by
        have hk' : k < js.length := by simpa using hk
        have hjk : (js.map fun (j : Nat) => V.int (j : Int)).getD k .non = .int ((js[k] : Nat) : Int) := by simp [List.getD, hk']
        have hjk2 : js.getD k 0 = js[k] := by simp [List.getD, hk']
        obtain ⟨kk, hkk⟩ := hjs _ (List.getElem_mem hk')
        have hkp := (List.getElem?_eq_some_iff.mp hkk).1
        rw [Tr.subs_len] at hkp
        have hm : mkAt t w' js[k] = (kk.lab, w'[js[k]]'(by omega)) := by
          unfold mkAt
          rw [hkk]
          simp [List.getD, show js[k] < w'.length by omega]
        rw [hjk, hjk2, hm]
        refine ev_mk (ev_tm0 (a := ⟨#[kk.sign]⟩) (ev_op (x := .str (St t.signs)) (y := .int ((js[k] : Nat) : Int)) (ev_var rfl) (ev_var rfl) (rv_ixC (Tr.sign_at hkk) (by rw [Tr.signs_len]; omega))) fun H5 e5 Q5 q5 => ⟨_, rfl, rfl, by show 1 ≤ 5592405; omega, by rw [sign_low (Tr.ok_at ht hkk)]; exact q5 H5 (Ex.refl _)⟩) (ev_op (x := .str (St w')) (y := .int ((js[k] : Nat) : Int)) (ev_var rfl) (ev_var rfl) (rv_ixC (List.getElem?_eq_getElem (by omega)) (by omega)))
      rw [List.length_map, given_list js (fun _ => true) (fun j => mkV (mkAt t w' j)) _ _ (fun _ _ => rfl) (fun k hk => by simp [List.getD, hk]), List.filter_eq_self.mpr (fun _ _ => rfl)] at g
      have e2 : js.map (fun j => mkV (mkAt t w' j)) = (marksAt t s' w' i).map mkV := by
        simp only [js, marksAt, List.map_cons, List.map_map]
        rfl
      rw [← e2]
      exact g
    refine q_asgL hmarks fun mp H4 _ e4 h4 => ?_
    have hml : (marksAt t s' w' i).length ≤ 3 := by unfold marksAt; simp; omega
    have hdig : ∀ m ∈ marksAt t s' w' i, m.2 ≠ 63 := by
      have key : ∀ j ∈ js, (mkAt t w' j).2 ≠ 63 := by
        intro j hj
        obtain ⟨k, hk⟩ := hjs j hj
        have hkp := (List.getElem?_eq_some_iff.mp hk).1
        rw [Tr.subs_len] at hkp
        have hx := hdg (w'[j]'(by omega)) (List.getElem_mem _)
        unfold isDig at hx
        have : (mkAt t w' j).2 = w'[j]'(by omega) := by simp [mkAt, List.getD, show j < w'.length by omega]
        rw [this]
        omega
      intro m hm
      have e2 : marksAt t s' w' i = js.map (mkAt t w') := by simp only [js, marksAt, List.map_cons, List.map_map]; rfl
      rw [e2] at hm
      obtain ⟨j, hj, rfl⟩ := List.mem_map.mp hm
      exact key j hj
    have e34 := e3.trans e4
    refine q_asg (v := .bl false) ?_ fun H5 e5 => ?_
    · have g := el_lc (vs := [10]) (j := 10) (t := tTest (tOp rEq (tOp rIxS (tVar 10) (tC (.int 1))) (tC (.str "?")))) (te := tVar 10) (σ := [some (.ref p), some (.str (St t.signs)), some (.str (St w')), some (.int (i : Nat)), some (.ref lch), some (.ref fl), some (.ref mp), x7, x8, x9, x10]) (H := H4) (fun _ => false) (fun _ => .non) (f := fun k => ((marksAt t s' w' i).map mkV).getD k .non) (ei_list (K := K) (te := tVar 6) (ev_var rfl) (sq_of h4)).j (by simp; omega) (fun i H1 x H2 hi y => yat_get hi y) (fun _ => rfl) (fun k H5 e5 hk => by
          have hk' : k < (marksAt t s' w' i).length := by simpa using hk
          have hx : ((marksAt t s' w' i).map mkV).getD k .non = .str (St [((marksAt t s' w' i)[k]).1, ((marksAt t s' w' i)[k]).2]) := by simp [List.getD, hk']; rfl
          rw [hx]
          refine et_is (et_test (ev_op (ev_op (x := .str (St [((marksAt t s' w' i)[k]).1, ((marksAt t s' w' i)[k]).2])) (ev_var rfl) ev_c (rv_ixC (j := 1) rfl (by show 2 ≤ 100000; omega))) ev_c (rv_eq rfl))) ?_
          apply decide_eq_false
          intro e
          have := st_inj (l := [((marksAt t s' w' i)[k]).2]) (m := [63]) (V.str.inj e)
          exact hdig _ (List.getElem_mem hk') (by simpa using this)) fun _ _ _ _ h => nomatch h
      have hnil : given ((marksAt t s' w' i).map mkV).length (fun _ => false) (fun _ => V.non) = [] := by unfold given; simp
      rw [hnil] at g
      exact ev_is (ev_neNilL (ds := []) g .nil (by decide) (el_lst ea_nil (by decide))) (by decide)
    have e35 := e34.trans e5
    have h45 := e5 mp _ h4
    have hlet : letAt c t w' i = if s'.kids = [] then decide (mkAt t w' i ∈ c.leaves) else decide (marksAt t s' w' i ∈ c.rows) := by unfold letAt; rw [hsub]
    refine q_asg (v := .bl (letAt c t w' i)) ?_ fun H6 e6 => ?_
    · have hj := ev_join (K := K) (ta := tC (.str "")) (te := tVar 6) (σ := [some (.ref p), some (.str (St t.signs)), some (.str (St w')), some (.int (i : Nat)), some (.ref lch), some (.ref fl), some (.ref mp), some (.bl false), x8, x9, x10]) (H := H5) (ps := (marksAt t s' w' i).map fun m => [m.1, m.2]) ev_c (ev_var rfl) (sq_of (by rw [h45, List.map_map]; rfl)) (by
        have : (((marksAt t s' w' i).map fun m => [m.1, m.2]).map (·.length)).sum = 2 * (marksAt t s' w' i).length := by
          induction marksAt t s' w' i with
          | nil => rfl
          | cons a b ih => simp only [List.map_cons, List.sum_cons, List.length_cons] at ih ⊢; rw [ih]; simp; omega
        rw [this]
        omega)
      have hfl2 : ((marksAt t s' w' i).map fun m => [m.1, m.2]).flatten = (marksAt t s' w' i).flatMap fun m => [m.1, m.2] := by rw [List.flatMap_def]
      rw [hfl2] at hj
      have hne : Ev (tOp (rNeD K) (tOp (rIxL K) (tVar 4) (tVar 3)) (tTup tNil)) [some (.ref p), some (.str (St t.signs)), some (.str (St w')), some (.int (i : Nat)), some (.ref lch), some (.ref fl), some (.ref mp), some (.bl false), x8, x9, x10] H5 (.bl (!decide (s'.kids = []))) := by
        have g := ev_neNilT (K := K) (ta := tOp (rIxL K) (tVar 4) (tVar 3)) (tb := tTup tNil) (σ := [some (.ref p), some (.str (St t.signs)), some (.str (St w')), some (.int (i : Nat)), some (.ref lch), some (.ref fl), some (.ref mp), some (.bl false), x8, x9, x10]) (H := H5) (xs := (s'.offs.map fun o => ((i + o : Nat) : Int)).map V.int) (ds := (s'.offs.map fun o => ((i + o : Nat) : Int)).map PyData.int) (hkidv e35 rfl rfl) (by rw [List.map_map]; exact ex_t e35 hc3) (dpa_ints _) (shaped_intsT _) (eu_tup ea_nil (by decide))
        refine ev_is g ?_
        cases s' <;> simp [Tr.offs, Tr.kids]
      by_cases hk : s'.kids = []
      · have hoff : s'.offs = [] := by
          have := offs_len s'
          rw [hk] at this
          exact List.eq_nil_of_length_eq_zero this
        have hm1 : marksAt t s' w' i = [mkAt t w' i] := by unfold marksAt; rw [hoff]; rfl
        rw [hm1] at hj
        refine ev_is (ev_op (x := mkV (mkAt t w' i)) (y := .ref b) hj (ev_if (b := false) (et_is (et_test hne) (by rw [hk]; rfl)) (fun h => nomatch h) fun _ => ev_op (ev_var rfl) ev_c (rv_ixTn (j := 2) (ex_t e35 hp1) rfl)) (rv_isT (ex_t e35 hb1) rfl (flat_mks _))) ?_
        rw [inV_mk, hlet, if_pos hk]
      · refine ev_is (ev_op (x := .str (rowT (marksAt t s' w' i))) (y := .ref r) hj (ev_if (b := true) (et_is (et_test hne) (by rw [decide_eq_false hk]; rfl)) (fun _ => ev_op (ev_var rfl) ev_c (rv_ixTn (j := 3) (ex_t e35 hp1) rfl)) fun h => nomatch h) (rv_isT (ex_t e35 hr1) rfl (by simp [flatV]))) ?_
        rw [row_in, hlet, if_neg hk]
    have e36 := e35.trans e6
    have h3' := e6 fl _ (e5 fl _ (e4 fl _ h3))
    have hmk0 : ((marksAt t s' w' i).map mkV)[0]? = some (mkV (mkAt t w' i)) := rfl
    refine s_when (b := !goodP c t w' i) ?_ (fun hb7 H7 e7 => ?_) (fun hb7 H7 e7 => ?_)
    · refine et_is (et_and (a := true) (b := !goodP c t w' i) (et_is (et_not (et_B (ev_var (v := .bl false) rfl))) rfl) fun _ => et_is (et_not (a := goodP c t w' i) (et_is (et_and (et_B (ev_var (v := .bl (letAt c t w' i)) rfl)) fun _ => et_or (a := decide (0 < i)) (b := decide (mkAt t w' i ∈ c.tops)) (et_is (et_test (ev_op (ev_var rfl) ev_c rv_I0)) (by congr 1; apply propext; omega)) fun _ => et_is (et_test (ev_op (ev_op (ev_var rfl) ev_c (rv_ixLn (j := 0) (sq_of (e6 mp _ h45)) hmk0)) (ev_op (ev_var rfl) ev_c (rv_ixTn (j := 1) (ex_t e36 hp1) rfl)) (rv_isT (ex_t e36 ha1) rfl (flat_mks _)))) (by rw [inV_mk])) rfl)) rfl) rfl
    · refine s_app (K := K) (e7 fl _ h3') (ev_var rfl) (ev_var rfl) (by rw [List.length_map]; have := List.length_filter_le (fun p => !goodP c t w' p) (List.range i); rw [List.length_range] at this; omega) fun H8 e8 => ⟨Ex.mut ((e36.trans e7).trans e8) hB, ?_, _, _, _, _, _, _, rfl⟩
      rw [upd_same, List.range_succ, List.filter_append, List.map_append]
      simp [hb7]
    · refine ⟨e36.trans e7, ?_, _, _, _, _, _, _, rfl⟩
      rw [List.range_succ, List.filter_append, List.map_append, e7 fl _ h3']
      simp [hb7]
  · obtain ⟨e3, h3, x3, x6, x7, x8, x9, x10, rfl⟩ := pv
    have hk : ((t.size : Nat) : Int).toNat = t.size := rfl
    rw [hk] at h3
    refine s_ret (ev_var rfl) fun H4 e4 => q _ H4 (fun x o hx => ?_) ⟨fl, ((List.range t.size).filter fun p => !goodP c t w' p).map fun (k : Nat) => (k : Int), rfl, by rw [List.map_map]; exact e4 fl _ h3, ?_⟩
    · have hxf : x ≠ fl := fun e => by rw [e, hfl0] at hx; cases hx
      exact e4 x o (e3 x o (by rw [del_ne hxf]; exact e1 x o hx))
    · unfold rightB
      by_cases hall : (List.range t.size).all (goodP c t w') = true
      · rw [hall]
        apply decide_eq_true
        rw [List.map_eq_nil_iff, List.filter_eq_nil_iff]
        intro p hp
        rw [List.all_eq_true.mp hall p hp]
        decide
      · have hf : (List.range t.size).all (goodP c t w') = false := by simpa using hall
        rw [hf]
        apply decide_eq_false
        rw [List.map_eq_nil_iff, List.filter_eq_nil_iff]
        intro h
        apply hall
        rw [List.all_eq_true]
        intro p hp
        have := h p hp
        simpa using this
end
end K64

set_option Elab.async false
set_option linter.all false
set_option maxRecDepth 100000
set_option maxHeartbeats 4000000
/-! W14: _law_right. -/
namespace K64
open PySem PySem.Spec PyProof.Rows L2 Evl
/-- the label of the i-th sign -/
def labAt (t : Tr) (i : Nat) : Nat := ((t.subs[i]?).getD t).lab
def grow (ms : List Mk) (l : Nat) (u : List Nat) : List (List Nat) := (ms.filter fun m => decide (m.1 = l)).map fun m => u ++ [m.2]
def wordsTo (ms : List Mk) (t : Tr) : Nat → List (List Nat)
  | 0 => [[]]
  | i + 1 => (wordsTo ms t i).flatMap (grow ms (labAt t i))
theorem grow_len (ms : List Mk) (l : Nat) (u : List Nat) : (grow ms l u).length ≤ ms.length := by
  unfold grow
  rw [List.length_map]
  exact List.length_filter_le _ _
theorem flatMap_len {α β : Type} (f : α → List β) (k : Nat) (h : ∀ a, (f a).length ≤ k) : ∀ l : List α, (l.flatMap f).length ≤ l.length * k
  | [] => by simp
  | a :: r => by
    have := flatMap_len f k h r
    have h2 := h a
    rw [List.flatMap_cons, List.length_append, List.length_cons, Nat.succ_mul]
    omega
theorem words_len {ms : List Mk} (h : ms.length ≤ 4) (t : Tr) : ∀ i, (wordsTo ms t i).length ≤ 4 ^ i
  | 0 => by simp [wordsTo]
  | i + 1 => by
    have h1 := flatMap_len (grow ms (labAt t i)) 4 (fun u => Nat.le_trans (grow_len ms _ u) h) (wordsTo ms t i)
    have h2 := words_len h t i
    show ((wordsTo ms t i).flatMap _).length ≤ 4 ^ (i + 1)
    rw [Nat.pow_succ]
    have := Nat.mul_le_mul_right 4 h2
    omega
theorem words_mem {ms : List Mk} (t : Tr) (hd : ∀ m ∈ ms, okM m) : ∀ (i : Nat) (u : List Nat), u ∈ wordsTo ms t i → u.length = i ∧ ∀ x ∈ u, isDig x
  | 0, u, h => by
    have : u = [] := by simpa [wordsTo] using h
    subst this
    exact ⟨rfl, fun x hx => nomatch hx⟩
  | i + 1, u, h => by
    obtain ⟨v, hv, hu⟩ := List.mem_flatMap.mp h
    obtain ⟨m, hm, rfl⟩ := List.mem_map.mp hu
    obtain ⟨h1, h2⟩ := words_mem t hd i v hv
    refine ⟨by simp [h1], fun x hx => ?_⟩
    rcases List.mem_append.mp hx with hx | hx
    · exact h2 x hx
    · have : x = m.2 := by simpa using hx
      rw [this]
      exact (hd m (List.mem_filter.mp hm).1).2
def rightL (c : Ck) (ms : List Mk) (t : Tr) : List (List Nat) := (wordsTo ms t t.size).filter (rightB c t)
section
variable {P : Program} {w : World} {K : Fg} {mg : Str → Option Value} {base : Heap}
def stV (u : List Nat) : V := .str (St u)
def sp_law_right (K : Fg) : Sp := spP 2 fun vs H Z => ∃ v c t, vs = [v, .str (St t.signs)] ∧ ChkV K H v c ∧ c.Ok ∧ c.Sm ∧ t.Ok c.many ∧ t.size ≤ 6 ∧ Z = fun v H2 => ∃ (p : Addr) (ms : List Mk), v = .ref p ∧ MarksOf c ms ∧ H2 p = some (.lst ((rightL c ms t).map stV))
abbrev N_law_right : List Str := ["_law_table", "_law_wood", "_law_sign", "_law_marks_here", "_law_found", "_law_late", "_law_laid_here", "_law_mark"]
theorem sc_law_right : FnScope N_law_right ["_law_table", "_law_wood"] (defScope s_law_right) := ⟨rfl, rfl, rfl, by decide +kernel, rfl, by decide +kernel, by decide +kernel⟩
theorem ok_law_right (G : Fs P K mg) : Okf P w K mg base 3 "_law_right" ["_law_table", "_law_wood"] [] (sp_law_right K) := by
  refine mk_ok G.k_law_right sc_law_right (fun f fd F => ⟨[], .nil, FunD.bindsN F fun _ _ _ _ _ _ us hl => match us, hl with | [_, _], _ => rfl⟩) (fun vs H Q E h => h.1) ?_
  intro f cdv A outer s H vs Q E hr h
  have nd := sc_law_right.nd
  refine ⟨_, (pss_cons (ps_par (i := 3) (j := 4) rfl nd rfl rfl (by decide) rfl rfl (pa_cons (pe_ok (ok_law_marks G) hr (by decide) rfl (pa_cons (pv 0) pa_nil)) (pa_cons (pe_lst (pa_cons pe_str pa_nil)) pa_nil)) (by rfl))
  (pss_cons (ps_for PassesOwn.never rfl (pi_str (pv 1)) (pg_name (i := 2) nd rfl (Or.inr rfl))
  (pss_cons (ps_set (i := 5) nd rfl (Or.inl rfl) (pe_lst pa_nil))
  (pss_cons (ps_for PassesOwn.never rfl (pi_list (pv 4)) (pg_name (i := 6) nd rfl (Or.inr rfl))
  (pss_one (ps_set (i := 5) nd rfl (Or.inl rfl) (pe_op op_cat (pv 5) (pe_lc (g := gName 7) rfl nd (pi_list (pv 3)) (blkOk_by (own := [("_law_mark", 7)]) (N := N_law_right) (sc := defScope s_law_right) (by decide +kernel)) (fun _ _ _ _ _ => (pg_name (i := 7) nd rfl (Or.inl rfl))) (fun _ _ _ _ _ => (pts_one (pt_cmpR op_eq (pe_ix ix_str (pv 7) pe_int (fun _ _ => rfl)) (pe_lower (pv 2)) (nomark _)))) (fun _ _ _ _ _ => (pe_op op_add_str (pv 6) (pe_ix ix_str (pv 7) pe_int (fun _ _ => rfl)))))))))
  (pss_one (ps_set (i := 4) nd rfl (Or.inl rfl) (pv 5))))))
  (pss_one (ps_ret (pe_lc (g := gName 6) rfl nd (pi_list (pv 4)) (blkOk_by (own := [("_law_laid_here", 6)]) (N := N_law_right) (sc := defScope s_law_right) (by decide +kernel)) (fun _ _ _ _ _ => (pg_name (i := 6) nd rfl (Or.inl rfl))) (fun _ _ _ _ _ => (pts_one (pt_cmpR (op_eqDK (K := K) rfl (hu64 hr)) (pe_ok (ok_law_cries G) hr (by decide) rfl (pa_cons (pv 0) (pa_cons (pv 1) (pa_cons (pv 6) pa_nil)))) (pe_lst pa_nil) (nomark _)))) (fun _ _ _ _ _ => (pv 6))))))), ?_⟩
  obtain ⟨hl, Z, ⟨v, c, t, rfl, hc, ok, sm, ht, hz, rfl⟩, q⟩ := h
  refine q_parZL (Z := fun v H' => ∃ (ms : List Mk) (p : Addr), v = .ref p ∧ H' p = some (.lst (ms.map mkV)) ∧ MarksOf c ms) (ez_call (ea1 (ev_var rfl)) rfl fun H1 e => ⟨v, c, rfl, hc.mono e, ok, sm, rfl⟩) (el_lst (ea1 ev_c) (by decide)) (fun v H H' e ⟨ms, p, h1, h2, h3⟩ => ⟨ms, p, h1, e p _ h2, h3⟩) fun mv f0 H1 e1 ⟨ms, mp, hmv, hmp, hM⟩ _ hf0 => ?_
  subst hmv
  have hml := hM.len sm
  have hmd : ∀ m ∈ ms, okM m := fun m hm => allM_ok ok m ((hM.mem m).mp hm)
  have hW : ∀ i, i ≤ t.size → (wordsTo ms t i).length ≤ 4096 := by
    intro i hi
    have h1 := words_len hml t i
    have : 4 ^ i ≤ 4 ^ 6 := Nat.pow_le_pow_right (by omega) (by omega)
    have h2 : (4 : Nat) ^ 6 = 4096 := by decide
    omega
  refine q_forI (H := H1) (ei_str (ev_var rfl)) (Ex.refl _) (fun i σ' H' => Ex H1 H' ∧ (∃ fp : Addr, H' fp = some (.lst ((wordsTo ms t i).map stV)) ∧ ∃ x2 x5 x6 x7, σ' = [some v, some (.str (St t.signs)), x2, some (.ref mp), some (.ref fp), x5, x6, x7]))
    (fun H2 e2 => ⟨e2, f0, e2 f0 _ hf0, none, none, none, none, rfl⟩) (fun i σ' H2 hi p => p.1) (fun i x σ' H2 H3 hi pv y => ?_) (fun σ' H2 pv => ?_)
  · obtain ⟨e2, fp, hfp, x2, x5, x6, x7, rfl⟩ := pv
    rw [st_size, Tr.signs_len] at hi
    obtain ⟨s', hs⟩ := Tr.sub_ex (t := t) (p := i) hi
    obtain ⟨rfl, y⟩ := y
    rw [sgn_st, List.getElem?_map, Tr.sign_at hs] at y
    obtain rfl := Option.some.inj y
    have hlab : labAt t i = s'.lab := by unfold labAt; rw [hs]; rfl
    show tSeq _ _ _ [some v, some (.str (St t.signs)), some (sg s'.sign), some (.ref mp), some (.ref fp), x5, x6, x7] H3
    refine q_asgL (el_lst ea_nil (by decide)) fun l0 H4 _ e4 hl0 => ?_
    have hlow : ∀ {σ : L2.St} {H : Hp}, σ[2]? = some (some (sg s'.sign)) → Ev (tM0 (fun x xs H Q => ∃ a, x = V.str a ∧ xs = [] ∧ a.length ≤ 5592405 ∧ Q (.str (Txt.lower a)) H) (tVar 2)) σ H (sg s'.lab) := fun h2 => ev_tm0 (a := ⟨#[s'.sign]⟩) (ev_var h2) fun H5 e5 Q5 q5 => ⟨_, rfl, rfl, by show 1 ≤ 5592405; omega, by rw [sign_low (Tr.ok_at ht hs)]; exact q5 H5 (Ex.refl _)⟩
    refine q_forI (H := H4) (ei_list (ev_var rfl) (sq_of (e4 fp _ hfp))) (Ex.refl _) (fun j σ' H' => Ex H4 H' ∧ (∃ lp : Addr, H' lp = some (.lst ((((wordsTo ms t i).take j).flatMap (grow ms (labAt t i))).map stV)) ∧ ∃ x6 x7, σ' = [some v, some (.str (St t.signs)), some (sg s'.sign), some (.ref mp), some (.ref fp), some (.ref lp), x6, x7]))
      (fun H5 e5 => ⟨e5, l0, e5 l0 _ hl0, _, _, rfl⟩) (fun j σ' H5 hj p => p.1) (fun j x σ' H5 H6 hj pv y => ?_) (fun σ' H5 pv => ?_)
    · obtain ⟨e5, lp, hlp, y6, y7, rfl⟩ := pv
      obtain ⟨rfl, y⟩ := y
      rw [List.length_map] at hj
      rw [List.getElem?_map, List.getElem?_eq_getElem hj] at y
      obtain rfl := Option.some.inj y
      generalize hu : (wordsTo ms t i)[j] = u at *
      have hui : u ∈ wordsTo ms t i := by rw [← hu]; exact List.getElem_mem hj
      obtain ⟨hul, hud⟩ := words_mem t hmd i u hui
      have htk : (wordsTo ms t i).take (j + 1) = (wordsTo ms t i).take j ++ [u] := by rw [List.take_succ, List.getElem?_eq_getElem hj, hu]; rfl
      have g := el_lc (vs := [7]) (j := 7) (t := tTest (tOp rEq (tOp rIxS (tVar 7) (tC (.int 0))) (tM0 (fun x xs H Q => ∃ a, x = V.str a ∧ xs = [] ∧ a.length ≤ 5592405 ∧ Q (.str (Txt.lower a)) H) (tVar 2)))) (te := tOp rAddS (tVar 6) (tOp rIxS (tVar 7) (tC (.int 1)))) (σ := [some v, some (.str (St t.signs)), some (sg s'.sign), some (.ref mp), some (.ref fp), some (.ref lp), some (stV u), y7]) (H := H6) (fun k => decide ((ms.getD k (0, 0)).1 = s'.lab)) (fun k => stV (u ++ [(ms.getD k (0, 0)).2])) (f := fun k => (ms.map mkV).getD k .non)
        (ei_list (K := K) (te := tVar 3) (ev_var rfl) (sq_of (e5 mp _ (e4 mp _ (e2 mp _ hmp))))).j (by simp; omega) (fun i H1 x H2 hi y => yat_get hi y) (fun _ => rfl) (fun k H7 e7 hk => by
          have hk' : k < ms.length := by simpa using hk
          have hx : (ms.map mkV).getD k .non = .str (St [ms[k].1, ms[k].2]) := by simp [List.getD, hk']; rfl
          have hx2 : ms.getD k (0, 0) = ms[k] := by simp [List.getD, hk']
          rw [hx, hx2]
          refine et_is (et_test (ev_op (ev_op (x := .str (St [ms[k].1, ms[k].2])) (ev_var rfl) ev_c (rv_ixC (j := 0) rfl (by show 2 ≤ 100000; omega))) (hlow rfl) (rv_eq rfl))) ?_
          congr 1
          apply propext
          exact ⟨fun h => by simpa using st_inj (l := [ms[k].1]) (m := [s'.lab]) (V.str.inj h), fun h => by rw [h]; rfl⟩) fun k H7 e7 hk _ => by
          have hk' : k < ms.length := by simpa using hk
          have hx : (ms.map mkV).getD k .non = .str (St [ms[k].1, ms[k].2]) := by simp [List.getD, hk']; rfl
          have hx2 : ms.getD k (0, 0) = ms[k] := by simp [List.getD, hk']
          rw [hx, hx2]
          have h5 := ev_addS (ta := tVar 6) (tb := tOp rIxS (tVar 7) (tC (.int 1))) (σ := [some v, some (.str (St t.signs)), some (sg s'.sign), some (.ref mp), some (.ref fp), some (.ref lp), some (stV u), some (.str (St [ms[k].1, ms[k].2]))]) (H := H7) (a := St u) (b := St [ms[k].2]) (ev_var rfl) (ev_op (x := .str (St [ms[k].1, ms[k].2])) (ev_var rfl) ev_c (rv_ixC (j := 1) rfl (by show 2 ≤ 100000; omega))) (by rw [st_len, st_len]; simp; omega)
          rw [st_app] at h5
          exact h5
      rw [List.length_map, given_list ms (fun m => decide (m.1 = s'.lab)) (fun m => stV (u ++ [m.2])) _ _ (fun k hk => by simp [List.getD, hk]) (fun k hk => by simp [List.getD, hk])] at g
      have hgr : (ms.filter fun m => decide (m.1 = s'.lab)).map (fun m => stV (u ++ [m.2])) = (grow ms (labAt t i) u).map stV := by unfold grow; rw [hlab, List.map_map]; rfl
      rw [hgr] at g
      have hb1 : (((wordsTo ms t i).take j).flatMap (grow ms (labAt t i))).length ≤ 4096 * 4 := by
        have h1 := flatMap_len (grow ms (labAt t i)) 4 (fun u => Nat.le_trans (grow_len ms _ u) hml) ((wordsTo ms t i).take j)
        have h2 : ((wordsTo ms t i).take j).length ≤ (wordsTo ms t i).length := by rw [List.length_take]; omega
        have h3 := hW i (by omega)
        omega
      have hb2 := grow_len ms (labAt t i) u
      refine s_asgL (el_cat (ev_var (v := .ref lp) rfl) hlp g (by rw [List.length_map, List.length_map]; omega)) fun l7 H7 _ e7 h7 => ⟨e5.trans e7, l7, ?_, _, _, rfl⟩
      rw [h7, htk, List.flatMap_append, List.map_append]
      simp
    · obtain ⟨e5, lp, hlp, y6, y7, rfl⟩ := pv
      rw [List.length_map, List.take_length] at hlp
      exact s_asg (ev_var (v := .ref lp) rfl) fun H6 e6 => ⟨((e2.trans e4).trans e5).trans e6, lp, e6 lp _ hlp, _, _, _, _, rfl⟩
  · obtain ⟨e2, fp, hfp, x2, x5, x6, x7, rfl⟩ := pv
    rw [st_size, Tr.signs_len] at hfp
    have g := el_lc (vs := [6]) (j := 6) (t := tTest (tOp (rEqD K) (tCall (sp_law_cries K) [] E0 (tCons (tVar 0) (tCons (tVar 1) (tCons (tVar 6) tNil)))) (tLst tNil))) (te := tVar 6) (σ := [some v, some (.str (St t.signs)), x2, some (.ref mp), some (.ref fp), x5, x6, x7]) (H := H2) (fun k => rightB c t ((wordsTo ms t t.size).getD k [])) (fun k => stV ((wordsTo ms t t.size).getD k [])) (f := fun k => stV ((wordsTo ms t t.size).getD k []))
      (ei_list (K := K) (te := tVar 4) (ev_var rfl) (sq_of hfp)).j (by rw [List.length_map]; have := hW t.size (by omega); omega) (fun k H1 x H2 hk y => by
        rw [List.length_map] at hk
        obtain ⟨h1, h2⟩ := yat_get (d := V.non) (by rw [List.length_map]; exact hk) y
        exact ⟨h1, by rw [h2]; simp [List.getD, hk]⟩) (fun _ => rfl) (fun k H3 e3 hk => by
        rw [List.length_map] at hk
        have hx : (wordsTo ms t t.size).getD k [] = (wordsTo ms t t.size)[k] := by simp [List.getD, hk]
        rw [hx]
        obtain ⟨hul, hud⟩ := words_mem t hmd t.size _ (List.getElem_mem hk)
        have hz := ez_call (n := 3) (σ := (wipe [some v, some (.str (St t.signs)), x2, some (.ref mp), some (.ref fp), x5, x6, x7] [6]).set 6 (some (stV (wordsTo ms t t.size)[k]))) (H := H3) (E := E0) (ta := tCons (tVar 0) (tCons (tVar 1) (tCons (tVar 6) tNil))) (vs := [v, .str (St t.signs), .str (St (wordsTo ms t t.size)[k])]) (R := fun vs H Z => ∃ v c t w, vs = [v, .str (St t.signs), .str (St w)] ∧ ChkV K H v c ∧ c.Ok ∧ t.Ok c.many ∧ t.size ≤ 1000 ∧ w.length = t.size ∧ (∀ x ∈ w, isDig x) ∧ Z = fun v H2 => ∃ (p : Addr) (ns : List Int), v = .ref p ∧ H2 p = some (.lst (ns.map V.int)) ∧ (decide (ns = []) = rightB c t w)) (ea3 (ev_var rfl) (ev_var rfl) (ev_var rfl)) rfl fun H4 e4 => ⟨v, c, t, _, rfl, hc.mono (e1.trans (e2.trans (e3.trans e4))), ok, ht, by omega, hul, hud, rfl⟩
        refine et_test fun H4 e4 Q4 q4 => ?_
        refine hz H4 e4 _ fun v5 H5 e5 ⟨p5, ns, hv5, hp5, hns⟩ => ?_
        subst hv5
        have hnil : EvL (tLst tNil) ((wipe [some v, some (.str (St t.signs)), x2, some (.ref mp), some (.ref fp), x5, x6, x7] [6]).set 6 (some (stV (wordsTo ms t t.size)[k]))) H5 [] := el_lst ea_nil (by decide)
        refine hnil H5 (Ex.refl _) _ fun p6 H6 _ e6 h6 => ⟨.list (ns.map PyData.int), .list [], .lst (sq_of (e6 p5 _ hp5)) (dpa_ints ns), .lst (sq_of h6) .nil, shaped_ints ns, by decide, ?_⟩
        rw [eqv_nil]
        have : decide (ns.map PyData.int = []) = decide (ns = []) := by cases ns <;> simp
        rw [this, hns]
        exact q4 H6 (e5.trans e6)) fun k H3 e3 hk _ => ev_var rfl
    rw [List.length_map, given_list (wordsTo ms t t.size) (rightB c t) stV _ _ (fun k hk => by simp [List.getD, hk]) (fun k hk => by simp [List.getD, hk])] at g
    exact s_retL g fun p H3 _ e3 h3 => q _ H3 (e1.trans (e2.trans e3)) ⟨p, ms, rfl, hM, h3⟩
end
end K64

set_option Elab.async false
set_option linter.all false
set_option maxRecDepth 100000
set_option maxHeartbeats 4000000
/-! W15: _law_laid, _law_grown. -/
namespace K64
open PySem PySem.Spec PyProof.Rows L2 Evl
theorem ex_step {B H1 H2 : Hp} {d : Addr} (hB : B d = none) (a : Ex B H1) (b : Ex (del H1 d) H2) : Ex B H2 := fun x o h => by
  have hd : x ≠ d := fun z => by rw [z, hB] at h; cases h
  exact b x o (by rw [del_ne hd]; exact a x o h)
section
variable {K : Fg} {σ : L2.St} {H H' B : Hp} {ta tb te tx tc td ty : TE} {t u : TT} {x y z v : V} {r : R2} {wi : TI} {D : Ends} {tz tu tw : TS} {d cl : Addr}
def EvAX (d cl : Addr) (ta : TA) (σ : L2.St) (B : Hp) (W : List V → Prop) : Prop := ∀ H1, Ex B H1 → Feed H1 d cl → ∀ Q : List V → Hp → Prop, (∀ vs H2, Ex (del H1 d) H2 → Feed H2 d cl → W vs → Q vs H2) → ta σ H1 Q
def EvTX (d cl : Addr) (tt : TT) (σ : L2.St) (B : Hp) (W : Bool → Prop) : Prop := ∀ H1, Ex B H1 → Feed H1 d cl → ∀ Q : Bool → Hp → Prop, (∀ b H2, Ex (del H1 d) H2 → Feed H2 d cl → W b → Q b H2) → tt σ H1 Q
theorem EvX.mono {Z : V → Hp → Prop} (e : Ex B H) (h : EvX d cl te σ B Z) : EvX d cl te σ H Z := fun H1 a f Q q => h H1 (e.trans a) f Q q
theorem EvX.imp {Z Z' : V → Hp → Prop} (h : EvX d cl te σ B Z) (g : ∀ v H, Z v H → Z' v H) : EvX d cl te σ B Z' := fun H1 a f Q q => h H1 a f Q fun v H2 e2 f2 z => q v H2 e2 f2 (g v H2 z)
theorem del_trans {H1 H2 H3 : Hp} (a : Ex H1 H2) (b : Ex (del H2 d) H3) : Ex (del H1 d) H3 := fun x o h => by
  have hd : x ≠ d := fun z => by rw [z, del_same] at h; cases h
  rw [del_ne hd] at h
  exact b x o (by rw [del_ne hd]; exact a x o h)
/-- a value, then one with a draw -/
theorem eax2 {W : V → Prop} (ha : Ev ta σ B x) (hb : EvX d cl tb σ B (fun v _ => W v)) : EvAX d cl (tCons ta (tCons tb tNil)) σ B (fun vs => ∃ y, vs = [x, y] ∧ W y) := fun H1 e f Q q =>
  ha H1 e _ fun H2 e2 => hb H2 (e.trans e2) (f.mono e2) _ fun y H3 e3 f3 w => q _ H3 (del_trans e2 e3) f3 ⟨y, rfl, w⟩
theorem ex_callX {n : Nat} {R : List V → Hp → Addr → (V → Hp → Prop) → Prop} {Z : V → Hp → Prop} {E : XK} {ta : TA} {W : List V → Prop} (hB : B d = none) (h : EvAX d cl ta σ B W) (hR : ∀ vs H1, Ex B H1 → W vs → vs.length = n ∧ R vs H1 d Z) : EvX d cl (tCall (spX n R) [] E ta) σ B Z := fun H1 e f Q q =>
  h H1 e f _ fun vs H2 e2 f2 w => by
    have e02 := ex_step hB e e2
    obtain ⟨h1, h2⟩ := hR vs H2 e02 w
    refine ⟨by rw [List.append_nil]; exact h1, d, cl, Z, f2, by rw [List.append_nil]; exact h2, fun v H3 e3 f3 z => q v H3 (fun a o ha => ?_) f3 z⟩
    have hd : a ≠ d := fun z => by rw [z, del_same] at ha; cases ha
    exact e3 a o (by rw [del_ne hd]; exact e2 a o ha)
theorem etx_of {b : Bool} (h : EvT t σ B b) : EvTX d cl t σ B (fun c => c = b) := fun H1 e f Q q => h H1 e Q fun H2 e2 => q b H2 (ex_del e2) (f.mono e2) rfl
theorem etx_and {W1 W2 : Bool → Prop} (hB : B d = none) (h1 : EvTX d cl t σ B W1) (h2 : EvTX d cl u σ B W2) : EvTX d cl (tAnd t u) σ B (fun b => b = true → W1 true) := fun H1 e f Q q => h1 H1 e f _ fun b H2 e2 f2 w => by
  cases b with
  | true =>
    show u σ H2 Q
    exact h2 H2 (ex_step hB e e2) f2 Q fun c H3 e3 f3 _ => q c H3 (fun a o ha => by
      have hd : a ≠ d := fun z => by rw [z, del_same] at ha; cases ha
      exact e3 a o (by rw [del_ne hd]; exact e2 a o ha)) f3 fun _ => w
  | false =>
    show Q false H2
    exact q false H2 e2 f2 fun h => nomatch h
theorem etx_cmp {g : Int → Int → Bool} {c : Int} (h : EvX d cl te σ B (fun v _ => ∃ k : Int, v = .int k)) : EvTX d cl (tTest (tOp (rI0 fun i j => .bl (g i j)) te (tC (.int c)))) σ B (fun _ => True) := fun H1 e f Q q =>
  h H1 e f _ fun v H2 e2 f2 ⟨k, hk⟩ => ⟨k, c, hk, rfl, _, rfl, q _ H2 e2 f2 trivial⟩
/-- a test with a draw, == -/
theorem etx_eq {c : Int} (h : EvX d cl te σ B (fun v _ => ∃ k : Int, v = .int k)) : EvTX d cl (tTest (tOp rEq te (tC (.int c)))) σ B (fun _ => True) := fun H1 e f Q q =>
  h H1 e f _ fun v H2 e2 f2 ⟨k, hk⟩ => ⟨by rw [hk]; rfl, _, rfl, q _ H2 e2 f2 trivial⟩
theorem s_ifX {W : Bool → Prop} (h : EvTX d cl t σ B W) (e : Ex B H) (f : Feed H d cl) (h1 : W true → ∀ H1, Ex (del H d) H1 → Feed H1 d cl → tu D σ H1) (h2 : W false → ∀ H1, Ex (del H d) H1 → Feed H1 d cl → tw D σ H1) : tIfS t tu tw D σ H := h H e f _ fun b H1 e1 f1 w => by
  cases b with
  | true => show tu D σ H1; exact h1 w H1 e1 f1
  | false => show tw D σ H1; exact h2 w H1 e1 f1
theorem q_ifX {W : Bool → Prop} (h : EvTX d cl t σ B W) (e : Ex B H) (f : Feed H d cl) (h1 : W true → ∀ H1, Ex (del H d) H1 → Feed H1 d cl → tu { D with nx := tz D } σ H1) (h2 : W false → ∀ H1, Ex (del H d) H1 → Feed H1 d cl → tw { D with nx := tz D } σ H1) : tSeq (tIfS t tu tw) tz D σ H := s_ifX (D := { D with nx := tz D }) h e f h1 h2
theorem ex_if {W : Bool → Prop} {W' : V → Prop} (hB : B d = none) (h : EvTX d cl t σ B W) (h1 : EvX d cl ta σ B (fun v _ => W' v)) (h2 : EvX d cl tb σ B (fun v _ => W' v)) : EvX d cl (tIf t ta tb) σ B (fun v _ => W' v) := fun H1 e f Q q => h H1 e f _ fun b H2 e2 f2 w => by
  have tr : ∀ {H3 : Hp}, Ex (del H2 d) H3 → Ex (del H1 d) H3 := fun e3 a o ha => by
    have hd : a ≠ d := fun z => by rw [z, del_same] at ha; cases ha
    exact e3 a o (by rw [del_ne hd]; exact e2 a o ha)
  cases b with
  | true => show ta σ H2 Q; exact h1 H2 (ex_step hB e e2) f2 Q fun v H3 e3 f3 w => q v H3 (tr e3) f3 w
  | false => show tb σ H2 Q; exact h2 H2 (ex_step hB e e2) f2 Q fun v H3 e3 f3 w => q v H3 (tr e3) f3 w
theorem ex_addS {l : List Nat} {W : List Nat → Prop} (ha : Ev ta σ B (.str (St l))) (hb : EvX d cl tb σ B (fun v _ => ∃ m, v = .str (St m) ∧ W m)) (hz : ∀ m, W m → l.length + m.length ≤ 100000) : EvX d cl (tOp rAddS ta tb) σ B (fun v _ => ∃ m, v = .str (St (l ++ m)) ∧ W m) := fun H1 e f Q q =>
  ha H1 e _ fun H2 e2 => hb H2 (e.trans e2) (f.mono e2) _ fun v H3 e3 f3 ⟨m, hv, w⟩ => ⟨St l, St m, rfl, hv, by rw [st_len, st_len]; exact sz_of (hz m w), by rw [st_app]; exact q _ H3 (del_trans e2 e3) f3 ⟨m, rfl, w⟩⟩
/-- a draw below n -/
theorem ex_draw {n : Int} {E : XK} {ta tb : TE} (ha : Ev ta σ B (.ref d)) (hb : Ev tb σ B (.int n)) (hn : 0 < n) (hn2 : n < 1000000) : EvX d cl (tCall (sp_law_draw K) [] E (tCons ta (tCons tb tNil))) σ B (fun v _ => ∃ k : Int, v = .int k ∧ 0 ≤ k ∧ k < n) :=
  ex_call (ea2 ha hb) rfl fun _ _ => ⟨n, rfl, hn, hn2, rfl⟩
theorem ex_drawI {n : Int} {E : XK} {ta tb : TE} (ha : Ev ta σ B (.ref d)) (hb : Ev tb σ B (.int n)) (hn : 0 < n) (hn2 : n < 1000000) : EvX d cl (tCall (sp_law_draw K) [] E (tCons ta (tCons tb tNil))) σ B (fun v _ => ∃ k : Int, v = .int k) :=
  (ex_draw (K := K) ha hb hn hn2).imp fun _ _ ⟨k, h, _⟩ => ⟨k, h⟩
/-- drawn from a text -/
theorem ex_anyT {E : XK} {ta tb : TE} {W : List Nat → Prop} (hB : B d = none) (ha : Ev ta σ B (.ref d)) (hb : EvX d cl tb σ B (fun v _ => ∃ l, v = .str (St l) ∧ W l)) (hne : ∀ l, W l → l ≠ [] ∧ l.length ≤ 100000) : EvX d cl (tCall (sp_law_any K) [] E (tCons ta (tCons tb tNil))) σ B (fun v _ => ∃ m : List Nat, v = .str (St m) ∧ ∃ l c, W l ∧ c ∈ l ∧ m = [c]) := by
  intro H1 e f Q q
  refine (eax2 ha hb) H1 e f _ fun vs H2 e2 f2 ⟨y, hvs, l, hy, w⟩ => ?_
  subst hvs hy
  obtain ⟨h1, h2⟩ := hne l w
  refine ⟨rfl, d, cl, fun z _ => z ∈ l.map sg, f2, ⟨_, l.map sg, rfl, .inr ⟨l, rfl, rfl⟩, by simpa using h1, by rw [List.length_map]; exact h2, rfl⟩, fun v H3 e3 f3 z => ?_⟩
  obtain ⟨c, hc, rfl⟩ := List.mem_map.mp z
  exact q _ H3 (fun a o ha => by
    have hd : a ≠ d := fun z => by rw [z, del_same] at ha; cases ha
    exact e3 a o (by rw [del_ne hd]; exact e2 a o ha)) f3 ⟨[c], rfl, l, c, w, hc, rfl⟩
end
/-- a prefix that n trees more make a tree -/
def Pre (m : Nat) (wd : List Nat) (n : Nat) : Prop := ∀ ts : List Tr, ts.length = n → (∀ t ∈ ts, t.Ok m) → ∃ t : Tr, t.Ok m ∧ t.signs = wd ++ ts.flatMap Tr.signs
theorem pre_start (m : Nat) : Pre m [] 1 := fun ts h ho => by
  match ts, h with
  | [t], _ => exact ⟨t, ho t List.mem_cons_self, by simp⟩
theorem pre_leaf {m : Nat} {wd : List Nat} {n l : Nat} (h : Pre m wd (n + 1)) (hl : isLet l) : Pre m (wd ++ [l]) n := fun ts hn ho => by
  obtain ⟨t, h1, h2⟩ := h (.leaf l :: ts) (by simp [hn]) (fun t ht => by
    rcases List.mem_cons.mp ht with rfl | ht
    · exact hl
    · exact ho t ht)
  exact ⟨t, h1, by rw [h2]; simp [Tr.signs]⟩
theorem pre_cap {m : Nat} {wd : List Nat} {n l : Nat} (hm : m = 1 ∨ m = 2) (h : Pre m wd (n + 1)) (hl : isLet l) : Pre m (wd ++ [l - 32]) (n + m) := fun ts hn ho => by
  rcases hm with rfl | rfl
  · match ts, hn with
    | a :: r, hn =>
      obtain ⟨t, h1, h2⟩ := h (.one l a :: r) (by simpa using hn) (fun t ht => by
        rcases List.mem_cons.mp ht with rfl | ht
        · exact ⟨rfl, hl, ho a List.mem_cons_self⟩
        · exact ho t (List.mem_cons_of_mem _ ht))
      exact ⟨t, h1, by rw [h2]; simp [Tr.signs]⟩
  · match ts, hn with
    | a :: b :: r, hn =>
      obtain ⟨t, h1, h2⟩ := h (.two l a b :: r) (by simp at hn ⊢; omega) (fun t ht => by
        rcases List.mem_cons.mp ht with rfl | ht
        · exact ⟨rfl, hl, ho a List.mem_cons_self, ho b (List.mem_cons_of_mem _ List.mem_cons_self)⟩
        · exact ho t (List.mem_cons_of_mem _ (List.mem_cons_of_mem _ ht)))
      exact ⟨t, h1, by rw [h2]; simp [Tr.signs]⟩
    | [a], hn => simp at hn
section
variable {P : Program} {w : World} {K : Fg} {mg : Str → Option Value} {base : Heap}
def sp_law_grown (K : Fg) : Sp := spX 4 fun vs H d Z => ∃ (m : Nat) (ls : List Nat) (n : Nat), vs = [.ref d, .int m, .str (St ls), .int n] ∧ (m = 1 ∨ m = 2) ∧ ls ≠ [] ∧ ls.length ≤ 1000 ∧ (∀ x ∈ ls, isLet x) ∧ 1 ≤ n ∧ n ≤ 6 ∧ Z = fun v _ => ∃ t : Tr, v = .str (St t.signs) ∧ t.Ok m ∧ t.size ≤ 6
abbrev N_law_grown : List Str := ["_law_feed_here", "_law_many", "_law_letters", "_law_size", "_law_lap", "_law_wood", "_law_need", "_law_letter"]
theorem sc_law_grown : FnScope N_law_grown ["_law_feed_here", "_law_many", "_law_letters", "_law_size"] (defScope s_law_grown) := ⟨rfl, rfl, rfl, by decide +kernel, rfl, by decide +kernel, by decide +kernel⟩
theorem ok_law_grown (G : Fs P K mg) : Okf P w K mg base 3 "_law_grown" ["_law_feed_here", "_law_many", "_law_letters", "_law_size"] [] (sp_law_grown K) := by
  refine mk_ok G.k_law_grown sc_law_grown (fun f fd F => ⟨[], .nil, FunD.bindsN F fun _ _ _ _ _ _ us hl => match us, hl with | [_, _, _, _], _ => rfl⟩) (fun vs H Q E h => h.1) ?_
  intro f cdv A outer s H vs Q E hr h
  have nd := sc_law_grown.nd
  refine ⟨_, (pss_cons (ps_asg (pe_tup (pa_cons pe_str (pa_cons pe_int pa_nil))) (pg_two (i := 5) (j := 6) rfl nd rfl rfl rfl rfl))
  (pss_cons (ps_for PassesOwn.never rfl (pi_range1 rfl G.f_range (pa_cons (pv 3) pa_nil)) (pg_name (i := 4) nd rfl (Or.inl rfl))
  (pss_cons (ps_if (pt_cmpR op_eq (pv 6) pe_int (nomark _)) (pss_one ps_break) pss_nil)
  (pss_cons (ps_set (i := 7) nd rfl (Or.inl rfl) (pe_ok (ok_law_any G) hr (by decide) rfl (pa_cons (pv 0) (pa_cons (pv 2) pa_nil))))
  (pss_one (ps_if (PW.pt (pw_and (pt_cmpR op_ge (pe_op op_sub (pe_op op_sub (pv 3) (pe_callB call_len_str rfl G.f_len boot_len (pa_cons (pv 5) pa_nil))) (pv 6)) (pv 1) (nomark _)) (pw_and1 (pt_cmpR op_gt (pe_ok (ok_law_draw G) hr (by decide) rfl (pa_cons (pv 0) (pa_cons pe_int pa_nil))) pe_int (nomark _))))) (pss_one (ps_par (i := 5) (j := 6) rfl nd rfl rfl (by decide) rfl rfl (pa_cons (pe_op op_add_str (pv 5) (pe_upper (pv 7))) (pa_cons (pe_op op_sub (pe_op op_add (pv 6) (pv 1)) pe_int) pa_nil)) (by rfl))) (pss_one (ps_par (i := 5) (j := 6) rfl nd rfl rfl (by decide) rfl rfl (pa_cons (pe_op op_add_str (pv 5) (pv 7)) (pa_cons (pe_op op_sub (pv 6) pe_int) pa_nil)) (by rfl))))))))
  (pss_one (ps_ret (pv 5))))), ?_⟩
  obtain ⟨hl, d, cl, Z, hF, ⟨m, ls, n, rfl, hm, hne, hll, hlet, hn1, hn6, rfl⟩, q⟩ := h
  refine q_pairZ (Z1 := fun v _ => v = .str (St [])) (Z2 := fun v _ => v = .int 1) (ez_v ev_c fun _ _ => rfl) (ez_v ev_c fun _ _ => rfl) (fun _ _ _ _ h => h) (fun _ _ _ _ h => h) fun v1 v2 H1 e1 hv1 hv2 => ?_
  subst hv1 hv2
  have hB : del H d d = none := del_same
  have hend : ∀ σ' H', (Ex (del H d) H' ∧ Feed H' d cl ∧ ∃ (wd : List Nat) (x4 x7 : Option V), Pre m wd 0 ∧ wd.length ≤ n ∧ σ' = [some (.ref d), some (.int m), some (.str (St ls)), some (.int n), x4, some (.str (St wd)), some (.int 0), x7]) → tRet (tVar 5) { nx := fun _ H' => Q .non H', rt := Q } σ' H' := by
    intro σ' H' ⟨e, f, wd, x4, x7, hp, hwl, hσ⟩
    subst hσ
    obtain ⟨t, ht, hts⟩ := hp [] rfl (fun t h => nomatch h)
    have hts' : t.signs = wd := by simpa using hts
    refine s_ret (ev_var rfl) fun H2 e2 => q _ H2 (e.trans e2) (f.mono e2) ⟨t, by rw [hts'], ht, ?_⟩
    rw [← Tr.signs_len, hts']
    omega
  refine q_forI (H := del H d) (ei_rng1 (n := (n : Int)) (ea1 (ev_var rfl)) (by omega) (by omega)) (ex_del e1) (fun i σ' H' => Ex (del H d) H' ∧ Feed H' d cl ∧ ∃ (wd : List Nat) (k : Nat) (x4 x7 : Option V), Pre m wd k ∧ wd.length = i ∧ wd.length + k ≤ n ∧ σ' = [some (.ref d), some (.int m), some (.str (St ls)), some (.int n), x4, some (.str (St wd)), some (.int (k : Nat)), x7])
    (fun H2 e2 => ⟨(ex_del e1).trans e2, (hF.mono e1).mono e2, [], 1, none, none, pre_start m, rfl, by simp; omega, rfl⟩) (fun i σ' H2 hi p => p.1) (fun i x σ' H2 H3 hi pv y => ?_) (fun σ' H2 pv => ?_)
  · obtain ⟨e2, f2, wd, k, x4, x7, hp, hwi, hwk, rfl⟩ := pv
    obtain ⟨rfl, rfl⟩ := y
    show tSeq _ _ _ [some (.ref d), some (.int m), some (.str (St ls)), some (.int n), some (.int (i : Nat)), some (.str (St wd)), some (.int (k : Nat)), x7] H3
    refine q_when (b := decide (k = 0)) (et_is (et_test (ev_op (ev_var rfl) ev_c (rv_eq rfl))) (by congr 1; apply propext; exact ⟨fun h => by have := V.int.inj h; omega, fun h => by rw [h]; rfl⟩)) (fun hb H4 e4 => ?_) (fun hb H4 e4 => ?_)
    · have hk := of_decide_eq_true hb
      subst hk
      exact hend _ H4 ⟨e2.trans e4, f2.mono e4, wd, _, _, hp, by omega, rfl⟩
    have hk := of_decide_eq_false hb
    obtain ⟨k', rfl⟩ : ∃ k', k = k' + 1 := ⟨k - 1, by omega⟩
    have e24 := e2.trans e4
    have f4 := f2.mono e4
    refine q_asgX (B := del H d) (ex_anyT (K := K) (W := fun l => l = ls) hB (ev_var rfl) (ex_ev (ev_var rfl) fun _ _ => ⟨ls, rfl, rfl⟩) fun l h => by rw [h]; exact ⟨hne, by omega⟩) e24 f4 fun v5 H5 e5 f5 ⟨mm, hv5, l, lc, hll2, hlc, hmm⟩ => ?_
    subst hv5 hmm hll2
    have hlc' := hlet lc hlc
    have e25 := ex_step hB e24 e5
    have hwl : (St wd).length = wd.length := st_len wd
    refine s_ifX (B := del H d) (etx_and hB (etx_of (b := decide ((m : Int) ≤ (n : Int) - (wd.length : Nat) - ((k' + 1 : Nat) : Int))) (et_test (ev_op (ev_op (ev_op (ev_var rfl) (ev_is (ev_cb (ea1 (ev_var rfl)) (rc_lenC (by rw [hwl]; omega))) (by rw [hwl])) rv_I0) (ev_var rfl) rv_I0) (ev_var rfl) rv_I0))) (etx_cmp (ex_drawI (K := K) (ev_var rfl) ev_c (by decide) (by decide)))) e25 f5 (fun hw H6 e6 f6 => ?_) (fun _ H6 e6 f6 => ?_)
    · have hroom := of_decide_eq_true (hw rfl).symm
      have e26 := ex_step hB e25 e6
      have hup : Txt.upper ⟨#[lc]⟩ = (St [lc - 32]) := by
        unfold isLet at hlc'
        obtain ⟨j, hj, h97⟩ : ∃ j, j < 26 ∧ lc = j + 97 := ⟨lc - 97, by omega, by omega⟩
        rw [h97, up_let j hj, show j + 97 - 32 = j + 65 by omega]
        rfl
      refine (ea2 (x := .str (St (wd ++ [lc - 32]))) (y := .int ((k' + m : Nat) : Int)) ?_ ?_) H6 (Ex.refl _) _ fun H7 e7 => ⟨_, _, rfl, e26.trans e7, f6.mono e7, wd ++ [lc - 32], k' + m, _, _, pre_cap hm hp hlc', by simp [hwi], by simp; omega, rfl⟩
      · rw [← st_app]
        exact ev_addS (ev_var rfl) (ev_tm0 (a := ⟨#[lc]⟩) (ev_var rfl) fun H8 e8 Q8 q8 => ⟨_, rfl, rfl, by show 1 ≤ _; decide, by rw [hup]; exact q8 H8 (Ex.refl _)⟩) (by rw [st_len, st_len]; simp; omega)
      · refine ev_is (ev_op (ev_op (ev_var rfl) (ev_var rfl) rv_I0) ev_c rv_I0) ?_
        congr 1
        omega
    · have e26 := ex_step hB e25 e6
      refine (ea2 (x := .str (St (wd ++ [lc]))) (y := .int ((k' : Nat) : Int)) ?_ ?_) H6 (Ex.refl _) _ fun H7 e7 => ⟨_, _, rfl, e26.trans e7, f6.mono e7, wd ++ [lc], k', _, _, pre_leaf hp hlc', by simp [hwi], by simp; omega, rfl⟩
      · rw [← st_app]
        exact ev_addS (ev_var rfl) (ev_var rfl) (by rw [st_len, st_len]; simp; omega)
      · refine ev_is (ev_op (ev_var rfl) ev_c rv_I0) ?_
        congr 1
        omega
  · obtain ⟨e2, f2, wd, k, x4, x7, hp, hwi, hwk, rfl⟩ := pv
    have hn : ((n : Nat) : Int).toNat = n := rfl
    rw [hn] at hwi
    obtain rfl : k = 0 := by omega
    exact hend _ H2 ⟨e2, f2, wd, x4, x7, hp, by omega, rfl⟩
end
end K64

set_option Elab.async false
set_option linter.all false
set_option maxRecDepth 100000
set_option maxHeartbeats 4000000
/-! W16: _law_laid. -/
namespace K64
open PySem PySem.Spec PyProof.Rows L2 Evl
section
variable {P : Program} {w : World} {K : Fg} {mg : Str → Option Value} {base : Heap}
theorem rv_mulC {H : Hp} {c n : Nat} (h : n ≤ 1000) : RV rMulC (.str ⟨#[c]⟩) (.int (n : Nat)) H (.str (St (List.replicate n c))) := fun H1 _ Q q => ⟨c, n, rfl, rfl, h, q H1 (Ex.refl _)⟩
def okC (x : Nat) : Prop := isDig x ∨ x = 63
def sp_law_laid (K : Fg) : Sp := spX 3 fun vs H d Z => ∃ (v : V) (c : Ck) (t : Tr), vs = [.ref d, v, .str (St t.signs)] ∧ ChkV K (del H d) v c ∧ c.Ok ∧ c.Sm ∧ t.size ≤ 6 ∧ Z = fun v _ => ∃ ν : List Nat, v = .str (St ν) ∧ ν.length = t.size ∧ ∀ x ∈ ν, okC x
abbrev N_law_laid : List Str := ["_law_feed_here", "_law_table", "_law_wood", "_law_digits", "_law_style", "_law_sign", "_law_found", "_law_menu", "_law_mark"]
theorem sc_law_laid : FnScope N_law_laid ["_law_feed_here", "_law_table", "_law_wood"] (defScope s_law_laid) := ⟨rfl, rfl, rfl, by decide +kernel, rfl, by decide +kernel, by decide +kernel⟩
theorem ok_law_laid (G : Fs P K mg) : Okf P w K mg base 3 "_law_laid" ["_law_feed_here", "_law_table", "_law_wood"] [] (sp_law_laid K) := by
  refine mk_ok G.k_law_laid sc_law_laid (fun f fd F => ⟨[], .nil, FunD.bindsN F fun _ _ _ _ _ _ us hl => match us, hl with | [_, _, _], _ => rfl⟩) (fun vs H Q E h => h.1) ?_
  intro f cdv A outer s H vs Q E hr h
  have nd := sc_law_laid.nd
  refine ⟨_, (pss_cons (ps_set (i := 3) nd rfl (Or.inl rfl) (pe_join pe_str (pe_callB (cr_sortT rfl) rfl G.f_sorted boot_sorted (pa_cons (pe_callTy (cr_setL rfl) rfl G.f_set boot_set (pa_cons (pe_op op_cat (pe_lc (g := gName 8) rfl nd (pi_list (pe_ok (ok_law_marks G) hr (by decide) rfl (pa_cons (pv 1) pa_nil))) (blkOk_by (own := [("_law_mark", 8)]) (N := N_law_laid) (sc := defScope s_law_laid) (by decide +kernel)) (fun _ _ _ _ _ => (pg_name (i := 8) nd rfl (Or.inl rfl))) (fun _ _ _ _ _ => pts_nil) (fun _ _ _ _ _ => (pe_ix ix_str (pv 8) pe_int (fun _ _ => rfl)))) (pe_lst (pa_cons pe_str (pa_cons pe_str pa_nil)))) pa_nil)) pa_nil))))
  (pss_cons (ps_set (i := 4) nd rfl (Or.inl rfl) (pe_ok (ok_law_draw G) hr (by decide) rfl (pa_cons (pv 0) (pa_cons pe_int pa_nil))))
  (pss_cons (ps_par (i := 6) (j := 7) rfl nd rfl rfl (by decide) rfl rfl (pa_cons pe_str (pa_cons (pe_op op_add_str (pv 3) (pe_op op_mulC pe_str (pv 4))) pa_nil)) (by rfl))
  (pss_cons (ps_for PassesOwn.never rfl (pi_str (pv 2)) (pg_name (i := 5) nd rfl (Or.inl rfl))
  (pss_one (ps_set (i := 6) nd rfl (Or.inl rfl) (pe_op op_add_str (pv 6) (pe_ok (ok_law_any G) hr (by decide) rfl (pa_cons (pv 0) (pa_cons (pe_ifExp (pt_cmpR op_gt (pe_ok (ok_law_draw G) hr (by decide) rfl (pa_cons (pv 0) (pa_cons pe_int pa_nil))) pe_int (nomark _)) (pv 7) pe_str) pa_nil)))))))
  (pss_one (ps_ret (pv 6))))))), ?_⟩
  obtain ⟨hl, d, cl, Z, hF, ⟨v, c, t, rfl, hc, ok, sm, hz, rfl⟩, q⟩ := h
  have hB : del H d d = none := del_same
  have h1 : EvZ (tLc (iList K (tCall (sp_law_marks K) [] E0 (tCons (tVar 1) tNil))) (gName 8) tYes (tOp rIxS (tVar 8) (tC (.int 1))) [8]) (start N_law_laid [.ref d, v, .str (St t.signs)]) (del H d) (fun v H' => ∃ (p : Addr) (xs : List Str), v = .ref p ∧ H' p = some (.lst (xs.map V.str)) ∧ ∃ ms, MarksOf c ms ∧ xs = ms.map fun m => St [m.2]) := by
    refine ez_imp (ez_lcL (K := K) (W := fun xs => ∃ ms, MarksOf c ms ∧ xs = ms.map mkV) (fun _ _ => true) (fun xs i => match xs.getD i .non with | .str s => .str ⟨#[s.cps.toList.getD 1 0]⟩ | _ => .non) (ez_imp (ez_call (ea1 (ev_var rfl)) rfl fun H1 e => ⟨v, c, rfl, hc.mono e, ok, sm, rfl⟩) fun v' H' _ ⟨ms, p, h1, h2, h3⟩ => ⟨p, _, h1, h2, ms, h3, rfl⟩) (fun xs ⟨ms, h1, h2⟩ => by rw [h2, List.length_map]; have := h1.len sm; omega) (fun _ => rfl) (fun _ _ _ _ _ _ _ => et_yes) fun xs ⟨ms, h1, h2⟩ i x H1 e hi _ => ?_) fun v' H' _ ⟨p, ys, g1, g2, xs, ⟨ms, g3, g4⟩, g5⟩ => ?_
    · subst h2
      obtain ⟨hi1, hi2⟩ := List.getElem?_eq_some_iff.mp hi
      rw [List.length_map] at hi1
      have hx : (ms.map mkV).getD i .non = .str (St [ms[i].1, ms[i].2]) := by simp [List.getD, hi1]; rfl
      have hx2 : x = .str (St [ms[i].1, ms[i].2]) := by rw [← hi2]; simp; rfl
      subst hx2
      rw [hx]
      exact ev_op (x := .str (St [ms[i].1, ms[i].2])) (ev_var rfl) ev_c (rv_ixC (j := 1) rfl (by show 2 ≤ 100000; omega))
    · subst g4
      refine ⟨p, ms.map fun m => St [m.2], g1, ?_, ms, g3, rfl⟩
      rw [g2, g5, marks_given (c := c) (f := fun m => m.2) (fun i h => by simp [List.getD, h, mkV, mkT]; rfl), List.map_map]
      rfl
  have h2 : EvZ (tOp rCat (tLc (iList K (tCall (sp_law_marks K) [] E0 (tCons (tVar 1) tNil))) (gName 8) tYes (tOp rIxS (tVar 8) (tC (.int 1))) [8]) (tLst (tCons (tC (.str "0")) (tCons (tC (.str "1")) tNil)))) (start N_law_laid [.ref d, v, .str (St t.signs)]) (del H d) (fun v H' => ∃ (p : Addr) (xs : List Str), v = .ref p ∧ H' p = some (.lst (xs.map V.str)) ∧ ∃ ms, MarksOf c ms ∧ xs = (ms.map fun m => St [m.2]) ++ [St [48], St [49]]) := fun H1 e Q q =>
    h1 H1 e _ fun v2 H2 e2 ⟨p, xs, hv2, hp, ms, hM, hxs⟩ => by
      subst hv2
      have hlst : EvL (tLst (tCons (tC (.str "0")) (tCons (tC (.str "1")) tNil))) (start N_law_laid [.ref d, v, .str (St t.signs)]) H2 [.str "0", .str "1"] := el_lst (ea2 ev_c ev_c) (by decide)
      refine hlst H2 (Ex.refl _) _ fun b H3 _ e3 h3 => ⟨p, b, xs.map V.str, [.str "0", .str "1"], rfl, rfl, e3 p _ hp, h3, sz_of (by rw [hxs, List.length_map, List.length_map]; have := hM.len sm; simp; omega), fun l hl => q _ _ ((e2.trans e3).trans (Ex.new hl)) ⟨l, _, rfl, ?_, ms, hM, rfl⟩⟩
      rw [upd_same, hxs, List.map_append]
      rfl
  have hsub : ∀ (xs : List Str), (∃ ms, MarksOf c ms ∧ xs = (ms.map fun m => St [m.2]) ++ [St [48], St [49]]) → xs.length ≤ 6 := fun xs ⟨ms, g1, g2⟩ => by
    rw [g2, List.length_append, List.length_map]
    have := g1.len sm
    simp
    omega
  refine q_asgZ (EvZ.mono (ex_del (Ex.refl H)) (ez_joinZ (K := K) (W := fun ps => ∃ ls : List Nat, ps = ls.map (fun d => [d]) ∧ ls.length ≤ 6 ∧ ls ≠ [] ∧ ∀ x ∈ ls, isDig x) (fun _ _ => ev_c) (ez_imp (ez_sortsetZ (X := (cxOf CX0 P w K mg base N_law_laid "_law_laid" (defScope s_law_laid) f cdv A outer s H E).nox) h2 (fun xs hx => by have := hsub xs hx; omega) (fun xs hx ys nd hm => by
      have := nodup_len ys xs nd fun x hx => (hm x).mp hx
      have := hsub xs hx
      omega)) fun v' H' _ ⟨p, ys, g1, g2, xs, ⟨ms, g3, g4⟩, nd, hm, hs⟩ => ?_) (fun ps ⟨ls, e1, e2, _⟩ => by rw [e1, sum_ones]; omega))) fun v1 H1 e1 ⟨ps, ⟨ds, hps, hds, hdne, hdig⟩, hv1⟩ => ?_
  · have hone : ∀ x ∈ xs, ∃ k : Nat, x = St [k] ∧ isDig k := by
      intro x hx
      rw [g4] at hx
      rcases List.mem_append.mp hx with hx | hx
      · obtain ⟨m, hm1, rfl⟩ := List.mem_map.mp hx
        exact ⟨m.2, rfl, (allM_ok ok m ((g3.mem m).mp hm1)).2⟩
      · simp at hx
        rcases hx with rfl | rfl
        · exact ⟨48, rfl, by unfold isDig; omega⟩
        · exact ⟨49, rfl, by unfold isDig; omega⟩
    obtain ⟨ls, rfl⟩ := unst ys fun y hy => by
      obtain ⟨k, hk, _⟩ := hone y ((hm y).mp hy)
      exact ⟨k, hk⟩
    refine ⟨p, ls.map fun d => [d], g1, by rw [g2, List.map_map, List.map_map]; rfl, ls, rfl, ?_, ?_, fun x hx => ?_⟩
    · have := nodup_len _ xs nd fun x hx => (hm x).mp hx
      rw [List.length_map] at this
      have := hsub xs ⟨ms, g3, g4⟩
      omega
    · intro e
      have : St [48] ∈ xs := by rw [g4]; simp
      have := (hm _).mpr this
      rw [e] at this
      cases this
    · obtain ⟨k, hk, hd⟩ := hone _ ((hm (St [x])).mp (List.mem_map.mpr ⟨x, hx, rfl⟩))
      have : x = k := by simpa using st_inj hk
      rw [this]
      exact hd
  have hfl : ps.flatten = ds := by
    rw [hps]
    clear hps hds hdne hdig hv1
    induction ds with
    | nil => rfl
    | cons a b ih => simp [ih]
  subst hv1
  rw [hfl]
  have e1' : Ex (del H d) H1 := ex_del e1
  refine q_asgX (B := del H d) (ex_draw (K := K) (ev_var rfl) ev_c (by decide) (by decide)) e1' (hF.mono e1) fun v2 H2 e2 f2 ⟨k, hv2, hk0, hk4⟩ => ?_
  subst hv2
  obtain ⟨kn, rfl⟩ : ∃ kn : Nat, k = kn := ⟨k.toNat, by omega⟩
  have e2' := ex_step hB e1' e2
  have hmenu := ev_addS (ta := tVar 3) (tb := tOp rMulC (tC (.str "?")) (tVar 4)) (σ := [some (.ref d), some v, some (.str (St t.signs)), some (.str (St ds)), some (.int (kn : Nat)), none, none, none, none]) (H := H2) (a := St ds) (b := St (List.replicate kn 63)) (ev_var rfl) (ev_op (ev_c (v := .str ⟨#[63]⟩)) (ev_var rfl) (rv_mulC (by omega))) (by rw [st_len, st_len, List.length_replicate]; omega)
  rw [st_app] at hmenu
  refine q_par (ea2 (x := .str (St [])) ev_c hmenu) fun H3 e3 => ?_
  have e3' := e2'.trans e3
  have f3 := f2.mono e3
  refine q_forI (H := del H d) (ei_str (ev_var rfl)) e3' (fun i σ' H' => Ex (del H d) H' ∧ Feed H' d cl ∧ ∃ (ν : List Nat) (x5 x8 : Option V), ν.length = i ∧ (∀ x ∈ ν, okC x) ∧ σ' = [some (.ref d), some v, some (.str (St t.signs)), some (.str (St ds)), some (.int (kn : Nat)), x5, some (.str (St ν)), some (.str (St (ds ++ List.replicate kn 63))), x8])
    (fun H4 e4 => ⟨e3'.trans e4, f3.mono e4, [], none, none, rfl, (fun x h => nomatch h), rfl⟩) (fun i σ' H2 hi p => p.1) (fun i x σ' H4 H5 hi pv y => ?_) (fun σ' H4 pv => ?_)
  · obtain ⟨e4, f4, ν, x5, x8, hν, hνo, rfl⟩ := pv
    rw [st_size, Tr.signs_len] at hi
    obtain ⟨rfl, y⟩ := y
    have g := ex_addS (d := d) (cl := cl) (B := del H d) (ta := tVar 6) (l := ν) (tb := tCall (sp_law_any K) [] E0 (tCons (tVar 0) (tCons (tIf (tTest (tOp (rI0 fun i j => .bl (decide (j < i))) (tCall (sp_law_draw K) [] E0 (tCons (tVar 0) (tCons (tC (.int 9)) tNil))) (tC (.int 0)))) (tVar 7) (tC (.str "59?"))) tNil))) (σ := [some (.ref d), some v, some (.str (St t.signs)), some (.str (St ds)), some (.int (kn : Nat)), some x, some (.str (St ν)), some (.str (St (ds ++ List.replicate kn 63))), x8]) (W := fun m => ∃ l cc, (l = ds ++ List.replicate kn 63 ∨ l = [53, 57, 63]) ∧ cc ∈ l ∧ m = [cc]) (ev_var rfl)
      (ex_anyT (K := K) (W := fun l => l = ds ++ List.replicate kn 63 ∨ l = [53, 57, 63]) hB (ev_var rfl) (ex_if (W' := fun v => ∃ l, v = .str (St l) ∧ (l = ds ++ List.replicate kn 63 ∨ l = [53, 57, 63])) hB (etx_cmp (g := fun i j => decide (j < i)) (ex_drawI (K := K) (ev_var rfl) ev_c (by decide) (by decide))) (ex_ev (ev_var rfl) fun _ _ => ⟨_, rfl, .inl rfl⟩) (ex_ev ev_c fun _ _ => ⟨[53, 57, 63], rfl, .inr rfl⟩)) fun l hl => by
        rcases hl with rfl | rfl
        · refine ⟨by simp [hdne], by rw [List.length_append, List.length_replicate]; omega⟩
        · exact ⟨by simp, by simp⟩) (fun m ⟨l, cc, _, _, hm⟩ => by rw [hm]; simp; omega)
    refine s_asgX g e4 f4 fun v6 H6 e6 f6 ⟨mm, hv6, l, cc, hl, hcc, hmm⟩ => ?_
    subst hv6 hmm
    refine ⟨ex_step hB e4 e6, f6, ν ++ [cc], some x, x8, by simp [hν], fun z hz => ?_, rfl⟩
    rcases List.mem_append.mp hz with hz | hz
    · exact hνo z hz
    · have : z = cc := by simpa using hz
      subst this
      rcases hl with rfl | rfl
      · rcases List.mem_append.mp hcc with h | h
        · exact .inl (hdig _ h)
        · exact .inr (List.mem_replicate.mp h).2
      · simp at hcc
        rcases hcc with rfl | rfl | rfl
        · exact .inl (by unfold isDig; omega)
        · exact .inl (by unfold isDig; omega)
        · exact .inr rfl
  · obtain ⟨e4, f4, ν, x5, x8, hν, hνo, rfl⟩ := pv
    rw [st_size, Tr.signs_len] at hν
    exact s_ret (ev_var rfl) fun H5 e5 => q _ H5 (e4.trans e5) (f4.mono e5) ⟨ν, rfl, hν, hνo⟩
end
end K64

set_option Elab.async false
set_option linter.all false
set_option maxRecDepth 100000
set_option maxHeartbeats 4000000
/-! W17: _law_scenes. -/
namespace K64
open PySem PySem.Spec PyProof.Rows L2 Evl
theorem sqt_del {K : Fg} {H : Hp} {a l : Addr} {xs : List V} (h : SqT K H a xs) (hl : ∀ ys, H l ≠ some (.tup ys)) (hf : ∀ o u, H l ≠ some (.frz o u)) : SqT K (del H l) a xs := by
  rcases h with (h | ⟨o, h⟩) | h
  · exact .inl (.inl (by rw [del_ne (fun e => by rw [e] at h; exact hl _ h)]; exact h))
  · exact .inl (.inr ⟨o, by rw [del_ne (fun e => by rw [e] at h; exact hf _ _ h)]; exact h⟩)
  · exact .inr h
theorem ChkV.del {K : Fg} {H : Hp} {l : Addr} {v : V} {c : Ck} (h : ChkV K H v c) (hl : ∀ ys, H l ≠ some (.tup ys)) (hf : ∀ o u, H l ≠ some (.frz o u)) : ChkV K (L2.del H l) v c := by
  obtain ⟨p, a, b, r, h0, h1, h2, h3, h4⟩ := h
  exact ⟨p, a, b, r, h0, sqt_del h1 hl hf, sqt_del h2 hl hf, sqt_del h3 hl hf, sqt_del h4 hl hf⟩
section
variable {K : Fg} {σ : L2.St} {H H' B : Hp} {ta tb te tx tc td ty : TE} {x y z v : V} {D : Ends} {tz : TS}
theorem ez_chk {t1 t2 t3 t4 : TE} {c : Ck} (h1 : Ev t1 σ H (.int c.many)) (h2 : EvS K t2 σ H (c.tops.map mkV)) (h3 : EvS K t3 σ H (c.leaves.map mkV)) (h4 : EvS K t4 σ H (c.rows.map fun q => .str (rowT q))) : EvZ (tTup (tCons t1 (tCons t2 (tCons t3 (tCons t4 tNil))))) σ H (fun v H' => ChkV K H' v c) := fun H1 e Q q =>
  h1 H1 e _ fun H2 e2 => h2 H2 (e.trans e2) _ fun a H3 e3 s3 => h3 H3 ((e.trans e2).trans e3) _ fun b H4 e4 s4 => h4 H4 (((e.trans e2).trans e3).trans e4) _ fun r H5 e5 s5 => ⟨by show 4 ≤ sizeLine; decide, fun p hp => q _ _ ((((e2.trans e3).trans e4).trans e5).trans (Ex.new hp)) ⟨p, a, b, r, rfl, st_of upd_same, ex_t ((e4.trans e5).trans (Ex.new hp)) s3, ex_t (e5.trans (Ex.new hp)) s4, ex_t (Ex.new hp) s5⟩⟩
theorem es_tup {ta : TA} {vs : List V} (h : EvA ta σ H vs) (hl : vs.length ≤ 100000) : EvS K (tTup ta) σ H vs := es_u (eu_tup h hl)
theorem q_appZ {Z : V → Hp → Prop} {l : Addr} {xs : List V} (hl : H l = some (.lst xs)) (ha : ∀ H1, Ex H H1 → Ev ta σ H1 (.ref l)) (h : EvZ te σ H Z) (hz : xs.length < 100000) (k : ∀ v H1, Ex H H1 → Z v H1 → tz D σ (upd H1 l (.lst (xs ++ [v])))) : tSeq (tDrop (tBM K "list" rAppend ta (tCons te tNil))) tz D σ H :=
  ha H (Ex.refl H) H (Ex.refl H) _ fun H1 e1 => ⟨Or.inl ⟨rfl, xs, sq_of (e1 l _ hl)⟩, h H1 e1 _ fun v H2 e2 z => ⟨l, xs, v, rfl, rfl, e2 l _ (e1 l _ hl), sz_lt hz, k v H2 (e1.trans e2) z⟩⟩
end
theorem q_lst3 {K : Fg} {σ : L2.St} {H : Hp} {ta tb tc : TE} {x : V} {D : Ends} {tz : TS} {Z2 Z3 : V → Hp → Prop} {i : Nat} (h1 : Ev ta σ H x) (h2 : EvZ tb σ H Z2) (h3 : ∀ H', EvZ tc σ H' Z3) (s2 : ∀ v H H', Ex H H' → Z2 v H → Z2 v H') (k : ∀ l v2 v3 H5, Ex H H5 → Z2 v2 H5 → Z3 v3 H5 → H5 l = none → tz D (σ.set i (some (.ref l))) (upd H5 l (.lst [x, v2, v3]))) : tSeq (tAsg (tLst (tCons ta (tCons tb (tCons tc tNil)))) (gName i)) tz D σ H :=
  h1 H (Ex.refl H) _ fun H3 e3 => h2 H3 e3 _ fun v2 H4 e4 z2 => h3 H4 H4 (Ex.refl H4) _ fun v3 H5 e5 z3 => ⟨by show 3 ≤ sizeLine; decide, fun l hl => k l v2 v3 H5 ((e3.trans e4).trans e5) (s2 v2 H4 H5 e5 z2) z3 hl⟩
def kc1 : Ck := ⟨1, [(97, 48), (97, 49)], [(97, 48), (97, 49)], [[(97, 48), (97, 48)], [(97, 48), (97, 49)], [(97, 49), (97, 48)]]⟩
def kc2 : Ck := ⟨1, [(97, 48), (98, 48)], [(97, 49), (98, 48)], [[(97, 48), (97, 49)], [(97, 48), (98, 49)], [(97, 49), (97, 48)], [(97, 49), (98, 48)], [(98, 48), (97, 48)], [(98, 48), (98, 48)], [(98, 49), (97, 49)], [(98, 49), (98, 49)]]⟩
def kc3 : Ck := ⟨1, [(97, 48)], [(97, 48)], [[(97, 48), (97, 48)]]⟩
def kc4 : Ck := ⟨2, [(97, 48), (97, 49)], [(97, 48), (97, 49)], [[(97, 48), (97, 49), (97, 48)], [(97, 49), (97, 48), (97, 48)], [(97, 49), (97, 48), (97, 49)]]⟩
def kc5 : Ck := ⟨1, [(97, 48)], [(97, 50)], [[(97, 48), (97, 49)], [(97, 49), (97, 50)], [(97, 50), (97, 48)]]⟩
def kc6 : Ck := ⟨2, [(97, 48), (98, 48)], [(97, 48), (98, 49)], [[(97, 48), (97, 48), (97, 48)], [(97, 48), (97, 48), (98, 49)], [(98, 48), (97, 48), (97, 48)], [(98, 48), (98, 49), (97, 48)], [(98, 48), (98, 49), (98, 49)]]⟩
theorem ok_c1 : kc1.Ok := ⟨.inl rfl, by unfold okM isLet isDig; decide, by unfold okM isLet isDig; decide, by unfold okM isLet isDig; decide, by unfold ltS; decide, by unfold ltS; decide, by unfold ltS; decide, by decide, by decide, by decide⟩
theorem ok_c2 : kc2.Ok := ⟨.inl rfl, by unfold okM isLet isDig; decide, by unfold okM isLet isDig; decide, by unfold okM isLet isDig; decide, by unfold ltS; decide, by unfold ltS; decide, by unfold ltS; decide, by decide, by decide, by decide⟩
theorem ok_c3 : kc3.Ok := ⟨.inl rfl, by unfold okM isLet isDig; decide, by unfold okM isLet isDig; decide, by unfold okM isLet isDig; decide, by unfold ltS; decide, by unfold ltS; decide, by unfold ltS; decide, by decide, by decide, by decide⟩
theorem ok_c4 : kc4.Ok := ⟨.inr rfl, by unfold okM isLet isDig; decide, by unfold okM isLet isDig; decide, by unfold okM isLet isDig; decide, by unfold ltS; decide, by unfold ltS; decide, by unfold ltS; decide, by decide, by decide, by decide⟩
theorem ok_c5 : kc5.Ok := ⟨.inl rfl, by unfold okM isLet isDig; decide, by unfold okM isLet isDig; decide, by unfold okM isLet isDig; decide, by unfold ltS; decide, by unfold ltS; decide, by unfold ltS; decide, by decide, by decide, by decide⟩
theorem ok_c6 : kc6.Ok := ⟨.inr rfl, by unfold okM isLet isDig; decide, by unfold okM isLet isDig; decide, by unfold okM isLet isDig; decide, by unfold ltS; decide, by unfold ltS; decide, by unfold ltS; decide, by decide, by decide, by decide⟩
theorem sm_c1 : kc1.Sm := ⟨⟨[(97, 48), (97, 49)], by decide, by decide⟩, by decide⟩
theorem sm_c2 : kc2.Sm := ⟨⟨[(97, 48), (97, 49), (98, 48), (98, 49)], by decide, by decide⟩, by decide⟩
theorem sm_c3 : kc3.Sm := ⟨⟨[(97, 48)], by decide, by decide⟩, by decide⟩
theorem sm_c4 : kc4.Sm := ⟨⟨[(97, 48), (97, 49)], by decide, by decide⟩, by decide⟩
theorem sm_c5 : kc5.Sm := ⟨⟨[(97, 48), (97, 49), (97, 50)], by decide, by decide⟩, by decide⟩
theorem sm_c6 : kc6.Sm := ⟨⟨[(97, 48), (98, 48), (98, 49)], by decide, by decide⟩, by decide⟩
section
variable {P : Program} {w : World} {K : Fg} {mg : Str → Option Value} {base : Heap}
def GoodC (K : Fg) (H : Hp) (v : V) : Prop := ∃ c, ChkV K H v c ∧ c.Ok ∧ c.Sm
theorem GoodC.mono {K : Fg} {H H' : Hp} {v : V} (e : Ex H H') (h : GoodC K H v) : GoodC K H' v := by
  obtain ⟨c, h1, h2, h3⟩ := h
  exact ⟨c, h1.mono e, h2, h3⟩
theorem GoodC.del {K : Fg} {H : Hp} {v : V} {l : Addr} (h : GoodC K H v) (hl : ∀ ys, H l ≠ some (.tup ys)) (hf : ∀ o u, H l ≠ some (.frz o u)) : GoodC K (L2.del H l) v := by
  obtain ⟨c, h1, h2, h3⟩ := h
  exact ⟨c, h1.del hl hf, h2, h3⟩
def sp_law_scenes (K : Fg) : Sp := spP 0 fun vs H Z => vs = [] ∧ Z = fun v H2 => ∃ (p : Addr) (xs : List V), v = .ref p ∧ H p = none ∧ H2 p = some (.lst xs) ∧ xs ≠ [] ∧ xs.length ≤ 10 ∧ ∀ x ∈ xs, GoodC K H2 x
abbrev N_law_scenes : List Str := ["_law_loose", "_law_trios", "_law_found"]
theorem sc_law_scenes : FnScope N_law_scenes [] (defScope s_law_scenes) := ⟨rfl, rfl, rfl, by decide +kernel, rfl, by decide +kernel, by decide +kernel⟩
theorem ok_law_scenes (G : Fs P K mg) : Okf P w K mg base 1 "_law_scenes" [] [] (sp_law_scenes K) := by
  refine mk_ok G.k_law_scenes sc_law_scenes (fun f fd F => ⟨[], .nil, FunD.bindsN F fun _ _ _ _ _ _ us hl => match us, hl with | [], _ => rfl⟩) (fun vs H Q E h => h.1) ?_
  intro f cdv A outer s H vs Q E hr h
  have nd := sc_law_scenes.nd
  refine ⟨_, (pss_cons (ps_set (i := 0) nd rfl (Or.inl rfl) (pe_tup (pa_cons pe_int (pa_cons (pe_tup (pa_cons pe_str (pa_cons pe_str pa_nil))) (pa_cons (pe_tup (pa_cons pe_str (pa_cons pe_str pa_nil))) (pa_cons (pe_tup (pa_cons pe_str (pa_cons pe_str (pa_cons pe_str pa_nil)))) pa_nil))))))
  (pss_cons (ps_set (i := 1) nd rfl (Or.inl rfl) (pe_tup (pa_cons pe_str (pa_cons pe_str (pa_cons pe_str (pa_cons pe_str (pa_cons pe_str (pa_cons pe_str (pa_cons pe_str (pa_cons pe_str pa_nil))))))))))
  (pss_cons (ps_set (i := 2) nd rfl (Or.inl rfl) (pe_lst (pa_cons (pv 0) (pa_cons (pe_tup (pa_cons pe_int (pa_cons (pe_tup (pa_cons pe_str (pa_cons pe_str pa_nil))) (pa_cons (pe_tup (pa_cons pe_str (pa_cons pe_str pa_nil))) (pa_cons (pv 1) pa_nil))))) (pa_cons (pe_tup (pa_cons pe_int (pa_cons (pe_tup (pa_cons pe_str pa_nil)) (pa_cons (pe_tup (pa_cons pe_str pa_nil)) (pa_cons (pe_tup (pa_cons pe_str pa_nil)) pa_nil))))) pa_nil)))))
  (pss_cons (ps_expr (pe_bm F.plainAttrs_list F.slot_list_append F.type_list_append mt_append (pv 2) (pa_cons (pe_tup (pa_cons pe_int (pa_cons (pe_tup (pa_cons pe_str (pa_cons pe_str pa_nil))) (pa_cons (pe_tup (pa_cons pe_str (pa_cons pe_str pa_nil))) (pa_cons (pe_tup (pa_cons pe_str (pa_cons pe_str (pa_cons pe_str pa_nil)))) pa_nil))))) pa_nil)))
  (pss_cons (ps_expr (pe_bm F.plainAttrs_list F.slot_list_append F.type_list_append mt_append (pv 2) (pa_cons (pe_tup (pa_cons pe_int (pa_cons (pe_tup (pa_cons pe_str pa_nil)) (pa_cons (pe_tup (pa_cons pe_str pa_nil)) (pa_cons (pe_tup (pa_cons pe_str (pa_cons pe_str (pa_cons pe_str pa_nil)))) pa_nil))))) pa_nil)))
  (pss_cons (ps_expr (pe_bm F.plainAttrs_list F.slot_list_append F.type_list_append mt_append (pv 2) (pa_cons (pe_tup (pa_cons pe_int (pa_cons (pe_tup (pa_cons pe_str (pa_cons pe_str pa_nil))) (pa_cons (pe_tup (pa_cons pe_str (pa_cons pe_str pa_nil))) (pa_cons (pe_tup (pa_cons pe_str (pa_cons pe_str (pa_cons pe_str (pa_cons pe_str (pa_cons pe_str pa_nil)))))) pa_nil))))) pa_nil)))
  (pss_one (ps_ret (pv 2))))))))), ?_⟩
  obtain ⟨hl, Z, ⟨rfl, rfl⟩, q⟩ := h
  have s1 : ∀ {σ : L2.St} {H : Hp} {a b : Str}, EvS K (tTup (tCons (tC (.str a)) (tCons (tC (.str b)) tNil))) σ H [.str a, .str b] := es_tup (ea2 ev_c ev_c) (by show 2 ≤ 100000; omega)
  have s0 : ∀ {σ : L2.St} {H : Hp} {a : Str}, EvS K (tTup (tCons (tC (.str a)) tNil)) σ H [.str a] := es_tup (ea1 ev_c) (by show 1 ≤ 100000; omega)
  have s3 : ∀ {σ : L2.St} {H : Hp} {a b c : Str}, EvS K (tTup (tCons (tC (.str a)) (tCons (tC (.str b)) (tCons (tC (.str c)) tNil)))) σ H [.str a, .str b, .str c] := es_tup (ea3 ev_c ev_c ev_c) (by show 3 ≤ 100000; omega)
  refine q_asgZ (ez_chk (c := kc1) ev_c s1 s1 s3) fun v1 H1 e1 z1 => ?_
  refine q_asgU (xs := kc2.rows.map fun q => .str (rowT q)) (eu_tup (ea_cons ev_c (ea_cons ev_c (ea_cons ev_c (ea_cons ev_c (ea_cons ev_c (ea3 ev_c ev_c ev_c)))))) (by decide)) fun tp H2 _ e2 h2 => ?_
  have hz2 : EvZ (tTup (tCons (tC (.int 1)) (tCons (tTup (tCons (tC (.str "a0")) (tCons (tC (.str "b0")) tNil))) (tCons (tTup (tCons (tC (.str "a1")) (tCons (tC (.str "b0")) tNil))) (tCons (tVar 1) tNil))))) [some v1, some (.ref tp), none] H2 (fun v H' => ChkV K H' v kc2) := ez_chk (c := kc2) ev_c s1 s1 (es_ev (ev_var rfl) (st_of h2))
  have hz3 : ∀ {H : Hp}, EvZ (tTup (tCons (tC (.int 1)) (tCons (tTup (tCons (tC (.str "a0")) tNil)) (tCons (tTup (tCons (tC (.str "a0")) tNil)) (tCons (tTup (tCons (tC (.str "a0a0")) tNil)) tNil))))) [some v1, some (.ref tp), none] H (fun v H' => ChkV K H' v kc3) := ez_chk (c := kc3) ev_c s0 s0 s0
  refine q_lst3 (K := K) (ev_var (v := v1) rfl) hz2 (fun _ => hz3) (fun v H H' e h => ChkV.mono e h) fun l v2 v3 H5 e5 z2 z3 hl => ?_
  have hB0 : H l = none := fresh_back ((e1.trans e2).trans e5) hl
  have hlst : ∀ (H : Hp) (xs : List V), H l = some (.lst xs) → (∀ ys, H l ≠ some (.tup ys)) ∧ (∀ o u, H l ≠ some (.frz o u)) := fun H xs h => ⟨(fun ys e => by rw [h] at e; cases e), (fun o u e => by rw [h] at e; cases e)⟩
  have g1 : GoodC K H5 v1 := ⟨kc1, z1.mono (e2.trans e5), ok_c1, sm_c1⟩
  have g2 : GoodC K H5 v2 := ⟨kc2, z2, ok_c2, sm_c2⟩
  have g3 : GoodC K H5 v3 := ⟨kc3, z3, ok_c3, sm_c3⟩
  have b0 : ∀ x ∈ [v1, v2, v3], GoodC K (L2.del (upd H5 l (.lst [v1, v2, v3])) l) x := by
    intro x hx
    have hx5 : GoodC K H5 x := by
      simp at hx
      rcases hx with rfl | rfl | rfl
      · exact g1
      · exact g2
      · exact g3
    obtain ⟨h1, h2⟩ := hlst (upd H5 l (.lst [v1, v2, v3])) _ upd_same
    exact (hx5.mono (Ex.new hl)).del h1 h2
  have E0 : Ex H (upd H5 l (.lst [v1, v2, v3])) := ((e1.trans e2).trans e5).trans (Ex.new hl)
  -- an append
  have app : ∀ (xs : List V) (c : Ck) (H6 : Hp) (te : TE) (tz : TS) (D : Ends), c.Ok → c.Sm → H6 l = some (.lst xs) → xs.length ≤ 10 → Ex H H6 → (∀ x ∈ xs, GoodC K (L2.del H6 l) x) → EvZ te [some v1, some (.ref tp), some (.ref l)] H6 (fun v H' => ChkV K H' v c) →
      (∀ v H7, H7 l = some (.lst (xs ++ [v])) → Ex H H7 → (∀ x ∈ xs ++ [v], GoodC K (L2.del H7 l) x) → tz D [some v1, some (.ref tp), some (.ref l)] H7) → tSeq (tDrop (tBM K "list" rAppend (tVar 2) (tCons te tNil))) tz D [some v1, some (.ref tp), some (.ref l)] H6 := by
    intro xs c H6 te tz D ok sm hl6 hlen e6 hg hte k
    refine q_appZ hl6 (fun _ _ => ev_var rfl) hte (by omega) fun v H7 e7 z => k v _ upd_same (Ex.mut (e6.trans e7) hB0) fun x hx => ?_
    have hdd : Ex (L2.del H7 l) (L2.del (upd H7 l (.lst (xs ++ [v]))) l) := fun a o h => by
      by_cases ha : a = l
      · rw [ha, del_same] at h; cases h
      · rw [del_ne ha] at h; rw [del_ne ha, upd_ne ha]; exact h
    rcases List.mem_append.mp hx with hx | hx
    · refine (hg x hx).mono (Ex.trans (fun a o h => ?_) hdd)
      by_cases ha : a = l
      · rw [ha, del_same] at h; cases h
      · rw [del_ne ha] at h; rw [del_ne ha]; exact e7 a o h
    · have : x = v := by simpa using hx
      subst this
      obtain ⟨h1, h2⟩ := hlst H7 _ (e7 l _ hl6)
      exact (GoodC.del ⟨c, z, ok, sm⟩ h1 h2).mono hdd
  show tSeq _ _ _ [some v1, some (.ref tp), some (.ref l)] _
  refine app _ kc4 _ _ _ _ ok_c4 sm_c4 upd_same (by simp) E0 b0 (ez_chk (c := kc4) ev_c s1 s1 s3) fun v4 H6 h6 E6 b6 => ?_
  refine app _ kc5 _ _ _ _ ok_c5 sm_c5 h6 (by simp) E6 b6 (ez_chk (c := kc5) ev_c s0 s0 s3) fun v5 H7 h7 E7 b7 => ?_
  refine app _ kc6 _ _ _ _ ok_c6 sm_c6 h7 (by simp) E7 b7 (ez_chk (c := kc6) ev_c s1 s1 (es_tup (ea_cons ev_c (ea_cons ev_c (ea3 ev_c ev_c ev_c))) (by show 5 ≤ 100000; omega))) fun v6 H8 h8 E8 b8 => ?_
  exact s_ret (ev_var rfl) fun H9 e9 => q _ H9 (E8.trans e9) ⟨l, _, rfl, hB0, e9 l _ h8, by simp, by simp, fun x hx => (b8 x hx).mono ((ex_del (Ex.refl _)).trans e9)⟩
end
end K64

set_option Elab.async false
set_option linter.all false
set_option maxRecDepth 100000
set_option maxHeartbeats 4000000
/-! W18: _law_drawn, _law_checker. -/
namespace K64
open PySem PySem.Spec PyProof.Rows L2 Evl
section
variable {K : Fg} {σ : L2.St} {H H' B : Hp} {ta tb te tx tc td ty : TE} {t u : TT} {x y z v : V} {D : Ends} {tz tu : TS} {d cl : Addr}
/-- a loop over a text that is drawn -/
theorem s_forStrX {j : Nat} {W : List Nat → Prop} (h : EvX d cl te σ B (fun v _ => ∃ l, v = .str (St l) ∧ W l)) (e : Ex B H) (f : Feed H d cl)
    (k : ∀ l H1, W l → Ex (del H d) H1 → Feed H1 d cl → ∃ Pv : Nat → L2.St → Hp → Prop, Pv 0 σ H1 ∧ (∀ i c σ' H', l[i]? = some c → Pv i σ' H' → tu { D with nx := Pv (i + 1), ct := Pv (i + 1), bk := D.nx } (σ'.set j (some (sg c))) H') ∧ ∀ σ' H', Pv l.length σ' H' → D.nx σ' H') : tFor (iStr te) (gName j) tu D σ H :=
  h H e f _ fun v H1 e1 f1 ⟨l, hv, w⟩ => by
    subst hv
    obtain ⟨Pv, h0, hs, hd⟩ := k l H1 w e1 f1
    refine ⟨St l, rfl, ?_⟩
    have hsz : (St l).cps.size = l.length := st_size l
    exact for_it (D := D) (walk_str (z := St l)) Pv h0 (fun _ _ _ _ _ => trivial) (fun i x σ' H' H'' hi p y => by
      obtain ⟨rfl, c, h1, rfl⟩ := y
      refine hs i c σ' H'' ?_ p
      have : (St l).cps[i]? = l[i]? := by simp [St]
      rw [← this]
      exact h1) (fun σ' H' p => hd σ' H' (by rw [hsz] at p; exact p))
theorem q_forStrX {j : Nat} {W : List Nat → Prop} (h : EvX d cl te σ B (fun v _ => ∃ l, v = .str (St l) ∧ W l)) (e : Ex B H) (f : Feed H d cl)
    (k : ∀ l H1, W l → Ex (del H d) H1 → Feed H1 d cl → ∃ Pv : Nat → L2.St → Hp → Prop, Pv 0 σ H1 ∧ (∀ i c σ' H', l[i]? = some c → Pv i σ' H' → tu { D with nx := Pv (i + 1), ct := Pv (i + 1), bk := tz D } (σ'.set j (some (sg c))) H') ∧ ∀ σ' H', Pv l.length σ' H' → tz D σ' H') : tSeq (tFor (iStr te) (gName j) tu) tz D σ H := s_forStrX (D := { D with nx := tz D }) h e f k
/-- some of a list, picked by draws -/
theorem ex_lcSub {a : Addr} {xs : List V} {j : Nat} {vs : List Nat} (hB : B d = none) (h : Ev te σ B (.ref a)) (hx : B a = some (.lst xs)) (hz : xs.length ≤ 40000) (hw : ∀ x, wipe ((wipe σ vs).set j (some x)) vs = wipe σ vs) (hj : ∀ x : V, ((wipe σ vs).set j (some x))[j]? = some (some x))
    (ht : ∀ x, EvTX d cl t ((wipe σ vs).set j (some x)) B (fun _ => True)) : EvX d cl (tLc (iList K te) (gName j) t (tVar j) vs) σ B (fun v H' => ∃ (p : Addr) (ys : List V), v = .ref p ∧ B p = none ∧ H' p = some (.lst ys) ∧ ys.Sublist xs) := fun H1 e f Q q =>
  h H1 e _ fun H2 e2 => ⟨a, rfl, ⟨xs, sq_of ((e.trans e2) a _ hx)⟩, fun Dl hD => by
    have hBD : B Dl = none := fresh_back (e.trans e2) hD
    have hDd : Dl ≠ d := fun z => by
      obtain ⟨kvs, ns, b, l, tt, F⟩ := f.mono e2
      rw [z, F.hd] at hD
      cases hD
    refine lc_list (xs := xs) (fun i H' => Ex B H' ∧ Ex (del H1 d) H' ∧ Feed H' d cl ∧ H1 Dl = none ∧ ∃ ys, H' Dl = some (.lst ys) ∧ ys.length ≤ i ∧ ys.Sublist (xs.take i)) ⟨(e.trans e2).trans (Ex.new hD), (ex_del e2).trans (Ex.new hD), (f.mono e2).mono (Ex.new hD), fresh_back e2 hD, [], upd_same, Nat.le_refl _, List.nil_sublist _⟩ (fun i H' _ p => sq_of (p.1 a _ hx)) (fun i x H' hi p => ⟨hw x, ?_⟩) (fun H' p => ?_)
    · obtain ⟨p1, p2, p3, p4, ys, p5, p6, p7⟩ := p
      have hi' := (List.getElem?_eq_some_iff.mp hi).1
      have htk : xs.take (i + 1) = xs.take i ++ [x] := by rw [List.take_succ, hi]; rfl
      refine ht x H' p1 p3 _ fun b H3 e3 f3 _ => ?_
      have hD3 : H3 Dl = some (.lst ys) := e3 Dl _ (by rw [del_ne hDd]; exact p5)
      have b3 := ex_step hB p1 e3
      have d3 : Ex (del H1 d) H3 := ex_step del_same p2 e3
      cases b with
      | true =>
        rw [if_pos rfl]
        refine ⟨x, hj x, ys, hD3, sz_lt (by omega), Ex.mut b3 hBD, Ex.mut d3 (by rw [del_ne hDd]; exact p4), ?_, p4, ys ++ [x], upd_same, by simp; omega, by rw [htk]; exact List.Sublist.append p7 (List.Sublist.refl _)⟩
        obtain ⟨kvs0, ns0, b0, l0, tt0, F0⟩ := f.mono e2
        have hcl : cl ≠ Dl := fun z => by
          rw [← z, F0.hc] at hD
          cases hD
        obtain ⟨kvs, ns, b, l, tt, F⟩ := f3
        exact ⟨kvs, ns, b, l, tt, by rw [upd_ne hDd.symm]; exact F.hd, F.len, F.kc, F.kb, F.kl, F.kt, by rw [upd_ne hcl]; exact F.hc, F.nz⟩
      | false =>
        rw [if_neg (by decide)]
        refine ⟨b3, d3, f3, p4, ys, hD3, by omega, by rw [htk]; exact p7.trans (List.sublist_append_left _ _)⟩
    · obtain ⟨p1, p2, p3, p4, ys, p5, p6, p7⟩ := p
      rw [List.take_length] at p7
      exact q _ H' p2 p3 ⟨Dl, ys, rfl, hBD, p5, p7⟩⟩
theorem Feed.upd {a : Addr} {o : HO} (f : Feed H d cl) (h1 : a ≠ d) (h2 : a ≠ cl) : Feed (upd H a o) d cl := by
  obtain ⟨kvs, ns, b, l, tt, F⟩ := f
  exact ⟨kvs, ns, b, l, tt, by rw [upd_ne h1.symm]; exact F.hd, F.len, F.kc, F.kb, F.kl, F.kt, by rw [upd_ne h2.symm]; exact F.hc, F.nz⟩
theorem feed_some (f : Feed H d cl) : H d ≠ none ∧ H cl ≠ none := by
  obtain ⟨kvs, ns, b, l, tt, F⟩ := f
  exact ⟨fun h => (by rw [F.hd] at h; cases h), fun h => (by rw [F.hc] at h; cases h)⟩
theorem feed_notT (f : Feed H d cl) : (∀ ys, H d ≠ some (.tup ys)) ∧ (∀ o u, H d ≠ some (.frz o u)) := by
  obtain ⟨kvs, ns, b, l, tt, F⟩ := f
  exact ⟨fun ys e => (by rw [F.hd] at e; cases e), fun o u e => (by rw [F.hd] at e; cases e)⟩
/-- drawn from a list of texts that is written there -/
theorem ex_anyL {E : XK} {ls : List (List Nat)} (ha : ∀ H1, Ex B H1 → Ev ta σ H1 (.ref d)) (hb : EvL tb σ B (ls.map fun l => V.str (St l))) (hne : ls ≠ []) (hl : ls.length ≤ 1000) : EvX d cl (tCall (sp_law_any K) [] E (tCons ta (tCons tb tNil))) σ B (fun v _ => ∃ l : List Nat, v = .str (St l) ∧ l ∈ ls) := fun H1 e f Q q =>
  ha H1 e H1 (Ex.refl _) _ fun H2 e2 => hb H2 (e.trans e2) _ fun p H3 hp e3 h3 => by
    have f3 := (f.mono e2).mono e3
    have hpd : p ≠ d := fun z => by
      have := (feed_some (f.mono e2)).1
      rw [z] at hp
      exact this hp
    refine ⟨rfl, d, cl, fun z _ => z ∈ ls.map fun l => V.str (St l), f3, ⟨_, _, rfl, .inl ⟨p, rfl, .inl (sq_of (by rw [del_ne hpd]; exact h3))⟩, by simpa using hne, by rw [List.length_map]; omega, rfl⟩, fun v H4 e4 f4 z => ?_⟩
    obtain ⟨l, hl, rfl⟩ := List.mem_map.mp z
    exact q _ H4 (del_trans (e2.trans e3) e4) f4 ⟨l, rfl, hl⟩
theorem q_pairLX {i j : Nat} {xs : List V} (ha : EvL ta σ H xs) (hb : EvX d cl tb σ B (fun v _ => ∃ k : Int, v = .int k)) (e : Ex B H) (f : Feed H d cl) (k : ∀ p (kk : Int) H1, H p = none → H1 p = some (.lst xs) → Ex (del H d) H1 → Feed H1 d cl → tz D ((σ.set i (some (.ref p))).set j (some (.int kk))) H1) :
    tSeq (tAsg (tTup (tCons ta (tCons tb tNil))) (gTup K 2 (gCons (gName i) (gCons (gName j) gNil)))) tz D σ H :=
  ha H (Ex.refl H) _ fun p H1 hp e1 h1 => hb H1 (e.trans e1) (f.mono e1) _ fun v2 H2 e2 f2 ⟨kk, hk⟩ => ⟨(by show 2 ≤ sizeLine; decide), fun T hT => by
    subst hk
    have hpd : p ≠ d := fun z => by
      have := (feed_some f).1
      rw [z] at hp
      exact this hp
    exact ⟨T, [.ref p, .int kk], rfl, st_of upd_same, rfl, _, [.int kk], rfl, _, [], rfl, rfl, k p kk _ hp ((Ex.new hT) p _ (e2 p _ (by rw [del_ne hpd]; exact h1))) ((del_trans e1 e2).trans (Ex.new hT)) (f2.mono (Ex.new hT))⟩⟩
end
/-! ### the marks and rows drawn: plain -/
def ltK (a b : Mk) : Prop := ltS (mkT a) (mkT b)
theorem ltK_of {a b : Mk} (h : a.1 < b.1 ∨ (a.1 = b.1 ∧ a.2 < b.2)) : ltK a b := by
  show (St [a.1, a.2]).cps.toList < (St [b.1, b.2]).cps.toList
  rw [st_list, st_list]
  rcases h with h | ⟨h1, h2⟩
  · exact List.cons_lt_cons_iff.mpr (.inl h)
  · exact List.cons_lt_cons_iff.mpr (.inr ⟨h1, List.cons_lt_cons_iff.mpr (.inl h2)⟩)
theorem lt_app : ∀ {a b : List Nat} (x y : List Nat), a.length = b.length → a < b → a ++ x < b ++ y
  | [], [], _, _, _, h => absurd h (List.lt_irrefl _)
  | c :: r, e :: q, x, y, hl, h => by
    rcases List.cons_lt_cons_iff.mp h with h | ⟨h1, h2⟩
    · exact List.cons_lt_cons_iff.mpr (.inl h)
    · exact List.cons_lt_cons_iff.mpr (.inr ⟨h1, lt_app x y (by simpa using hl) h2⟩)
theorem lt_app2 {x y : List Nat} : ∀ (a : List Nat), x < y → a ++ x < a ++ y
  | [], h => h
  | c :: r, h => List.cons_lt_cons_iff.mpr (.inr ⟨rfl, lt_app2 r h⟩)
def rowsTo (M : List Mk) : Nat → List (List Mk)
  | 0 => [[]]
  | i + 1 => (rowsTo M i).flatMap fun u => M.map fun m => u ++ [m]
theorem rows_len {M : List Mk} (h : M.length ≤ 4) : ∀ i, (rowsTo M i).length ≤ 4 ^ i
  | 0 => by simp [rowsTo]
  | i + 1 => by
    have h1 := flatMap_len (fun u : List Mk => M.map fun m => u ++ [m]) 4 (fun u => by rw [List.length_map]; exact h) (rowsTo M i)
    have h2 := rows_len h i
    show ((rowsTo M i).flatMap _).length ≤ 4 ^ (i + 1)
    rw [Nat.pow_succ]
    have := Nat.mul_le_mul_right 4 h2
    omega
theorem rows_mem {M : List Mk} : ∀ (i : Nat) (u : List Mk), u ∈ rowsTo M i → u.length = i ∧ ∀ m ∈ u, m ∈ M
  | 0, u, h => by
    have : u = [] := by simpa [rowsTo] using h
    subst this
    exact ⟨rfl, fun m h => nomatch h⟩
  | i + 1, u, h => by
    obtain ⟨v, hv, hu⟩ := List.mem_flatMap.mp h
    obtain ⟨m, hm, rfl⟩ := List.mem_map.mp hu
    obtain ⟨h1, h2⟩ := rows_mem i v hv
    refine ⟨by simp [h1], fun x hx => ?_⟩
    rcases List.mem_append.mp hx with hx | hx
    · exact h2 x hx
    · have : x = m := by simpa using hx
      rw [this]
      exact hm
theorem rowT_app (a b : List Mk) : rowT (a ++ b) = rowT a ++ rowT b := by
  unfold rowT
  rw [List.flatMap_append, st_app]
theorem rowT_list (a : List Mk) : (rowT a).cps.toList = a.flatMap fun m => [m.1, m.2] := by
  unfold rowT
  rw [st_list]
theorem flat2_len : ∀ a : List Mk, (a.flatMap fun m => [m.1, m.2]).length = 2 * a.length
  | [] => rfl
  | m :: r => by
    rw [List.flatMap_cons, List.length_append, flat2_len r]
    show 2 + 2 * r.length = 2 * (r.length + 1)
    omega
theorem rows_asc {M : List Mk} (hM : M.Pairwise ltK) : ∀ i, (rowsTo M i).Pairwise fun a b => ltS (rowT a) (rowT b)
  | 0 => List.pairwise_singleton _ _
  | i + 1 => by
    show List.Pairwise _ ((rowsTo M i).flatMap fun u => M.map fun m => u ++ [m])
    rw [List.pairwise_flatMap]
    refine ⟨fun u hu => ?_, ?_⟩
    · rw [List.pairwise_map]
      refine hM.imp fun {a b} hab => ?_
      show (rowT (u ++ [a])).cps.toList < (rowT (u ++ [b])).cps.toList
      rw [rowT_list, rowT_list, List.flatMap_append, List.flatMap_append]
      refine lt_app2 _ ?_
      have h2 : (St [a.1, a.2]).cps.toList < (St [b.1, b.2]).cps.toList := hab
      rw [st_list, st_list] at h2
      simpa using h2
    · have ih := rows_asc hM i
      refine (List.Pairwise.and_mem.mp ih).imp fun {a b} hab => ?_
      obtain ⟨ha, hb, hlt⟩ := hab
      intro x hx y hy
      obtain ⟨m, _, rfl⟩ := List.mem_map.mp hx
      obtain ⟨n, _, rfl⟩ := List.mem_map.mp hy
      show (rowT (a ++ [m])).cps.toList < (rowT (b ++ [n])).cps.toList
      rw [rowT_list, rowT_list, List.flatMap_append, List.flatMap_append]
      have h2 : (rowT a).cps.toList < (rowT b).cps.toList := hlt
      rw [rowT_list, rowT_list] at h2
      exact lt_app _ _ (by rw [flat2_len, flat2_len, (rows_mem i a ha).1, (rows_mem i b hb).1]) h2
/-- parts of what was drawn make a checker -/
theorem drawn_ok {m : Nat} {M : List Mk} {tops leaves : List Mk} {rows : List (List Mk)} (hm : m = 1 ∨ m = 2) (hM : M.Pairwise ltK) (ho : ∀ x ∈ M, okM x) (hl : M.length ≤ 4) (h1 : tops.Sublist M) (h2 : leaves.Sublist M) (h3 : rows.Sublist (rowsTo M (m + 1))) :
    (Ck.mk m tops leaves rows).Ok ∧ (Ck.mk m tops leaves rows).Sm := by
  have hr : (rowsTo M (m + 1)).length ≤ 64 := by
    have := rows_len hl (m + 1)
    have h4 : (4 : Nat) ^ (m + 1) ≤ 4 ^ 3 := Nat.pow_le_pow_right (by omega) (by omega)
    have h5 : (4 : Nat) ^ 3 = 64 := by decide
    omega
  have l1 := h1.length_le
  have l2 := h2.length_le
  have l3 := h3.length_le
  have hmem : ∀ r ∈ rows, r.length = m + 1 ∧ ∀ x ∈ r, x ∈ M := fun r hr => rows_mem (m + 1) r (h3.subset hr)
  refine ⟨⟨hm, fun x hx => ho x (h1.subset hx), fun x hx => ho x (h2.subset hx), fun r hr => ⟨(hmem r hr).1, fun x hx => ho x ((hmem r hr).2 x hx)⟩, List.pairwise_map.mpr (hM.sublist h1), List.pairwise_map.mpr (hM.sublist h2), List.pairwise_map.mpr ((rows_asc hM (m + 1)).sublist h3), by show tops.length ≤ 300; omega, by show leaves.length ≤ 300; omega, by show rows.length ≤ 300; omega⟩, ⟨⟨M, hl, fun x hx => ?_⟩, ?_⟩⟩
  · unfold allM at hx
    rcases List.mem_append.mp hx with hx | hx
    · rcases List.mem_append.mp hx with hx | hx
      · exact h1.subset hx
      · exact h2.subset hx
    · obtain ⟨r, hr, hxr⟩ := List.mem_flatten.mp hx
      exact (hmem r hr).2 x hxr
  · unfold allM
    rw [List.length_append, List.length_append]
    have hfl : ∀ L : List (List Mk), (∀ r ∈ L, r.length = m + 1) → L.flatten.length = L.length * (m + 1) := by
      intro L
      induction L with
      | nil => intro _; simp
      | cons a b ih =>
        intro h
        rw [List.flatten_cons, List.length_append, ih fun r hr => h r (List.mem_cons_of_mem _ hr), h a List.mem_cons_self, List.length_cons, Nat.succ_mul]
        omega
    have := hfl rows fun r hr => (hmem r hr).1
    show tops.length + leaves.length + rows.flatten.length ≤ 2000
    rw [this]
    have h6 : rows.length * (m + 1) ≤ 64 * 3 := Nat.mul_le_mul (by omega) (by omega)
    omega
end K64

set_option Elab.async false
set_option linter.all false
set_option maxRecDepth 100000
set_option maxHeartbeats 4000000
/-! W19: the walks of _law_drawn, _law_checker. -/
namespace K64
open PySem PySem.Spec PyProof.Rows L2 Evl
theorem cut_first (xs : List V) (k : Nat) : ∃ a b, cutV xs none (some (k : Int)) = (xs.drop a).take b ∧ b ≤ k := by
  refine ⟨HT.sIx xs.length 0 none, HT.sIx xs.length xs.length (some (k : Int)) - HT.sIx xs.length 0 none, rfl, ?_⟩
  have : HT.sIx xs.length xs.length (some (k : Int)) ≤ k := by
    unfold HT.sIx
    simp
    split <;> omega
  omega
theorem take_get {α : Type} {l : List α} {i : Nat} {c : α} (h : l[i]? = some c) : l.take (i + 1) = l.take i ++ [c] := by
  rw [List.take_succ, h]
  rfl
/-- the next of a rising list is above all before -/
theorem rise_next {l : List Nat} (h : l.Pairwise (· < ·)) {i c : Nat} (hc : l[i]? = some c) : ∀ x ∈ l.take i, x < c := by
  intro x hx
  obtain ⟨j, hj, rfl⟩ := List.mem_iff_getElem.mp hx
  rw [List.length_take] at hj
  obtain ⟨hi, rfl⟩ := List.getElem?_eq_some_iff.mp hc
  rw [List.getElem_take]
  exact List.pairwise_iff_getElem.mp h j i (by omega) hi (by omega)
/-- a rising text of few letters, of few digits -/
def PL (l : List Nat) : Prop := l.Pairwise (· < ·) ∧ (∀ x ∈ l, isLet x) ∧ l.length ≤ 2
def PD (l : List Nat) : Prop := l.Pairwise (· < ·) ∧ (∀ x ∈ l, isDig x) ∧ l.length ≤ 3
theorem pl_all : ∀ l ∈ ([[97], [97, 98], [97, 98], [98, 122]] : List (List Nat)), PL l := by unfold PL isLet; decide
theorem pd_all : ∀ l ∈ ([[48], [48, 49], [48, 49], [48, 49, 50], [49, 57], [55]] : List (List Nat)), PD l := by unfold PD isDig; decide
section
variable {P : Program} {w : World} {K : Fg} {mg : Str → Option Value} {base : Heap}
def sp_law_drawn (K : Fg) : Sp := spX 2 fun vs H d Z => ∃ m : Nat, vs = [.ref d, .int m] ∧ (m = 1 ∨ m = 2) ∧ Z = fun v H2 => GoodC K H2 v
structure Dm (B : Hp) (d cl ml : Addr) (M : List Mk) (H : Hp) : Prop where
  ex : Ex B H
  fe : Feed H d cl
  ml : H ml = some (.lst (M.map mkV))
  asc : M.Pairwise ltK
  ok : ∀ m ∈ M, okM m
abbrev N_law_drawn : List Str := ["_law_feed_here", "_law_many", "_law_marks_here", "_law_letter", "_law_trios", "_law_lap", "_law_tops", "_law_leaves", "_law_digit", "_law_level", "_law_late", "_law_trio", "_law_mark"]
theorem sc_law_drawn : FnScope N_law_drawn ["_law_feed_here", "_law_many"] (defScope s_law_drawn) := ⟨rfl, rfl, rfl, by decide +kernel, rfl, by decide +kernel, by decide +kernel⟩
theorem ok_law_drawn (G : Fs P K mg) : Okf P w K mg base 3 "_law_drawn" ["_law_feed_here", "_law_many"] [] (sp_law_drawn K) := by
  refine mk_ok G.k_law_drawn sc_law_drawn (fun f fd F => ⟨[], .nil, FunD.bindsN F fun _ _ _ _ _ _ us hl => match us, hl with | [_, _], _ => rfl⟩) (fun vs H Q E h => h.1) ?_
  intro f cdv A outer s H vs Q E hr h
  have nd := sc_law_drawn.nd
  refine ⟨_, (pss_cons (ps_set (i := 2) nd rfl (Or.inl rfl) (pe_lst pa_nil))
  (pss_cons (ps_for PassesOwn.never rfl (pi_str (pe_ok (ok_law_any G) hr (by decide) rfl (pa_cons (pv 0) (pa_cons (pe_lst (pa_cons pe_str (pa_cons pe_str (pa_cons pe_str (pa_cons pe_str pa_nil))))) pa_nil)))) (pg_name (i := 3) nd rfl (Or.inl rfl))
  (pss_one (ps_for PassesOwn.never rfl (pi_str (pe_ok (ok_law_any G) hr (by decide) rfl (pa_cons (pv 0) (pa_cons (pe_lst (pa_cons pe_str (pa_cons pe_str (pa_cons pe_str (pa_cons pe_str (pa_cons pe_str (pa_cons pe_str pa_nil))))))) pa_nil)))) (pg_name (i := 8) nd rfl (Or.inl rfl))
  (pss_one (ps_expr (pe_bm F.plainAttrs_list F.slot_list_append F.type_list_append mt_append (pv 2) (pa_cons (pe_op op_add_str (pv 3) (pv 8)) pa_nil)))))))
  (pss_cons (ps_asg (pe_tup (pa_cons (pe_slice sl_list (pv 2) po_none (po_some (pe_op op_sub pe_int (pv 1)))) (pa_cons (pe_op op_add pe_int (pe_ok (ok_law_draw G) hr (by decide) rfl (pa_cons (pv 0) (pa_cons pe_int pa_nil)))) pa_nil))) (pg_tup rfl (pgs_cons (pg_name (i := 2) nd rfl (Or.inl rfl)) (pgs_cons (pg_name (i := 9) nd rfl (Or.inr rfl)) pgs_nil))))
  (pss_cons (ps_set (i := 4) nd rfl (Or.inl rfl) (pe_lst (pa_cons pe_str pa_nil)))
  (pss_cons (ps_for PassesOwn.never rfl (pi_range1 rfl G.f_range (pa_cons (pe_op op_add (pv 1) pe_int) pa_nil)) (pg_name (i := 5) nd rfl (Or.inl rfl))
  (pss_cons (ps_set (i := 10) nd rfl (Or.inl rfl) (pe_lst pa_nil))
  (pss_cons (ps_for PassesOwn.never rfl (pi_list (pv 4)) (pg_name (i := 11) nd rfl (Or.inr rfl))
  (pss_one (ps_set (i := 10) nd rfl (Or.inl rfl) (pe_op op_cat (pv 10) (pe_lc (g := gName 12) rfl nd (pi_list (pv 2)) (blkOk_by (own := [("_law_mark", 12)]) (N := N_law_drawn) (sc := defScope s_law_drawn) (by decide +kernel)) (fun _ _ _ _ _ => (pg_name (i := 12) nd rfl (Or.inl rfl))) (fun _ _ _ _ _ => pts_nil) (fun _ _ _ _ _ => (pe_op op_add_str (pv 11) (pv 12))))))))
  (pss_one (ps_set (i := 4) nd rfl (Or.inl rfl) (pv 10))))))
  (pss_cons (ps_setLc (i := 6) (g := gName 12) rfl nd rfl rfl (sw_true rfl rfl rfl (by decide +kernel)) (pi_list (pv 2)) (blkOk_by (own := [("_law_mark", 12)]) (N := N_law_drawn) (sc := defScope s_law_drawn) (by decide +kernel)) (fun _ _ _ _ _ => (pg_name (i := 12) nd rfl (Or.inl rfl))) (fun _ _ _ _ _ => (pts_one (pt_cmpR op_gt (pe_ok (ok_law_draw G) hr (by decide) rfl (pa_cons (pv 0) (pa_cons pe_int pa_nil))) pe_int (nomark _)))) (fun _ _ _ _ _ => (pv 12)))
  (pss_cons (ps_setLc (i := 7) (g := gName 12) rfl nd rfl rfl (sw_true rfl rfl rfl (by decide +kernel)) (pi_list (pv 2)) (blkOk_by (own := [("_law_mark", 12)]) (N := N_law_drawn) (sc := defScope s_law_drawn) (by decide +kernel)) (fun _ _ _ _ _ => (pg_name (i := 12) nd rfl (Or.inl rfl))) (fun _ _ _ _ _ => (pts_one (pt_cmpR op_gt (pe_ok (ok_law_draw G) hr (by decide) rfl (pa_cons (pv 0) (pa_cons pe_int pa_nil))) pe_int (nomark _)))) (fun _ _ _ _ _ => (pv 12)))
  (pss_one (ps_ret (pe_tup (pa_cons (pv 1) (pa_cons (pe_callTy call_tuple_of rfl G.f_tuple boot_tuple (pa_cons (pv 6) pa_nil)) (pa_cons (pe_callTy call_tuple_of rfl G.f_tuple boot_tuple (pa_cons (pv 7) pa_nil)) (pa_cons (pe_callTy call_tuple_of rfl G.f_tuple boot_tuple (pa_cons (pe_lc (g := gName 11) rfl nd (pi_list (pv 4)) (blkOk_by (own := [("_law_trio", 11)]) (N := N_law_drawn) (sc := defScope s_law_drawn) (by decide +kernel)) (fun _ _ _ _ _ => (pg_name (i := 11) nd rfl (Or.inl rfl))) (fun _ _ _ _ _ => (pts_one (pt_cmpR op_lt (pe_ok (ok_law_draw G) hr (by decide) rfl (pa_cons (pv 0) (pa_cons pe_int pa_nil))) (pv 9) (nomark _)))) (fun _ _ _ _ _ => (pv 11))) pa_nil)) pa_nil)))))))))))))), ?_⟩
  obtain ⟨hl, d, cl, Z, hF, ⟨m, rfl, hm, rfl⟩, q⟩ := h
  have hB : del H d d = none := del_same
  refine q_asgL (el_lst ea_nil (by decide)) fun ml H1 hml e1 h1 => ?_
  have hmd : ml ≠ d := fun z => by rw [z] at hml; exact (feed_some hF).1 hml
  have hmc : ml ≠ cl := fun z => by rw [z] at hml; exact (feed_some hF).2 hml
  have hBm : del H d ml = none := by rw [del_ne hmd]; exact hml
  have f1 := hF.mono e1
  have E1 : Ex (del H d) H1 := ex_del e1
  refine q_forStrX (W := PL) (B := del H d) ((ex_anyL (K := K) (ls := [[97], [97, 98], [97, 98], [98, 122]]) (fun _ _ => ev_var rfl) (el_lst (ea_cons ev_c (ea3 ev_c ev_c ev_c)) (by decide)) (by simp) (by decide)).imp fun v H ⟨l, h1, h2⟩ => ⟨l, h1, pl_all l h2⟩) E1 f1 fun ll H2 hll e2 f2 =>
    ⟨fun i σ' H' => (∃ M, Dm (del H d) d cl ml M H' ∧ M.length ≤ 3 * i ∧ ∀ x ∈ M, x.1 ∈ ll.take i) ∧ ∃ x3 x4 x5 x6 x7 x8 x9 x10 x11 x12, σ' = [some (.ref d), some (.int m), some (.ref ml), x3, x4, x5, x6, x7, x8, x9, x10, x11, x12], ?_, ?_, ?_⟩
  · exact ⟨⟨[], ⟨ex_step hB E1 e2, f2, e2 ml _ (by rw [del_ne hmd]; exact h1), List.Pairwise.nil, fun x h => nomatch h⟩, by simp, fun x h => nomatch h⟩, none, none, none, none, none, none, none, none, none, none, rfl⟩
  · intro i c σ' H3 hc ⟨⟨M, hM, hMl, hMt⟩, x3, x4, x5, x6, x7, x8, x9, x10, x11, x12, hσ⟩
    subst hσ
    have hcl := hll.2.1 c (List.mem_of_getElem? hc)
    have hi2 : i < 2 := by
      have := (List.getElem?_eq_some_iff.mp hc).1
      have := hll.2.2
      omega
    refine s_forStrX (W := PD) (B := del H d) ((ex_anyL (K := K) (ls := [[48], [48, 49], [48, 49], [48, 49, 50], [49, 57], [55]]) (fun _ _ => ev_var rfl) (el_lst (ea_cons ev_c (ea_cons ev_c (ea_cons ev_c (ea3 ev_c ev_c ev_c)))) (by decide)) (by simp) (by decide)).imp fun v H ⟨l, h1, h2⟩ => ⟨l, h1, pd_all l h2⟩) hM.ex hM.fe fun dl H4 hdl e4 f4 =>
      ⟨fun j σ' H' => Dm (del H d) d cl ml (M ++ (dl.take j).map fun x => (c, x)) H' ∧ ∃ x4 x5 x6 x7 x8 x9 x10 x11 x12, σ' = [some (.ref d), some (.int m), some (.ref ml), some (sg c), x4, x5, x6, x7, x8, x9, x10, x11, x12], ?_, ?_, ?_⟩
    · exact ⟨⟨ex_step hB hM.ex e4, f4, by rw [List.take_zero, List.map_nil, List.append_nil]; exact e4 ml _ (by rw [del_ne hmd]; exact hM.ml), by simpa using hM.asc, by simpa using hM.ok⟩, _, _, _, _, _, _, _, _, _, rfl⟩
    · intro j x σ' H5 hx ⟨hD, y4, y5, y6, y7, y8, y9, y10, y11, y12, hσ⟩
      subst hσ
      have hxd := hdl.2.1 x (List.mem_of_getElem? hx)
      have hjl : (M ++ (dl.take j).map fun x => (c, x)).length ≤ 1000 := by
        rw [List.length_append, List.length_map, List.length_take]
        have := hdl.2.2
        omega
      refine s_app (K := K) hD.ml (ev_var rfl) (ev_mk (l := c) (d := x) (ev_var rfl) (ev_var rfl)) (by rw [List.length_map]; omega) fun H6 e6 => ⟨⟨Ex.mut (hD.ex.trans e6) hBm, (hD.fe.mono e6).upd hmd hmc, ?_, ?_, ?_⟩, _, _, _, _, _, _, _, _, _, rfl⟩
      · rw [upd_same, take_get hx]
        simp
      · rw [take_get hx, List.map_append, ← List.append_assoc]
        rw [List.pairwise_append]
        refine ⟨hD.asc, List.pairwise_singleton _ _, fun a ha b hb => ?_⟩
        have : b = (c, x) := by simpa using hb
        subst this
        apply ltK_of
        rcases List.mem_append.mp ha with ha | ha
        · exact .inl (rise_next hll.1 hc _ (hMt a ha))
        · obtain ⟨z, hz, rfl⟩ := List.mem_map.mp ha
          exact .inr ⟨rfl, rise_next hdl.1 hx _ hz⟩
      · intro b hb
        rw [take_get hx, List.map_append, ← List.append_assoc] at hb
        rcases List.mem_append.mp hb with hb | hb
        · exact hD.ok b hb
        · have : b = (c, x) := by simpa using hb
          subst this
          exact ⟨hcl, hxd⟩
    · intro σ' H5 ⟨hD, y4, y5, y6, y7, y8, y9, y10, y11, y12, hσ⟩
      subst hσ
      rw [List.take_length] at hD
      refine ⟨⟨_, hD, ?_, fun y hy => ?_⟩, _, _, _, _, _, _, _, _, _, _, rfl⟩
      · rw [List.length_append, List.length_map]
        have := hdl.2.2
        omega
      · rw [take_get hc]
        rcases List.mem_append.mp hy with hy | hy
        · exact List.mem_append.mpr (.inl (hMt y hy))
        · obtain ⟨z, hz, rfl⟩ := List.mem_map.mp hy
          exact List.mem_append.mpr (.inr (by simp))
  · intro σ' H3 ⟨⟨M0, hM0, hMl, _⟩, x3, x4, x5, x6, x7, x8, x9, x10, x11, x12, hσ⟩
    subst hσ
    obtain ⟨a, b, hcut, hbk⟩ := cut_first (M0.map mkV) (5 - m)
    have hcut2 : cutV (M0.map mkV) none (some (5 - (m : Int))) = (((M0.drop a).take b).map mkV) := by
      rw [show (5 - (m : Int)) = ((5 - m : Nat) : Int) by omega, hcut, List.map_take, List.map_drop]
    have hsubM : ((M0.drop a).take b).Sublist M0 := (List.take_sublist _ _).trans (List.drop_sublist _ _)
    generalize hM' : (M0.drop a).take b = M at hcut2 hsubM
    have hM4 : M.length ≤ 4 := by rw [← hM', List.length_take]; omega
    have hasc := hM0.asc.sublist hsubM
    have hoks : ∀ x ∈ M, okM x := fun x hx => hM0.ok x (hsubM.subset hx)
    have hsl := el_sl (K := K) (te := tVar 2) (tl := tNoPart) (th := tPart (tOp (rI0 fun i j => .int (i - j)) (tC (.int 5)) (tVar 1))) (σ := [some (.ref d), some (.int m), some (.ref ml), x3, x4, x5, x6, x7, x8, x9, x10, x11, x12]) (H := H3) (ev_var rfl) eo_none (eo_some (ev_op ev_c (ev_var rfl) rv_I0)) (sq_of hM0.ml)
    rw [hcut2] at hsl
    have hlev : EvX d cl (tOp (rI0 fun i j => .int (i + j)) (tC (.int 1)) (tCall (sp_law_draw K) [] E0 (tCons (tVar 0) (tCons (tC (.int 3)) tNil)))) [some (.ref d), some (.int m), some (.ref ml), x3, x4, x5, x6, x7, x8, x9, x10, x11, x12] (del H d) (fun v _ => ∃ k : Int, v = .int k) := fun H4 e4 f4 Q4 q4 =>
      (ex_drawI (K := K) (n := 3) (E := E0) (ta := tVar 0) (tb := tC (.int 3)) (σ := [some (.ref d), some (.int m), some (.ref ml), x3, x4, x5, x6, x7, x8, x9, x10, x11, x12]) (B := del H d) (d := d) (cl := cl) (ev_var rfl) ev_c (by decide) (by decide)) H4 e4 f4 _ fun v H5 e5 f5 ⟨k, hk⟩ => ⟨1, k, rfl, hk, q4 _ H5 e5 f5 ⟨_, rfl⟩⟩
    refine q_pairLX hsl hlev hM0.ex hM0.fe fun mp lev H4 hmp0 hmp e4 f4 => ?_
    show tSeq _ _ _ [some (.ref d), some (.int m), some (.ref mp), x3, x4, x5, x6, x7, x8, some (.int lev), x10, x11, x12] H4
    have E4 := ex_step hB hM0.ex e4
    refine q_asgL (el_lst (ea1 ev_c) (by decide)) fun t0 H5 _ e5 h5 => ?_
    have hmp5 := e5 mp _ hmp
    have f5 := f4.mono e5
    have E5 := E4.trans e5
    have hRl : ∀ i, i ≤ 3 → (rowsTo M i).length ≤ 64 := fun i hi => by
      have := rows_len hM4 i
      have h4 : (4 : Nat) ^ i ≤ 4 ^ 3 := Nat.pow_le_pow_right (by omega) hi
      have h5 : (4 : Nat) ^ 3 = 64 := by decide
      omega
    -- the rows
    refine q_forI (H := H5) (ei_rng1 (n := ((m + 1 : Nat) : Int)) (ea1 (ev_op (ev_var rfl) ev_c rv_I0)) (by omega) (by omega)) (Ex.refl _) (fun i σ' H' => Ex H5 H' ∧ ∃ tp : Addr, H' tp = some (.lst ((rowsTo M i).map fun r => .str (rowT r))) ∧ ∃ x3 x5 x6 x7 x8 x10 x11 x12, σ' = [some (.ref d), some (.int m), some (.ref mp), x3, some (.ref tp), x5, x6, x7, x8, some (.int lev), x10, x11, x12])
      (fun H6 e6 => ⟨e6, t0, e6 t0 _ h5, _, _, _, _, _, _, _, _, rfl⟩) (fun i σ' H' hi p => p.1) (fun i x σ' H6 H7 hi pv y => ?_) (fun σ' H6 pv => ?_)
    · obtain ⟨e6, tp, htp, y3, y5, y6, y7, y8, y10, y11, y12, rfl⟩ := pv
      obtain ⟨rfl, rfl⟩ := y
      have hi' : i < m + 1 := hi
      show tSeq _ _ _ [some (.ref d), some (.int m), some (.ref mp), y3, some (.ref tp), some (.int (i : Nat)), y6, y7, y8, some (.int lev), y10, y11, y12] H7
      refine q_asgL (el_lst ea_nil (by decide)) fun l0 H8 _ e8 hl0 => ?_
      refine q_forI (H := H8) (ei_list (ev_var rfl) (sq_of (e8 tp _ htp))) (Ex.refl _) (fun j σ' H' => Ex H8 H' ∧ ∃ lp : Addr, H' lp = some (.lst (((((rowsTo M i).take j).flatMap fun u => M.map fun m => u ++ [m])).map fun r => .str (rowT r))) ∧ ∃ x11 x12, σ' = [some (.ref d), some (.int m), some (.ref mp), y3, some (.ref tp), some (.int (i : Nat)), y6, y7, y8, some (.int lev), some (.ref lp), x11, x12])
        (fun H9 e9 => ⟨e9, l0, e9 l0 _ hl0, _, _, rfl⟩) (fun j σ' H' hj p => p.1) (fun j x σ' H9 H10 hj pv y => ?_) (fun σ' H9 pv => ?_)
      · obtain ⟨e9, lp, hlp, z11, z12, rfl⟩ := pv
        obtain ⟨rfl, y⟩ := y
        rw [List.length_map] at hj
        rw [List.getElem?_map, List.getElem?_eq_getElem hj] at y
        obtain rfl := Option.some.inj y
        generalize hu : (rowsTo M i)[j] = u at *
        have hui : u ∈ rowsTo M i := by rw [← hu]; exact List.getElem_mem hj
        have hul := (rows_mem i u hui).1
        have htk : (rowsTo M i).take (j + 1) = (rowsTo M i).take j ++ [u] := take_get (by rw [List.getElem?_eq_getElem hj, hu])
        have g := el_lc (vs := [12]) (j := 12) (t := tYes) (te := tOp rAddS (tVar 11) (tVar 12)) (σ := [some (.ref d), some (.int m), some (.ref mp), y3, some (.ref tp), some (.int (i : Nat)), y6, y7, y8, some (.int lev), some (.ref lp), some (.str (rowT u)), z12]) (H := H10) (fun _ => true) (fun k => .str (rowT (u ++ [M.getD k (0, 0)]))) (f := fun k => (M.map mkV).getD k .non)
          (ei_list (K := K) (te := tVar 2) (ev_var rfl) (sq_of (e9 mp _ (e8 mp _ (e6 mp _ hmp5))))).j (by simp; omega) (fun i H1 x H2 hi y => yat_get hi y) (fun _ => rfl) (fun _ _ _ _ => et_yes) fun k H11 e11 hk _ => by
            have hk' : k < M.length := by simpa using hk
            have hx : (M.map mkV).getD k .non = .str (rowT [M[k]]) := by simp [List.getD, hk']; rfl
            have hx2 : M.getD k (0, 0) = M[k] := by simp [List.getD, hk']
            rw [hx, hx2, rowT_app]
            exact ev_addS (ev_var rfl) (ev_var rfl) (by rw [rowT_len, rowT_len]; simp; omega)
        rw [List.length_map, given_list M (fun _ => true) (fun m => .str (rowT (u ++ [m]))) _ _ (fun _ _ => rfl) (fun k hk => by simp [List.getD, hk]), List.filter_eq_self.mpr (fun _ _ => rfl)] at g
        have hb1 : ((((rowsTo M i).take j).flatMap fun u => M.map fun m => u ++ [m])).length ≤ 64 * 4 := by
          have h1 := flatMap_len (fun u : List Mk => M.map fun m => u ++ [m]) 4 (fun u => by rw [List.length_map]; exact hM4) ((rowsTo M i).take j)
          have h2 : ((rowsTo M i).take j).length ≤ (rowsTo M i).length := by rw [List.length_take]; omega
          have h3 := hRl i (by omega)
          omega
        refine s_asgL (el_cat (ev_var (v := .ref lp) rfl) hlp g (by rw [List.length_map, List.length_map]; omega)) fun l11 H11 _ e11 h11 => ⟨e9.trans e11, l11, ?_, _, _, rfl⟩
        rw [h11, htk, List.flatMap_append, List.map_append]
        simp
      · obtain ⟨e9, lp, hlp, z11, z12, rfl⟩ := pv
        rw [List.length_map, List.take_length] at hlp
        exact s_asg (ev_var (v := .ref lp) rfl) fun H10 e10 => ⟨((e6.trans e8).trans e9).trans e10, lp, e10 lp _ hlp, _, _, _, _, _, _, _, _, rfl⟩
    · obtain ⟨e6, tp, htp, y3, y5, y6, y7, y8, y10, y11, y12, rfl⟩ := pv
      have hk : (((m + 1 : Nat) : Int)).toNat = m + 1 := rfl
      rw [hk] at htp
      have f6 := f5.mono e6
      have hmp6 := e6 mp _ hmp5
      have hmpd : mp ≠ d := fun z => by
        rw [z] at hmp6
        obtain ⟨kvs, ns, bb, l, tt, F⟩ := f6
        rw [F.hd] at hmp6
        cases hmp6
      have htpd : tp ≠ d := fun z => by
        rw [z] at htp
        obtain ⟨kvs, ns, bb, l, tt, F⟩ := f6
        rw [F.hd] at htp
        cases htp
      have hB6 : del H6 d d = none := del_same
      have E6 := E5.trans e6
      refine q_asgX (B := del H6 d) (ex_lcSub (K := K) (a := mp) (xs := M.map mkV) hB6 (ev_var rfl) (by rw [del_ne hmpd]; exact hmp6) (by simp; omega) (fun _ => rfl) (fun _ => rfl) fun x => etx_cmp (g := fun i j => decide (j < i)) (ex_drawI (K := K) (ev_var rfl) ev_c (by decide) (by decide))) (ex_del (Ex.refl _)) f6 fun v7 H7 e7 f7 ⟨p7, ys7, hv7, hp70, hp7, hs7⟩ => ?_
      subst hv7
      refine q_asgX (B := del H6 d) (ex_lcSub (K := K) (a := mp) (xs := M.map mkV) hB6 (ev_var rfl) (by rw [del_ne hmpd]; exact hmp6) (by simp; omega) (fun _ => rfl) (fun _ => rfl) fun x => etx_cmp (g := fun i j => decide (j < i)) (ex_drawI (K := K) (ev_var rfl) ev_c (by decide) (by decide))) e7 f7 fun v8 H8 e8 f8 ⟨p8, ys8, hv8, hp80, hp8, hs8⟩ => ?_
      subst hv8
      have E8 : Ex (del H6 d) H8 := ex_step hB6 e7 e8
      obtain ⟨tops, htops, rfl⟩ := List.sublist_map_iff.mp hs7
      obtain ⟨leaves, hleaves, rfl⟩ := List.sublist_map_iff.mp hs8
      have hp7d : p7 ≠ d := fun z => by
        rw [z] at hp7
        obtain ⟨kvs, ns, bb, l, tt, F⟩ := f7
        rw [F.hd] at hp7
        cases hp7
      have hp78 := e8 p7 _ (by rw [del_ne hp7d]; exact hp7)
      show tRet _ _ [some (.ref d), some (.int m), some (.ref mp), y3, some (.ref tp), y5, some (.ref p7), some (.ref p8), y8, some (.int lev), y10, y11, y12] H8
      -- the tuple
      have tc : ∀ (i : Nat) (p : Addr) (xs : List V) (H9 : Hp), [some (.ref d), some (.int m), some (.ref mp), y3, some (.ref tp), y5, some (.ref p7), some (.ref p8), y8, some (.int lev), y10, y11, y12][i]? = some (some (V.ref p)) → SqL K H9 p xs → EvU (tCB (fun xs H Q => ∃ p ys, xs = [V.ref p] ∧ ((SqL K H p ys ∧ ∀ l, H l = none → Q (.ref l) (upd H l (.tup ys))) ∨ (SqT K H p ys ∧ Q (.ref p) H))) (tCons (tVar i) tNil)) [some (.ref d), some (.int m), some (.ref mp), y3, some (.ref tp), y5, some (.ref p7), some (.ref p8), y8, some (.int lev), y10, y11, y12] H9 xs := fun i p xs H9 hi hx H10 e10 Q10 q10 =>
        (ev_var hi : Ev (tVar i) _ H9 (.ref p)) H10 e10 _ fun H11 e11 => ⟨p, xs, rfl, .inl ⟨ex_l (e10.trans e11) hx, fun l hl => q10 l _ (fresh_back e11 hl) (e11.trans (Ex.new hl)) upd_same⟩⟩
      have hv1 : Ev (tVar 1) [some (.ref d), some (.int m), some (.ref mp), y3, some (.ref tp), y5, some (.ref p7), some (.ref p8), y8, some (.int lev), y10, y11, y12] H8 (.int m) := ev_var rfl
      unfold tRet tTup
      show tVar 1 [some (.ref d), some (.int m), some (.ref mp), y3, some (.ref tp), y5, some (.ref p7), some (.ref p8), y8, some (.int lev), y10, y11, y12] H8 _
      refine hv1 H8 (Ex.refl _) _ fun H9 e9 => ?_
      unfold tCons
      refine (tc 6 p7 _ H9 rfl (sq_of (e9 p7 _ hp78))) H9 (Ex.refl _) _ fun a10 H10 ha10 e10 h10 => ?_
      refine (tc 7 p8 _ H10 rfl (sq_of ((e9.trans e10) p8 _ hp8))) H10 (Ex.refl _) _ fun a11 H11 ha11 e11 h11 => ?_
      have f11 := (f8.mono e9).mono (e10.trans e11)
      have E11 : Ex (del H6 d) H11 := E8.trans (e9.trans (e10.trans e11))
      have hsub := ex_lcSub (K := K) (a := tp) (xs := (rowsTo M (m + 1)).map fun r => V.str (rowT r)) (te := tVar 4) (j := 11) (vs := [11]) (σ := [some (.ref d), some (.int m), some (.ref mp), y3, some (.ref tp), y5, some (.ref p7), some (.ref p8), y8, some (.int lev), y10, y11, y12]) (d := d) (cl := cl) (B := del H6 d) (t := tTest (tOp (rI0 fun i j => .bl (decide (i < j))) (tCall (sp_law_draw K) [] E0 (tCons (tVar 0) (tCons (tC (.int 4)) tNil))) (tVar 9))) hB6 (ev_var rfl) (by rw [del_ne htpd]; exact htp) (by rw [List.length_map]; have := hRl (m + 1) (by omega); omega) (fun _ => rfl) (fun _ => rfl) fun x H12 e12 f12 Q12 q12 =>
        (ex_drawI (K := K) (n := 4) (E := E0) (ta := tVar 0) (tb := tC (.int 4)) (B := del H6 d) (d := d) (cl := cl) (σ := (wipe [some (.ref d), some (.int m), some (.ref mp), y3, some (.ref tp), y5, some (.ref p7), some (.ref p8), y8, some (.int lev), y10, y11, y12] [11]).set 11 (some x)) (ev_var rfl) ev_c (by decide) (by decide)) H12 e12 f12 _ fun v H13 e13 f13 ⟨k, hk⟩ => ⟨_, rfl, k, lev, hk, rfl, _, rfl, q12 _ H13 e13 f13 trivial⟩
      unfold tCB
      refine hsub H11 E11 f11 _ fun v12 H12 e12 f12 ⟨p12, ys12, hv12, hp120, hp12, hs12⟩ => ?_
      subst hv12
      obtain ⟨rows, hrows, rfl⟩ := List.sublist_map_iff.mp hs12
      have ha10d : a10 ≠ d := fun z => by
        have := (feed_some (f8.mono e9)).1
        rw [z] at ha10
        exact this ha10
      have ha11d : a11 ≠ d := fun z => by
        have := (feed_some ((f8.mono e9).mono e10)).1
        rw [z] at ha11
        exact this ha11
      refine ⟨p12, _, rfl, .inl ⟨sq_of hp12, fun r13 hr13 => ⟨(by show 4 ≤ sizeLine; decide), fun t14 ht14 => ?_⟩⟩⟩
      have h10' : H12 a10 = some (.tup (tops.map mkV)) := e12 a10 _ (by rw [del_ne ha10d]; exact e11 a10 _ h10)
      have h11' : H12 a11 = some (.tup (leaves.map mkV)) := e12 a11 _ (by rw [del_ne ha11d]; exact h11)
      have E14 := (Ex.new (o := .tup (rows.map fun r => V.str (rowT r))) hr13).trans (Ex.new (o := .tup [.int m, .ref a10, .ref a11, .ref r13]) ht14)
      obtain ⟨g1, g2⟩ := drawn_ok (m := m) (tops := tops) (leaves := leaves) (rows := rows) hm hasc hoks hM4 htops hleaves hrows
      refine q _ _ (ex_step del_same (ex_step del_same (ex_del (Ex.refl _)) ?_) ((ex_del (Ex.refl _)).trans E14)) (f12.mono E14) ⟨_, ⟨t14, a10, a11, r13, rfl, st_of upd_same, st_of (E14 a10 _ h10'), st_of (E14 a11 _ h11'), st_of ((Ex.new ht14) r13 _ upd_same)⟩, g1, g2⟩
      exact fun x o hx => by
        have hxd : x ≠ d := fun z => by rw [z, del_same] at hx; cases hx
        exact (ex_step hB6 E11 e12) x o (by rw [del_ne hxd]; exact E6 x o hx)
def sp_law_checker (K : Fg) : Sp := spX 1 fun vs H d Z => vs = [.ref d] ∧ Z = fun v H2 => GoodC K H2 v
abbrev N_law_checker : List Str := ["_law_feed_here"]
theorem sc_law_checker : FnScope N_law_checker ["_law_feed_here"] (defScope s_law_checker) := ⟨rfl, rfl, rfl, by decide +kernel, rfl, by decide +kernel, by decide +kernel⟩
theorem ok_law_checker (G : Fs P K mg) : Okf P w K mg base 4 "_law_checker" ["_law_feed_here"] [] (sp_law_checker K) := by
  refine mk_ok G.k_law_checker sc_law_checker (fun f fd F => ⟨[], .nil, FunD.bindsN F fun _ _ _ _ _ _ us hl => match us, hl with | [_], _ => rfl⟩) (fun vs H Q E h => h.1) ?_
  intro f cdv A outer s H vs Q E hr h
  have nd := sc_law_checker.nd
  refine ⟨_, (pss_cons (ps_if (pt_cmpR op_eq (pe_ok (ok_law_draw G) hr (by decide) rfl (pa_cons (pv 0) (pa_cons pe_int pa_nil))) pe_int (nomark _)) (pss_one (ps_ret (pe_ok (ok_law_any G) hr (by decide) rfl (pa_cons (pv 0) (pa_cons (pe_ok0 (ok_law_scenes G) hr (by decide) rfl) pa_nil))))) pss_nil)
  (pss_one (ps_ret (pe_ok (ok_law_drawn G) hr (by decide) rfl (pa_cons (pv 0) (pa_cons (pe_op op_add pe_int (pe_ok (ok_law_draw G) hr (by decide) rfl (pa_cons (pv 0) (pa_cons pe_int pa_nil)))) pa_nil)))))), ?_⟩
  obtain ⟨hl, d, cl, Z, hF, ⟨rfl, rfl⟩, q⟩ := h
  have hB : del H d d = none := del_same
  refine q_ifX (B := del H d) (etx_eq (ex_drawI (K := K) (ev_var rfl) ev_c (by decide) (by decide))) (ex_del (Ex.refl _)) hF (fun _ H1 e1 f1 => ?_) (fun _ H1 e1 f1 => ?_)
  · have hsc : EvX d cl (tCall (sp_law_any K) [] E0 (tCons (tVar 0) (tCons (tCall (sp_law_scenes K) [] E0 tNil) tNil))) (start N_law_checker [.ref d]) (del H d) (fun v H2 => GoodC K H2 v) := by
      intro H1 e f Q2 q2
      have hv1 : Ev (tVar 0) (start N_law_checker [.ref d]) (del H d) (.ref d) := ev_var rfl
      unfold tCall tCons
      refine hv1 H1 e _ fun H2 e2 => ⟨rfl, _, ⟨rfl, rfl⟩, fun v H3 e3 ⟨p, xs, hv, hp0, hp, hne, hlen, hg⟩ => by
        subst hv
        have f3 := (f.mono e2).mono e3
        have hpd : p ≠ d := fun z => by
          rw [z] at hp0
          exact (feed_some (f.mono e2)).1 hp0
        obtain ⟨n1, n2⟩ := feed_notT f3
        refine ⟨rfl, d, cl, fun z _ => z ∈ xs, f3, ⟨_, xs, rfl, .inl ⟨p, rfl, .inl (sq_of (by rw [del_ne hpd]; exact hp))⟩, hne, by omega, rfl⟩, fun v H4 e4 f4 hz => q2 v H4 (del_trans (e2.trans e3) e4) f4 (((hg v hz).del n1 n2).mono e4)⟩⟩
    exact s_retX hsc e1 f1 fun v H2 e2 f2 z => q v H2 (ex_step del_same e1 e2) f2 z
  · have hnum : EvX d cl (tOp (rI0 fun i j => .int (i + j)) (tC (.int 1)) (tCall (sp_law_draw K) [] E0 (tCons (tVar 0) (tCons (tC (.int 2)) tNil)))) (start N_law_checker [.ref d]) (del H d) (fun v _ => ∃ m : Nat, v = .int m ∧ (m = 1 ∨ m = 2)) := fun H4 e4 f4 Q4 q4 =>
      (ex_draw (K := K) (n := 2) (E := E0) (ta := tVar 0) (tb := tC (.int 2)) (σ := start N_law_checker [.ref d]) (B := del H d) (d := d) (cl := cl) (ev_var rfl) ev_c (by decide) (by decide)) H4 e4 f4 _ fun v H5 e5 f5 hk => by
        obtain ⟨k, hk, hk0, hk2⟩ := hk
        refine ⟨1, k, rfl, hk, q4 _ H5 e5 f5 ⟨(1 + k).toNat, ?_, by omega⟩⟩
        show V.int (1 + k) = V.int (((1 + k).toNat : Nat) : Int)
        rw [Int.toNat_of_nonneg (by omega)]
    exact s_retX (ex_callX (Z := fun v H2 => GoodC K H2 v) (R := fun vs H d Z => ∃ m : Nat, vs = [.ref d, .int m] ∧ (m = 1 ∨ m = 2) ∧ Z = fun v H2 => GoodC K H2 v) (n := 2) hB (eax2 (ev_var rfl) hnum) fun vs H1 _ ⟨y, hvs, m, hm, hm2⟩ => by
      subst hvs hm
      exact ⟨rfl, m, rfl, hm2, rfl⟩) e1 f1 fun v H2 e2 f2 z => q v H2 (ex_step del_same e1 e2) f2 z
end
end K64

set_option Elab.async false
set_option linter.all false
set_option maxRecDepth 100000
set_option maxHeartbeats 4000000
/-! KM2: the costs by digit are the costs of the best notes: plain. -/
namespace K64
open PySem PySem.Spec PyProof.Rows L2 Evl
/-- what stands at a subtree is let (u: the notes from its place on) -/
def okS (c : Ck) : Tr → List Nat → Prop
  | .leaf l, u => (l, u.getD 0 0) ∈ c.leaves
  | .one l a, u => [(l, u.getD 0 0), (a.lab, u.getD 1 0)] ∈ c.rows
  | .two l a b, u => [(l, u.getD 0 0), (a.lab, u.getD 1 0), (b.lab, u.getD (1 + a.size) 0)] ∈ c.rows
def rt (c : Ck) : Tr → List Nat → Prop
  | .leaf l, u => okS c (.leaf l) u
  | .one l a, u => okS c (.one l a) u ∧ rt c a (u.drop 1)
  | .two l a b, u => okS c (.two l a b) u ∧ rt c a (u.drop 1) ∧ rt c b (u.drop (1 + a.size))
theorem rt_all (c : Ck) : ∀ (t : Tr) (u : List Nat), rt c t u ↔ ∀ (p : Nat) (s : Tr), t.subs[p]? = some s → okS c s (u.drop p)
  | .leaf l, u => by
    constructor
    · intro h p s hs
      rcases p with _ | p
      · cases hs; rw [List.drop_zero]; exact h
      · simp [Tr.subs] at hs
    · intro h
      have := h 0 (.leaf l) rfl
      rw [List.drop_zero] at this
      exact this
  | .one l a, u => by
    have ih := rt_all c a (u.drop 1)
    constructor
    · intro ⟨h1, h2⟩ p s hs
      rcases p with _ | p
      · cases hs; simpa using h1
      · have := ih.mp h2 p s (by simpa [Tr.subs] using hs)
        rw [List.drop_drop, Nat.add_comm 1 p] at this
        exact this
    · intro h
      refine ⟨by simpa using h 0 _ rfl, ih.mpr fun p s hs => ?_⟩
      rw [List.drop_drop, Nat.add_comm 1 p]
      exact h (p + 1) s (by simpa [Tr.subs] using hs)
  | .two l a b, u => by
    have ih := rt_all c a (u.drop 1)
    have ih2 := rt_all c b (u.drop (1 + a.size))
    constructor
    · intro ⟨h1, h2, h3⟩ p s hs
      rcases p with _ | p
      · cases hs; simpa using h1
      · have hs' : (a.subs ++ b.subs)[p]? = some s := by simpa [Tr.subs] using hs
        by_cases hp : p < a.subs.length
        · rw [List.getElem?_append_left hp] at hs'
          have := ih.mp h2 p s hs'
          rw [List.drop_drop, Nat.add_comm 1 p] at this
          exact this
        · rw [List.getElem?_append_right (by omega)] at hs'
          have := ih2.mp h3 _ s hs'
          rw [Tr.subs_len] at this hp
          rw [List.drop_drop, show 1 + a.size + (p - a.size) = p + 1 by omega] at this
          exact this
    · intro h
      refine ⟨by simpa using h 0 _ rfl, ih.mpr fun p s hs => ?_, ih2.mpr fun p s hs => ?_⟩
      · rw [List.drop_drop, Nat.add_comm 1 p]
        refine h (p + 1) s ?_
        show (a.subs ++ b.subs)[p]? = some s
        rw [List.getElem?_append_left (List.getElem?_eq_some_iff.mp hs).1]
        exact hs
      · rw [List.drop_drop, show 1 + a.size + p = a.size + p + 1 by omega]
        refine h (a.size + p + 1) s ?_
        show (a.subs ++ b.subs)[a.size + p]? = some s
        rw [List.getElem?_append_right (by rw [Tr.subs_len]; omega), Tr.subs_len, show a.size + p - a.size = p by omega]
        exact hs
theorem getD_drop (u : List Nat) (p i : Nat) : (u.drop p).getD i 0 = u.getD (p + i) 0 := by
  simp [List.getD]
theorem let_okS {c : Ck} {t s : Tr} {u : List Nat} {p : Nat} (hs : t.subs[p]? = some s) : letAt c t u p = true ↔ okS c s (u.drop p) := by
  have hg : (t.subs[p]?).getD t = s := by rw [hs]; rfl
  have h0 : mkAt t u p = (s.lab, u.getD p 0) := by unfold mkAt; rw [hg]
  unfold letAt
  rw [hg]
  cases s with
  | leaf l =>
    rw [if_pos (show (Tr.leaf l).kids = [] from rfl), h0]
    simp [okS, Tr.lab, getD_drop]
  | one l a =>
    obtain ⟨k, hk, hks⟩ := Tr.kids_at hs (i := 0) (o := 1) rfl
    obtain rfl : a = k := Option.some.inj hk
    have h1 : mkAt t u (p + 1) = (a.lab, u.getD (p + 1) 0) := by unfold mkAt; rw [hks]; rfl
    rw [if_neg (by simp [Tr.kids])]
    simp only [marksAt, Tr.offs, List.map_cons, List.map_nil, h0, h1, okS, getD_drop, decide_eq_true_eq, Tr.lab, Nat.add_zero]
  | two l a b =>
    obtain ⟨k, hk, hks⟩ := Tr.kids_at hs (i := 0) (o := 1) rfl
    obtain rfl : a = k := Option.some.inj hk
    obtain ⟨k2, hk2, hks2⟩ := Tr.kids_at hs (i := 1) (o := 1 + a.size) rfl
    obtain rfl : b = k2 := Option.some.inj hk2
    have h1 : mkAt t u (p + 1) = (a.lab, u.getD (p + 1) 0) := by unfold mkAt; rw [hks]; rfl
    have h2 : mkAt t u (p + (1 + a.size)) = (b.lab, u.getD (p + (1 + a.size)) 0) := by unfold mkAt; rw [hks2]; rfl
    rw [if_neg (by simp [Tr.kids])]
    simp only [marksAt, Tr.offs, List.map_cons, List.map_nil, h0, h1, h2, okS, getD_drop, decide_eq_true_eq, Tr.lab, Nat.add_zero]
theorem right_iff (c : Ck) (t : Tr) (u : List Nat) : rightB c t u = true ↔ rt c t u ∧ (t.lab, u.getD 0 0) ∈ c.tops := by
  have h0 : mkAt t u 0 = (t.lab, u.getD 0 0) := by unfold mkAt; rw [Tr.subs_head]; rfl
  unfold rightB
  rw [List.all_eq_true, rt_all]
  constructor
  · intro h
    refine ⟨fun p s hs => ?_, ?_⟩
    · have hp := (List.getElem?_eq_some_iff.mp hs).1
      rw [Tr.subs_len] at hp
      have := h p (List.mem_range.mpr hp)
      unfold goodP at this
      simp only [Bool.and_eq_true] at this
      exact (let_okS hs).mp this.1
    · have := h 0 (List.mem_range.mpr (Tr.size_pos t))
      unfold goodP at this
      simp only [Bool.and_eq_true, Bool.or_eq_true, decide_eq_true_eq] at this
      rw [h0] at this
      rcases this.2 with h | h
      · omega
      · exact h
  · intro ⟨h1, h2⟩ p hp
    have hp' := List.mem_range.mp hp
    obtain ⟨s, hs⟩ := Tr.sub_ex hp'
    unfold goodP
    simp only [Bool.and_eq_true, Bool.or_eq_true, decide_eq_true_eq]
    refine ⟨(let_okS hs).mpr (h1 p s hs), ?_⟩
    by_cases hp0 : p = 0
    · subst hp0
      rw [h0]
      exact .inr h2
    · exact .inl (by omega)
/-! ### what notes cost -/
def cs : List Nat → List Nat → Nat → Nat
  | _, _, 0 => 0
  | ν, u, n + 1 => chg ν (u.getD 0 0) + cs (ν.drop 1) (u.drop 1) n
theorem cs_add : ∀ (m n : Nat) (ν u : List Nat), cs ν u (m + n) = cs ν u m + cs (ν.drop m) (u.drop m) n
  | 0, n, ν, u => by simp [cs]
  | m + 1, n, ν, u => by
    rw [show m + 1 + n = (m + n) + 1 by omega]
    simp only [cs]
    rw [cs_add m n, List.drop_drop, List.drop_drop, Nat.add_comm 1 m, Nat.add_assoc]
theorem cs_app : ∀ (n : Nat) (ν u z : List Nat), n ≤ u.length → cs ν (u ++ z) n = cs ν u n
  | 0, _, _, _, _ => rfl
  | n + 1, ν, u, z, h => by
    cases u with
    | nil => simp at h
    | cons a r =>
      simp only [cs, List.cons_append, List.drop_succ_cons, List.drop_zero]
      rw [cs_app n _ r z (by simpa using h)]
      rfl
theorem diffs_cs : ∀ (ν u : List Nat), u.length = ν.length → diffs ν u = cs ν u ν.length
  | [], u, h => rfl
  | n :: ν, [], h => by simp at h
  | n :: ν, x :: u, h => by
    have ih := diffs_cs ν u (by simpa using h)
    unfold diffs at ih ⊢
    rw [List.length_cons, List.range_succ_eq_map, List.filter_cons, List.filter_map]
    have e : ((List.range ν.length).filter ((fun i => !decide ((n :: ν).getD i 0 = 63) && !decide ((n :: ν).getD i 0 = (x :: u).getD i 0)) ∘ Nat.succ)) = (List.range ν.length).filter fun i => !decide (ν.getD i 0 = 63) && !decide (ν.getD i 0 = u.getD i 0) := by
      apply List.filter_congr
      intro i _
      simp [Function.comp]
    rw [e]
    show _ = chg (n :: ν) x + cs ν u ν.length
    rw [← ih]
    show (if (!decide (n = 63) && !decide (n = x)) = true then _ else _ : List Nat).length = (if n = 63 ∨ n = x then 0 else 1) + _
    by_cases h1 : n = 63
    · simp [h1]
    · by_cases h2 : n = x
      · simp [h2]
      · simp [h1, h2]
        omega
/-! ### the least of priced rows -/
def leP (a b : Nat × List Nat) : Prop := a.1 < b.1 ∨ (a.1 = b.1 ∧ (a.2 = b.2 ∨ a.2 < b.2))
theorem leP_of_not {a b : Nat × List Nat} (h : ltP b a = false) : leP a b := by
  unfold ltP at h
  simp only [Bool.or_eq_false_iff, decide_eq_false_iff_not, Bool.and_eq_false_iff] at h
  obtain ⟨h1, h2⟩ := h
  by_cases h3 : a.1 < b.1
  · exact .inl h3
  · have he : a.1 = b.1 := by omega
    refine .inr ⟨he, ?_⟩
    rcases h2 with h2 | h2
    · exact absurd he.symm h2
    · rcases Std.lt_trichotomy a.2 b.2 with h | h | h
      · exact .inr h
      · exact .inl h
      · exact absurd h h2
theorem leP_trans {a b e : Nat × List Nat} (h1 : leP a b) (h2 : leP b e) : leP a e := by
  rcases h1 with h1 | ⟨h1, h1'⟩
  · rcases h2 with h2 | ⟨h2, _⟩
    · exact .inl (by omega)
    · exact .inl (by omega)
  · rcases h2 with h2 | ⟨h2, h2'⟩
    · exact .inl (by omega)
    · refine .inr ⟨h1.trans h2, ?_⟩
      rcases h1' with h | h
      · rw [h]; exact h2'
      · rcases h2' with h' | h'
        · rw [← h']; exact .inr h
        · exact .inr (List.lt_trans h h')
theorem leP_lt {a b : Nat × List Nat} (h : ltP a b = true) : leP a b := by
  unfold ltP at h
  simp only [Bool.or_eq_true, decide_eq_true_eq, Bool.and_eq_true] at h
  rcases h with h | ⟨h1, h2⟩
  · exact .inl h
  · exact .inr ⟨h1, .inr h2⟩
theorem foldP_le : ∀ (r : List (Nat × List Nat)) (x : Nat × List Nat), leP (r.foldl (fun m y => if ltP y m then y else m) x) x ∧ ∀ y ∈ r, leP (r.foldl (fun m y => if ltP y m then y else m) x) y
  | [], x => ⟨.inr ⟨rfl, .inl rfl⟩, fun y h => nomatch h⟩
  | z :: r, x => by
    rw [List.foldl_cons]
    obtain ⟨h1, h2⟩ := foldP_le r (if ltP z x then z else x)
    have hm : leP (if ltP z x then z else x) x ∧ leP (if ltP z x then z else x) z := by
      by_cases h : ltP z x = true
      · rw [if_pos h]; exact ⟨leP_lt h, .inr ⟨rfl, .inl rfl⟩⟩
      · rw [if_neg h]; exact ⟨.inr ⟨rfl, .inl rfl⟩, leP_of_not (by simpa using h)⟩
    refine ⟨leP_trans h1 hm.1, fun y hy => ?_⟩
    rcases List.mem_cons.mp hy with rfl | hy
    · exact leP_trans h1 hm.2
    · exact h2 y hy
theorem minP_le {l : List (Nat × List Nat)} {m : Nat × List Nat} (h : minP l = some m) : ∀ y ∈ l, leP m y := by
  cases l with
  | nil => cases h
  | cons x r =>
    obtain rfl := Option.some.inj h
    obtain ⟨h1, h2⟩ := foldP_le r x
    intro y hy
    rcases List.mem_cons.mp hy with rfl | hy
    · exact h1
    · exact h2 y hy
theorem minP_least {l : List (Nat × List Nat)} {k : Nat} {es : List Nat} (h : minP l = some (k, es)) : least (l.map (·.1)) = some k := by
  have h1 := minP_mem h
  have hm : k ∈ l.map (·.1) := List.mem_map.mpr ⟨(k, es), h1, rfl⟩
  obtain ⟨k', hk'⟩ := least_ne (l := l.map (·.1)) (fun e => by
    rw [e] at hm
    cases hm)
  obtain ⟨g1, g2⟩ := least_some hk'
  have g3 := g2 k hm
  obtain ⟨y, hy, hy2⟩ := List.mem_map.mp g1
  have g4 := minP_le h y hy
  have : k ≤ k' := by
    rcases g4 with g | ⟨g, _⟩
    · have : k < y.1 := g
      omega
    · have : k = y.1 := g
      omega
  rw [hk', show k' = k by omega]
theorem rest_row {c : Ck} {m : Mk} {r : List Mk} : r ∈ rest c m ↔ (m :: r) ∈ c.rows := by
  unfold rest
  constructor
  · intro h
    obtain ⟨q, hq, rfl⟩ := List.mem_map.mp h
    obtain ⟨h1, h2⟩ := List.mem_filter.mp hq
    cases q with
    | nil => simp at h2
    | cons a b =>
      have : a = m := by simpa using h2
      rw [← this]
      exact h1
  · intro h
    exact List.mem_map.mpr ⟨m :: r, List.mem_filter.mpr ⟨h, by simp⟩, rfl⟩
end K64

set_option Elab.async false
set_option linter.all false
set_option maxRecDepth 100000
set_option maxHeartbeats 4000000
/-! KM3: the table's prices are the best notes' prices; pick is the first of the best. -/
namespace K64
open PySem PySem.Spec PyProof.Rows L2 Evl
theorem mem_digs {d : Nat} : d ∈ digs ↔ isDig d := by
  unfold digs isDig
  simp
  omega
theorem tab_some {c : Ck} {s : Tr} {μ : List Nat} {d k : Nat} (hd : isDig d) (hm : dmOf c (fun m => decide (rest c m ≠ [])) s d = true) (he : ent c s μ d = some (d, k)) : (tab c s μ).lookup d = some k := by
  rw [tab_ent, lookup_of_fm c s μ _ d (List.mem_filter.mpr ⟨mem_digs.mpr hd, hm⟩), he]
  rfl
theorem look_kids {c : Ck} {s : Tr} {μ : List Nat} {d k : Nat} {es : List Nat} (hk : s.kids ≠ []) (hd : isDig d) (hm : minP (priced c s.lab d (ktabs c s μ)) = some (k, es)) : (tab c s μ).lookup d = some (k + chg μ d) := by
  refine tab_some hd ?_ ?_
  · unfold dmOf
    rw [if_neg hk]
    apply decide_eq_true
    intro e
    rw [priced_nil e] at hm
    cases hm
  · unfold ent
    rw [if_neg hk, minP_least hm]
    rfl
theorem lt_heads {x y : List Nat} {e f : Nat} (hx : x[0]? = some e) (hy : y[0]? = some f) (h : e < f) : x < y := by
  cases x with
  | nil => simp at hx
  | cons a r =>
    cases y with
    | nil => simp at hy
    | cons b q =>
      simp at hx hy
      subst hx hy
      exact List.cons_lt_cons_iff.mpr (.inl h)
theorem take_head {r : List Nat} {n : Nat} (hn : 0 < n) (hr : 0 < r.length) : (r.take n)[0]? = some (r.getD 0 0) := by
  cases r with
  | nil => simp at hr
  | cons a q =>
    cases n with
    | zero => omega
    | succ n => simp
theorem best_le {c : Ck} (ok : c.Ok) : ∀ (t : Tr), t.Ok c.many → ∀ (ν u : List Nat), (∀ x ∈ u, isDig x) → t.size ≤ u.length → rt c t u →
    ∃ k, (tab c t ν).lookup (u.getD 0 0) = some k ∧ leP (k, pick c t ν (u.getD 0 0)) (cs ν u t.size, u.take t.size)
  | .leaf l, _, ν, u, hu, hl, h => by
    cases u with
    | nil => simp [Tr.size] at hl
    | cons d r =>
      have hd := hu d List.mem_cons_self
      refine ⟨chg ν d, tab_some hd ?_ rfl, .inr ⟨rfl, .inl ?_⟩⟩
      · unfold dmOf
        rw [if_pos (show (Tr.leaf l).kids = [] from rfl)]
        exact decide_eq_true h
      · simp [pick, Tr.size]
  | .one l a, ho, ν, u, hu, hl, h => by
    cases u with
    | nil => simp [Tr.size] at hl
    | cons d r =>
      have hd := hu d List.mem_cons_self
      have hr : ∀ x ∈ r, isDig x := fun x hx => hu x (List.mem_cons_of_mem _ hx)
      have hla : a.size ≤ r.length := by simp [Tr.size] at hl; omega
      have hrt : rt c a r := h.2
      obtain ⟨ka, hka, hle⟩ := best_le ok a ho.2.2 (ν.drop 1) r hr hla hrt
      have hrow : [(l, d), (a.lab, r.getD 0 0)] ∈ c.rows := h.1
      have hmem : (ka, [r.getD 0 0]) ∈ priced c l d [(a.lab, tab c a (ν.drop 1))] := by
        unfold priced
        rw [List.mem_filterMap]
        exact ⟨[(a.lab, r.getD 0 0)], rest_row.mpr hrow, by simp only [fitR, if_pos, hka]; rfl⟩
      obtain ⟨⟨km, es⟩, hm⟩ := minP_ne (l := priced c l d [(a.lab, tab c a (ν.drop 1))]) (fun e => by rw [e] at hmem; cases hmem)
      have hlk := look_kids (s := .one l a) (μ := ν) (by simp [Tr.kids]) hd hm
      obtain ⟨km', es', hm', hel, hes⟩ := tab_min ok ho (by simp [Tr.kids]) (show ((tab c (.one l a) ν).lookup d).isSome by rw [hlk]; rfl)
      have hmm : minP (priced c l d [(a.lab, tab c a (ν.drop 1))]) = some (km', es') := hm'
      rw [hm] at hmm
      cases hmm
      match es, hel with
      | [e], _ =>
        have hse := hes 0 (a.lab, tab c a (ν.drop 1)) e rfl rfl
        have hp : pick c (.one l a) ν d = d :: pick c a (ν.drop 1) e := by
          conv => lhs; unfold pick
          rw [hm]
        have hpe := pick_len ok ho.2.2 hse
        refine ⟨km + chg ν d, hlk, ?_⟩
        have hcs : cs ν (d :: r) (Tr.one l a).size = chg ν d + cs (ν.drop 1) r a.size := by
          show cs ν (d :: r) (1 + a.size) = _
          rw [Nat.add_comm 1 a.size]
          rfl
        have htk : (d :: r).take (Tr.one l a).size = d :: r.take a.size := by
          show (d :: r).take (1 + a.size) = _
          rw [Nat.add_comm 1 a.size]
          rfl
        show leP (km + chg ν d, pick c (.one l a) ν d) _
        rw [hcs, htk, hp]
        have h1 := minP_le hm _ hmem
        have hka2 : ka ≤ cs (ν.drop 1) r a.size := by
          rcases hle with g | ⟨g, _⟩
          · exact Nat.le_of_lt g
          · exact Nat.le_of_eq g
        rcases h1 with h1 | ⟨h1, h1'⟩
        · left
          show km + chg ν d < chg ν d + cs (ν.drop 1) r a.size
          have : km < ka := h1
          omega
        · have hkm : km = ka := h1
          rcases hle with g | ⟨g, g'⟩
          · left
            show km + chg ν d < chg ν d + cs (ν.drop 1) r a.size
            have : ka < cs (ν.drop 1) r a.size := g
            omega
          · right
            refine ⟨?_, ?_⟩
            · show km + chg ν d = chg ν d + cs (ν.drop 1) r a.size
              have : ka = cs (ν.drop 1) r a.size := g
              omega
            · have hh := take_head (r := r) (n := a.size) (Tr.size_pos a) (by have := Tr.size_pos a; omega)
              have he : e = r.getD 0 0 ∨ e < r.getD 0 0 := by
                rcases h1' with h | h
                · left; simpa using h
                · right
                  rcases List.cons_lt_cons_iff.mp h with h | ⟨_, h⟩
                  · exact h
                  · exact absurd h (List.lt_irrefl _)
              show (d :: pick c a (ν.drop 1) e = d :: r.take a.size) ∨ (d :: pick c a (ν.drop 1) e < d :: r.take a.size)
              rcases he with he | he
              · rw [he]
                rcases g' with g' | g'
                · left; rw [show pick c a (ν.drop 1) (r.getD 0 0) = r.take a.size from g']
                · right; exact List.cons_lt_cons_iff.mpr (.inr ⟨rfl, g'⟩)
              · right
                exact List.cons_lt_cons_iff.mpr (.inr ⟨rfl, lt_heads hpe.2 hh he⟩)
  | .two l a b, ho, ν, u, hu, hl, h => by
    cases u with
    | nil => simp [Tr.size] at hl
    | cons d r =>
      have hd := hu d List.mem_cons_self
      have hr : ∀ x ∈ r, isDig x := fun x hx => hu x (List.mem_cons_of_mem _ hx)
      have hl' : a.size + b.size ≤ r.length := by simp [Tr.size] at hl; omega
      have pa := Tr.size_pos a
      have pb := Tr.size_pos b
      have edrop : (d :: r).drop (1 + a.size) = r.drop a.size := by rw [Nat.add_comm 1 a.size]; rfl
      have hrt : rt c a r := h.2.1
      have hrtb : rt c b (r.drop a.size) := by
        have := h.2.2
        rw [edrop] at this
        exact this
      obtain ⟨ka, hka, hlea⟩ := best_le ok a ho.2.2.1 (ν.drop 1) r hr (by omega) hrt
      obtain ⟨kb, hkb, hleb⟩ := best_le ok b ho.2.2.2 (ν.drop (1 + a.size)) (r.drop a.size) (fun x hx => hr x (List.mem_of_mem_drop hx)) (by rw [List.length_drop]; omega) hrtb
      have hg : (d :: r).getD (1 + a.size) 0 = (r.drop a.size).getD 0 0 := by rw [getD_drop, Nat.add_comm 1 a.size]; rfl
      have hrow : [(l, d), (a.lab, r.getD 0 0), (b.lab, (r.drop a.size).getD 0 0)] ∈ c.rows := by
        have this : [(l, d), (a.lab, r.getD 0 0), (b.lab, (d :: r).getD (1 + a.size) 0)] ∈ c.rows := h.1
        rw [hg] at this
        exact this
      generalize hqd : (r.drop a.size).getD 0 0 = q0 at hrow hkb hleb
      generalize hr0 : r.getD 0 0 = r0 at hrow hka hlea
      have hmem : (ka + kb, [r0, q0]) ∈ priced c l d [(a.lab, tab c a (ν.drop 1)), (b.lab, tab c b (ν.drop (1 + a.size)))] := by
        unfold priced
        rw [List.mem_filterMap]
        exact ⟨[(a.lab, r0), (b.lab, q0)], rest_row.mpr hrow, by simp only [fitR, if_pos, hka, hkb]; rfl⟩
      obtain ⟨⟨km, es⟩, hm⟩ := minP_ne (l := priced c l d [(a.lab, tab c a (ν.drop 1)), (b.lab, tab c b (ν.drop (1 + a.size)))]) (fun e => by rw [e] at hmem; cases hmem)
      have hlk := look_kids (s := .two l a b) (μ := ν) (by simp [Tr.kids]) hd hm
      obtain ⟨km', es', hm', hel, hes⟩ := tab_min ok ho (by simp [Tr.kids]) (show ((tab c (.two l a b) ν).lookup d).isSome by rw [hlk]; rfl)
      have hmm : minP (priced c l d [(a.lab, tab c a (ν.drop 1)), (b.lab, tab c b (ν.drop (1 + a.size)))]) = some (km', es') := hm'
      rw [hm] at hmm
      cases hmm
      match es, hel with
      | [e, f], _ =>
        have hse := hes 0 (a.lab, tab c a (ν.drop 1)) e rfl rfl
        have hsf := hes 1 (b.lab, tab c b (ν.drop (1 + a.size))) f rfl rfl
        have hp : pick c (.two l a b) ν d = d :: (pick c a (ν.drop 1) e ++ pick c b (ν.drop (1 + a.size)) f) := by
          conv => lhs; unfold pick
          rw [hm]
        have hpe := pick_len ok ho.2.2.1 hse
        have hpf := pick_len ok ho.2.2.2 hsf
        refine ⟨km + chg ν d, hlk, ?_⟩
        have hcs : cs ν (d :: r) (Tr.two l a b).size = chg ν d + (cs (ν.drop 1) r a.size + cs (ν.drop (1 + a.size)) (r.drop a.size) b.size) := by
          show cs ν (d :: r) (1 + a.size + b.size) = _
          rw [Nat.add_assoc, Nat.add_comm 1 (a.size + b.size)]
          show chg ν d + cs (ν.drop 1) r (a.size + b.size) = _
          rw [cs_add, List.drop_drop]
        have htk : (d :: r).take (Tr.two l a b).size = d :: (r.take a.size ++ (r.drop a.size).take b.size) := by
          show (d :: r).take (1 + a.size + b.size) = _
          rw [Nat.add_assoc, Nat.add_comm 1 (a.size + b.size)]
          show d :: r.take (a.size + b.size) = _
          rw [List.take_add]
        show leP (km + chg ν d, pick c (.two l a b) ν d) _
        rw [hcs, htk, hp]
        have h1 := minP_le hm _ hmem
        have hka2 : ka ≤ cs (ν.drop 1) r a.size := by
          rcases hlea with g | ⟨g, _⟩
          · exact Nat.le_of_lt g
          · exact Nat.le_of_eq g
        have hkb2 : kb ≤ cs (ν.drop (1 + a.size)) (r.drop a.size) b.size := by
          rcases hleb with g | ⟨g, _⟩
          · exact Nat.le_of_lt g
          · exact Nat.le_of_eq g
        have hkm : km ≤ ka + kb := by
          rcases h1 with g | ⟨g, _⟩
          · exact Nat.le_of_lt g
          · exact Nat.le_of_eq g
        by_cases hlt : km + chg ν d < chg ν d + (cs (ν.drop 1) r a.size + cs (ν.drop (1 + a.size)) (r.drop a.size) b.size)
        · exact .inl hlt
        · right
          refine ⟨by show km + chg ν d = _; omega, ?_⟩
          have ea : ka = cs (ν.drop 1) r a.size := by omega
          have eb : kb = cs (ν.drop (1 + a.size)) (r.drop a.size) b.size := by omega
          have ek : km = ka + kb := by omega
          have gef : ([e, f] : List Nat) = [r0, q0] ∨ ([e, f] : List Nat) < [r0, q0] := by
            rcases h1 with g | ⟨_, g⟩
            · have : km < ka + kb := g
              omega
            · exact g
          have ga : pick c a (ν.drop 1) r0 = r.take a.size ∨ pick c a (ν.drop 1) r0 < r.take a.size := by
            rcases hlea with g | ⟨_, g⟩
            · have : ka < cs (ν.drop 1) r a.size := g
              omega
            · exact g
          have gb : pick c b (ν.drop (1 + a.size)) q0 = (r.drop a.size).take b.size ∨ pick c b (ν.drop (1 + a.size)) q0 < (r.drop a.size).take b.size := by
            rcases hleb with g | ⟨_, g⟩
            · have : kb < cs (ν.drop (1 + a.size)) (r.drop a.size) b.size := g
              omega
            · exact g
          have hha := take_head (r := r) (n := a.size) pa (by omega)
          have hhb := take_head (r := r.drop a.size) (n := b.size) pb (by rw [List.length_drop]; omega)
          rw [hr0] at hha
          rw [hqd] at hhb
          have hlen : (pick c a (ν.drop 1) e).length = (r.take a.size).length := by rw [hpe.1, List.length_take]; omega
          have main : (pick c a (ν.drop 1) e ++ pick c b (ν.drop (1 + a.size)) f = r.take a.size ++ (r.drop a.size).take b.size) ∨ (pick c a (ν.drop 1) e ++ pick c b (ν.drop (1 + a.size)) f < r.take a.size ++ (r.drop a.size).take b.size) := by
            have hcase : (e < r0) ∨ (e = r0 ∧ (f = q0 ∨ f < q0)) := by
              rcases gef with g | g
              · simp at g
                exact .inr ⟨g.1, .inl g.2⟩
              · rcases List.cons_lt_cons_iff.mp g with g | ⟨g1, g⟩
                · exact .inl g
                · rcases List.cons_lt_cons_iff.mp g with g | ⟨_, g⟩
                  · exact .inr ⟨g1, .inr g⟩
                  · exact absurd g (List.lt_irrefl _)
            rcases hcase with he | ⟨he, hf⟩
            · exact .inr (lt_app _ _ hlen (lt_heads hpe.2 hha he))
            · subst he
              rcases ga with ga | ga
              · rw [ga]
                rcases hf with hf | hf
                · subst hf
                  rcases gb with gb | gb
                  · left; rw [gb]
                  · right; exact lt_app2 _ gb
                · right; exact lt_app2 _ (lt_heads hpf.2 hhb hf)
              · exact .inr (lt_app _ _ hlen ga)
          rcases main with g | g
          · left; rw [g]
          · right; exact List.cons_lt_cons_iff.mpr (.inr ⟨rfl, g⟩)
theorem drop_app {u z : List Nat} {n : Nat} (h : u.length = n) : (u ++ z).drop n = z := by
  rw [← h]
  simp
theorem getD_app {u z : List Nat} {e : Nat} (h : u[0]? = some e) : (u ++ z).getD 0 0 = e := by
  cases u with
  | nil => simp at h
  | cons a r => simp at h; simp [h]
theorem pick_right {c : Ck} (ok : c.Ok) : ∀ (t : Tr), t.Ok c.many → ∀ (ν : List Nat) (d k : Nat), (tab c t ν).lookup d = some k → ∀ z : List Nat, rt c t (pick c t ν d ++ z) ∧ cs ν (pick c t ν d ++ z) t.size = k
  | .leaf l, _, ν, d, k, h, z => by
    obtain ⟨_, he⟩ := tab_look h
    rw [tab_ent] at h
    have hm := (List.mem_filter.mp (lookup_fm c (.leaf l) ν _ d k h).1).2
    unfold dmOf at hm
    rw [if_pos (show (Tr.leaf l).kids = [] from rfl)] at hm
    have hk : chg ν d = k := by
      unfold ent at he
      rw [if_pos (show (Tr.leaf l).kids = [] from rfl)] at he
      exact congrArg Prod.snd (Option.some.inj he)
    refine ⟨show (l, d) ∈ c.leaves from of_decide_eq_true hm, ?_⟩
    show chg ν d + 0 = k
    omega
  | .one l a, ho, ν, d, k, h, z => by
    obtain ⟨_, he⟩ := tab_look h
    obtain ⟨km, es, hm', hel, hes⟩ := tab_min ok ho (by simp [Tr.kids]) (show ((tab c (.one l a) ν).lookup d).isSome by rw [h]; rfl)
    have hm : minP (priced c l d [(a.lab, tab c a (ν.drop 1))]) = some (km, es) := hm'
    match es, hel with
    | [e], _ =>
      have hse := hes 0 (a.lab, tab c a (ν.drop 1)) e rfl rfl
      obtain ⟨ke, hke⟩ := Option.isSome_iff_exists.mp hse
      have hp : pick c (.one l a) ν d = d :: pick c a (ν.drop 1) e := by
        conv => lhs; unfold pick
        rw [hm]
      have hpe := pick_len ok ho.2.2 hse
      obtain ⟨r, hr, hrl, hrb, hre⟩ := priced_mem (ks := [(a.lab, tab c a (ν.drop 1))]) (by rw [ho.1]; rfl) ok (minP_mem hm)
      match r, hrl with
      | [m], _ =>
        have e2 : e = m.2 := by have := congrArg Prod.snd hre; simpa using this
        have e1 : km = (((tab c a (ν.drop 1)).lookup m.2).getD 0) := by have := congrArg Prod.fst hre; simpa [fitF] using this
        have hlab : m.1 = a.lab := by
          simp only [List.zipWith_cons_cons, List.zipWith_nil_left, List.all_cons, List.all_nil, id, fitB, Bool.and_true, Bool.and_eq_true, decide_eq_true_eq] at hrb
          exact hrb.1
        rw [← e2, hke] at e1
        have e1' : km = ke := e1
        have hrow := rest_row.mp hr
        have hm2 : m = (a.lab, e) := Prod.ext hlab e2.symm
        rw [hm2] at hrow
        obtain ⟨i1, i2⟩ := pick_right ok a ho.2.2 (ν.drop 1) e ke hke z
        have hk : k = km + chg ν d := by
          unfold ent at he
          rw [if_neg (by simp [Tr.kids])] at he
          have hm3 : least ((priced c (Tr.one l a).lab d (ktabs c (.one l a) ν)).map (·.1)) = some km := minP_least hm'
          rw [hm3] at he
          exact (congrArg Prod.snd (Option.some.inj he)).symm
        rw [hp]
        refine ⟨⟨?_, i1⟩, ?_⟩
        · show [(l, d), (a.lab, (pick c a (ν.drop 1) e ++ z).getD 0 0)] ∈ c.rows
          rw [getD_app hpe.2]
          exact hrow
        · show cs ν (d :: (pick c a (ν.drop 1) e ++ z)) (1 + a.size) = k
          rw [Nat.add_comm 1 a.size]
          show chg ν d + cs (ν.drop 1) (pick c a (ν.drop 1) e ++ z) a.size = k
          rw [i2]
          omega
  | .two l a b, ho, ν, d, k, h, z => by
    obtain ⟨_, he⟩ := tab_look h
    obtain ⟨km, es, hm', hel, hes⟩ := tab_min ok ho (by simp [Tr.kids]) (show ((tab c (.two l a b) ν).lookup d).isSome by rw [h]; rfl)
    have hm : minP (priced c l d [(a.lab, tab c a (ν.drop 1)), (b.lab, tab c b (ν.drop (1 + a.size)))]) = some (km, es) := hm'
    match es, hel with
    | [e, f], _ =>
      have hse := hes 0 (a.lab, tab c a (ν.drop 1)) e rfl rfl
      have hsf := hes 1 (b.lab, tab c b (ν.drop (1 + a.size))) f rfl rfl
      obtain ⟨ke, hke⟩ := Option.isSome_iff_exists.mp hse
      obtain ⟨kf, hkf⟩ := Option.isSome_iff_exists.mp hsf
      have hp : pick c (.two l a b) ν d = d :: (pick c a (ν.drop 1) e ++ pick c b (ν.drop (1 + a.size)) f) := by
        conv => lhs; unfold pick
        rw [hm]
      have hpe := pick_len ok ho.2.2.1 hse
      have hpf := pick_len ok ho.2.2.2 hsf
      obtain ⟨r, hr, hrl, hrb, hre⟩ := priced_mem (ks := [(a.lab, tab c a (ν.drop 1)), (b.lab, tab c b (ν.drop (1 + a.size)))]) (by rw [ho.1]; rfl) ok (minP_mem hm)
      match r, hrl with
      | [m, n], _ =>
        have e2 : e = m.2 ∧ f = n.2 := by have := congrArg Prod.snd hre; simpa using this
        have e1 : km = (((tab c a (ν.drop 1)).lookup m.2).getD 0) + (((tab c b (ν.drop (1 + a.size))).lookup n.2).getD 0) := by have := congrArg Prod.fst hre; simpa [fitF] using this
        have hlab : m.1 = a.lab ∧ n.1 = b.lab := by
          simp only [List.zipWith_cons_cons, List.zipWith_nil_left, List.all_cons, List.all_nil, id, fitB, Bool.and_true, Bool.and_eq_true, decide_eq_true_eq] at hrb
          exact ⟨hrb.1.1, hrb.2.1⟩
        rw [← e2.1, ← e2.2, hke, hkf] at e1
        have e1' : km = ke + kf := e1
        have hrow := rest_row.mp hr
        have hm2 : m = (a.lab, e) := Prod.ext hlab.1 e2.1.symm
        have hn2 : n = (b.lab, f) := Prod.ext hlab.2 e2.2.symm
        rw [hm2, hn2] at hrow
        obtain ⟨i1, i2⟩ := pick_right ok a ho.2.2.1 (ν.drop 1) e ke hke (pick c b (ν.drop (1 + a.size)) f ++ z)
        obtain ⟨j1, j2⟩ := pick_right ok b ho.2.2.2 (ν.drop (1 + a.size)) f kf hkf z
        have hk : k = km + chg ν d := by
          unfold ent at he
          rw [if_neg (by simp [Tr.kids])] at he
          have hm3 : least ((priced c (Tr.two l a b).lab d (ktabs c (.two l a b) ν)).map (·.1)) = some km := minP_least hm'
          rw [hm3] at he
          exact (congrArg Prod.snd (Option.some.inj he)).symm
        rw [hp]
        have eapp : (d :: (pick c a (ν.drop 1) e ++ pick c b (ν.drop (1 + a.size)) f)) ++ z = d :: (pick c a (ν.drop 1) e ++ (pick c b (ν.drop (1 + a.size)) f ++ z)) := by simp
        have edrop : (d :: (pick c a (ν.drop 1) e ++ (pick c b (ν.drop (1 + a.size)) f ++ z))).drop (1 + a.size) = pick c b (ν.drop (1 + a.size)) f ++ z := by
          have hx : ∀ X : List Nat, (d :: X).drop (1 + a.size) = X.drop a.size := fun X => by rw [Nat.add_comm 1 a.size]; rfl
          rw [hx]
          exact drop_app hpe.1
        rw [eapp]
        refine ⟨⟨?_, i1, by rw [edrop]; exact j1⟩, ?_⟩
        · show [(l, d), (a.lab, (pick c a (ν.drop 1) e ++ (pick c b (ν.drop (1 + a.size)) f ++ z)).getD 0 0), (b.lab, (d :: (pick c a (ν.drop 1) e ++ (pick c b (ν.drop (1 + a.size)) f ++ z))).getD (1 + a.size) 0)] ∈ c.rows
          have hg : (d :: (pick c a (ν.drop 1) e ++ (pick c b (ν.drop (1 + a.size)) f ++ z))).getD (1 + a.size) 0 = f := by
            have := getD_drop (d :: (pick c a (ν.drop 1) e ++ (pick c b (ν.drop (1 + a.size)) f ++ z))) (1 + a.size) 0
            rw [edrop, getD_app hpf.2] at this
            exact this.symm
          rw [hg, getD_app hpe.2]
          exact hrow
        · show cs ν (d :: (pick c a (ν.drop 1) e ++ (pick c b (ν.drop (1 + a.size)) f ++ z))) (1 + a.size + b.size) = k
          rw [Nat.add_assoc, Nat.add_comm 1 (a.size + b.size)]
          show chg ν d + cs (ν.drop 1) (pick c a (ν.drop 1) e ++ (pick c b (ν.drop (1 + a.size)) f ++ z)) (a.size + b.size) = k
          rw [cs_add, i2, drop_app hpe.1, List.drop_drop, j2]
          omega
end K64

set_option Elab.async false
set_option linter.all false
set_option maxRecDepth 100000
set_option maxHeartbeats 4000000
/-! KM4: what brute force finds is what cheapest tells. -/
namespace K64
open PySem PySem.Spec PyProof.Rows L2 Evl
theorem getD_snoc {u : List Nat} {x j : Nat} : (u ++ [x]).getD j 0 = if j < u.length then u.getD j 0 else if j = u.length then x else 0 := by
  by_cases h : j < u.length
  · rw [if_pos h]
    simp [List.getD, List.getElem?_append_left h]
  · rw [if_neg h]
    by_cases h2 : j = u.length
    · subst h2
      simp [List.getD]
    · rw [if_neg h2]
      have : (u ++ [x])[j]? = none := List.getElem?_eq_none (by simp; omega)
      simp [List.getD, this]
theorem words_iff (ms : List Mk) (t : Tr) : ∀ (i : Nat) (u : List Nat), u ∈ wordsTo ms t i ↔ u.length = i ∧ ∀ j, j < i → (labAt t j, u.getD j 0) ∈ ms
  | 0, u => by
    constructor
    · intro h
      have : u = [] := by simpa [wordsTo] using h
      subst this
      exact ⟨rfl, fun j hj => absurd hj (Nat.not_lt_zero j)⟩
    · intro ⟨h, _⟩
      have : u = [] := List.eq_nil_of_length_eq_zero h
      subst this
      simp [wordsTo]
  | i + 1, u => by
    constructor
    · intro h
      obtain ⟨v, hv, hu⟩ := List.mem_flatMap.mp h
      obtain ⟨m, hm, rfl⟩ := List.mem_map.mp hu
      obtain ⟨hm1, hm2⟩ := List.mem_filter.mp hm
      have hl := of_decide_eq_true hm2
      obtain ⟨h1, h2⟩ := (words_iff ms t i v).mp hv
      refine ⟨by simp [h1], fun j hj => ?_⟩
      rw [getD_snoc, h1]
      by_cases hji : j < i
      · rw [if_pos hji]; exact h2 j hji
      · obtain rfl : j = i := by omega
        rw [if_neg (Nat.lt_irrefl _), if_pos rfl, ← hl]
        exact hm1
    · intro ⟨h1, h2⟩
      obtain ⟨v, x, rfl⟩ : ∃ v x, u = v ++ [x] := by
        refine ⟨u.dropLast, u.getLast (fun e => by rw [e] at h1; simp at h1), ?_⟩
        exact (List.dropLast_concat_getLast _).symm
      have hv : v.length = i := by simpa using h1
      refine List.mem_flatMap.mpr ⟨v, (words_iff ms t i v).mpr ⟨hv, fun j hj => ?_⟩, List.mem_map.mpr ⟨(labAt t i, x), List.mem_filter.mpr ⟨?_, by simp⟩, rfl⟩⟩
      · have := h2 j (by omega)
        rw [getD_snoc, hv, if_pos hj] at this
        exact this
      · have := h2 i (by omega)
        rw [getD_snoc, hv, if_neg (Nat.lt_irrefl _), if_pos rfl] at this
        exact this
theorem ltK_dig {a b : Mk} (h : ltS (mkT a) (mkT b)) (e : a.1 = b.1) : a.2 < b.2 := by
  have h2 : (St [a.1, a.2]).cps.toList < (St [b.1, b.2]).cps.toList := h
  rw [st_list, st_list] at h2
  rcases List.cons_lt_cons_iff.mp h2 with h3 | ⟨_, h3⟩
  · omega
  · rcases List.cons_lt_cons_iff.mp h3 with h4 | ⟨_, h4⟩
    · exact h4
    · exact absurd h4 (List.lt_irrefl _)
theorem words_asc {ms : List Mk} (hm : (ms.map mkT).Pairwise ltS) (t : Tr) : ∀ i, (wordsTo ms t i).Pairwise (· < ·)
  | 0 => List.pairwise_singleton _ _
  | i + 1 => by
    show List.Pairwise _ ((wordsTo ms t i).flatMap (grow ms (labAt t i)))
    rw [List.pairwise_flatMap]
    refine ⟨fun u hu => ?_, ?_⟩
    · unfold grow
      rw [List.pairwise_map]
      have h1 := (List.pairwise_map.mp hm).filter (fun m => decide (m.1 = labAt t i))
      refine (List.Pairwise.and_mem.mp h1).imp fun {a b} ⟨ha, hb, hab⟩ => ?_
      have ea := of_decide_eq_true (List.mem_filter.mp ha).2
      have eb := of_decide_eq_true (List.mem_filter.mp hb).2
      exact lt_app2 u (List.cons_lt_cons_iff.mpr (.inl (ltK_dig hab (ea.trans eb.symm))))
    · have ih := words_asc hm t i
      refine (List.Pairwise.and_mem.mp ih).imp fun {a b} hab => ?_
      obtain ⟨ha, hb, hlt⟩ := hab
      intro x hx y hy
      obtain ⟨m, _, rfl⟩ := List.mem_map.mp hx
      obtain ⟨n, _, rfl⟩ := List.mem_map.mp hy
      exact lt_app _ _ (by rw [((words_iff ms t i a).mp ha).1, ((words_iff ms t i b).mp hb).1]) hlt
theorem okS_mark {c : Ck} {s : Tr} {u : List Nat} (h : okS c s u) : (s.lab, u.getD 0 0) ∈ allM c := by
  unfold allM
  cases s with
  | leaf l => exact List.mem_append.mpr (.inl (List.mem_append.mpr (.inr h)))
  | one l a => exact List.mem_append.mpr (.inr (List.mem_flatten.mpr ⟨_, h, List.mem_cons_self⟩))
  | two l a b => exact List.mem_append.mpr (.inr (List.mem_flatten.mpr ⟨_, h, List.mem_cons_self⟩))
theorem right_mem {c : Ck} {ms : List Mk} {t : Tr} (hM : MarksOf c ms) {u : List Nat} : u ∈ rightL c ms t ↔ u.length = t.size ∧ rightB c t u = true := by
  unfold rightL
  rw [List.mem_filter, words_iff]
  constructor
  · intro ⟨⟨h1, _⟩, h2⟩
    exact ⟨h1, h2⟩
  · intro ⟨h1, h2⟩
    refine ⟨⟨h1, fun j hj => ?_⟩, h2⟩
    obtain ⟨s, hs⟩ := Tr.sub_ex hj
    have hl : labAt t j = s.lab := by unfold labAt; rw [hs]; rfl
    have := okS_mark ((rt_all c t u).mp ((right_iff c t u).mp h2).1 j s hs)
    rw [getD_drop, Nat.add_zero] at this
    rw [hl, hM.mem]
    exact this
theorem right_dig {c : Ck} (ok : c.Ok) {ms : List Mk} {t : Tr} (hM : MarksOf c ms) {u : List Nat} (h : u ∈ rightL c ms t) : ∀ x ∈ u, isDig x := by
  have := (List.mem_filter.mp h).1
  exact (words_mem t (fun m hm => allM_ok ok m ((hM.mem m).mp hm)) t.size u this).2
theorem law_due {c : Ck} (ok : c.Ok) {ms : List Mk} (hM : MarksOf c ms) {t : Tr} (ht : t.Ok c.many) {ν : List Nat} (hν : ν.length = t.size) :
    (cheapest c t ν = none ∧ rightL c ms t = []) ∨ ∃ k ds r, cheapest c t ν = some (k, ds) ∧ rightL c ms t ≠ [] ∧ least ((rightL c ms t).map (diffs ν)) = some k ∧ (rightL c ms t).filter (fun w => decide (diffs ν w = k)) = ds :: r := by
  have hpos := Tr.size_pos t
  -- every right word is priced at its head
  have key : ∀ u, u ∈ rightL c ms t → u.getD 0 0 ∈ topD c t ν ∧ leP (costD c t ν (u.getD 0 0), pick c t ν (u.getD 0 0)) (diffs ν u, u) := by
    intro u hu
    obtain ⟨hl, hr⟩ := (right_mem hM).mp hu
    obtain ⟨h1, h2⟩ := (right_iff c t u).mp hr
    obtain ⟨k, hk, hle⟩ := best_le ok t ht ν u (right_dig ok hM hu) (by omega) h1
    rw [← hl, List.take_length, show cs ν u u.length = diffs ν u by rw [diffs_cs ν u (by omega), hν, hl]] at hle
    have hd : isDig (u.getD 0 0) := by
      cases u with
      | nil => simp at hl; omega
      | cons a q => exact right_dig ok hM hu a List.mem_cons_self
    refine ⟨List.mem_filter.mpr ⟨mem_digs.mpr hd, by rw [Bool.and_eq_true]; exact ⟨by rw [hk]; rfl, decide_eq_true h2⟩⟩, ?_⟩
    have : costD c t ν (u.getD 0 0) = k := by unfold costD; rw [hk]; rfl
    rw [this]
    exact hle
  -- each top digit's pick is right
  have back : ∀ d, d ∈ topD c t ν → pick c t ν d ∈ rightL c ms t ∧ diffs ν (pick c t ν d) = costD c t ν d := by
    intro d hd
    have hl := topD_some hd
    have hp := pick_len ok ht (show ((tab c t ν).lookup d).isSome by rw [hl]; rfl)
    obtain ⟨g1, g2⟩ := pick_right ok t ht ν d _ hl []
    rw [List.append_nil] at g1 g2
    have hh : (pick c t ν d).getD 0 0 = d := by simp [List.getD, hp.2]
    have htop := (List.mem_filter.mp hd).2
    simp only [Bool.and_eq_true, decide_eq_true_eq] at htop
    refine ⟨(right_mem hM).mpr ⟨hp.1, (right_iff c t _).mpr ⟨g1, by rw [hh]; exact htop.2⟩⟩, ?_⟩
    rw [diffs_cs ν _ (by rw [hp.1, hν]), hν]
    exact g2
  by_cases htd : topD c t ν = []
  · left
    refine ⟨cheap_none htd, ?_⟩
    cases hq : rightL c ms t with
    | nil => rfl
    | cons u r =>
      have := (key u (by rw [hq]; exact List.mem_cons_self)).1
      rw [htd] at this
      cases this
  · right
    obtain ⟨k, hk⟩ := least_ne (l := (topD c t ν).map (costD c t ν)) (by simpa using htd)
    obtain ⟨d0, dr, hd0, hch⟩ := cheap_some hk
    obtain ⟨hk1, hk2⟩ := least_some hk
    have hd0m : d0 ∈ (topD c t ν).filter (fun d => decide (costD c t ν d = k)) := by rw [hd0]; exact List.mem_cons_self
    obtain ⟨hd0t, hd0k⟩ := List.mem_filter.mp hd0m
    have hd0k' := of_decide_eq_true hd0k
    obtain ⟨b1, b2⟩ := back d0 hd0t
    have hasc : (rightL c ms t).Pairwise (· < ·) := (words_asc hM.srt t t.size).filter _
    have hpl := pick_len ok ht (show ((tab c t ν).lookup d0).isSome by rw [topD_some hd0t]; rfl)
    -- none is better
    have best : ∀ u, u ∈ rightL c ms t → leP (k, pick c t ν d0) (diffs ν u, u) := by
      intro u hu
      obtain ⟨g1, g2⟩ := key u hu
      have g3 := hk2 _ (List.mem_map.mpr ⟨_, g1, rfl⟩)
      by_cases hlt : k < diffs ν u
      · exact .inl hlt
      · have hcle : costD c t ν (u.getD 0 0) ≤ diffs ν u := by
          rcases g2 with g | ⟨g, _⟩
          · exact Nat.le_of_lt g
          · exact Nat.le_of_eq g
        have e1 : costD c t ν (u.getD 0 0) = k := by omega
        have e2 : k = diffs ν u := by omega
        have g4 : pick c t ν (u.getD 0 0) = u ∨ pick c t ν (u.getD 0 0) < u := by
          rcases g2 with g | ⟨_, g⟩
          · have : costD c t ν (u.getD 0 0) < diffs ν u := g
            omega
          · exact g
        refine .inr ⟨e2, ?_⟩
        have hin : u.getD 0 0 ∈ (topD c t ν).filter (fun d => decide (costD c t ν d = k)) := List.mem_filter.mpr ⟨g1, decide_eq_true e1⟩
        have hda : ((topD c t ν).filter (fun d => decide (costD c t ν d = k))).Pairwise (· < ·) := by
          have : digs.Pairwise (· < ·) := by decide
          exact (this.filter _).filter _
        rw [hd0] at hin hda
        rcases List.mem_cons.mp hin with he | he
        · rw [← he]; exact g4
        · have hlt2 := (List.pairwise_cons.mp hda).1 _ he
          right
          refine lt_heads hpl.2 ?_ hlt2
          have hul := ((right_mem hM).mp hu).1
          cases u with
          | nil => simp at hul; omega
          | cons a q => rfl
    refine ⟨k, pick c t ν d0, ((rightL c ms t).filter (fun w => decide (diffs ν w = k))).tail, hch, (fun e => by rw [e] at b1; cases b1), ?_, ?_⟩
    · obtain ⟨k', hk'⟩ := least_ne (l := (rightL c ms t).map (diffs ν)) (fun e => by
        have := List.map_eq_nil_iff.mp e
        rw [this] at b1
        cases b1)
      obtain ⟨m1, m2⟩ := least_some hk'
      have m3 := m2 _ (List.mem_map.mpr ⟨_, b1, rfl⟩)
      rw [b2, hd0k'] at m3
      obtain ⟨u, hu, hu2⟩ := List.mem_map.mp m1
      have m4 := best u hu
      have : k ≤ diffs ν u := by
        rcases m4 with g | ⟨g, _⟩
        · exact Nat.le_of_lt g
        · exact Nat.le_of_eq g
      rw [hk', show k' = k by omega]
    · have hin : pick c t ν d0 ∈ (rightL c ms t).filter (fun w => decide (diffs ν w = k)) := List.mem_filter.mpr ⟨b1, by simp [b2, hd0k']⟩
      cases hf : (rightL c ms t).filter (fun w => decide (diffs ν w = k)) with
      | nil => rw [hf] at hin; cases hin
      | cons x r =>
        have hfa : ((rightL c ms t).filter (fun w => decide (diffs ν w = k))).Pairwise (· < ·) := hasc.filter _
        have hx : x ∈ (rightL c ms t).filter (fun w => decide (diffs ν w = k)) := by rw [hf]; exact List.mem_cons_self
        obtain ⟨x1, x2⟩ := List.mem_filter.mp hx
        have hxb := best x x1
        have hxd := of_decide_eq_true x2
        have hle : pick c t ν d0 = x ∨ pick c t ν d0 < x := by
          rcases hxb with g | ⟨_, g⟩
          · have : k < diffs ν x := g
            omega
          · exact g
        rw [hf] at hin hfa
        rcases List.mem_cons.mp hin with he | he
        · rw [he]; rfl
        · have := (List.pairwise_cons.mp hfa).1 _ he
          rcases hle with g | g
          · rw [g] at this; exact absurd this (List.lt_irrefl _)
          · exact absurd (List.lt_trans g this) (List.lt_irrefl _)
end K64

set_option Elab.async false
set_option linter.all false
set_option maxRecDepth 100000
set_option maxHeartbeats 4000000
/-! W20: defs that say repr: they know the guards. _law_same. -/
namespace K64
open PySem PySem.Spec PyProof.Rows L2 Evl
theorem fun_of {K : Fg} {x : Str} {st : Stmt} {f : Addr} {fd : FuncData} (F : FunD K x x (defArgs st) (defBody st) (defScope st) [] [] f fd) : L2.Fun K x x st f fd := by
  obtain ⟨oc, od, dV, kV, doc, pm, an, cdv, ct, osl, rfl, lk, hcd, hD, hK⟩ := F.ex
  rcases hD with ⟨_, rfl⟩ | ⟨e, _⟩
  · exact ⟨⟨oc, od, kV, doc, pm, an, cdv, ct, osl, rfl, lk, hcd⟩, F.kp⟩
  · exact absurd rfl e
structure OkG (P : Program) (w : World) (K : Fg) (mg : Str → Option Value) (base : Heap) (k : Nat) (x : Str) (ps : List Str) (sp : Sp) : Prop where
  ex : ∃ (f : Addr) (fd : FuncData), mg x = some (.ref f) ∧ PySem.W.keepIn K (.ref f) = true ∧ Binds K fd ps [] ∧ FnOkG P w K mg base CX0 k f fd ps sp
section
variable {P : Program} {w : World} {K : Fg} {mg : Str → Option Value} {base : Heap}
theorem mk_okG {x : Str} {st : Stmt} {N ps : List Str} {k : Nat} {sp : Sp} (h : Kn K mg x st []) (S : FnScope N ps (defScope st)) (hb : ∀ (f : Addr) (fd : FuncData), FunD K x x (defArgs st) (defBody st) (defScope st) [] [] f fd → Binds K fd ps [])
    (len : ∀ vs H Q E, sp vs H Q E → vs.length = ps.length)
    (hbody : ∀ (f : Addr) (cdv : Value) (A : Around) (outer : List Env) (s : Shared) (H : Hp) (vs : List V) (Q : VK) (E : XK), A.guards = some [] → Room k (A.deeper (envOfC x (defScope st) s.heap.objs.size f cdv)) → sp vs H Q E → PySem.W.codeIn K cdv x = true → mg x = some (.ref f) →
      ∃ t, PSs (cxOf CX0 P w K mg base N x (defScope st) f cdv A outer s H E).nox (defBody st) t ∧ t { nx := fun _ H' => Q .non H', rt := Q } (start N vs) H) : OkG P w K mg base (k + 1) x ps sp := by
  obtain ⟨f, fd, F, hm⟩ := h
  exact ⟨f, fd, hm, F.kp, hb f fd F, Fun.okG (fun_of F) S len fun cdv A outer s H vs Q E hg hr hsp hc => hbody f cdv A outer s H vs Q E hg hr hsp hc hm⟩
end
section
variable {X : Cx} {k j : Nat} {x : Str} {ps : List Str} {sp : Sp} {p pos : Pos} {e : Expr} {es : List Expr} {t : TA}
theorem pe_okG (h : OkG X.prog X.w X.K X.mg X.base k x ps sp) (hgd : X.A.guards = some []) (hr : Room j X.A) (hj : k ≤ j) (hg : Gl X x) (ha : PA X (e :: es) t) (hdb : (x == ("__debug__" : Str)) = false := by decide)
    (he : starEach (e :: es) X.env = (false, eval e X.env) :: starEach es X.env := by rfl) (hpl : (backTo pos (starEach es X.env)).any (·.1) = false := by rfl) : PE X (.Call (.Name x p) (e :: es) [] pos) (tCall sp [] E0 t) := by
  obtain ⟨f, fd, h1, h2, h3, F⟩ := h.ex
  exact pe_callG hgd F (hr.mono hj) hg h1 h2 h3 .nil pass0 ha hdb he hpl
end
section
variable {P : Program} {w : World} {K : Fg} {mg : Str → Option Value} {base : Heap}
/-- data that repr shows -/
structure Shw (d : PyData) : Prop where
  sh : d.showable = true
  nd : d.hasDict = false
  dp : d.depth ≤ 40
  sz : d.shown.length ≤ sizeLine
theorem rc_repr {H : Hp} {a : Addr} {d : PyData} (h : ∀ H1, Ex H H1 → Dp K H1 (.ref a) d) (hs : Shw d) : RC (rReprD K) [.ref a] H (.str d.shown) := fun H1 e Q q => ⟨a, d, rfl, h H1 e, hs.sh, hs.nd, hs.dp, hs.sz, q H1 (Ex.refl _)⟩
def sp_law_same (K : Fg) : Sp := spV 2 fun vs H z => ∃ (a b : Addr) (d : PyData), vs = [.ref a, .ref b] ∧ Dp K H (.ref a) d ∧ Dp K H (.ref b) d ∧ Shw d ∧ z = .bl true
abbrev N_law_same : List Str := ["_law_told", "_law_due"]
theorem sc_law_same : FnScope N_law_same ["_law_told", "_law_due"] (defScope s_law_same) := ⟨rfl, rfl, rfl, by decide +kernel, rfl, by decide +kernel, by decide +kernel⟩
theorem ok_law_same (G : Fs P K mg) : OkG P w K mg base 1 "_law_same" ["_law_told", "_law_due"] (sp_law_same K) := by
  refine mk_okG G.k_law_same sc_law_same (fun f fd F => by
    obtain ⟨ds, h1, h2⟩ : ∃ ds, Vals [] ds ∧ Binds K fd ["_law_told", "_law_due"] ds := ⟨[], .nil, FunD.bindsN F fun _ _ _ _ _ _ us hl => match us, hl with | [_, _], _ => rfl⟩
    cases h1
    exact h2) (fun vs H Q E h => h.1) ?_
  intro f cdv A outer s H vs Q E hgd0 hr h _ _
  have nd := sc_law_same.nd
  have hgd : ((cxOf CX0 P w K mg base N_law_same "_law_same" (defScope s_law_same) f cdv A outer s H E).nox).A.guards = some [] := hgd0
  refine ⟨_, (pss_one (ps_ret (pe_cmpR op_eq (pe_callB (cr_reprD hgd (hu64 hr)) rfl G.f_repr boot_repr (pa_cons (pv 0) pa_nil)) (pe_callB (cr_reprD hgd (hu64 hr)) rfl G.f_repr boot_repr (pa_cons (pv 1) pa_nil)) (nomark _)))), ?_⟩
  obtain ⟨hl, z, ⟨a, b, d, rfl, ha, hb, hs, rfl⟩, q⟩ := h
  refine s_ret (ev_is (ev_op (ev_cb (ea1 (ev_var rfl)) (rc_repr (fun H1 e => dp_ex e ha) hs)) (ev_cb (ea1 (ev_var rfl)) (rc_repr (fun H1 e => dp_ex e hb) hs)) (rv_eq rfl)) ?_) fun H1 e => q H1 e
  simp
end
end K64

set_option Elab.async false
set_option linter.all false
set_option maxRecDepth 100000
set_option maxHeartbeats 4000000
/-! W20b: how long a datum's repr is at most. -/
namespace K64
open PySem PySem.Spec PyProof.Rows L2 Evl
mutual
def bnd : PyData → Nat
  | .none => 10
  | .bool _ => 10
  | .int i => (PyData.shown (.int i)).length
  | .str x => 10 * x.length + 10
  | .list xs => bndAll xs + 10
  | .tuple xs => bndAll xs + 10
  | .dict kvs => (PyData.shown (.dict kvs)).length
def bndAll : List PyData → Nat
  | [] => 0
  | x :: xs => bnd x + 2 + bndAll xs
end
mutual
def txtOk : PyData → Bool
  | .str x => PyData.layable0 (.str x)
  | .list xs => txtOkAll xs
  | .tuple xs => txtOkAll xs
  | _ => true
def txtOkAll : List PyData → Bool
  | [] => true
  | x :: xs => txtOk x && txtOkAll xs
end
theorem textFrom_up : ∀ (ts : List Str) (k : Nat) (acc : Str), (textFrom k acc ts).length ≤ acc.length + piled ts
  | [], k, acc => by show acc.length ≤ _; omega
  | t :: r, k, acc => by
    have h := textFrom_up r (k + 1) (acc ++ (if k > 0 then ", " else "" : String) ++ t)
    have e : (acc ++ (if k > 0 then ", " else "" : String) ++ t).length = acc.length + (if k > 0 then 2 else 0) + t.length := by
      rw [strLen_append, strLen_append]
      split <;> rfl
    rw [e] at h
    rw [piled_cons]
    show (textFrom (k + 1) _ r).length ≤ _
    have : (if k > 0 then 2 else 0 : Nat) ≤ 2 := by split <;> omega
    omega
theorem listText_up (ts : List Str) : (listText ts).length ≤ piled ts + 2 := by
  unfold listText
  rw [strLen_append]
  have h := textFrom_up ts 0 "["
  have e1 : (("[" : Str)).length = 1 := rfl
  have e2 : (("]" : Str)).length = 1 := rfl
  omega
theorem tupleText_up (ts : List Str) : (tupleText ts).length ≤ piled ts + 5 := by
  unfold tupleText
  rw [strLen_append, strLen_append]
  have e1 : (("(" : Str)).length = 1 := rfl
  have e2 : ((if ts.length == 1 then ",)" else ")" : String) : Str).length ≤ 2 := by split <;> decide
  cases ts with
  | nil =>
    have : (Str.join ", " ([] : List Str)).length = 0 := rfl
    omega
  | cons a b =>
    have := join_length_add (a :: b) (by simp)
    omega
mutual
theorem shown_up : ∀ d : PyData, txtOk d = true → d.shown.length ≤ bnd d
  | .none, _ => by decide
  | .bool b, _ => by cases b <;> decide
  | .int i, _ => Nat.le_refl _
  | .str x, h => by
    have h1 := len_repr_of_layable (x := x) h
    show (reprText x).length ≤ 10 * x.length + 10
    have e2 : x.length = x.cps.size := rfl
    omega
  | .list xs, h => by
    have h1 := shownAll_up xs h
    have h2 := listText_up (PyData.shownAll xs)
    show (listText (PyData.shownAll xs)).length ≤ bndAll xs + 10
    omega
  | .tuple xs, h => by
    have h1 := shownAll_up xs h
    have h2 := tupleText_up (PyData.shownAll xs)
    show (tupleText (PyData.shownAll xs)).length ≤ bndAll xs + 10
    omega
  | .dict kvs, _ => Nat.le_refl _
theorem shownAll_up : ∀ ds : List PyData, txtOkAll ds = true → piled (PyData.shownAll ds) ≤ bndAll ds
  | [], _ => Nat.le_refl _
  | d :: r, h => by
    have h' : (txtOk d && txtOkAll r) = true := h
    rw [Bool.and_eq_true] at h'
    have h1 := shown_up d h'.1
    have h2 := shownAll_up r h'.2
    show piled (PyData.shown d :: PyData.shownAll r) ≤ bnd d + 2 + bndAll r
    rw [piled_cons]
    omega
end
theorem txt_ok {l : List Nat} (h : ∀ x ∈ l, x < 1114112) (hl : l.length ≤ 1000) : PyData.layable0 (.str (St l)) = true := by
  unfold PyData.layable0
  have h1 : PyData.canLay0 (.str (St l)) = true := by
    show PyData.strOk (St l) = true
    unfold PyData.strOk St
    rw [List.all_toArray, List.all_eq_true]
    intro x hx
    have := h x hx
    simp
    omega
  have h2 : PyData.weight (.str (St l)) = l.length := by
    show (St l).cps.size = l.length
    exact st_size l
  rw [h1, h2]
  have h3 : PyData.depth (.str (St l)) = 0 := rfl
  rw [h3]
  simp
  omega
end K64

set_option Elab.async false
set_option linter.all false
set_option maxRecDepth 100000
set_option maxHeartbeats 4000000
/-! W21: what _law_is_right hears: words; keywords alone. -/
namespace K64
open PySem PySem.Spec PyProof.Rows L2 Evl
/-- all but the tables -/
def noT (H : Hp) : Hp := fun a => match H a with
  | some (.tbl _) => none
  | o => o
theorem noT_some {H : Hp} {a : Addr} {o : HO} (h : H a = some o) (hn : ∀ ps, o ≠ .tbl ps) : noT H a = some o := by
  unfold noT
  rw [h]
  cases o <;> first | rfl | exact absurd rfl (hn _)
theorem noT_ex {H H' : Hp} (e : LamX.ExtN H H') : Ex (noT H) H' := fun a o h => by
  unfold noT at h
  cases hq : H a with
  | none => rw [hq] at h; cases h
  | some u =>
    rw [hq] at h
    cases u with
    | tbl ps => cases h
    | _ => (cases h; exact e a _ hq fun ps => by intro z; cases z)
theorem noT_self (H : Hp) : Ex (noT H) H := noT_ex (LamX.ExtN.refl H)
theorem noT_of_ex {B H : Hp} (e : Ex B H) (hB : ∀ a ps, B a ≠ some (.tbl ps)) : Ex B (noT H) := fun a o h => noT_some (e a o h) fun ps z => hB a ps (by rw [h, z])
theorem noT_no (H : Hp) : ∀ a ps, noT H a ≠ some (.tbl ps) := fun a ps h => by
  unfold noT at h
  cases hq : H a with
  | none => rw [hq] at h; cases h
  | some u =>
    rw [hq] at h
    cases u <;> cases h
theorem sql_noT {K : Fg} {H : Hp} {a : Addr} {xs : List V} (h : SqL K H a xs) : SqL K (noT H) a xs := by
  rcases h with (h | ⟨o, h⟩) | h
  · exact .inl (.inl (noT_some h fun ps z => by cases z))
  · exact .inl (.inr ⟨o, noT_some h fun ps z => by cases z⟩)
  · exact .inr h
theorem sqt_noT {K : Fg} {H : Hp} {a : Addr} {xs : List V} (h : SqT K H a xs) : SqT K (noT H) a xs := by
  rcases h with (h | ⟨o, h⟩) | h
  · exact .inl (.inl (noT_some h fun ps z => by cases z))
  · exact .inl (.inr ⟨o, noT_some h fun ps z => by cases z⟩)
  · exact .inr h
theorem chk_noT {K : Fg} {H : Hp} {v : V} {c : Ck} (h : ChkV K H v c) : ChkV K (noT H) v c := by
  obtain ⟨p, a, b, r, h0, h1, h2, h3, h4⟩ := h
  exact ⟨p, a, b, r, h0, sqt_noT h1, sqt_noT h2, sqt_noT h3, sqt_noT h4⟩
theorem tabs_ex {T : List (Addr × Str)} {H H' : Hp} (h : LamX.Tabs T H) (e : Ex H H') : LamX.Tabs T H' := fun p hp => (h p hp).ext e
theorem ext_of_ex {H H' : Hp} (e : Ex H H') : LamX.ExtN H H' := LamX.ExtN.of e
section
variable {K : Fg} {σ : L2.St} {H H' B : Hp} {z : V}
/-- a new pair of flat things -/
def HP (K : Fg) (H : Hp) (v : V) (dd : PyData) : Prop := ∃ (a : Addr) (x y : V) (d1 d2 : PyData), v = .ref a ∧ H a = some (.tup [x, y]) ∧ dd = PyData.tuple [d1, d2] ∧ (∀ H', Dp K H' x d1) ∧ ∀ H', Dp K H' y d2
theorem HP.dp {v : V} {dd : PyData} (h : HP K H v dd) : Dp K H v dd := by
  obtain ⟨a, x, y, d1, d2, rfl, h1, rfl, h2, h3⟩ := h
  exact .tup (st_of h1) (.cons (h2 _) (.cons (h3 _) .nil))
theorem HP.ext {v : V} {dd : PyData} (h : HP K H v dd) (e : LamX.ExtN H H') : HP K H' v dd := by
  obtain ⟨a, x, y, d1, d2, rfl, h1, rfl, h2, h3⟩ := h
  exact ⟨a, x, y, d1, d2, rfl, e a _ h1 (fun ps z => by cases z), rfl, h2, h3⟩
theorem HP.updL {v : V} {dd : PyData} {l : Addr} {o : HO} (h : HP K H v dd) (hl : ∀ ys, H l ≠ some (.tup ys)) : HP K (upd H l o) v dd := by
  obtain ⟨a, x, y, d1, d2, rfl, h1, rfl, h2, h3⟩ := h
  exact ⟨a, x, y, d1, d2, rfl, by rw [upd_ne (fun z => by rw [z] at h1; exact hl _ h1)]; exact h1, rfl, h2, h3⟩
theorem tabs_upd {T : List (Addr × Str)} {l : Addr} {xs : List V} {o : HO} (h : LamX.Tabs T H) (hl : H l = some (.lst xs)) : LamX.Tabs T (upd H l o) := fun p hp => by
  obtain ⟨ps, h1, h2, h3⟩ := h p hp
  refine ⟨ps, by rw [upd_ne (fun z => by rw [z, hl] at h1; cases h1)]; exact h1, h2, fun pos cv hc => ?_⟩
  obtain ⟨c, h4, h5⟩ := h3 pos cv hc
  exact ⟨c, h4, by rw [upd_ne (fun z => by rw [z, hl] at h5; cases h5)]; exact h5⟩
/-- heard: a pair of this data -/
def Hear (K : Fg) (C : Addr) (B : Hp) (tl : XK → Hp → VK → Prop) (dd : PyData) : Prop := ∀ H1, Ex B H1 → ∀ Q : VK, (∀ v H2, Ex H1 H2 → HP K H2 v dd → Q v H2) → THear C tl H1 Q
/-- a value told -/
theorem hear_v {C : Addr} {t : XK → TE} {d : PyData} (h : ∀ E, Ev (t E) σ B z) (hd : ∀ H, Dp K H z d) : Hear K C B (fun E H' Q' => t E σ H' Q') (.tuple [.str "told", d]) := fun H1 e Q q =>
  h _ H1 e _ fun H2 e2 => ⟨by show 2 ≤ sizeLine; decide, fun p hp => q _ _ (e2.trans (Ex.new hp)) ⟨p, _, _, _, _, rfl, upd_same, rfl, fun _ => .str _, hd⟩⟩
/-- NoNotes heard -/
theorem hear_x {C : Addr} {t : XK → TE} {x : Str} (h : ∀ (E : XK) H1, Ex B H1 → ∀ Q : VK, (∀ d H2, Ex H1 H2 → H2 d = some (.xd [("tree", .str x)]) → E (.ref C) (some d) H2) → t E σ H1 Q) : Hear K C B (fun E H' Q' => t E σ H' Q') (.tuple [.str "none", .str x]) := fun H1 e Q q =>
  h _ H1 e _ fun d H2 e2 hx => ⟨d, x, rfl, rfl, hx, fun p H3 hp e3 h3 => q _ H3 (e2.trans e3) ⟨p, _, _, _, _, rfl, h3, rfl, fun _ => .str _, fun _ => .str _⟩⟩
/-- the call of _law_heard with a lambda -/
theorem lam_heard {C : Addr} {T : List (Addr × Str)} {t : XK → TE} {dd : PyData} (hB : ∀ a ps, B a ≠ some (.tbl ps)) (h : Hear K C B (fun E H' Q' => t E σ H' Q') dd) (hT : LamX.Tabs T H) (e : Ex B H) {Q : VK} (q : ∀ v H2, LamX.ExtN H H2 → LamX.Tabs T H2 → HP K H2 v dd → Q v H2) : LamX.tLam T (THear C) t σ H Q :=
  ⟨hT, fun H1 e1 hT1 => h H1 (fun a o ha => e1 a o (e a o ha) fun ps z => hB a ps (by rw [ha, z])) Q fun p H2 e2 hd => q p H2 (e1.trans (ext_of_ex e2)) (tabs_ex hT1 e2) hd⟩
end
/-! ### keywords alone -/
def g3 : List Value → List Value → List Value
  | [], [a, b, c] => [c, b, a]
  | _, _ => []
def gV3 : List V → List V → List V
  | [], [a, b, c] => [c, b, a]
  | _, _ => []
def h3 : List Value → List Value → List Value
  | [], [a, b, c] => [b, c, a]
  | _, _ => []
def hV3 : List V → List V → List V
  | [], [a, b, c] => [b, c, a]
  | _, _ => []
theorem rel_g3 : ∀ {vs : List V} {us : List Value} {zs : List V} {ws : List Value}, Vals vs us → Vals zs ws → Vals (gV3 vs zs) (g3 us ws)
  | _, _, _, _, .nil, .nil => .nil
  | _, _, _, _, .nil, .cons _ .nil => .nil
  | _, _, _, _, .nil, .cons _ (.cons _ .nil) => .nil
  | _, _, _, _, .nil, .cons a (.cons b (.cons c .nil)) => .cons c (.cons b (.cons a .nil))
  | _, _, _, _, .nil, .cons _ (.cons _ (.cons _ (.cons _ _))) => .nil
  | _, _, _, _, .cons _ _, _ => .nil
theorem rel_h3 : ∀ {vs : List V} {us : List Value} {zs : List V} {ws : List Value}, Vals vs us → Vals zs ws → Vals (hV3 vs zs) (h3 us ws)
  | _, _, _, _, .nil, .nil => .nil
  | _, _, _, _, .nil, .cons _ .nil => .nil
  | _, _, _, _, .nil, .cons _ (.cons _ .nil) => .nil
  | _, _, _, _, .nil, .cons a (.cons b (.cons c .nil)) => .cons b (.cons c (.cons a .nil))
  | _, _, _, _, .nil, .cons _ (.cons _ (.cons _ (.cons _ _))) => .nil
  | _, _, _, _, .cons _ _, _ => .nil
section
variable {K : Fg} {f : Addr} {fd : FuncData}
theorem kb_fewest (F : FunD K "fewest_changes" "fewest_changes" (defArgs s_fewest_changes) (defBody s_fewest_changes) (defScope s_fewest_changes) [] [] f fd) : KBinds K fd ["checker", "tree", "notes"] ["notes", "tree", "checker"] g3 gV3 := by
  obtain ⟨oc, od, dV, kV, doc, pm, an, cdv, ct, osl, rfl, lk, hcd, hD, hK⟩ := F.ex
  rcases hD with ⟨_, rfl⟩ | ⟨e, _⟩
  · refine ⟨fun s us ws X hl => ?_, rel_g3⟩
    match us, ws, hl with
    | [], [a, b, c], _ => exact .of_eq rfl
  · exact absurd rfl e
theorem kb_least (F : FunD K "least_changed" "least_changed" (defArgs s_least_changed) (defBody s_least_changed) (defScope s_least_changed) [] [] f fd) : KBinds K fd ["checker", "tree", "notes"] ["notes", "checker", "tree"] h3 hV3 := by
  obtain ⟨oc, od, dV, kV, doc, pm, an, cdv, ct, osl, rfl, lk, hcd, hD, hK⟩ := F.ex
  rcases hD with ⟨_, rfl⟩ | ⟨e, _⟩
  · refine ⟨fun s us ws X hl => ?_, rel_h3⟩
    match us, ws, hl with
    | [], [a, b, c], _ => exact .of_eq rfl
  · exact absurd rfl e
end
end K64

set_option Elab.async false
set_option linter.all false
set_option maxRecDepth 100000
set_option maxHeartbeats 4000000
/-! W22: _law_is_right. -/
namespace K64
open PySem PySem.Spec PyProof.Rows L2 Evl
abbrev N_law_is_right : List Str := ["_law_table", "_law_wood", "_law_laid_here", "_law_some", "_law_due", "_law_told", "_law_least", "_law_late"]
theorem sc_law_is_right : FnScope N_law_is_right ["_law_table", "_law_wood", "_law_laid_here", "_law_some"] (defScope s_law_is_right) := ⟨rfl, rfl, rfl, by decide +kernel, rfl, by decide +kernel, by decide +kernel⟩
mutual
theorem dp_noT {K : Fg} {H : Hp} : ∀ {v : V} {d : PyData}, Dp K H v d → Dp K (noT H) v d
  | _, _, .non => .non
  | _, _, .bl b => .bl b
  | _, _, .int i => .int i
  | _, _, .str x => .str x
  | _, _, .lst h1 h2 => .lst (sql_noT h1) (dpa_noT h2)
  | _, _, .tup h1 h2 => .tup (sqt_noT h1) (dpa_noT h2)
theorem dpa_noT {K : Fg} {H : Hp} : ∀ {vs : List V} {ds : List PyData}, DpAll K H vs ds → DpAll K (noT H) vs ds
  | _, _, .nil => .nil
  | _, _, .cons h1 h2 => .cons (dp_noT h1) (dpa_noT h2)
end
theorem dp_extN {K : Fg} {H H' : Hp} {v : V} {d : PyData} (e : LamX.ExtN H H') (h : Dp K H v d) : Dp K H' v d := dp_ex (noT_ex e) (dp_noT h)
section
variable {K : Fg} {σ : L2.St} {H H' B : Hp} {ta tb t1 t2 : TE} {x y z v : V} {D : Ends} {tz : TS}
theorem q_lst2Z {Z1 Z2 : V → Hp → Prop} {i : Nat} (h1 : EvZ t1 σ H Z1) (h2 : EvZ t2 σ H Z2) (s1 : ∀ v H H', Ex H H' → Z1 v H → Z1 v H') (s2 : ∀ v H H', Ex H H' → Z2 v H → Z2 v H') (k : ∀ p v1 v2 H1, Ex H H1 → Z1 v1 H1 → Z2 v2 H1 → H1 p = some (.lst [v1, v2]) → tz D (σ.set i (some (.ref p))) H1) : tSeq (tAsg (tLst (tCons t1 (tCons t2 tNil))) (gName i)) tz D σ H :=
  h1 H (Ex.refl H) _ fun v1 H1 e1 z1 => h2 H1 e1 _ fun v2 H2 e2 z2 => ⟨by show 2 ≤ sizeLine; decide, fun p hp => k p v1 v2 _ ((e1.trans e2).trans (Ex.new hp)) (s1 _ _ _ (e2.trans (Ex.new hp)) z1) (s2 _ _ _ (Ex.new hp) z2) upd_same⟩
theorem s_lst2Z {Z1 Z2 : V → Hp → Prop} {i : Nat} (h1 : EvZ t1 σ H Z1) (h2 : EvZ t2 σ H Z2) (s1 : ∀ v H H', Ex H H' → Z1 v H → Z1 v H') (s2 : ∀ v H H', Ex H H' → Z2 v H → Z2 v H') (k : ∀ p v1 v2 H1, Ex H H1 → Z1 v1 H1 → Z2 v2 H1 → H1 p = some (.lst [v1, v2]) → D.nx (σ.set i (some (.ref p))) H1) : tAsg (tLst (tCons t1 (tCons t2 tNil))) (gName i) D σ H :=
  h1 H (Ex.refl H) _ fun v1 H1 e1 z1 => h2 H1 e1 _ fun v2 H2 e2 z2 => ⟨by show 2 ≤ sizeLine; decide, fun p hp => k p v1 v2 _ ((e1.trans e2).trans (Ex.new hp)) (s1 _ _ _ (e2.trans (Ex.new hp)) z1) (s2 _ _ _ (Ex.new hp) z2) upd_same⟩
theorem ez_pair {d1 d2 : PyData} (h1 : Ev ta σ H x) (h2 : Ev tb σ H y) (g1 : ∀ H, Dp K H x d1) (g2 : ∀ H, Dp K H y d2) : EvZ (tTup (tCons ta (tCons tb tNil))) σ H (fun v H' => Dp K H' v (.tuple [d1, d2])) := fun H1 e Q q =>
  (eu_tup (ea2 h1 h2) (by show 2 ≤ 100000; omega)) H1 e _ fun p H2 _ e2 h2 => q _ H2 e2 (.tup (st_of h2) (.cons (g1 _) (.cons (g2 _) .nil)))
theorem q_ifMid {t : TT} {tu tw : TS} {M : L2.St → Hp → Prop} {b : Bool} (h : EvT t σ H b) (h1 : b = true → ∀ H1, Ex H H1 → ∀ D' : Ends, (∀ σ' H', M σ' H' → D'.nx σ' H') → tu D' σ H1) (h2 : b = false → ∀ H1, Ex H H1 → ∀ D' : Ends, (∀ σ' H', M σ' H' → D'.nx σ' H') → tw D' σ H1) (k : ∀ σ' H', M σ' H' → tz D σ' H') : tSeq (tIfS t tu tw) tz D σ H :=
  q_if h (fun hb H1 e => h1 hb H1 e { D with nx := tz D } k) (fun hb H1 e => h2 hb H1 e { D with nx := tz D } k)
theorem callK_of {sp : Sp} {gV : List V → List V → List V} {E : XK} {tk : TA} {vs : List V} {H1 : Hp} {Q : VK} (h : EvA tk σ B vs) (e : Ex B H1) (k : ∀ H3, Ex H1 H3 → sp (gV [] vs) H3 Q E) : tCallK sp gV E tNil tk σ H1 Q := h H1 e _ fun H3 e3 => k H3 e3
/-- told = [heard] -/
theorem q_told {C : Addr} {T : List (Addr × Str)} {t : XK → TE} {dd : PyData} {i : Nat} (hB : ∀ a ps, B a ≠ some (.tbl ps)) (h : Hear K C B (fun E H' Q' => t E σ H' Q') dd) (hT : LamX.Tabs T H) (e : Ex B H) (k : ∀ l v Hm, LamX.ExtN H Hm → Hm l = none → LamX.Tabs T Hm → HP K Hm v dd → tz D (σ.set i (some (.ref l))) (upd Hm l (.lst [v]))) : tSeq (tAsg (tLst (tCons (LamX.tLam T (THear C) t) tNil)) (gName i)) tz D σ H :=
  lam_heard hB h hT e fun v H2 e2 hT2 hd => ⟨by show 1 ≤ sizeLine; decide, fun l hl => k l v H2 e2 hl hT2 hd⟩
/-- told.append(heard) -/
theorem q_toldA {C : Addr} {T : List (Addr × Str)} {t : XK → TE} {dd : PyData} {i : Nat} {l : Addr} {xs : List V} (hl : H l = some (.lst xs)) (hi : σ[i]? = some (some (.ref l))) (hz : xs.length ≤ 100) (hB : ∀ a ps, B a ≠ some (.tbl ps)) (h : Hear K C B (fun E H' Q' => t E σ H' Q') dd) (hT : LamX.Tabs T H) (e : Ex B H) (k : ∀ v Hm, LamX.ExtN H Hm → LamX.Tabs T Hm → HP K Hm v dd → tz D σ (upd Hm l (.lst (xs ++ [v])))) : tSeq (tDrop (tBM K "list" rAppend (tVar i) (tCons (LamX.tLam T (THear C) t) tNil))) tz D σ H :=
  ⟨.ref l, hi, Or.inl ⟨rfl, xs, sq_of hl⟩, lam_heard hB h hT e fun v H2 e2 hT2 hd => ⟨l, xs, v, rfl, rfl, e2 l _ hl (fun ps z => by cases z), sz_lt (by omega), k v H2 e2 hT2 hd⟩⟩
end
/-- what is due -/
def DueT (o : Option (Nat × List Nat)) (w : Str) (T1 T2 : PyData) : Prop := match o with
  | none => T1 = .tuple [.str "told", .none] ∧ T2 = .tuple [.str "none", .str w]
  | some (k, ds) => T1 = .tuple [.str "told", .int (k : Nat)] ∧ T2 = .tuple [.str "told", .str (St ds)]
theorem shw_due {o : Option (Nat × List Nat)} {t : Tr} {m : Nat} {T1 T2 : PyData} (ht : t.Ok m) (hz : t.size ≤ 6) (ho : ∀ k ds, o = some (k, ds) → k ≤ 6 ∧ ds.length ≤ 6 ∧ ∀ x ∈ ds, isDig x) (h : DueT o (St t.signs) T1 T2) : Shw (.list [T1, T2, T1, T2]) := by
  have l1 : ("told" : Str).length = 4 := rfl
  have l2 : ("none" : Str).length = 4 := rfl
  have k1 : PyData.layable0 (.str "told") = true := by decide +kernel
  have k2 : PyData.layable0 (.str "none") = true := by decide +kernel
  have hsl : t.signs.length = t.size := Tr.signs_len t
  have hw : PyData.layable0 (.str (St t.signs)) = true := txt_ok (fun x hx => by
    obtain ⟨i, hi⟩ := List.getElem?_of_mem hx
    rcases sign_let ht hi with h | h
    · unfold isLet at h; omega
    · omega) (by omega)
  have lw : (St t.signs).length = t.size := by rw [st_len, hsl]
  have hz6 := sizeLine_eq
  cases o with
  | none =>
    obtain ⟨rfl, rfl⟩ := h
    refine ⟨rfl, rfl, show (2 : Nat) ≤ 40 by omega, Nat.le_trans (shown_up _ (by simp [txtOk, txtOkAll, k1, k2, hw])) ?_⟩
    simp only [bnd, bndAll, l1, l2, lw]
    omega
  | some kd =>
    obtain ⟨k, ds⟩ := kd
    obtain ⟨rfl, rfl⟩ := h
    obtain ⟨hk6, hd6, hdd⟩ := ho k ds rfl
    have hd : PyData.layable0 (.str (St ds)) = true := txt_ok (fun x hx => by have := hdd x hx; unfold isDig at this; omega) (by omega)
    have ld : (St ds).length = ds.length := st_len ds
    have hks : PyData.showable (.int (k : Nat)) = true ∧ (PyData.shown (.int (k : Nat))).length ≤ 10 := by
      have : k = 0 ∨ k = 1 ∨ k = 2 ∨ k = 3 ∨ k = 4 ∨ k = 5 ∨ k = 6 := by omega
      rcases this with rfl | rfl | rfl | rfl | rfl | rfl | rfl <;> exact ⟨by decide +kernel, by decide +kernel⟩
    refine ⟨?_, rfl, show (2 : Nat) ≤ 40 by omega, Nat.le_trans (shown_up _ (by simp [txtOk, txtOkAll, k1, hd])) ?_⟩
    · simp [PyData.showable, PyData.showableAll]
      have := hks.1
      simpa [PyData.showable] using this
    · simp only [bnd, bndAll, l1, ld]
      have := hks.2
      omega
/-- the table that grows by the lambdas -/
abbrev isrT (P' : Addr) : List (Addr × Str) := [(P', "_law_is_right.<locals>.<lambda>")]
def sp_law_is_right (K : Fg) (P' : Addr) : Sp := fun vs H Q _ => vs.length = 4 ∧ ∃ (v : V) (c : Ck) (t : Tr) (ν : List Nat) (a : Addr) (ms : List Mk), vs = [v, .str (St t.signs), .str (St ν), .ref a] ∧ ChkV K H v c ∧ c.Ok ∧ c.Sm ∧ t.Ok c.many ∧ t.size ≤ 6 ∧ ν.length = t.size ∧ (∀ x ∈ ν, okC x) ∧ MarksOf c ms ∧ SqL K H a ((rightL c ms t).map stV) ∧ LamX.Tabs (isrT P') H ∧
  ∀ H2, LamX.ExtN H H2 → LamX.Tabs (isrT P') H2 → Q (.bl true) H2
section
variable {P : Program} {w : World} {K : Fg} {mg : Str → Option Value} {base : Heap}
theorem fewest_fn (G : Fs P K mg) {f : Addr} {fd : FuncData} (FD : FunD K "fewest_changes" "fewest_changes" (defArgs s_fewest_changes) (defBody s_fewest_changes) (defScope s_fewest_changes) [] [] f fd) : FnOk P w K mg base CX0 8 f fd ["checker", "tree", "notes"] (sp_fewest_changes K) := by
  refine FD.ok sc_fewest_changes (fun vs H Q E h => h.1) fun cdv A outer s H vs Q E hr h => ?_
  have nd := sc_fewest_changes.nd
  refine ⟨_, (pss_cons (ps_expr (pe_ok (ok_want_case G) hr (by decide) rfl (pa_cons (pv 0) (pa_cons (pv 1) (pa_cons (pv 2) pa_nil)))))
  (pss_cons (ps_set (i := 3) nd rfl (Or.inl rfl) (pe_ok (ok_cheapest_by G) hr (by decide) rfl (pa_cons (pv 0) (pa_cons (pv 1) (pa_cons (pv 2) pa_nil)))))
  (pss_one (ps_ret (pe_ifExp (pt_cmpR op_isN (pv 3) pe_non (nomark _)) pe_non (pe_ix ix_tup (pv 3) pe_int (fun _ _ => rfl))))))), ?_⟩
  obtain ⟨hl, z, ⟨v, c, t, ν, rfl, hc, ok, ht, hz, hν, hoν, rfl⟩, q⟩ := h
  refine q_drop (ev_callV (ea3 (ev_var rfl) (ev_var rfl) (ev_var rfl)) rfl fun H1 e => ⟨v, c, t, ν, rfl, hc.mono e, ok, ht, hz, hν, hoν, rfl⟩) fun H1 e1 => ?_
  refine q_asgZ (ez_call (ea3 (ev_var rfl) (ev_var rfl) (ev_var rfl)) rfl fun H2 e => ⟨v, c, t, ν, rfl, hc.mono (e1.trans e), ok, ht, hz, hν, rfl⟩) fun fv H2 e2 hf => ?_
  cases hch : cheapest c t ν with
  | none =>
    rw [hch] at hf q
    obtain rfl : fv = .non := hf
    exact s_ret (ev_if (b := true) (et_is (et_test (ev_op (ev_var rfl) ev_c rv_isN)) rfl) (fun _ => ev_c) (fun h => nomatch h)) fun H3 e3 => q H3 ((e1.trans e2).trans e3)
  | some kd =>
    obtain ⟨k, ds⟩ := kd
    rw [hch] at hf q
    obtain ⟨a, rfl, ha⟩ := hf
    exact s_ret (ev_if (b := false) (et_is (et_test (ev_op (ev_var rfl) ev_c rv_isN)) rfl) (fun h => nomatch h) (fun _ => ev_op (ev_var rfl) ev_c (rv_ixTn (j := 0) ha rfl))) fun H3 e3 => q H3 ((e1.trans e2).trans e3)
theorem isr_fn (G : Fs P K mg) {f c P' : Addr} {fd : FuncData} (FD : FunD K "_law_is_right" "_law_is_right" (defArgs s_law_is_right) (defBody s_law_is_right) (defScope s_law_is_right) [] [] f fd) (hfc : fd.code = .ref c) (TB : LamX.TabB base mg c P') : FnOkG P w K mg base CX0 11 f fd ["_law_table", "_law_wood", "_law_laid_here", "_law_some"] (sp_law_is_right K P') := by
  obtain ⟨oc, od, kV, doc, pm, an, cdv, ct, osl, rfl, lk, hcd⟩ := (fun_of FD).ex
  have hcdv : cdv = .ref c := hfc
  subst hcdv
  refine ⟨fun vs H Q E h => h.1, fun A outer s H args us vs Q E hgd0 hr0 e0 hb r h => ?_⟩
  refine LamX.run_ofS lk hcd sc_law_is_right hr0 e0 hb r h.1 fun hr => ?_
  have nd := sc_law_is_right.nd
  obtain ⟨C, hC, HX, fI, fdI, hN, hI, hT, hB⟩ := G.nn
  obtain ⟨fH, fdH, FH, hmH⟩ := G.k_law_heard
  obtain ⟨oc1, od1, kV1, doc1, pm1, an1, cdv1, ct1, osl1, rfl, lk1, hcd1⟩ := (fun_of FH).ex
  have bH : Binds K _ ["_law_ask"] [] := FunD.bindsN FH fun _ _ _ _ _ _ us hl => match us, hl with | [_], _ => rfl
  obtain ⟨fL, fdL, FL, hmL⟩ := G.k_least_changed
  have okL := lc_fn (w := w) (base := base) (P := P) G FL hC
  have bL : Binds K fdL ["checker", "tree", "notes"] [] := FunD.bindsN FL fun _ _ _ _ _ _ us hl => match us, hl with | [_, _, _], _ => rfl
  obtain ⟨fW, fdW, FW, hmW⟩ := G.k_fewest_changes
  obtain ⟨fW2, fdW2, dsW, hmW2, hkW2, hbW2, hvW2, okW⟩ := (ok_fewest_changes (w := w) (base := base) (P := P) G).ex
  have okW3 : FnOk P w K mg base CX0 8 fW fdW ["checker", "tree", "notes"] (sp_fewest_changes K) := fewest_fn (w := w) (base := base) (P := P) G FW
  suffices hh : ∃ t, PSs (cxOf CX0 P w K mg base N_law_is_right "_law_is_right" (defScope s_law_is_right) f (.ref c) A outer s H E).nox (defBody s_law_is_right) t ∧ t { nx := fun _ H' => Q .non H', rt := Q } (start N_law_is_right vs) H by
    obtain ⟨t, ht, hq⟩ := hh
    exact ⟨t, ht.nox, hq⟩
  have hgd : ((cxOf CX0 P w K mg base N_law_is_right "_law_is_right" (defScope s_law_is_right) f (.ref c) A outer s H E).nox).A.guards = some [] := hgd0
  refine ⟨_, (pss_cons (ps_set (i := 4) nd rfl (Or.inl rfl) (pe_lst (pa_cons (pe_tup (pa_cons pe_str (pa_cons pe_non pa_nil))) (pa_cons (pe_tup (pa_cons pe_str (pa_cons (pv 1) pa_nil))) pa_nil))))
  (pss_cons (ps_if (pt_cmpR (op_neD (hu64 hr)) (pv 3) (pe_lst pa_nil) (nomark _)) (pss_cons (ps_set (i := 6) nd rfl (Or.inr rfl) (pe_callB (cr_min rfl) rfl G.f_min boot_min (pa_cons (pe_lc (g := gName 7) rfl nd (pi_list (pv 3)) (blkOk_by (own := [("_law_late", 7)]) (N := N_law_is_right) (sc := defScope s_law_is_right) (by decide +kernel)) (fun _ _ _ _ _ => (pg_name (i := 7) nd rfl (Or.inl rfl))) (fun _ _ _ _ _ => pts_nil) (fun _ _ _ _ _ => (pe_ok (ok_law_price G) hr (by decide) rfl (pa_cons (pv 2) (pa_cons (pv 7) pa_nil))))) pa_nil)))
  (pss_one (ps_set (i := 4) nd rfl (Or.inl rfl) (pe_lst (pa_cons (pe_tup (pa_cons pe_str (pa_cons (pv 6) pa_nil))) (pa_cons (pe_tup (pa_cons pe_str (pa_cons (pe_ix ix_list (pe_lc (g := gName 7) rfl nd (pi_list (pv 3)) (blkOk_by (own := [("_law_late", 7)]) (N := N_law_is_right) (sc := defScope s_law_is_right) (by decide +kernel)) (fun _ _ _ _ _ => (pg_name (i := 7) nd rfl (Or.inl rfl))) (fun _ _ _ _ _ => (pts_one (pt_cmpR op_eq (pe_ok (ok_law_price G) hr (by decide) rfl (pa_cons (pv 2) (pa_cons (pv 7) pa_nil))) (pv 6) (nomark _)))) (fun _ _ _ _ _ => (pv 7))) pe_int (fun _ _ => rfl)) pa_nil))) pa_nil)))))) pss_nil)
  (pss_cons (ps_set (i := 5) nd rfl (Or.inl rfl) (pe_lst (pa_cons (LamX.pe_lamcall (T := isrT P') (TT := THear C) (k := 8) rfl hmH FH.kp lk1 hcd1 bH sc_heard rfl (Or.inl rfl) (heard_gives HX) TB rfl (List.mem_singleton.mpr rfl) (fun p hp _ => by rw [List.mem_singleton.mp hp]; rfl) hr (LamX.lamS_by (by show LamX.lamSB (defScope s_law_is_right) _ = true; decide +kernel)) rfl (fun _ _ _ _ _ => rfl) (fun A outer s H E f c' hr2 => pe_ok (ok_fewest_changes G) hr2 (by decide) rfl (pa_cons (pv 0) (pa_cons (pv 1) (pa_cons (pv 2) pa_nil))))) pa_nil)))
  (pss_cons (ps_expr (pe_bm F.plainAttrs_list F.slot_list_append F.type_list_append mt_append (pv 5) (pa_cons (LamX.pe_lamcall (T := isrT P') (TT := THear C) (k := 8) rfl hmH FH.kp lk1 hcd1 bH sc_heard rfl (Or.inl rfl) (heard_gives HX) TB rfl (List.mem_singleton.mpr rfl) (fun p hp _ => by rw [List.mem_singleton.mp hp]; rfl) hr (LamX.lamS_by (by show LamX.lamSB (defScope s_law_is_right) _ = true; decide +kernel)) rfl (fun _ _ _ _ _ => rfl) (fun A outer s H E f c' hr2 => pe_call (E := E) okL hr2 rfl hmL FL.kp bL .nil (passes_call (takes_of (E₁ := _) rfl rfl rfl rfl) (fun _ _ _ _ h => h)) (pa_cons (pv 0) (pa_cons (pv 1) (pa_cons (pv 2) pa_nil))))) pa_nil)))
  (pss_cons (ps_expr (pe_bm F.plainAttrs_list F.slot_list_append F.type_list_append mt_append (pv 5) (pa_cons (LamX.pe_lamcall (T := isrT P') (TT := THear C) (k := 8) rfl hmH FH.kp lk1 hcd1 bH sc_heard rfl (Or.inl rfl) (heard_gives HX) TB rfl (List.mem_singleton.mpr rfl) (fun p hp _ => by rw [List.mem_singleton.mp hp]; rfl) hr (LamX.lamS_by (by show LamX.lamSB (defScope s_law_is_right) _ = true; decide +kernel)) rfl (fun _ _ _ _ _ => rfl) (fun A outer s H E f c' hr2 => pe_callKw (E := E0) okW3 hr2 rfl hmW FW.kp (kb_fewest FW) pass0 (pk_cons (pv 2) (pk_cons (pv 1) (pk_cons (pv 0) pk_nil))))) pa_nil)))
  (pss_cons (ps_expr (pe_bm F.plainAttrs_list F.slot_list_append F.type_list_append mt_append (pv 5) (pa_cons (LamX.pe_lamcall (T := isrT P') (TT := THear C) (k := 8) rfl hmH FH.kp lk1 hcd1 bH sc_heard rfl (Or.inl rfl) (heard_gives HX) TB rfl (List.mem_singleton.mpr rfl) (fun p hp _ => by rw [List.mem_singleton.mp hp]; rfl) hr (LamX.lamS_by (by show LamX.lamSB (defScope s_law_is_right) _ = true; decide +kernel)) rfl (fun _ _ _ _ _ => rfl) (fun A outer s H E f c' hr2 => pe_callKw (E := E) okL hr2 rfl hmL FL.kp (kb_least FL) (passes_call (takes_of (E₁ := _) rfl rfl rfl rfl) (fun _ _ _ _ h => h)) (pk_cons (pv 2) (pk_cons (pv 0) (pk_cons (pv 1) pk_nil))))) pa_nil)))
  (pss_one (ps_ret (pe_okG (ok_law_same G) hgd hr (by decide) rfl (pa_cons (pv 5) (pa_cons (pe_op op_cat (pv 4) (pv 4)) pa_nil))))))))))), ?_⟩
  obtain ⟨hl, v, c0, t, ν, a, ms, rfl, hc, ok, sm, ht, hz, hν, hνo, hM, hL, hTb, q⟩ := h
  have hpos := Tr.size_pos t
  have hoν : okN ν := ⟨fun e => by rw [e] at hν; simp at hν; omega, hνo⟩
  have hBn := noT_no H
  have hcB := chk_noT hc
  have hdue := law_due ok hM ht hν
  have hrl : (rightL c0 ms t).length ≤ 4096 := by
    have h1 := words_len (hM.len sm) t t.size
    have h2 : 4 ^ t.size ≤ 4 ^ 6 := Nat.pow_le_pow_right (by omega) hz
    have h3 : (4 : Nat) ^ 6 = 4096 := by decide
    have h4 := List.length_filter_le (rightB c0 t) (wordsTo ms t t.size)
    unfold rightL
    omega
  have hrw : ∀ w ∈ rightL c0 ms t, w.length = t.size := fun w hw => ((right_mem hM).mp hw).1
  refine q_lst2Z (Z1 := fun v H' => Dp K H' v (.tuple [.str "told", .none])) (Z2 := fun v H' => Dp K H' v (.tuple [.str "none", .str (St t.signs)])) (ez_pair ev_c ev_c (fun _ => .str _) (fun _ => .non)) (ez_pair ev_c (ev_var rfl) (fun _ => .str _) (fun _ => .str _)) (fun _ _ _ e h => dp_ex e h) (fun _ _ _ e h => dp_ex e h) fun p0 w1 w2 H1 e1 z1 z2 hp0 => ?_
  refine q_ifMid (b := !decide (rightL c0 ms t = [])) (M := fun σ' H' => Ex H H' ∧ ∃ (p : Addr) (w1 w2 : V) (T1 T2 : PyData) (x6 x7 : Option V), H' p = some (.lst [w1, w2]) ∧ Dp K H' w1 T1 ∧ Dp K H' w2 T2 ∧ DueT (cheapest c0 t ν) (St t.signs) T1 T2 ∧ σ' = [some v, some (.str (St t.signs)), some (.str (St ν)), some (.ref a), some (.ref p), none, x6, x7]) ?_ (fun hb H2 e2 D' hD => ?_) (fun hb H2 e2 D' hD => ?_) fun σ' H2 ⟨e2, p, w1, w2, T1, T2, x6, x7, hp, hd1, hd2, hDT, hσ⟩ => ?_
  · have g := ev_neNil (K := K) (ta := tVar 3) (tb := tLst tNil) (σ := [some v, some (.str (St t.signs)), some (.str (St ν)), some (.ref a), some (.ref p0), none, none, none]) (H := H1) (ds := (rightL c0 ms t).map fun w => PyData.str (St w)) (xs := (rightL c0 ms t).map stV) (ev_var rfl) (ex_l e1 hL) (by
      have := dpa_strs (K := K) (H := H1) ((rightL c0 ms t).map St)
      rw [List.map_map, List.map_map] at this
      exact this) (by
      have := shaped_strs ((rightL c0 ms t).map St) (fun x hx => by
        obtain ⟨w, hw, rfl⟩ := List.mem_map.mp hx
        have hd := right_dig ok hM hw
        unfold PyData.strOk St
        rw [List.all_toArray, List.all_eq_true]
        intro y hy
        have := hd y hy
        unfold isDig at this
        simp
        omega)
      rw [List.map_map] at this
      exact this) (el_lst ea_nil (by decide))
    refine et_test (ev_is g ?_)
    cases rightL c0 ms t <;> simp
  · -- some notes are right
    rcases hdue with ⟨_, h0⟩ | ⟨k, ds, r, hch, hne, hk, hfil⟩
    · rw [h0] at hb
      simp at hb
    · have hL2 := ex_l (e1.trans e2) hL
      have price : ∀ {σ : L2.St} {H3 : Hp} {w' : List Nat}, w' ∈ rightL c0 ms t → σ[2]? = some (some (.str (St ν))) → σ[7]? = some (some (stV w')) → Ev (tCall (sp_law_price K) [] E0 (tCons (tVar 2) (tCons (tVar 7) tNil))) σ H3 (inat (diffs ν w')) := fun hw h2 h7 => ev_callV (ea2 (ev_var h2) (ev_var h7)) rfl fun _ _ => ⟨ν, _, rfl, by omega, by rw [hrw _ hw, hν], rfl⟩
      have hgd : ∀ i, (h : i < (rightL c0 ms t).length) → ((rightL c0 ms t).map stV).getD i .non = stV (rightL c0 ms t)[i] := fun i h => by simp [List.getD, h]
      refine q_asg (ev_minN (ns := (rightL c0 ms t).map (diffs ν)) ?_ hk) fun H3 e3 => ?_
      · have g := el_lc (vs := [7]) (j := 7) (t := tYes) (te := tCall (sp_law_price K) [] E0 (tCons (tVar 2) (tCons (tVar 7) tNil))) (σ := [some v, some (.str (St t.signs)), some (.str (St ν)), some (.ref a), some (.ref p0), none, none, none]) (H := H2) (fun _ => true) (fun i => inat (diffs ν ((rightL c0 ms t).getD i []))) (f := fun i => ((rightL c0 ms t).map stV).getD i .non)
          (ei_list (K := K) (te := tVar 3) (ev_var rfl) hL2).j (by simp; omega) (fun i H1 x H2 hi y => yat_get hi y) (fun _ => rfl) (fun _ _ _ _ => et_yes) fun i H5 e5 hi _ => by
            have hi' : i < (rightL c0 ms t).length := by simpa using hi
            rw [hgd i hi', show (rightL c0 ms t).getD i [] = (rightL c0 ms t)[i] by simp [List.getD, hi']]
            exact price (List.getElem_mem hi') rfl rfl
        rw [List.length_map, given_list (rightL c0 ms t) (fun _ => true) (fun w => inat (diffs ν w)) _ _ (fun _ _ => rfl) (fun i hi => by simp [List.getD, hi]), List.filter_eq_self.mpr (fun _ _ => rfl)] at g
        rw [List.map_map]
        exact g
      have hfirst : Ev (tOp (rIxL K) (tLc (iList K (tVar 3)) (gName 7) (tTest (tOp rEq (tCall (sp_law_price K) [] E0 (tCons (tVar 2) (tCons (tVar 7) tNil))) (tVar 6))) (tVar 7) [7]) (tC (.int 0))) [some v, some (.str (St t.signs)), some (.str (St ν)), some (.ref a), some (.ref p0), none, some (inat k), none] H3 (stV ds) := by
        refine ev_opL1 (xs := ((rightL c0 ms t).filter fun w => decide (diffs ν w = k)).map stV) ?_ (fun _ _ => ev_c (v := .int 0)) fun p' H7 hp' e7 => rv_ixLn (j := 0) (sq_of hp') (by rw [hfil]; rfl)
        have g := el_lc (vs := [7]) (j := 7) (t := tTest (tOp rEq (tCall (sp_law_price K) [] E0 (tCons (tVar 2) (tCons (tVar 7) tNil))) (tVar 6))) (te := tVar 7) (σ := [some v, some (.str (St t.signs)), some (.str (St ν)), some (.ref a), some (.ref p0), none, some (inat k), none]) (H := H3) (fun i => decide (diffs ν ((rightL c0 ms t).getD i []) = k)) (fun i => ((rightL c0 ms t).map stV).getD i .non) (f := fun i => ((rightL c0 ms t).map stV).getD i .non)
          (ei_list (K := K) (te := tVar 3) (ev_var rfl) (ex_l e3 hL2)).j (by simp; omega) (fun i H1 x H2 hi y => yat_get hi y) (fun _ => rfl) (fun i H6 e6 hi => by
            have hi' : i < (rightL c0 ms t).length := by simpa using hi
            rw [hgd i hi', show (rightL c0 ms t).getD i [] = (rightL c0 ms t)[i] by simp [List.getD, hi']]
            refine et_is (et_test (ev_op (price (List.getElem_mem hi') rfl rfl) (ev_var rfl) (rv_eq rfl))) ?_
            congr 1
            apply propext
            constructor
            · intro h
              have := V.int.inj h
              omega
            · intro h
              rw [h]) fun i H6 e6 hi _ => ev_var rfl
        rw [List.length_map, given_list (rightL c0 ms t) (fun w => decide (diffs ν w = k)) stV _ _ (fun i hi => by simp [List.getD, hi]) (fun i hi => hgd i hi)] at g
        exact g
      refine s_lst2Z (Z1 := fun v H' => Dp K H' v (.tuple [.str "told", .int (k : Nat)])) (Z2 := fun v H' => Dp K H' v (.tuple [.str "told", .str (St ds)])) (ez_pair ev_c (ev_var rfl) (fun _ => .str _) (fun _ => .int _)) (ez_pair ev_c hfirst (fun _ => .str _) (fun _ => .str _)) (fun _ _ _ e h => dp_ex e h) (fun _ _ _ e h => dp_ex e h) fun p w1 w2 H4 e4 z1 z2 hp => hD _ _ ⟨((e1.trans e2).trans e3).trans e4, p, w1, w2, _, _, _, _, hp, z1, z2, ?_, rfl⟩
      rw [hch]
      exact ⟨rfl, rfl⟩
  · have h0 : rightL c0 ms t = [] := by simpa using hb
    rcases hdue with ⟨hch, _⟩ | ⟨k, ds, r, hch, hne, _⟩
    · exact hD _ _ ⟨e1.trans e2, p0, w1, w2, _, _, none, none, e2 p0 _ hp0, dp_ex e2 z1, dp_ex e2 z2, by rw [hch]; exact ⟨rfl, rfl⟩, rfl⟩
    · exact absurd h0 hne
  · subst hσ
    have hcB2 : ChkV K (noT H2) v c0 := chk_noT (hc.mono e2)
    have hB2 := noT_no H2
    have hT2 := tabs_ex hTb e2
    have HA : ∀ σ : L2.St, σ[0]? = some (some v) → σ[1]? = some (some (.str (St t.signs))) → σ[2]? = some (some (.str (St ν))) → Hear K C (noT H2) (fun E H' Q' => tCall (sp_fewest_changes K) [] E0 (tCons (tVar 0) (tCons (tVar 1) (tCons (tVar 2) tNil))) σ H' Q') T1 := by
      intro σ s0 s1 s2
      cases hch : cheapest c0 t ν with
      | none =>
        rw [hch] at hDT
        rw [hDT.1]
        exact hear_v (z := .non) (t := fun _ => tCall (sp_fewest_changes K) [] E0 (tCons (tVar 0) (tCons (tVar 1) (tCons (tVar 2) tNil)))) (fun _ => ev_callV (ea3 (ev_var s0) (ev_var s1) (ev_var s2)) rfl fun H1 e => ⟨v, c0, t, ν, rfl, hcB2.mono e, ok, ht, by omega, hν, hoν, by rw [hch]⟩) (fun _ => .non)
      | some kd =>
        obtain ⟨k, ds⟩ := kd
        rw [hch] at hDT
        rw [hDT.1]
        exact hear_v (z := inat k) (t := fun _ => tCall (sp_fewest_changes K) [] E0 (tCons (tVar 0) (tCons (tVar 1) (tCons (tVar 2) tNil)))) (fun _ => ev_callV (ea3 (ev_var s0) (ev_var s1) (ev_var s2)) rfl fun H1 e => ⟨v, c0, t, ν, rfl, hcB2.mono e, ok, ht, by omega, hν, hoν, by rw [hch]⟩) (fun _ => .int _)
    have HC : ∀ σ : L2.St, σ[0]? = some (some v) → σ[1]? = some (some (.str (St t.signs))) → σ[2]? = some (some (.str (St ν))) → Hear K C (noT H2) (fun E H' Q' => tCallK (sp_fewest_changes K) gV3 E0 tNil (tCons (tVar 2) (tCons (tVar 1) (tCons (tVar 0) tNil))) σ H' Q') T1 := by
      intro σ s0 s1 s2
      have key : ∀ z, z = (match cheapest c0 t ν with | none => V.non | some (k, _) => inat k) → Ev (tCallK (sp_fewest_changes K) gV3 E0 tNil (tCons (tVar 2) (tCons (tVar 1) (tCons (tVar 0) tNil)))) σ (noT H2) z := fun z hzz H1 e Q q =>
        callK_of (ea3 (ev_var s2) (ev_var s1) (ev_var s0)) e fun H3 e3 => ⟨rfl, z, ⟨v, c0, t, ν, rfl, hcB2.mono (e.trans e3), ok, ht, by omega, hν, hoν, hzz⟩, fun H4 e4 => q H4 (e3.trans e4)⟩
      cases hch : cheapest c0 t ν with
      | none =>
        rw [hch] at hDT
        rw [hDT.1]
        exact hear_v (z := .non) (t := fun _ => tCallK (sp_fewest_changes K) gV3 E0 tNil (tCons (tVar 2) (tCons (tVar 1) (tCons (tVar 0) tNil)))) (fun _ => key _ (by rw [hch])) (fun _ => .non)
      | some kd =>
        obtain ⟨k, ds⟩ := kd
        rw [hch] at hDT
        rw [hDT.1]
        exact hear_v (z := inat k) (t := fun _ => tCallK (sp_fewest_changes K) gV3 E0 tNil (tCons (tVar 2) (tCons (tVar 1) (tCons (tVar 0) tNil)))) (fun _ => key _ (by rw [hch])) (fun _ => .int _)
    have lck : ∀ (tl : XK → TE) (σ : L2.St), (∀ E H1 Q, Ex (noT H2) H1 → (∀ H3, Ex H1 H3 → spLc K C [v, .str (St t.signs), .str (St ν)] H3 Q E) → tl E σ H1 Q) → Hear K C (noT H2) (fun E H' Q' => tl E σ H' Q') T2 := by
      intro tl σ htl
      cases hch : cheapest c0 t ν with
      | none =>
        rw [hch] at hDT
        rw [hDT.2]
        exact hear_x (x := St t.signs) (t := tl) fun E H1 e Q hE => htl E H1 Q e fun H3 e3 => ⟨rfl, v, c0, t, ν, rfl, hcB2.mono (e.trans e3), ok, ht, by omega, hν, hoν, by rw [hch]; exact fun d H4 e4 hx => hE d H4 (e3.trans e4) hx⟩
      | some kd =>
        obtain ⟨k, ds⟩ := kd
        rw [hch] at hDT
        rw [hDT.2]
        exact hear_v (z := .str (St ds)) (t := tl) (fun E H1 e Q q => htl E H1 Q e fun H3 e3 => ⟨rfl, v, c0, t, ν, rfl, hcB2.mono (e.trans e3), ok, ht, by omega, hν, hoν, by rw [hch]; exact fun H4 e4 => q H4 (e3.trans e4)⟩) (fun _ => .str _)
    have HBl : ∀ σ : L2.St, σ[0]? = some (some v) → σ[1]? = some (some (.str (St t.signs))) → σ[2]? = some (some (.str (St ν))) → Hear K C (noT H2) (fun E H' Q' => tCall (spLc K C) [] E (tCons (tVar 0) (tCons (tVar 1) (tCons (tVar 2) tNil))) σ H' Q') T2 := fun σ s0 s1 s2 =>
      lck (fun E => tCall (spLc K C) [] E (tCons (tVar 0) (tCons (tVar 1) (tCons (tVar 2) tNil)))) σ fun E H1 Q e hsp => (ea3 (ev_var s0) (ev_var s1) (ev_var s2)) H1 e _ fun H3 e3 => hsp H3 e3
    have HDl : ∀ σ : L2.St, σ[0]? = some (some v) → σ[1]? = some (some (.str (St t.signs))) → σ[2]? = some (some (.str (St ν))) → Hear K C (noT H2) (fun E H' Q' => tCallK (spLc K C) hV3 E tNil (tCons (tVar 2) (tCons (tVar 0) (tCons (tVar 1) tNil))) σ H' Q') T2 := fun σ s0 s1 s2 =>
      lck (fun E => tCallK (spLc K C) hV3 E tNil (tCons (tVar 2) (tCons (tVar 0) (tCons (tVar 1) tNil)))) σ fun E H1 Q e hsp => callK_of (ea3 (ev_var s2) (ev_var s0) (ev_var s1)) e fun H3 e3 => hsp H3 e3
    have stepE : ∀ {G Hm : Hp}, Ex (noT H2) G → LamX.ExtN G Hm → Ex (noT H2) Hm := fun a b x o hx => b x o (a x o hx) fun ps z => hB2 x ps (by rw [hx, z])
    refine q_told hB2 (HA _ rfl rfl rfl) hT2 (noT_self H2) fun l v1 Hm1 x1 hl1 hTm1 hv1 => ?_
    have E1 : Ex (noT H2) Hm1 := stepE (noT_self H2) x1
    have hBl : noT H2 l = none := fresh_back E1 hl1
    have E1' : Ex (noT H2) (upd Hm1 l (.lst [v1])) := Ex.mut E1 hBl
    refine q_toldA (l := l) upd_same rfl (by simp) hB2 (HBl _ rfl rfl rfl) (tabs_ex hTm1 (Ex.new hl1)) E1' fun v2 Hm2 x2 hTm2 hv2 => ?_
    have hll2 := x2 l _ upd_same (fun ps z => by cases z)
    have E2' : Ex (noT H2) (upd Hm2 l (.lst ([v1] ++ [v2]))) := Ex.mut (stepE E1' x2) hBl
    have nl : ∀ {G : Hp} {xs : List V}, G l = some (.lst xs) → ∀ ys, G l ≠ some (.tup ys) := fun h ys e => by rw [h] at e; cases e
    have w1a : HP K (upd Hm2 l (.lst ([v1] ++ [v2]))) v1 T1 := ((hv1.updL (fun ys e => by rw [hl1] at e; cases e)).ext x2).updL (nl hll2)
    have w2a : HP K (upd Hm2 l (.lst ([v1] ++ [v2]))) v2 T2 := hv2.updL (nl hll2)
    refine q_toldA (l := l) upd_same rfl (by simp) hB2 (HC _ rfl rfl rfl) (tabs_upd hTm2 hll2) E2' fun v3 Hm3 x3 hTm3 hv3 => ?_
    have hll3 := x3 l _ upd_same (fun ps z => by cases z)
    have E3' : Ex (noT H2) (upd Hm3 l (.lst ([v1] ++ [v2] ++ [v3]))) := Ex.mut (stepE E2' x3) hBl
    refine q_toldA (l := l) upd_same rfl (by simp) hB2 (HDl _ rfl rfl rfl) (tabs_upd hTm3 hll3) E3' fun v4 Hm4 x4 hTm4 hv4 => ?_
    have hll4 := x4 l _ upd_same (fun ps z => by cases z)
    have E4' : Ex (noT H2) (upd Hm4 l (.lst ([v1] ++ [v2] ++ [v3] ++ [v4]))) := Ex.mut (stepE E3' x4) hBl
    have hT4 := tabs_upd (o := .lst ([v1] ++ [v2] ++ [v3] ++ [v4])) hTm4 hll4
    have u1 := (((w1a.ext x3).updL (o := .lst ([v1] ++ [v2] ++ [v3])) (nl hll3)).ext x4).updL (o := .lst ([v1] ++ [v2] ++ [v3] ++ [v4])) (nl hll4)
    have u2 := (((w2a.ext x3).updL (o := .lst ([v1] ++ [v2] ++ [v3])) (nl hll3)).ext x4).updL (o := .lst ([v1] ++ [v2] ++ [v3] ++ [v4])) (nl hll4)
    have u3 := ((hv3.updL (o := .lst ([v1] ++ [v2] ++ [v3])) (nl hll3)).ext x4).updL (o := .lst ([v1] ++ [v2] ++ [v3] ++ [v4])) (nl hll4)
    have u4 := hv4.updL (o := .lst ([v1] ++ [v2] ++ [v3] ++ [v4])) (nl hll4)
    have hpB : noT H2 p = some (.lst [w1, w2]) := noT_some hp (fun ps z => by cases z)
    generalize hG : upd Hm4 l (.lst ([v1] ++ [v2] ++ [v3] ++ [v4])) = G4 at E4' hT4 u1 u2 u3 u4 ⊢
    have hlG : G4 l = some (.lst [v1, v2, v3, v4]) := by rw [← hG]; exact upd_same
    have hpG := E4' p _ hpB
    have hsame : Ev (tCall (sp_law_same K) [] E0 (tCons (tVar 5) (tCons (tOp rCat (tVar 4) (tVar 4)) tNil))) [some v, some (.str (St t.signs)), some (.str (St ν)), some (.ref a), some (.ref p), some (.ref l), x6, x7] G4 (.bl true) := by
      intro G5 e5 Q5 q5
      have hcat := el_catV (ta := tVar 4) (tb := tVar 4) (σ := [some v, some (.str (St t.signs)), some (.str (St ν)), some (.ref a), some (.ref p), some (.ref l), x6, x7]) (H := G4) (ev_var rfl) hpG (ev_var rfl) hpG (by simp)
      have hv5 : Ev (tVar 5) [some v, some (.str (St t.signs)), some (.str (St ν)), some (.ref a), some (.ref p), some (.ref l), x6, x7] G4 (.ref l) := ev_var rfl
      unfold tCall tCons
      refine hv5 G5 e5 _ fun G6 e6 => ?_
      refine hcat G6 (e5.trans e6) _ fun p7 G7 _ e7 h7 => ?_
      have e57 := (e5.trans e6).trans e7
      refine ⟨rfl, .bl true, ⟨l, p7, .list [T1, T2, T1, T2], rfl, .lst (sq_of (e57 l _ hlG)) (.cons (dp_ex e57 u1.dp) (.cons (dp_ex e57 u2.dp) (.cons (dp_ex e57 u3.dp) (.cons (dp_ex e57 u4.dp) .nil)))), .lst (sq_of h7) ?_, ?_, rfl⟩, fun G8 e8 => q5 G8 ((e6.trans e7).trans e8)⟩
      · have d1 := dp_ex (E4'.trans e57) (dp_noT hd1)
        have d2 := dp_ex (E4'.trans e57) (dp_noT hd2)
        exact .cons d1 (.cons d2 (.cons d1 (.cons d2 .nil)))
      · refine shw_due ht hz (fun k ds hkd => ?_) hDT
        rcases hdue with ⟨hch, _⟩ | ⟨k', ds', r, hch, hne, hk, hfil⟩
        · rw [hch] at hkd; cases hkd
        · rw [hch] at hkd
          cases hkd
          have hin : ds ∈ (rightL c0 ms t).filter (fun w => decide (diffs ν w = k)) := by rw [hfil]; exact List.mem_cons_self
          obtain ⟨h1, h2⟩ := List.mem_filter.mp hin
          have h3 := of_decide_eq_true h2
          refine ⟨?_, by rw [hrw _ h1]; exact hz, right_dig ok hM h1⟩
          have : diffs ν ds ≤ ν.length := by
            unfold diffs
            have := List.length_filter_le (fun i => !decide (ν.getD i 0 = 63) && !decide (ν.getD i 0 = ds.getD i 0)) (List.range ν.length)
            rw [List.length_range] at this
            exact this
          omega
    refine s_ret hsame fun G5 e5 => q G5 (fun b o hb hno => e5 b o (E4' b o (noT_some (e2 b o hb) hno))) (tabs_ex hT4 e5)
end
end K64

set_option Elab.async false
set_option linter.all false
set_option maxRecDepth 100000
set_option maxHeartbeats 4000000
/-! W22c: a checker as a datum, its repr; words with a draw; the call of _law_is_right. -/
namespace K64
open PySem PySem.Spec PyProof.Rows L2 Evl
/-- a checker as a datum -/
def chD (c : Ck) : PyData := .tuple [.int c.many, .tuple (c.tops.map fun m => .str (mkT m)), .tuple (c.leaves.map fun m => .str (mkT m)), .tuple (c.rows.map fun q => .str (rowT q))]
theorem dpa_map {K : Fg} {H : Hp} {α : Type} (f : α → Str) : ∀ l : List α, DpAll K H (l.map fun x => V.str (f x)) (l.map fun x => PyData.str (f x))
  | [] => .nil
  | x :: r => .cons (.str _) (dpa_map f r)
theorem chk_dp {K : Fg} {H : Hp} {v : V} {c : Ck} (h : ChkV K H v c) : Dp K H v (chD c) := by
  obtain ⟨p, a, b, r, rfl, h1, h2, h3, h4⟩ := h
  exact .tup h1 (.cons (.int _) (.cons (.tup h2 (dpa_map mkT _)) (.cons (.tup h3 (dpa_map mkT _)) (.cons (.tup h4 (dpa_map rowT _)) .nil))))
theorem sh_map {α : Type} (f : α → Str) : ∀ l : List α, PyData.showableAll (l.map fun x => PyData.str (f x)) = true
  | [] => rfl
  | x :: r => by
    show (PyData.showable (.str (f x)) && PyData.showableAll (r.map fun x => PyData.str (f x))) = true
    rw [sh_map f r]
    rfl
theorem nd_map {α : Type} (f : α → Str) : ∀ l : List α, PyData.hasDictAll (l.map fun x => PyData.str (f x)) = false
  | [] => rfl
  | x :: r => by
    show (PyData.hasDict (.str (f x)) || PyData.hasDictAll (r.map fun x => PyData.str (f x))) = false
    rw [nd_map f r]
    rfl
theorem tx_map {α : Type} (f : α → Str) : ∀ l : List α, (∀ x ∈ l, PyData.layable0 (.str (f x)) = true) → txtOkAll (l.map fun x => PyData.str (f x)) = true
  | [], _ => rfl
  | x :: r, h => by
    show (txtOk (.str (f x)) && txtOkAll (r.map fun x => PyData.str (f x))) = true
    rw [tx_map f r fun y hy => h y (List.mem_cons_of_mem _ hy)]
    have h1 : txtOk (.str (f x)) = true := h x List.mem_cons_self
    rw [h1]
    rfl
theorem bd_map {α : Type} (f : α → Str) : ∀ l : List α, (∀ x ∈ l, (f x).length ≤ 6) → bndAll (l.map fun x => PyData.str (f x)) ≤ 72 * l.length
  | [], _ => Nat.zero_le _
  | x :: r, h => by
    show bnd (.str (f x)) + 2 + bndAll (r.map fun x => PyData.str (f x)) ≤ _
    have h1 := bd_map f r fun y hy => h y (List.mem_cons_of_mem _ hy)
    have h2 := h x List.mem_cons_self
    have h3 : bnd (.str (f x)) = 10 * (f x).length + 10 := rfl
    rw [List.length_cons]
    omega
theorem row_len (r : List Mk) : (rowT r).length = 2 * r.length := by
  unfold rowT
  rw [st_len, flat2_len]
theorem mk_lay {m : Mk} (h : okM m) : PyData.layable0 (.str (mkT m)) = true := txt_ok (fun x hx => by
  unfold okM isLet isDig at h
  simp at hx
  rcases hx with rfl | rfl <;> omega) (by simp)
theorem row_lay {r : List Mk} (h : ∀ m ∈ r, okM m) (hl : r.length ≤ 3) : PyData.layable0 (.str (rowT r)) = true := txt_ok (fun x hx => by
  obtain ⟨m, hm, hx⟩ := List.mem_flatMap.mp hx
  have := h m hm
  unfold okM isLet isDig at this
  simp at hx
  rcases hx with rfl | rfl <;> omega) (by rw [flat2_len]; omega)
theorem shw_kept {c : Ck} {t : Tr} (ok : c.Ok) (ht : t.Ok c.many) (hz : t.size ≤ 6) : Shw (.list [chD c, .str (St t.signs)]) := by
  have hm := ok.many
  have hrl : ∀ r ∈ c.rows, r.length ≤ 3 := fun r hr => by
    have := (ok.rows r hr).1
    omega
  have lw : (St t.signs).length = t.size := by rw [st_len, Tr.signs_len]
  have hw : PyData.layable0 (.str (St t.signs)) = true := txt_ok (fun x hx => by
    obtain ⟨i, hi⟩ := List.getElem?_of_mem hx
    rcases sign_let ht hi with h | h
    · unfold isLet at h; omega
    · omega) (by rw [Tr.signs_len]; omega)
  have kt : ∀ m ∈ c.tops, PyData.layable0 (.str (mkT m)) = true := fun m hm => mk_lay (ok.tops m hm)
  have kl : ∀ m ∈ c.leaves, PyData.layable0 (.str (mkT m)) = true := fun m hm => mk_lay (ok.leaves m hm)
  have kr : ∀ r ∈ c.rows, PyData.layable0 (.str (rowT r)) = true := fun r hr => row_lay (ok.rows r hr).2 (hrl r hr)
  have ks : PyData.showable (.int (c.many : Nat)) = true ∧ (PyData.shown (.int (c.many : Nat))).length ≤ 10 := by
    rcases hm with h | h <;> rw [h] <;> exact ⟨by decide +kernel, by decide +kernel⟩
  have s1 := sh_map mkT c.tops
  have s2 := sh_map mkT c.leaves
  have s3 := sh_map rowT c.rows
  have d1 := nd_map mkT c.tops
  have d2 := nd_map mkT c.leaves
  have d3 := nd_map rowT c.rows
  have p1 : PyData.depthAll (c.tops.map fun m => PyData.str (mkT m)) = 0 := dep_flat (fun m => PyData.str (mkT m)) (fun _ => rfl) _
  have p2 : PyData.depthAll (c.leaves.map fun m => PyData.str (mkT m)) = 0 := dep_flat (fun m => PyData.str (mkT m)) (fun _ => rfl) _
  have p3 : PyData.depthAll (c.rows.map fun q => PyData.str (rowT q)) = 0 := dep_flat (fun q => PyData.str (rowT q)) (fun _ => rfl) _
  have b1 := bd_map mkT c.tops fun m _ => by rw [mkT_len]; omega
  have b2 := bd_map mkT c.leaves fun m _ => by rw [mkT_len]; omega
  have b3 := bd_map rowT c.rows fun r hr => by rw [row_len]; have := hrl r hr; omega
  have t1 := tx_map mkT c.tops kt
  have t2 := tx_map mkT c.leaves kl
  have t3 := tx_map rowT c.rows kr
  have hz6 := sizeLine_eq
  refine ⟨?_, ?_, ?_, Nat.le_trans (shown_up _ ?_) ?_⟩
  · have := ks.1
    simp only [PyData.showable] at this
    simp only [chD, PyData.showable, PyData.showableAll, s1, s2, s3, this, Bool.and_true, Bool.true_and]
  · simp only [chD, PyData.hasDict, PyData.hasDictAll, d1, d2, d3, Bool.or_false, Bool.false_or]
  · simp only [chD, PyData.depth, PyData.depthAll, p1, p2, p3]
    omega
  · simp only [chD, txtOk, txtOkAll, t1, t2, t3, hw, Bool.and_true, Bool.true_and]
  · have e1 : bnd (.int (c.many : Nat)) = (PyData.shown (.int (c.many : Nat))).length := rfl
    have := ks.2
    have := ok.topsL
    have := ok.leavesL
    have := ok.rowsL
    simp only [chD, bnd, bndAll, lw]
    omega
theorem exN {B H H' : Hp} (e : Ex B H) (hB : ∀ a ps, B a ≠ some (.tbl ps)) (x : LamX.ExtN H H') : Ex B H' := (noT_of_ex e hB).trans (noT_ex x)
section
variable {K : Fg} {σ : L2.St} {H H' B : Hp} {ta tb te t1 t2 t3 t4 : TE} {x y z v x1 x2 x3 x4 : V} {D : Ends} {tz tu : TS} {d cl : Addr} {E : XK}
theorem eax4 {W : V → Prop} (h1 : Ev t1 σ B x1) (h2 : Ev t2 σ B x2) (h3 : Ev t3 σ B x3) (h4 : EvX d cl t4 σ B (fun v _ => W v)) : EvAX d cl (tCons t1 (tCons t2 (tCons t3 (tCons t4 tNil)))) σ B (fun vs => ∃ y, vs = [x1, x2, x3, y] ∧ W y) := fun H1 e f Q q =>
  h1 H1 e _ fun H2 e2 => h2 H2 (e.trans e2) _ fun H3 e3 => h3 H3 ((e.trans e2).trans e3) _ fun H4 e4 => h4 H4 (((e.trans e2).trans e3).trans e4) (f.mono ((e2.trans e3).trans e4)) _ fun y H5 e5 f5 w => q _ H5 (del_trans ((e2.trans e3).trans e4) e5) f5 ⟨y, rfl, w⟩
theorem ex_addI {a n : Int} (ha : Ev ta σ B (.int a)) (hb : EvX d cl tb σ B (fun v _ => ∃ k : Int, v = .int k ∧ 0 ≤ k ∧ k < n)) : EvX d cl (tOp (rI0 fun i j => .int (i + j)) ta tb) σ B (fun v _ => ∃ k : Int, v = .int k ∧ a ≤ k ∧ k < a + n) := fun H1 e f Q q =>
  ha H1 e _ fun H2 e2 => hb H2 (e.trans e2) (f.mono e2) _ fun v H3 e3 f3 ⟨k, hv, h0, h1⟩ => ⟨a, k, rfl, hv, q _ H3 (del_trans e2 e3) f3 ⟨a + k, rfl, by omega, by omega⟩⟩
theorem q_parZ {i j : Nat} {Z : V → Hp → Prop} (h1 : EvZ t1 σ H Z) (h2 : Ev t2 σ H y) (s1 : ∀ v H H', Ex H H' → Z v H → Z v H') (k : ∀ v H1, Ex H H1 → Z v H1 → tz D ((σ.set i (some v)).set j (some y)) H1) : tSeq (tPar i j (tCons t1 (tCons t2 tNil))) tz D σ H :=
  h1 H (Ex.refl H) _ fun v H1 e1 z => h2 H1 e1 _ fun H2 e2 => ⟨v, y, rfl, k v H2 (e1.trans e2) (s1 _ _ _ e2 z)⟩
theorem ev_reprL {xs : List V} {ds : List PyData} {tl : TE} (h : EvL tl σ B xs) (hd : ∀ H, Ex B H → DpAll K H xs ds) (hs : Shw (.list ds)) : Ev (tCB (rReprD K) (tCons tl tNil)) σ B (.str (PyData.list ds).shown) := fun H1 e Q q =>
  h H1 e _ fun p H2 _ e2 hp => ⟨p, .list ds, rfl, .lst (sq_of hp) (hd H2 (e.trans e2)), hs.sh, hs.nd, hs.dp, hs.sz, q H2 e2⟩
/-- a new list of two drawn and two plain -/
theorem q_lst4X {W1 W2 : V → Prop} {i : Nat} (hB : B d = none) (h1 : EvX d cl t1 σ B (fun v _ => W1 v)) (h2 : EvX d cl t2 σ B (fun v _ => W2 v)) (h3 : Ev t3 σ B x3) (h4 : Ev t4 σ B x4) (e : Ex B H) (f : Feed H d cl)
    (k : ∀ p v1 v2 H1, B p = none → p ≠ d → p ≠ cl → Ex (L2.del H d) H1 → Feed H1 d cl → W1 v1 → W2 v2 → H1 p = some (.lst [v1, v2, x3, x4]) → tz D (σ.set i (some (.ref p))) H1) : tSeq (tAsg (tLst (tCons t1 (tCons t2 (tCons t3 (tCons t4 tNil))))) (gName i)) tz D σ H :=
  h1 H e f _ fun v1 H1 e1 f1 w1 => h2 H1 (ex_step hB e e1) f1 _ fun v2 H2 e2 f2 w2 => h3 H2 (ex_step hB (ex_step hB e e1) e2) _ fun H3 e3 => h4 H3 ((ex_step hB (ex_step hB e e1) e2).trans e3) _ fun H4 e4 =>
    ⟨by show 4 ≤ sizeLine; decide, fun p hp => by
      have f4 := f2.mono (e3.trans e4)
      obtain ⟨g1, g2⟩ := feed_some f4
      exact k p v1 v2 _ (fresh_back ((ex_step hB (ex_step hB e e1) e2).trans (e3.trans e4)) hp) (fun z => g1 (by rw [← z]; exact hp)) (fun z => g2 (by rw [← z]; exact hp)) ((ex_dtrans (B := H) e1 e2).trans ((e3.trans e4).trans (Ex.new hp))) (f4.mono (Ex.new hp)) w1 w2 upd_same⟩
theorem s_appX {W : V → Prop} {l : Addr} {xs : List V} {i : Nat} (hl : H l = some (.lst xs)) (hld : l ≠ d) (hi : σ[i]? = some (some (.ref l))) (h : EvX d cl te σ B (fun v _ => W v)) (e : Ex B H) (f : Feed H d cl) (hz : xs.length ≤ 100) (k : ∀ v H1, Ex (L2.del H d) H1 → Feed H1 d cl → W v → H1 l = some (.lst xs) → D.nx σ (upd H1 l (.lst (xs ++ [v])))) : tDrop (tBM K "list" rAppend (tVar i) (tCons te tNil)) D σ H :=
  ⟨.ref l, hi, Or.inl ⟨rfl, xs, sq_of hl⟩, h H e f _ fun v H2 e2 f2 w => ⟨l, xs, v, rfl, rfl, e2 l _ (by rw [del_ne hld]; exact hl), sz_lt (by omega), k v H2 e2 f2 w (e2 l _ (by rw [del_ne hld]; exact hl))⟩⟩
/-- if not f(..): return False -/
theorem s_isr {P' : Addr} {sp : Sp} {ta : TA} {vs : List V} (ha : EvA ta σ B vs) (e : Ex B H) (hsp : ∀ H1, Ex H H1 → ∀ Q : VK, (∀ H2, LamX.ExtN H1 H2 → LamX.Tabs (isrT P') H2 → Q (.bl true) H2) → sp vs H1 Q E) (k : ∀ H2, LamX.ExtN H H2 → LamX.Tabs (isrT P') H2 → D.nx σ H2) : tIfS (tNot (tB (tCall sp [] E ta))) tu tNext D σ H :=
  ha H e _ fun H1 e1 => by
    show sp (vs ++ []) H1 _ _
    rw [List.append_nil]
    exact hsp H1 e1 _ fun H2 x hT => ⟨true, rfl, k H2 ((ext_of_ex e1).trans x) hT⟩
end
end K64

set_option Elab.async false
set_option linter.all false
set_option maxRecDepth 100000
set_option maxHeartbeats 4000000
/-! W23: law. -/
namespace K64
open PySem PySem.Spec PyProof.Rows L2 Evl
abbrev N_law : List Str := ["_law_script", "_law_feed_here", "_law_lap", "_law_table", "_law_letters", "_law_wood", "_law_tries", "_law_laid_here", "_law_some", "_law_kept"]
theorem sc_law : FnScope N_law ["_law_script"] (defScope s_law) := ⟨rfl, rfl, rfl, by decide +kernel, rfl, by decide +kernel, by decide +kernel⟩
/-- law: of the empty table on -/
def sp_law (K : Fg) (P' : Addr) : Sp := fun vs H Q _ => vs.length = 1 ∧ ∃ (a : Addr) (ns : List Int), vs = [.ref a] ∧ SqL K H a (ns.map V.int) ∧ ns.length ≤ 63 ∧ H P' = some (.tbl #[]) ∧ ∀ H2, Q (.bl true) H2
theorem tabs0 {P' : Addr} {H : Hp} (h : H P' = some (.tbl #[])) : LamX.Tabs (isrT P') H := fun p hp => by
  have hp' := List.mem_singleton.mp hp
  subst hp'
  exact ⟨#[], h, by first | trivial | exact True.intro | simp [TriplesOk], fun pos cv hc => by simp [codeAmong] at hc⟩
theorem feed_ext {H H' : Hp} {d cl : Addr} (f : Feed H d cl) (e : LamX.ExtN H H') : Feed H' d cl := by
  obtain ⟨kvs, ns, b, l, t, F⟩ := f
  exact ⟨kvs, ns, b, l, t, e d _ F.hd (fun ps z => by cases z), F.len, F.kc, F.kb, F.kl, F.kt, e cl _ F.hc (fun ps z => by cases z), F.nz⟩
/-- all but the feed and the tables stays; the tables stay tables -/
theorem tabs_del {T : List (Addr × Str)} {H H' : Hp} {d : Addr} (h : LamX.Tabs T H) (hd : ∃ kvs, H d = some (.dK kvs)) (e : Ex (L2.del H d) H') : LamX.Tabs T H' := fun p hp => by
  obtain ⟨kvs, hk⟩ := hd
  obtain ⟨ps, h1, h2, h3⟩ := h p hp
  have n1 : p.1 ≠ d := fun z => by rw [z, hk] at h1; cases h1
  refine ⟨ps, e _ _ (by rw [del_ne n1]; exact h1), h2, fun pos cv hc => ?_⟩
  obtain ⟨c, h4, h5⟩ := h3 pos cv hc
  have n2 : c ≠ d := fun z => by rw [z, hk] at h5; cases h5
  exact ⟨c, h4, e _ _ (by rw [del_ne n2]; exact h5)⟩
theorem q_feed {K : Fg} {σ : L2.St} {H : Hp} {t0 : TE} {D : Ends} {tz : TS} {i : Nat} {a : Addr} {ns : List Int} {E : XK} (h : Ev t0 σ H (.ref a)) (ha : SqL K H a (ns.map V.int)) (hn : ns.length ≤ 63) (k : ∀ d cl H2, Ex H H2 → H d = none → Feed H2 d cl → tz D (σ.set i (some (.ref d))) H2) : tSeq (tAsg (tCall (sp_law_feed K) [] E (tCons t0 tNil)) (gName i)) tz D σ H :=
  h H (Ex.refl H) _ fun H1 e1 => ⟨rfl, a, ns, rfl, ex_l e1 ha, hn, fun d cl H2 hd _ _ e2 f => k d cl H2 (e1.trans e2) (fresh_back e1 hd) f⟩
theorem ex_addZ {σ : L2.St} {B : Hp} {ta tb : TE} {d cl : Addr} {W1 W2 : List Nat → Prop} (ha : EvZ ta σ B (fun v _ => ∃ l, v = .str (St l) ∧ W1 l)) (hb : EvX d cl tb σ B (fun v _ => ∃ m, v = .str (St m) ∧ W2 m)) (hz : ∀ l m, W1 l → W2 m → l.length + m.length ≤ 100000) : EvX d cl (tOp rAddS ta tb) σ B (fun v _ => ∃ l m, v = .str (St (l ++ m)) ∧ W1 l ∧ W2 m) := fun H1 e f Q q =>
  ha H1 e _ fun v1 H2 e2 ⟨l, hv1, w1⟩ => hb H2 (e.trans e2) (f.mono e2) _ fun v2 H3 e3 f3 ⟨m, hv2, w2⟩ => ⟨St l, St m, hv1, hv2, by rw [st_len, st_len]; exact sz_of (hz l m w1 w2), by rw [st_app]; exact q _ H3 (del_trans e2 e3) f3 ⟨l, m, rfl, w1, w2⟩⟩
section
variable {P : Program} {w : World} {K : Fg} {mg : Str → Option Value} {base : Heap}
theorem law_fn (G : Fs P K mg) {f fR c P' : Addr} {fd fdR : FuncData} (FD : FunD K "law" "law" (defArgs s_law) (defBody s_law) (defScope s_law) [] [] f fd) (FR : FunD K "_law_is_right" "_law_is_right" (defArgs s_law_is_right) (defBody s_law_is_right) (defScope s_law_is_right) [] [] fR fdR) (hmR : mg "_law_is_right" = some (.ref fR)) (hfc : fdR.code = .ref c) (TB : LamX.TabB base mg c P') : FnOkG P w K mg base CX0 12 f fd ["_law_script"] (sp_law K P') := by
  have okR := isr_fn (w := w) (P := P) G FR hfc TB
  have bR : Binds K fdR ["_law_table", "_law_wood", "_law_laid_here", "_law_some"] [] := FunD.bindsN FR fun _ _ _ _ _ _ us hl => match us, hl with | [_, _, _, _], _ => rfl
  refine Fun.okG (fun_of FD) sc_law (fun vs H Q E h => h.1) fun cdv A outer s H vs Q E hgd0 hr h _ => ?_
  have nd := sc_law.nd
  have hgd : ((cxOf CX0 P w K mg base N_law "law" (defScope s_law) f cdv A outer s H E).nox).A.guards = some [] := hgd0
  refine ⟨_, (pss_cons (ps_set (i := 1) nd rfl (Or.inl rfl) (pe_ok (ok_law_feed G) hr (by decide) rfl (pa_cons (pv 0) pa_nil)))
  (pss_cons (ps_for PassesOwn.never rfl (pi_range1 rfl G.f_range (pa_cons pe_int pa_nil)) (pg_name (i := 2) nd rfl (Or.inl rfl))
  (pss_cons (ps_set (i := 3) nd rfl (Or.inl rfl) (pe_ok (ok_law_checker G) hr (by decide) rfl (pa_cons (pv 1) pa_nil)))
  (pss_cons (ps_set (i := 4) nd rfl (Or.inl rfl) (pe_op op_add_str (pe_ok (ok_law_labels G) hr (by decide) rfl (pa_cons (pv 3) pa_nil)) (pe_ifExp (pt_cmpR op_eq (pe_ok (ok_law_draw G) hr (by decide) rfl (pa_cons (pv 1) (pa_cons pe_int pa_nil))) pe_int (nomark _)) pe_str pe_str)))
  (pss_cons (ps_set (i := 5) nd rfl (Or.inl rfl) (pe_ok (ok_law_grown G) hr (by decide) rfl (pa_cons (pv 1) (pa_cons (pe_ix ix_tup (pv 3) pe_int (fun _ _ => rfl)) (pa_cons (pv 4) (pa_cons (pe_op op_add pe_int (pe_ok (ok_law_draw G) hr (by decide) rfl (pa_cons (pv 1) (pa_cons pe_int pa_nil)))) pa_nil))))))
  (pss_cons (ps_par (i := 8) (j := 9) rfl nd rfl rfl (by decide) rfl rfl (pa_cons (pe_ok (ok_law_right G) hr (by decide) rfl (pa_cons (pv 3) (pa_cons (pv 5) pa_nil))) (pa_cons (pe_callB (cr_reprD hgd (hu64 hr)) rfl G.f_repr boot_repr (pa_cons (pe_lst (pa_cons (pv 3) (pa_cons (pv 5) pa_nil))) pa_nil)) pa_nil)) (by rfl))
  (pss_cons (ps_set (i := 6) nd rfl (Or.inl rfl) (pe_lst (pa_cons (pe_ok (ok_law_laid G) hr (by decide) rfl (pa_cons (pv 1) (pa_cons (pv 3) (pa_cons (pv 5) pa_nil)))) (pa_cons (pe_ok (ok_law_laid G) hr (by decide) rfl (pa_cons (pv 1) (pa_cons (pv 3) (pa_cons (pv 5) pa_nil)))) (pa_cons (pe_op op_mulC pe_str (pe_callB call_len_str rfl G.f_len boot_len (pa_cons (pv 5) pa_nil))) (pa_cons (pe_op op_mulC pe_str (pe_callB call_len_str rfl G.f_len boot_len (pa_cons (pv 5) pa_nil))) pa_nil))))))
  (pss_cons (ps_if (pt_cmpR (op_neD (hu64 hr)) (pv 8) (pe_lst pa_nil) (nomark _)) (pss_one (ps_expr (pe_bm F.plainAttrs_list F.slot_list_append F.type_list_append mt_append (pv 6) (pa_cons (pe_ok (ok_law_any G) hr (by decide) rfl (pa_cons (pv 1) (pa_cons (pv 8) pa_nil))) pa_nil)))) pss_nil)
  (pss_cons (ps_for PassesOwn.never rfl (pi_list (pv 6)) (pg_name (i := 7) nd rfl (Or.inl rfl))
  (pss_one (ps_if (pt_not (pt_val (pe_callG (E := E0) hgd okR hr rfl hmR FR.kp bR .nil pass0 (pa_cons (pv 3) (pa_cons (pv 5) (pa_cons (pv 7) (pa_cons (pv 8) pa_nil))))))) (pss_one (ps_ret pe_bl)) pss_nil)))
  (pss_one (ps_if (pt_cmpR op_ne (pe_callB (cr_reprD hgd (hu64 hr)) rfl G.f_repr boot_repr (pa_cons (pe_lst (pa_cons (pv 3) (pa_cons (pv 5) pa_nil))) pa_nil)) (pv 9) (nomark _)) (pss_one (ps_ret pe_bl)) pss_nil))))))))))
  (pss_one (ps_ret pe_bl)))), ?_⟩
  obtain ⟨hl, a, ns, rfl, ha, hn, hP, q⟩ := h
  refine q_feed (ev_var rfl) ha hn fun d cl H1 e1 hd0 f1 => ?_
  have hT1 := tabs0 (e1 _ _ hP)
  refine q_forI (H := fun _ => none) (ei_rng1 (n := 5) (ea1 ev_c) (by decide) (by decide)) (fun a o h => nomatch h) (fun i σ' H' => Feed H' d cl ∧ LamX.Tabs (isrT P') H' ∧ ∃ x2 x3 x4 x5 x6 x7 x8 x9, σ' = [some (.ref a), some (.ref d), x2, x3, x4, x5, x6, x7, x8, x9])
    (fun H2 e2 => ⟨f1.mono e2, tabs_ex hT1 e2, none, none, none, none, none, none, none, none, rfl⟩) (fun i σ' H2 hi p => fun a o h => nomatch h) (fun i x σ' H2 H3 hi pv y => ?_) (fun σ' H2 pv => ?_)
  · obtain ⟨f3, hT3, x2, x3, x4, x5, x6, x7, x8, x9, rfl⟩ := pv
    obtain ⟨rfl, rfl⟩ := y
    show tSeq _ _ _ [some (.ref a), some (.ref d), some (.int (i : Nat)), x3, x4, x5, x6, x7, x8, x9] H3
    -- a lap
    refine q_asgX (B := del H3 d) (ex_call (Z := fun v H2 => GoodC K H2 v) (ea1 (ev_var rfl)) rfl fun _ _ => ⟨rfl, rfl⟩) (ex_del (Ex.refl _)) f3 fun v H4 e4 f4 ⟨c0, hc4, ok, sm⟩ => ?_
    obtain ⟨n41, n42⟩ := feed_notT f4
    have hB4 : del H4 d d = none := del_same
    have hc4' := hc4.del n41 n42
    have hT4 := tabs_del hT3 (by obtain ⟨kvs, ns, b, l, tt, F⟩ := f3; exact ⟨kvs, F.hd⟩) e4
    refine q_asgX (B := del H4 d) (ex_addZ (W1 := fun ls => ls ≠ [] ∧ ls.length ≤ 64 ∧ ∀ x ∈ ls, isLet x) (W2 := fun m => m = [99] ∨ m = []) (ez_imp (ez_call (ea1 (ev_var rfl)) rfl fun H5 e5 => ⟨v, c0, rfl, hc4'.mono e5, ok, sm, rfl⟩) fun v' H' _ ⟨ls, h1, h2, h3, h4⟩ => ⟨ls, h1, h2, h3, h4⟩)
      (ex_if (W' := fun v => ∃ m, v = .str (St m) ∧ (m = [99] ∨ m = [])) hB4 (etx_eq (ex_drawI (K := K) (ev_var rfl) ev_c (by decide) (by decide))) (ex_ev ev_c fun _ _ => ⟨[99], rfl, .inl rfl⟩) (ex_ev ev_c fun _ _ => ⟨[], rfl, .inr rfl⟩)) (fun l m h1 h2 => by rcases h2 with rfl | rfl <;> simp <;> omega)) (ex_del (Ex.refl _)) f4 fun v5 H5 e5 f5 ⟨ls, mm, hv5, hls, hmm⟩ => ?_
    subst hv5
    have hmm' : ∀ x ∈ mm, x = 99 := by
      rcases hmm with rfl | rfl <;> simp
    have hml : mm.length ≤ 1 := by rcases hmm with rfl | rfl <;> simp
    obtain ⟨hl1, hl2, hl3⟩ := hls
    obtain ⟨n51, n52⟩ := feed_notT f5
    have hc5 := (hc4'.mono e5).del n51 n52
    have hT5 := tabs_del hT4 (by obtain ⟨kvs, ns, b, l, tt, F⟩ := f4; exact ⟨kvs, F.hd⟩) e5
    obtain ⟨p0, a0, b0, r0, hv0, hs0, -⟩ := id hc5
    subst hv0
    refine q_asgX (B := del H5 d) (ex_callX (Z := fun v _ => ∃ t : Tr, v = .str (St t.signs) ∧ t.Ok c0.many ∧ t.size ≤ 6) del_same (eax4 (x1 := .ref d) (x2 := .int c0.many) (x3 := .str (St (ls ++ mm))) (ev_var rfl) (ev_op (ev_var rfl) (ev_c (v := .int ((0 : Nat) : Int))) (rv_ixTn (j := 0) hs0 rfl)) (ev_var rfl) (ex_addI ev_c (ex_draw (K := K) (ev_var rfl) ev_c (by decide) (by decide))))
      fun vs H1 e ⟨y, hvs, k, hy, hk1, hk2⟩ => ⟨by rw [hvs]; rfl, c0.many, ls ++ mm, k.toNat, by rw [hvs, hy, Int.toNat_of_nonneg (by omega)], ok.many, by simp [hl1], by rw [List.length_append]; omega, fun x hx => by
        rcases List.mem_append.mp hx with h | h
        · exact hl3 x h
        · rw [hmm' x h]
          unfold isLet
          omega, by omega, by omega, rfl⟩) (ex_del (Ex.refl _)) f5 fun v6 H6 e6 f6 ⟨t, hv6, ht, hz⟩ => ?_
    subst hv6
    have hc6 := hc5.mono e6
    have hT6 := tabs_del hT5 (by obtain ⟨kvs, ns, b, l, tt, F⟩ := f5; exact ⟨kvs, F.hd⟩) e6
    have hsh := shw_kept ok ht hz
    refine q_parZ (Z := fun v H' => ∃ (p : Addr) (ms : List Mk), v = .ref p ∧ MarksOf c0 ms ∧ H' p = some (.lst ((rightL c0 ms t).map stV))) (ez_call (ea2 (ev_var rfl) (ev_var rfl)) rfl fun H1 e => ⟨_, c0, t, rfl, hc6.mono e, ok, sm, ht, hz, rfl⟩)
      (ev_reprL (ds := [chD c0, .str (St t.signs)]) (el_lst (ea2 (ev_var rfl) (ev_var rfl)) (by show 2 ≤ 100000; omega)) (fun H1 e => .cons (chk_dp (hc6.mono e)) (.cons (.str _) .nil)) hsh) (fun _ _ _ e ⟨p, ms, h1, h2, h3⟩ => ⟨p, ms, h1, h2, e p _ h3⟩) fun v7 H7 e7 ⟨pr, ms, hv7, hM, hpr⟩ => ?_
    subst hv7
    have f7 := f6.mono e7
    have hT7 := tabs_ex hT6 e7
    obtain ⟨n71, n72⟩ := feed_notT f7
    have hc7 := (hc6.mono e7).del n71 n72
    have hprd : pr ≠ d := fun z => by
      obtain ⟨kvs, ns, b, l, tt, F⟩ := f7
      rw [z, F.hd] at hpr
      cases hpr
    have hpr7 : del H7 d pr = some (.lst ((rightL c0 ms t).map stV)) := by rw [del_ne hprd]; exact hpr
    have elen : ∀ {σ : L2.St} {H : Hp}, σ[5]? = some (some (.str (St t.signs))) → Ev (tCB rLenC (tCons (tVar 5) tNil)) σ H (.int (t.size : Nat)) := fun hs => ev_is (ev_cb (ea1 (ev_var hs)) (rc_lenC (by rw [st_len, Tr.signs_len]; omega))) (by rw [st_len, Tr.signs_len])
    have exl : ∀ {σ : L2.St} {E : XK}, σ[1]? = some (some (.ref d)) → σ[3]? = some (some (.ref p0)) → σ[5]? = some (some (.str (St t.signs))) → EvX d cl (tCall (sp_law_laid K) [] E (tCons (tVar 1) (tCons (tVar 3) (tCons (tVar 5) tNil)))) σ (del H7 d) (fun v _ => ∃ ν : List Nat, v = .str (St ν) ∧ ν.length = t.size ∧ ∀ x ∈ ν, okC x) := fun h1 h3 h5 =>
      ex_call (ea3 (ev_var h1) (ev_var h3) (ev_var h5)) rfl fun H1 e => ⟨_, c0, t, rfl, hc7.mono (ex_dd e del_same), ok, sm, hz, rfl⟩
    refine q_lst4X (B := del H7 d) (x3 := .str (St (List.replicate t.size 63))) (x4 := .str (St (List.replicate t.size 57))) del_same (exl rfl rfl rfl) (exl rfl rfl rfl) (ev_op (ev_c (v := .str ⟨#[63]⟩)) (elen rfl) (rv_mulC (by omega))) (ev_op (ev_c (v := .str ⟨#[57]⟩)) (elen rfl) (rv_mulC (by omega))) (ex_del (Ex.refl _)) f7 fun p8 w1 w2 H8 hp80 hp8d hp8c e8 f8 hw1 hw2 hp8 => ?_
    have hc8 := hc7.mono e8
    have hpr8 := e8 pr _ hpr7
    have hT8 := tabs_del hT7 (by obtain ⟨kvs, ns, b, l, tt, F⟩ := f7; exact ⟨kvs, F.hd⟩) e8
    have hpp : pr ≠ p8 := fun z => by rw [← z, hpr7] at hp80; cases hp80
    have hg4 : ∀ x ∈ [w1, w2, V.str (St (List.replicate t.size 63)), V.str (St (List.replicate t.size 57))], ∃ ν : List Nat, x = .str (St ν) ∧ ν.length = t.size ∧ ∀ y ∈ ν, okC y := by
      intro x hx
      simp only [List.mem_cons, List.not_mem_nil, or_false] at hx
      rcases hx with rfl | rfl | rfl | rfl
      · exact hw1
      · exact hw2
      · exact ⟨_, rfl, List.length_replicate, fun y hy => by rw [List.eq_of_mem_replicate hy]; exact .inr rfl⟩
      · exact ⟨_, rfl, List.length_replicate, fun y hy => by rw [List.eq_of_mem_replicate hy]; exact .inl (by unfold isDig; omega)⟩
    have hrl : (rightL c0 ms t).length ≤ 4096 := by
      have h1 := words_len (hM.len sm) t t.size
      have h2 : 4 ^ t.size ≤ 4 ^ 6 := Nat.pow_le_pow_right (by omega) hz
      have h3 : (4 : Nat) ^ 6 = 4096 := by decide
      have h4 := List.length_filter_le (rightB c0 t) (wordsTo ms t t.size)
      unfold rightL
      omega
    refine q_ifMid (b := !decide (rightL c0 ms t = [])) (M := fun σ' H' => (Feed H' d cl ∧ LamX.Tabs (isrT P') H' ∧ ChkV K H' (.ref p0) c0 ∧ H' pr = some (.lst ((rightL c0 ms t).map stV)) ∧ ∃ xs, H' p8 = some (.lst xs) ∧ xs.length ≤ 5 ∧ ∀ x ∈ xs, ∃ ν : List Nat, x = .str (St ν) ∧ ν.length = t.size ∧ ∀ y ∈ ν, okC y) ∧ σ' = [some (.ref a), some (.ref d), some (.int (i : Nat)), some (.ref p0), some (.str (St (ls ++ mm))), some (.str (St t.signs)), some (.ref p8), x7, some (.ref pr), some (.str (PyData.list [chD c0, .str (St t.signs)]).shown)]) ?_ (fun hb H9 e9 D' hD => ?_) (fun hb H9 e9 D' hD => ?_) fun σ' H9 ⟨⟨f9, hT9, hc9, hpr9, xs, hp9, hxl, hxg⟩, hσ⟩ => ?_
    · have g := ev_neNil (K := K) (ta := tVar 8) (tb := tLst tNil) (σ := [some (.ref a), some (.ref d), some (.int (i : Nat)), some (.ref p0), some (.str (St (ls ++ mm))), some (.str (St t.signs)), some (.ref p8), x7, some (.ref pr), some (.str (PyData.list [chD c0, .str (St t.signs)]).shown)]) (H := H8) (ds := (rightL c0 ms t).map fun w => PyData.str (St w)) (xs := (rightL c0 ms t).map stV) (ev_var rfl) (sq_of hpr8) (by
        have := dpa_strs (K := K) (H := H8) ((rightL c0 ms t).map St)
        rw [List.map_map, List.map_map] at this
        exact this) (by
        have := shaped_strs ((rightL c0 ms t).map St) (fun x hx => by
          obtain ⟨w, hw, rfl⟩ := List.mem_map.mp hx
          have hd := right_dig ok hM hw
          unfold PyData.strOk St
          rw [List.all_toArray, List.all_eq_true]
          intro y hy
          have := hd y hy
          unfold isDig at this
          simp
          omega)
        rw [List.map_map] at this
        exact this) (el_lst ea_nil (by decide))
      have eb : (!decide ((rightL c0 ms t).map (fun w => PyData.str (St w)) = [])) = !decide (rightL c0 ms t = []) := by
        cases rightL c0 ms t <;> rfl
      exact et_is (et_test g) eb
    · have hne : rightL c0 ms t ≠ [] := fun z => by rw [z] at hb; simp at hb
      have f9 := f8.mono e9
      obtain ⟨n91, n92⟩ := feed_notT f9
      refine s_appX (W := fun z => z ∈ (rightL c0 ms t).map stV) (B := del H9 d) (H := H9) (e9 p8 _ hp8) hp8d rfl (ex_call (Z := fun z _ => z ∈ (rightL c0 ms t).map stV) (ea2 (ev_var rfl) (ev_var rfl)) rfl fun H1 e => ⟨_, _, rfl, .inl ⟨pr, rfl, .inl (sq_of ?_)⟩, by simpa using hne, by rw [List.length_map]; omega, rfl⟩) (ex_del (Ex.refl _)) f9 (by simp) fun v10 H10 e10 f10 hv10 hp10 => ?_
      · have := e pr _ (show del H9 d pr = some (.lst ((rightL c0 ms t).map stV)) by rw [del_ne hprd]; exact e9 pr _ hpr8)
        rw [del_ne hprd]
        exact this
      · have hc10 : ChkV K H10 (.ref p0) c0 := ((hc8.mono e9).del n91 n92).mono e10
        have hT10 := tabs_del (tabs_ex hT8 e9) (by obtain ⟨kvs, ns, b, l, tt, F⟩ := f9; exact ⟨kvs, F.hd⟩) e10
        have hpr10 : H10 pr = some (.lst ((rightL c0 ms t).map stV)) := e10 pr _ (by rw [del_ne hprd]; exact e9 pr _ hpr8)
        obtain ⟨u, hu, rfl⟩ := List.mem_map.mp hv10
        refine hD _ _ ⟨⟨f10.upd hp8d hp8c, tabs_upd hT10 hp10, (hc10.del (l := p8) (fun ys z => by rw [hp10] at z; cases z) (fun o u z => by rw [hp10] at z; cases z)).mono ex_upd, by rw [upd_ne hpp]; exact hpr10, _, upd_same, by simp, fun x hx => ?_⟩, rfl⟩
        rcases List.mem_append.mp hx with h | h
        · exact hg4 x h
        · rw [List.mem_singleton.mp h]
          exact ⟨u, rfl, ((right_mem hM).mp hu).1, fun y hy => .inl (right_dig ok hM hu y hy)⟩
    · exact hD _ _ ⟨⟨f8.mono e9, tabs_ex hT8 e9, hc8.mono e9, e9 pr _ hpr8, _, e9 p8 _ hp8, by simp, hg4⟩, rfl⟩
    subst hσ
    have hN := noT_self H9
    refine q_forI (H := noT H9) (ei_list (ev_var rfl) (sql_noT (K := K) (sq_of hp9))) hN (fun j σ' H' => Ex (noT H9) H' ∧ Feed H' d cl ∧ LamX.Tabs (isrT P') H' ∧ ∃ y7 : Option V, σ' = [some (.ref a), some (.ref d), some (.int (i : Nat)), some (.ref p0), some (.str (St (ls ++ mm))), some (.str (St t.signs)), some (.ref p8), y7, some (.ref pr), some (.str (PyData.list [chD c0, .str (St t.signs)]).shown)])
      (fun H1 e1 => ⟨hN.trans e1, f9.mono e1, tabs_ex hT9 e1, x7, rfl⟩) (fun j σ' H1 _ p => p.1) (fun j x σ' H1 H2 hj p y => ?_) (fun σ' H1 p => ?_)
    · obtain ⟨g1, g2, g3, y7, rfl⟩ := p
      obtain ⟨rfl, hx⟩ := y
      obtain ⟨ν, rfl, hν1, hν2⟩ := hxg x (List.mem_of_getElem? hx)
      show tIfS _ _ _ _ [some (.ref a), some (.ref d), some (.int (i : Nat)), some (.ref p0), some (.str (St (ls ++ mm))), some (.str (St t.signs)), some (.ref p8), some (.str (St ν)), some (.ref pr), some (.str (PyData.list [chD c0, .str (St t.signs)]).shown)] H2
      have hcN : ChkV K (noT H9) (.ref p0) c0 := chk_noT hc9
      refine s_isr (P' := P') (B := H2) (ea_cons (ev_var rfl) (ea3 (ev_var rfl) (ev_var rfl) (ev_var rfl))) (Ex.refl _) (fun H3 e3 Q q3 => ⟨rfl, _, c0, t, ν, pr, ms, rfl, hcN.mono (g1.trans e3), ok, sm, ht, hz, hν1, hν2, hM, sq_of ((g1.trans e3) pr _ (noT_some hpr9 fun ps z => by cases z)), tabs_ex g3 e3, q3⟩) fun H3 x3 hT3' => ?_
      exact ⟨exN g1 (noT_no H9) x3, feed_ext g2 x3, hT3', _, rfl⟩
    · obtain ⟨g1, g2, g3, y7, rfl⟩ := p
      have hcN : ChkV K (noT H9) (.ref p0) c0 := chk_noT hc9
      refine s_when (et_is (et_test (ev_op (ev_reprL (ds := [chD c0, .str (St t.signs)]) (el_lst (ea2 (ev_var rfl) (ev_var rfl)) (by show 2 ≤ 100000; omega)) (fun H2 e => .cons (chk_dp (hcN.mono (g1.trans e))) (.cons (.str _) .nil)) hsh) (ev_var rfl) (rv_ne rfl))) (b := false) (by simp)) (fun h => nomatch h) fun _ H2 e2 => ?_
      exact ⟨g2.mono e2, tabs_ex g3 e2, _, _, _, _, _, _, _, _, rfl⟩
  · obtain ⟨f3, hT3, x2, x3, x4, x5, x6, x7, x8, x9, rfl⟩ := pv
    exact s_ret ev_c fun H4 e4 => q H4
end
end K64

set_option Elab.async false
set_option linter.all false
set_option maxRecDepth 100000
set_option maxHeartbeats 4000000
/-! ZC: the law called behind the top: from its promise (one table, no repr under way) to the row's answer. -/
namespace K64
open PySem PySem.Spec PyProof.Rows L2
/-- an empty table; the script's list -/
abbrev oT : Obj := { cls := .none, data := .fields #[] }
abbrev oL (us : List Value) : Obj := { cls := .type "list", data := .seq us.toArray }
/-- at the call's start: the table and, where the written part knows nothing of it, the script -/
def hp0 (K : Fg) (P' a : Addr) (us : List Value) (ns : List Int) : Hp := fun b =>
  if b = P' then some (.tbl #[]) else if b = a then (if K.lookup a = none then some (.frz (oL us) (.lst (ns.map V.int))) else none) else none
section
variable {K : Fg} {P' a : Addr} {us : List Value} {ns : List Int}
theorem hp0_tab : hp0 K P' a us ns P' = some (.tbl #[]) := if_pos rfl
theorem hp0_cases {b : Addr} {u : HO} (h : hp0 K P' a us ns b = some u) : (b = P' ∧ u = .tbl #[]) ∨ (b ≠ P' ∧ b = a ∧ K.lookup a = none ∧ u = .frz (oL us) (.lst (ns.map V.int))) := by
  unfold hp0 at h
  by_cases h1 : b = P'
  · rw [if_pos h1] at h
    exact .inl ⟨h1, (Option.some.inj h).symm⟩
  · rw [if_neg h1] at h
    by_cases h2 : b = a
    · rw [if_pos h2] at h
      by_cases h3 : K.lookup a = none
      · rw [if_pos h3] at h
        exact .inr ⟨h1, h2, h3, (Option.some.inj h).symm⟩
      · rw [if_neg h3] at h
        cases h
    · rw [if_neg h2] at h
      cases h
theorem hp0_other {b : Addr} (h1 : b ≠ P') (h2 : b ≠ a) : hp0 K P' a us ns b = none := by
  unfold hp0
  rw [if_neg h1, if_neg h2]
end
section
variable {P : Program} {w : World} {K : Fg} {mg mb : Str → Option Value} {k : Nat} {fa a c P' : Addr} {fd : FuncData} {x : Str} {sp : Sp} {s : Shared} {us : List Value} {ns : List Int}
/-- what is hidden is the table and the script alone -/
theorem hid0 (hT : s.heap.get? P' = some oT) (ha : s.heap.get? a = some (oL us)) {b : Addr} {o : Obj} (e : s.heap.get? b = some o) (h1 : o ≠ oT) (h2 : o ≠ oL us) : (hidT s.heap (hp0 K P' a us ns)).get? b = some o :=
  hidT_get e (hp0_other (fun z => h1 (by rw [z, hT] at e; exact (Option.some.inj e).symm)) fun z => h2 (by rw [z, ha] at e; exact (Option.some.inj e).symm))
theorem hid_ns (hT : s.heap.get? P' = some oT) (ha : s.heap.get? a = some (oL us)) {b : Addr} {m : Str → Option Value} (h : s.heap.Ns b m) : (hidT s.heap (hp0 K P' a us ns)).Ns b m := by
  obtain ⟨o, es, ep, e, d, r⟩ := h
  exact ⟨o, es, ep, hid0 hT ha e (fun z => by rw [z] at d; cases d) (fun z => by rw [z] at d; cases d), d, r⟩
theorem end_call (KX : K.In s.heap) (hns : s.heap.Ns mainGlobals mg) (hb : s.heap.Ns builtinsNs mb) (hbb : ∀ y : Str, y ≠ "__name__" → mb y = bootBuiltins y) (hlim : s.heap.NoLimit) (hg : s.gens = #[])
    (hT : s.heap.get? P' = some oT) (nT : K.lookup P' = none) (C : PySem.W.CodeHd s.heap c P')
    (hbm : ∃ (bm : Addr) (ob : Obj), mg "__builtins__" = some (.ref bm) ∧ bm ≠ builtinsNs ∧ s.heap.get? bm = some ob ∧ ob.cls = .type "module" ∧ ob.dict = some builtinsNs ∧ ob.data = .plain)
    (ha : s.heap.get? a = some (oL us)) (hi : IntsAre us ns) (hl : ns.length ≤ sizeLine) (hr : Room k callerA)
    (F : ∀ base : Heap, K.In base → base.Ns mainGlobals mg → LamX.TabB base mg c P' → FnOkG P w K mg base CX0 k fa fd [x] sp) (hbind : ∀ (s : Shared) (u : Value), BindsTo s fd ⟨[u], []⟩ [(x, u)])
    (hsp : ∀ H : Hp, H P' = some (.tbl #[]) → SqL K H a (ns.map V.int) → sp [.ref a] H (fun v _ => v = .bl true) fun _ _ _ => False) :
    codeAny (model P w) callerA (.call (.ref fa) ⟨[.ref a], []⟩) (fun r s' => r = .ok (.ret (.bool true)) ∧ OldK s.heap s'.heap ∧ s'.os = s.os ∧ AllBare s'.gens) s := by
  have rv := vals_ints hi
  have aP : a ≠ P' := fun z => by
    rw [z, hT] at ha
    have z2 := congrArg Obj.cls (Option.some.inj ha)
    cases z2
  have hS : SqL K (hp0 K P' a us ns) a (ns.map V.int) := by
    cases q : K.lookup a with
    | none => exact .inl (.inr ⟨oL us, (if_neg aP).trans ((if_pos rfl).trans (if_pos q))⟩)
    | some o =>
      have e := KX a o q
      rw [ha] at e
      cases e
      exact .inr ⟨_, us.toArray, _, q, rfl, rfl, rfl, by rw [List.size_toArray, hi.length]; exact hl, by simpa using rv⟩
  have hok : HOk P w (hp0 K P' a us ns) s.heap := fun b u z => by
    rcases hp0_cases z with ⟨rfl, rfl⟩ | ⟨_, rfl, _, rfl⟩
    · exact hT
    · exact ⟨ha, by rw [List.length_map]; exact hl, us, _, rv, ha⟩
  have hKb : K.In (hidT s.heap (hp0 K P' a us ns)) := fun b o e => hidT_get (KX b o e) (by
    cases q : hp0 K P' a us ns b with
    | none => rfl
    | some u =>
      rcases hp0_cases q with ⟨z, _⟩ | ⟨_, z, z2, _⟩
      · rw [z, nT] at e
        cases e
      · rw [z, z2] at e
        cases e)
  have hgb := hid_ns (K := K) (ns := ns) hT ha hns
  have hM : L2.Mod K mg (hidT s.heap (hp0 K P' a us ns)) := ⟨hKb, hgb, ⟨mb, hid_ns hT ha hb, hbb⟩, by
    obtain ⟨mc, h1, h2⟩ := hlim
    exact ⟨mc, hid_ns hT ha h1, h2⟩⟩
  have TB : LamX.TabB (hidT s.heap (hp0 K P' a us ns)) mg c P' := by
    have hgG : ∃ o es ep, s.heap.get? mainGlobals = some o ∧ o.data = .dict es ep := by
      obtain ⟨o, es, ep, e, d, _⟩ := hns
      exact ⟨o, es, ep, e, d⟩
    obtain ⟨oG, es, ep, eG, dG⟩ := hgG
    refine ⟨?_, ?_, fun z => ?_⟩
    · obtain ⟨o, vs, file, tf, flags, tg, inF, text, tt, e1, r1, rest⟩ := C
      exact ⟨o, vs, file, tf, flags, tg, inF, text, tt, hid0 hT ha e1 (fun z => by rw [z] at r1; cases r1) (fun z => by rw [z] at r1; exact absurd (Value.type.inj r1) (by decide)), r1, rest⟩
    · obtain ⟨bm, ob, b1, b2, b3, b4, b5, b6⟩ := hbm
      refine ⟨bm, ob, b1, b2, fun z => ?_, fun z => ?_, hid0 hT ha b3 (fun z => by rw [z] at b6; cases b6) (fun z => by rw [z] at b6; cases b6), b4, b5, b6⟩
      · rw [z, eG] at b3
        cases b3
        rw [dG] at b6
        cases b6
      · rw [z, hT] at b3
        cases b3
        cases b6
    · rw [z, hT] at eG
      cases eG
      cases dG
  have e0 : Env0 P w K mg (hidT s.heap (hp0 K P' a us ns)) callerA [] s (hp0 K P' a us ns) := ⟨rfl, hM, fun b o e => of_hidT e, Nat.le_of_eq (hidT_size _ _), trivial, fun b hb => absurd (show b ∈ ([] : List Addr) from hb) (by simp), hok, .of_eq hg⟩
  refine codeAny_mono ((F _ hKb hgb TB).run callerA [] s _ ⟨[.ref a], []⟩ [.ref a] [.ref a] _ _ rfl hr e0 (hbind s (.ref a)) (.cons rfl .nil) (hsp _ hp0_tab hS)) fun r s' h => ?_
  match r, h with
  | .ok (.ret u), h =>
    obtain ⟨v, H', os, bare, un, hok', r', q⟩ := h
    obtain rfl : v = .bl true := q
    obtain rfl : u = Value.bool true := r'
    obtain ⟨more, hm⟩ := un.tbls P' #[] hp0_tab
    have hmP := hok' P' _ hm
    have stays : ∀ b o, b ≠ P' → s.heap.get? b = some o → s'.heap.get? b = some o := fun b o nb e => by
      cases z : hp0 K P' a us ns b with
      | none => exact un.keep b o e z (by intro y; exact absurd (show b ∈ ([] : List Addr) from y) (by simp)) (by simp)
      | some u =>
        rcases hp0_cases z with ⟨y, _⟩ | ⟨_, rfl, _, rfl⟩
        · exact absurd y nb
        · have e2 := (hok' _ _ (un.frzs _ _ _ z)).1
          rw [ha] at e
          rw [e2, ← e]
    refine ⟨rfl, ⟨fun b o e => ?_, fun b o e => ?_⟩, os, bare⟩
    · by_cases hb : b = P'
      · subst hb
        rw [hT] at e
        cases e
        exact .inr (.inl ⟨(C.tab hT).isCodeTable, rfl, #[], more, rfl, by rw [Array.empty_append]; rw [Array.empty_append] at hmP; exact hmP⟩)
      · exact .inl (stays b o hb e)
    · by_cases hb : b = P'
      · subst hb
        exact ⟨_, hmP⟩
      · exact ⟨o, stays b o hb e⟩
  | .ok .next, h => exact False.elim h
  | .ok .brk, h => exact False.elim h
  | .ok .cont, h => exact False.elim h
  | .error e, h => exact False.elim h
end
end K64

set_option Elab.async false
set_option linter.all false
set_option maxRecDepth 100000
set_option maxHeartbeats 0
/-! ZH: the head: facts by names, one run of the top. Printed by gen_zh.py. -/
namespace K64
open PySem PySem.Spec PyProof.Rows L2
def fn : List He.DefD := [d_is_integer, d_is_mark, d_is_many, d_are_ascending, d_are_marks, d_marks_of_row, d_is_row, d_is_tuple_of, d_signs_fault, d_is_tree, d_is_notes, d_checker_fault, d_is_checker, d_has_children, d_label_of, d_ends_by, d_children_by, d_want, d_want_checker, d_want_tree_for, d_want_case, d_rows_by, d_digits_at, d_fitting_rows, d_costs_by, d_top_digits, d_cheapest_by, d_fewest_changes, d_least_changed, d_law_feed, d_law_draw, d_law_any, d_law_same, d_law_scenes, d_law_drawn, d_law_checker, d_law_marks, d_law_labels, d_law_grown, d_law_kids, d_law_cries, d_law_right, d_law_laid, d_law_heard, d_law_price, d_law_is_right, d_law]
def fa1 : List He.Fa := [.glo "is_integer", .glo "is_mark", .glo "is_many", .glo "are_ascending", .glo "are_marks", .glo "marks_of_row", .glo "is_row", .glo "is_tuple_of", .glo "signs_fault", .glo "is_tree", .glo "is_notes", .glo "checker_fault", .glo "is_checker", .glo "has_children", .glo "label_of", .glo "ends_by", .glo "children_by", .glo "want", .glo "want_checker", .glo "want_tree_for", .glo "want_case", .glo "rows_by", .glo "digits_at", .glo "fitting_rows", .glo "costs_by", .glo "top_digits", .glo "cheapest_by", .glo "fewest_changes", .glo "least_changed", .glo "_law_feed", .glo "_law_draw", .glo "_law_any", .glo "_law_same", .glo "_law_scenes", .glo "_law_drawn"]
def fa2 : List He.Fa := [.glo "_law_checker", .glo "_law_marks", .glo "_law_labels", .glo "_law_grown", .glo "_law_kids", .glo "_law_cries", .glo "_law_right", .glo "_law_laid", .glo "_law_heard", .glo "_law_price", .glo "_law_is_right", .glo "law", .glo "NoteError", .glo "PaperError", .glo "MachineError", .glo "LiveError", .glo "TextError", .glo "NotUsable", .glo "NoNotes", .glo "InvalidEvent", .glo "NothingToUndo", .glo "InvalidText", .glo "InvalidRow", .free "isinstance", .free "int", .free "bool", .free "str", .free "len", .free "all", .free "zip", .free "tuple", .free "range", .free "enumerate", .free "list", .free "sum", .free "min", .free "sorted", .free "set", .free "repr", .free "ValueError", .free "super", .str "LETTERS" "abcdefghijklmnopqrstuvwxyz", .str "CAPITALS" "ABCDEFGHIJKLMNOPQRSTUVWXYZ", .str "DIGITS" "0123456789", .str "OPEN" "?"]
def names1 : List Str := ["LETTERS", "CAPITALS", "DIGITS", "OPEN", "is_integer", "is_mark", "is_many", "are_ascending", "are_marks", "marks_of_row", "is_row", "is_tuple_of", "signs_fault", "is_tree", "is_notes", "checker_fault", "is_checker", "NoteError", "PaperError", "MachineError", "LiveError", "TextError", "NotUsable", "NoNotes", "InvalidEvent", "NothingToUndo", "InvalidText", "InvalidRow", "has_children", "label_of"]
def names2 : List Str := ["ends_by", "children_by", "want", "want_checker", "want_tree_for", "want_case", "rows_by", "digits_at", "fitting_rows", "costs_by", "top_digits", "cheapest_by", "fewest_changes", "least_changed", "_law_feed", "_law_draw", "_law_any", "_law_same", "_law_scenes", "_law_drawn", "_law_checker", "_law_marks", "_law_labels", "_law_grown", "_law_kids", "_law_cries", "_law_right", "_law_laid", "_law_heard", "_law_price", "_law_is_right"]
def fa : List He.Fa := fa1 ++ fa2
def names : List Str := names1 ++ names2
abbrev dR : He.Defn := ("_law_is_right", none)
abbrev tf : List He.Defn := [dR]
abbrev R : PySem.W.OpenRow := PySem.W.OpenLaw.row PySem.Challenge.rw_childnotes_k64_whole_changes
/-! ### NoNotes and its __init__ -/
abbrev cNN (K : Fg) : Addr := He.ga K "NoNotes"
abbrev fNI (K : Fg) : Addr := He.ma K (cNN K) "__init__"
abbrev IniV : Type := Option (Str × Arguments × FuncBody × Scope × Addr × Addr)
def iniW (K : Fg) : IniV := match K.lookup (fNI K) with
  | some ⟨_, _, .func fd, _⟩ => some (fd.qualname, fd.params, fd.body, fd.scope, fd.globals, fd.builtins)
  | _ => none
def iniV : IniV := some ("NoNotes.__init__", defArgs s_ni, .stmts (defBody s_ni), defScope s_ni, mainGlobals, builtinsNs)
def slB : List (Option Value) → Bool
  | [_, _, _, _, some (.builtin n), _] => decide (n = "ValueError.__new__")
  | _ => false
def mroB (C : Addr) : List Value → Bool
  | .ref D :: bm => decide (D = C) && PySem.HandSPX.refsVE bm
  | _ => false
def oexB (K : Fg) (C : Addr) : Bool := match K.lookup C with
  | some ⟨.type c, _, .cls cd, sl⟩ => decide (c = "type") && (mroB C cd.mro && (cd.hasDict && (!cd.hasDel && slB sl.toList)))
  | _ => false
def closB (K : Fg) (C f : Addr) : Bool := match K.lookup f with
  | some ⟨_, _, .func fd, _⟩ => (match fd.closure with
    | [(x, cc)] => decide (x = "__class__") && (match K.lookup cc with
      | some ⟨_, _, .cell (some (.ref D)), _⟩ => decide (D = C)
      | _ => false)
    | _ => false)
  | _ => false
def fileB (K : Fg) (m : Str) (f : Addr) : Bool := match K.lookup f with
  | some ⟨_, _, .func fd, _⟩ => (match fd.code with
    | .ref cd => PySem.W.codeIn K (.ref cd) "NoNotes.__init__" && (match K.lookup cd with
      | some ⟨_, _, .fields vs, _⟩ => (match (vs[2]? : Option Value) with
        | some (.str y _) => m == y
        | _ => false)
      | _ => false)
    | _ => false)
  | _ => false
def dflN (K : Fg) (f : Addr) : Bool := match K.lookup f with
  | some ⟨_, _, .func fd, _⟩ => decide (fd.defaults = .none)
  | _ => false
def nnL (K : Fg) (m : Str) : List Bool := [oexB K (cNN K), decide (PySem.W.findIn K (.ref (cNN K)) "__setattr__" = some (some (.builtin "object.__setattr__"))),
  decide (PySem.W.subIn K (.ref (cNN K)) (.type "BaseException") = some true), decide (PySem.W.typeIn K (.ref (cNN K)) = some (.type "type")), PySem.W.keepIn K (.ref (cNN K)),
  decide (PySem.W.nsIn K cStatics "thirdparty.any" = some none), decide (PySem.W.ks_superIn K (cNN K) (cNN K) "__init__" = some (some (.builtin "ValueError.__init__"))),
  decide (PySem.W.subIn K (.ref (cNN K)) (.type "ValueError") = some true), decide (PySem.W.mroIn K (cNN K) (.ref (cNN K)) = some true), decide (PySem.W.findIn K (.ref (cNN K)) "tree" = some none),
  closB K (cNN K) (fNI K), fileB K m (fNI K),
  decide (PySem.W.exmOne K (.ref (cNN K)) (.ref (He.ga K "NoteError")) = some true), decide (PySem.W.kitOne K (.ref (cNN K)) (.ref (He.ga K "PaperError")) = some false),
  decide (PySem.W.kitOne K (.ref (cNN K)) (.ref (He.ga K "MachineError")) = some true), decide (PySem.W.kitOne K (.ref (cNN K)) (.ref (He.ga K "LiveError")) = some false),
  decide (PySem.W.kitOne K (.ref (cNN K)) (.ref (He.ga K "TextError")) = some false), decide (PySem.W.kitOne K (.ref (cNN K)) (.ref (He.ga K "NotUsable")) = some false),
  decide (PySem.W.kitOne K (.ref (cNN K)) (.ref (cNN K)) = some true), decide (PySem.W.kitOne K (.ref (cNN K)) (.type "ValueError") = some true),
  decide (PySem.W.findIn K (.ref (cNN K)) "__getattribute__" = some (some (.builtin "BaseException.__getattribute__"))), decide (PySem.W.findIn K (.ref (cNN K)) "__getattr__" = some none),
  PySem.W.hasDictIn K (cNN K), decide (PySem.W.findIn K (.ref (cNN K)) "__class__" = some (some (.builtin "object.__class__"))),
  decide (PySem.W.specialIn K (.builtin "object.__class__") "__get__" = some (some (.builtin "getset_descriptor.__get__"))), decide (PySem.W.takesIn K (.builtin "object.__class__") = some true),
  decide (PySem.W.mroIn K (cNN K) (.type "object") = some true), decide (PySem.W.findIn K (.ref (cNN K)) "__init__" = some (some (.ref (fNI K)))), decide (PySem.W.typeIn K (.ref (fNI K)) = some (.type "function")), dflN K (fNI K)]
abbrev fileM : Str := R.prog.main.file
/-! ### the hook -/
def KN (g : Addr → Option Obj) : Fg := He.frT g (cStatics :: He.asD g 5)
abbrev AlN : Type := (He.AlT × Bool) × IniV
def obsN (g : Addr → Option Obj) : AlN := ((He.obsT fa fn [] (KN g), (nnL (KN g) fileM).all id && He.tabsB g tf (KN g)), iniW (KN g))
structure SaysN (w : World) (h : Heap) (K : Fg) : Prop where
  t : He.SaysT fa fn [] w K
  nn : (nnL K fileM).all id = true
  ini : iniW K = iniV
  hd : PySem.W.codeHdIn K (He.cT K dR).1 (He.cT K dR).2 = true
  out : K.lookup (He.cT K dR).2 = none
  emp : h.get? (He.cT K dR).2 = some oT
theorem saysN_of {w : World} {h : Heap} (e : obsN h.get? = ((He.valT fn [] w, true), iniV)) : SaysN w h (KN h.get?) := by
  have e1 : He.obsT fa fn [] (KN h.get?) = He.valT fn [] w := congrArg (fun z : AlN => z.1.1) e
  have e2 : ((nnL (KN h.get?) fileM).all id && He.tabsB h.get? tf (KN h.get?)) = true := congrArg (fun z : AlN => z.1.2) e
  have e3 : iniW (KN h.get?) = iniV := congrArg (fun z : AlN => z.2) e
  obtain ⟨h1, h2⟩ := He.ba e2
  have h3 := List.all_eq_true.mp h2 dR List.mem_cons_self
  obtain ⟨h4, h5⟩ := He.ba h3
  cases q : h.get? (He.cT (KN h.get?) dR).2 with
  | none =>
    rw [q] at h5
    cases h5
  | some o =>
    rw [q] at h5
    exact ⟨e1, h1, e3, h4, He.frT_none q h5, by rw [q, He.emptyTab_eq h5]⟩
def hk : PySem.W.Hook where
  α := AlN
  obs := fun s => obsN s.heap.get?
  val := fun w => ((He.valT fn [] w, true), iniV)
  says := fun w h => ∃ K : Fg, K.In h ∧ SaysN w h K
  of := fun _ _ e => ⟨_, He.frT_in, saysN_of e⟩
  keeps := fun _ _ _ ⟨K, hK, c⟩ k => ⟨K, PySem.W.Frag.In.keeps hK k, ⟨c.t, c.nn, c.ini, c.hd, c.out, k _ _ c.emp⟩⟩
def ob (s : PySem.W.SharedT) : AlN := obsN (HandSHeadRun.getT s)
theorem ob_eq (s : PySem.W.SharedT) : ob s = hk.obs s.abs := by
  have e : HandSHeadRun.getT s = s.abs.heap.get? := funext (HandSHeadRun.getT_eq s)
  unfold ob
  rw [e] <;> rfl
theorem run (w : World) : HandSHeadRun.RunEq R (PySem.W.view R.prog [69]) hk ob 6000 names w := by
  intro os
  kernel_rfl
end K64

set_option Elab.async false
set_option linter.all false
set_option maxRecDepth 100000
set_option maxHeartbeats 4000000
/-! ZF: what the head tells gives Fs. Printed by gen_zh.py. -/
namespace K64
open PySem PySem.Spec PyProof.Rows L2
theorem pkB {l : List Bool} (h : l.all id = true) (i : Nat) {b : Bool} (e : l[i]? = some b) : b = true := List.all_eq_true.mp h b (List.mem_of_getElem? e)
theorem oex_of {K : Fg} {C : Addr} (h : oexB K C = true) : ∃ nm q N bs bm sn sub ab col dd k0 k1 k2 k3 k5, K.lookup C = some (excClassObj nm q C N bs bm true sn sub ab col dd k0 k1 k2 k3 k5 "ValueError.__new__") ∧ PySem.HandSPX.refsVE bm = true := by
  unfold oexB at h
  split at h
  · rename_i c dd cd sl hk
    obtain ⟨h1, h2⟩ := He.ba h
    obtain ⟨h3, h4⟩ := He.ba h2
    obtain ⟨h5, h6⟩ := He.ba h4
    obtain ⟨h7, h8⟩ := He.ba h6
    obtain ⟨nm, bs, mro, N, q, hd, sn, sub, ab, col, hdel⟩ := cd
    have e1 : c = "type" := of_decide_eq_true h1
    have e5 : hd = true := h5
    have e7 : hdel = false := by
      have : (!hdel) = true := h7
      simpa using this
    have hm : ∃ bm, mro = .ref C :: bm ∧ PySem.HandSPX.refsVE bm = true := by
      have h3' : mroB C mro = true := h3
      unfold mroB at h3'
      split at h3'
      · rename_i D bm
        obtain ⟨g1, g2⟩ := He.ba h3'
        exact ⟨bm, by rw [of_decide_eq_true g1], g2⟩
      · cases h3'
    obtain ⟨bm, rfl, hbm⟩ := hm
    obtain ⟨sl⟩ := sl
    have hs : ∃ k0 k1 k2 k3 k5, sl = [k0, k1, k2, k3, some (.builtin "ValueError.__new__"), k5] := by
      have h8' : slB sl = true := h8
      unfold slB at h8'
      split at h8'
      · rename_i k0 k1 k2 k3 n k5
        exact ⟨k0, k1, k2, k3, k5, by rw [of_decide_eq_true h8']⟩
      · cases h8'
    obtain ⟨k0, k1, k2, k3, k5, rfl⟩ := hs
    subst e1 e5 e7
    exact ⟨nm, q, N, bs, bm, sn, sub, ab, col, dd, k0, k1, k2, k3, k5, hk, hbm⟩
  · cases h
section
variable {K : Fg} {w : World} {h : Heap} {mg : Str → Option Value}
theorem nn_c (X : K.In h) (G : h.Ns mainGlobals mg) (c : SaysN w h K) (hs : mg "super" = none) : ∃ fd, NnC R.prog K mg (cNN K) (fNI K) fd ∧ Binds K fd ["self", "tree"] [] := by
  have nn := c.nn
  have e := c.ini
  have hcl := pkB nn 10 (b := closB K (cNN K) (fNI K)) rfl
  have hfl := pkB nn 11 (b := fileB K fileM (fNI K)) rfl
  have hdl := pkB nn 29 (b := dflN K (fNI K)) rfl
  unfold dflN at hdl
  unfold iniW at e
  unfold closB at hcl
  unfold fileB at hfl
  cases q : K.lookup (fNI K) with
  | none =>
    rw [q] at hcl
    cases hcl
  | some o =>
    obtain ⟨oc, od, dt, osl⟩ := o
    rw [q] at e hcl hfl hdl
    cases dt with
    | func fd =>
      obtain ⟨n1, n2, n3, n4, n5, n6, n7, n8, n9, n10, n11, n12, n13, n14, n15⟩ := fd
      have e2 : (some (n2, n3, n4, n5, n6, n15) : IniV) = some (("NoNotes.__init__" : Str), defArgs s_ni, FuncBody.stmts (defBody s_ni), defScope s_ni, mainGlobals, builtinsNs) := e
      simp only [Option.some.injEq, Prod.mk.injEq] at e2
      obtain ⟨h2, h3, h4, h5, h6, h15⟩ := e2
      subst h2 h3 h4 h5 h6 h15
      have h8 : n8 = .none := of_decide_eq_true hdl
      clear hdl
      subst h8
      have hcl2 : (match (generalizing := false) n7 with
        | [(x, cc)] => decide (x = "__class__") && (match K.lookup cc with
          | some ⟨_, _, .cell (some (.ref D)), _⟩ => decide (D = cNN K)
          | _ => false)
        | _ => false) = true := hcl
      have hfl2 : (match (generalizing := false) n13 with
        | .ref cd => PySem.W.codeIn K (.ref cd) "NoNotes.__init__" && (match K.lookup cd with
          | some ⟨_, _, .fields vs, _⟩ => (match (vs[2]? : Option Value) with
            | some (.str y _) => fileM == y
            | _ => false)
          | _ => false)
        | _ => false) = true := hfl
      clear hcl hfl
      split at hcl2
      · rename_i x cc
        obtain ⟨g1, g2⟩ := He.ba hcl2
        have ex : x = "__class__" := of_decide_eq_true g1
        subst ex
        split at g2
        · rename_i c2 d2 D s2 hcc
          have eD : D = cNN K := of_decide_eq_true g2
          rw [eD] at hcc
          split at hfl2
          · rename_i cd
            obtain ⟨g3, g4⟩ := He.ba hfl2
            split at g4
            · rename_i c3 d3 vs s3 hcd
              split at g4
              · rename_i file tf' hvs
                refine ⟨_, ⟨⟨oc, od, n1, .none, n9, n10, n11, n12, cd, cc, n14, osl, rfl, q, g3, ⟨c2, d2, s2, hcc⟩, ⟨c3, d3, vs, s3, file, tf', hcd, hvs, g4⟩⟩, by kernel_rfl,
                  ⟨oex_of (pkB nn 0 rfl), of_decide_eq_true (pkB nn 1 rfl), of_decide_eq_true (pkB nn 2 rfl), of_decide_eq_true (pkB nn 3 rfl), pkB nn 4 rfl⟩,
                  of_decide_eq_true (pkB nn 5 rfl), of_decide_eq_true (pkB nn 6 rfl), of_decide_eq_true (pkB nn 7 rfl), of_decide_eq_true (pkB nn 8 rfl), hs, of_decide_eq_true (pkB nn 9 rfl)⟩, ?_⟩
                exact .all fun us hl => match us, hl with | [_, _], _ => rfl
              · cases g4
            · cases g4
          · cases hfl2
        · cases g2
      · cases hcl2
    | _ => cases hcl
theorem hx_c (X : K.In h) (G : h.Ns mainGlobals mg) (c : SaysN w h K) (h1 : mg "isinstance" = none ∧ mg "ValueError" = none) (g : ∀ x : Str, x ∈ (["NoteError", "PaperError", "MachineError", "LiveError", "TextError", "NotUsable", "NoNotes"] : List Str) → mg x = some (.ref (He.ga K x))) : HxC K mg (cNN K) := by
  have nn := c.nn
  exact ⟨h1, ⟨_, g _ (by decide), of_decide_eq_true (pkB nn 12 rfl)⟩, ⟨_, g _ (by decide), of_decide_eq_true (pkB nn 13 rfl)⟩, ⟨_, g _ (by decide), of_decide_eq_true (pkB nn 14 rfl)⟩, ⟨_, g _ (by decide), of_decide_eq_true (pkB nn 15 rfl)⟩, ⟨_, g _ (by decide), of_decide_eq_true (pkB nn 16 rfl)⟩, ⟨_, g _ (by decide), of_decide_eq_true (pkB nn 17 rfl)⟩,
    g _ (by decide), of_decide_eq_true (pkB nn 18 rfl), of_decide_eq_true (pkB nn 19 rfl),
    ⟨of_decide_eq_true (pkB nn 20 rfl), of_decide_eq_true (pkB nn 21 rfl), of_decide_eq_true (pkB nn 2 rfl), pkB nn 22 rfl, of_decide_eq_true (pkB nn 23 rfl), of_decide_eq_true (pkB nn 24 rfl), of_decide_eq_true (pkB nn 25 rfl), of_decide_eq_true (pkB nn 26 rfl)⟩,
    ⟨of_decide_eq_true (pkB nn 20 rfl), of_decide_eq_true (pkB nn 21 rfl), of_decide_eq_true (pkB nn 2 rfl), pkB nn 22 rfl⟩, of_decide_eq_true (pkB nn 9 rfl)⟩
theorem kn_of {x : Str} {st : Stmt} {dvs : List V} {d : He.DefD} {i j : Nat} (X : K.In h) (G : h.Ns mainGlobals mg) (c : SaysN w h K) (hd : fn[i]? = some d) (hf : fa[j]? = some (.glo x)) (e1 : d.at_ = (x, none)) (e2 : d.name = x) (e3 : d.qual = x) (e4 : d.params = defArgs st) (e5 : d.body = defBody st) (e6 : d.scope = defScope st) (e7 : d.dvs K = dvs) (e8 : d.kws K = []) : Kn K mg x st dvs := by
  obtain ⟨fd, F⟩ := c.t.d.def_ i (d := d) hd
  refine ⟨He.ga K x, fd, ?_, He.glo_ok X G (c.t.d.fact j (f := .glo x) hf)⟩
  rw [e1, e2, e3, e4, e5, e6, e7, e8] at F
  exact F
theorem fr_of {x : Str} {j : Nat} (X : K.In h) (G : h.Ns mainGlobals mg) (c : SaysN w h K) (hf : fa[j]? = some (.free x)) : mg x = none := He.free_ok X G (c.t.d.fact j (f := .free x) hf)
theorem fs_of (X : K.In h) (G : h.Ns mainGlobals mg) (c : SaysN w h K) : Fs R.prog K mg := by
  have hfr : mg "super" = none := fr_of X G c (j := 75) rfl
  have gl : ∀ x : Str, x ∈ (["NoteError", "PaperError", "MachineError", "LiveError", "TextError", "NotUsable", "NoNotes"] : List Str) → mg x = some (.ref (He.ga K x)) := fun x hx => by
    simp only [List.mem_cons, List.not_mem_nil, or_false] at hx
    rcases hx with rfl | rfl | rfl | rfl | rfl | rfl | rfl
    · exact He.glo_ok X G (c.t.d.fact 47 (f := .glo "NoteError") rfl)
    · exact He.glo_ok X G (c.t.d.fact 48 (f := .glo "PaperError") rfl)
    · exact He.glo_ok X G (c.t.d.fact 49 (f := .glo "MachineError") rfl)
    · exact He.glo_ok X G (c.t.d.fact 50 (f := .glo "LiveError") rfl)
    · exact He.glo_ok X G (c.t.d.fact 51 (f := .glo "TextError") rfl)
    · exact He.glo_ok X G (c.t.d.fact 52 (f := .glo "NotUsable") rfl)
    · exact He.glo_ok X G (c.t.d.fact 53 (f := .glo "NoNotes") rfl)
  obtain ⟨fdN, hNn, hBn⟩ := nn_c X G c hfr
  exact {
    f_isinstance := fr_of X G c (j := 58) rfl
    f_int := fr_of X G c (j := 59) rfl
    f_bool := fr_of X G c (j := 60) rfl
    f_str := fr_of X G c (j := 61) rfl
    f_len := fr_of X G c (j := 62) rfl
    f_all := fr_of X G c (j := 63) rfl
    f_zip := fr_of X G c (j := 64) rfl
    f_tuple := fr_of X G c (j := 65) rfl
    f_range := fr_of X G c (j := 66) rfl
    f_enumerate := fr_of X G c (j := 67) rfl
    f_list := fr_of X G c (j := 68) rfl
    f_sum := fr_of X G c (j := 69) rfl
    f_min := fr_of X G c (j := 70) rfl
    f_sorted := fr_of X G c (j := 71) rfl
    f_set := fr_of X G c (j := 72) rfl
    f_repr := fr_of X G c (j := 73) rfl
    f_ValueError := fr_of X G c (j := 74) rfl
    f_super := fr_of X G c (j := 75) rfl
    c_LETTERS := He.str_ok X G (c.t.d.fact 76 (f := .str "LETTERS" "abcdefghijklmnopqrstuvwxyz") rfl)
    c_CAPITALS := He.str_ok X G (c.t.d.fact 77 (f := .str "CAPITALS" "ABCDEFGHIJKLMNOPQRSTUVWXYZ") rfl)
    c_DIGITS := He.str_ok X G (c.t.d.fact 78 (f := .str "DIGITS" "0123456789") rfl)
    c_OPEN := He.str_ok X G (c.t.d.fact 79 (f := .str "OPEN" "?") rfl)
    k_is_integer := kn_of X G c (i := 0) (j := 0) (d := d_is_integer) rfl rfl rfl rfl rfl rfl rfl rfl rfl rfl
    k_is_mark := kn_of X G c (i := 1) (j := 1) (d := d_is_mark) rfl rfl rfl rfl rfl rfl rfl rfl rfl rfl
    k_is_many := kn_of X G c (i := 2) (j := 2) (d := d_is_many) rfl rfl rfl rfl rfl rfl rfl rfl rfl rfl
    k_are_ascending := kn_of X G c (i := 3) (j := 3) (d := d_are_ascending) rfl rfl rfl rfl rfl rfl rfl rfl rfl rfl
    k_are_marks := kn_of X G c (i := 4) (j := 4) (d := d_are_marks) rfl rfl rfl rfl rfl rfl rfl rfl rfl rfl
    k_marks_of_row := kn_of X G c (i := 5) (j := 5) (d := d_marks_of_row) rfl rfl rfl rfl rfl rfl rfl rfl rfl rfl
    k_is_row := kn_of X G c (i := 6) (j := 6) (d := d_is_row) rfl rfl rfl rfl rfl rfl rfl rfl rfl rfl
    k_is_tuple_of := kn_of X G c (i := 7) (j := 7) (d := d_is_tuple_of) rfl rfl rfl rfl rfl rfl rfl rfl rfl rfl
    k_signs_fault := kn_of X G c (i := 8) (j := 8) (d := d_signs_fault) rfl rfl rfl rfl rfl rfl rfl rfl rfl rfl
    k_is_tree := kn_of X G c (i := 9) (j := 9) (d := d_is_tree) rfl rfl rfl rfl rfl rfl rfl rfl rfl rfl
    k_is_notes := kn_of X G c (i := 10) (j := 10) (d := d_is_notes) rfl rfl rfl rfl rfl rfl rfl rfl rfl rfl
    k_checker_fault := kn_of X G c (i := 11) (j := 11) (d := d_checker_fault) rfl rfl rfl rfl rfl rfl rfl rfl rfl rfl
    k_is_checker := kn_of X G c (i := 12) (j := 12) (d := d_is_checker) rfl rfl rfl rfl rfl rfl rfl rfl rfl rfl
    k_has_children := kn_of X G c (i := 13) (j := 13) (d := d_has_children) rfl rfl rfl rfl rfl rfl rfl rfl rfl rfl
    k_label_of := kn_of X G c (i := 14) (j := 14) (d := d_label_of) rfl rfl rfl rfl rfl rfl rfl rfl rfl rfl
    k_ends_by := kn_of X G c (i := 15) (j := 15) (d := d_ends_by) rfl rfl rfl rfl rfl rfl rfl rfl rfl rfl
    k_children_by := kn_of X G c (i := 16) (j := 16) (d := d_children_by) rfl rfl rfl rfl rfl rfl rfl rfl rfl rfl
    k_want := kn_of X G c (i := 17) (j := 17) (d := d_want) rfl rfl rfl rfl rfl rfl rfl rfl rfl rfl
    k_want_checker := kn_of X G c (i := 18) (j := 18) (d := d_want_checker) rfl rfl rfl rfl rfl rfl rfl rfl rfl rfl
    k_want_tree_for := kn_of X G c (i := 19) (j := 19) (d := d_want_tree_for) rfl rfl rfl rfl rfl rfl rfl rfl rfl rfl
    k_want_case := kn_of X G c (i := 20) (j := 20) (d := d_want_case) rfl rfl rfl rfl rfl rfl rfl rfl rfl rfl
    k_rows_by := kn_of X G c (i := 21) (j := 21) (d := d_rows_by) rfl rfl rfl rfl rfl rfl rfl rfl rfl rfl
    k_digits_at := kn_of X G c (i := 22) (j := 22) (d := d_digits_at) rfl rfl rfl rfl rfl rfl rfl rfl rfl rfl
    k_fitting_rows := kn_of X G c (i := 23) (j := 23) (d := d_fitting_rows) rfl rfl rfl rfl rfl rfl rfl rfl rfl rfl
    k_costs_by := kn_of X G c (i := 24) (j := 24) (d := d_costs_by) rfl rfl rfl rfl rfl rfl rfl rfl rfl rfl
    k_top_digits := kn_of X G c (i := 25) (j := 25) (d := d_top_digits) rfl rfl rfl rfl rfl rfl rfl rfl rfl rfl
    k_cheapest_by := kn_of X G c (i := 26) (j := 26) (d := d_cheapest_by) rfl rfl rfl rfl rfl rfl rfl rfl rfl rfl
    k_fewest_changes := kn_of X G c (i := 27) (j := 27) (d := d_fewest_changes) rfl rfl rfl rfl rfl rfl rfl rfl rfl rfl
    k_least_changed := kn_of X G c (i := 28) (j := 28) (d := d_least_changed) rfl rfl rfl rfl rfl rfl rfl rfl rfl rfl
    k_law_feed := kn_of X G c (i := 29) (j := 29) (d := d_law_feed) rfl rfl rfl rfl rfl rfl rfl rfl rfl rfl
    k_law_draw := kn_of X G c (i := 30) (j := 30) (d := d_law_draw) rfl rfl rfl rfl rfl rfl rfl rfl rfl rfl
    k_law_any := kn_of X G c (i := 31) (j := 31) (d := d_law_any) rfl rfl rfl rfl rfl rfl rfl rfl rfl rfl
    k_law_same := kn_of X G c (i := 32) (j := 32) (d := d_law_same) rfl rfl rfl rfl rfl rfl rfl rfl rfl rfl
    k_law_scenes := kn_of X G c (i := 33) (j := 33) (d := d_law_scenes) rfl rfl rfl rfl rfl rfl rfl rfl rfl rfl
    k_law_drawn := kn_of X G c (i := 34) (j := 34) (d := d_law_drawn) rfl rfl rfl rfl rfl rfl rfl rfl rfl rfl
    k_law_checker := kn_of X G c (i := 35) (j := 35) (d := d_law_checker) rfl rfl rfl rfl rfl rfl rfl rfl rfl rfl
    k_law_marks := kn_of X G c (i := 36) (j := 36) (d := d_law_marks) rfl rfl rfl rfl rfl rfl rfl rfl rfl rfl
    k_law_labels := kn_of X G c (i := 37) (j := 37) (d := d_law_labels) rfl rfl rfl rfl rfl rfl rfl rfl rfl rfl
    k_law_grown := kn_of X G c (i := 38) (j := 38) (d := d_law_grown) rfl rfl rfl rfl rfl rfl rfl rfl rfl rfl
    k_law_kids := kn_of X G c (i := 39) (j := 39) (d := d_law_kids) rfl rfl rfl rfl rfl rfl rfl rfl rfl rfl
    k_law_cries := kn_of X G c (i := 40) (j := 40) (d := d_law_cries) rfl rfl rfl rfl rfl rfl rfl rfl rfl rfl
    k_law_right := kn_of X G c (i := 41) (j := 41) (d := d_law_right) rfl rfl rfl rfl rfl rfl rfl rfl rfl rfl
    k_law_laid := kn_of X G c (i := 42) (j := 42) (d := d_law_laid) rfl rfl rfl rfl rfl rfl rfl rfl rfl rfl
    k_law_heard := kn_of X G c (i := 43) (j := 43) (d := d_law_heard) rfl rfl rfl rfl rfl rfl rfl rfl rfl rfl
    k_law_price := kn_of X G c (i := 44) (j := 44) (d := d_law_price) rfl rfl rfl rfl rfl rfl rfl rfl rfl rfl
    k_law_is_right := kn_of X G c (i := 45) (j := 45) (d := d_law_is_right) rfl rfl rfl rfl rfl rfl rfl rfl rfl rfl
    k_law := kn_of X G c (i := 46) (j := 46) (d := d_law) rfl rfl rfl rfl rfl rfl rfl rfl rfl rfl
    nn := ⟨cNN K, gl _ (by decide), hx_c X G c ⟨fr_of X G c (j := 58) rfl, fr_of X G c (j := 74) rfl⟩ gl, fNI K, fdN, hNn, of_decide_eq_true (pkB c.nn 27 rfl), of_decide_eq_true (pkB c.nn 28 rfl), hBn⟩ }
end
end K64

set_option Elab.async false
set_option linter.all false
set_option maxRecDepth 100000
set_option maxHeartbeats 4000000
/-! ZE: the end. -/
namespace K64
open PySem PySem.Spec PyProof.Rows L2
/-- the row's walk from a promise that holds while no repr is under way -/
theorem end_walk {l : PySem.W.OpenLaw} {n k : Nat} {q : Program} {loose : List Str} {XP : (Str → Option Value) → Heap → Prop} {YP : World → Heap → Prop} {d : DefRec} {x : Str}
    (hn : l.most = some n) (hn2 : n ≤ sizeLine) (hdf : d.params.defaults = []) (hr : Room k callerA)
    (F : ∀ (w : World) (mg : Str → Option Value) (fa : Addr) (h : Heap), YP w h → h.Ns mainGlobals mg → mg d.name = some (.ref fa) → ∃ (K : Fg) (fd : FuncData) (c P' : Addr) (sp : Sp), K.In h ∧ h.get? P' = some oT ∧ K.lookup P' = none ∧ PySem.W.CodeHd h c P' ∧
      (∀ (s : Shared) (u : Value), BindsTo s fd ⟨[u], []⟩ [(x, u)]) ∧ (∀ (H : Hp) (a : Addr) (ns : List Int), ns.length ≤ n → H P' = some (.tbl #[]) → SqL K H a (ns.map V.int) → sp [.ref a] H (fun v _ => v = .bl true) fun _ _ _ => False) ∧
      ∀ base : Heap, K.In base → base.Ns mainGlobals mg → LamX.TabB base mg c P' → FnOkG l.prog w K mg base CX0 k fa fd [x] sp) :
    PySem.W.WalkO q loose XP YP l.row.toRowW d [] (fun f vs => PySem.call f vs) :=
  Att.attach_callB hn hdf fun w _ _ mg _ fa _ _ _ _ _ _ ns G Y _ _ _ hmg hobj hints hlen _ hg => by
    obtain ⟨K, fd, c, P', sp, KX, hT, nT, C, hb, hsp, hF⟩ := F w mg fa _ Y G.T.g hmg
    exact end_call KX G.T.g G.T.b G.T.builtins G.T.nolimit hg hT nT C G.T.bmain hobj hints (Nat.le_trans hlen hn2) hr hF hb fun H hH hS => hsp H _ ns hlen hH hS
theorem room12 : Room 12 callerA := ⟨rfl, by decide, by decide⟩
theorem end_F (w : World) (mg : Str → Option Value) (fa : Addr) (h : Heap) (Y : hk.says w h) (G : h.Ns mainGlobals mg) (hmg : mg ("law" : Str) = some (.ref fa)) : ∃ (K : Fg) (fd : FuncData) (c P' : Addr) (sp : Sp), K.In h ∧ h.get? P' = some oT ∧ K.lookup P' = none ∧ PySem.W.CodeHd h c P' ∧
      (∀ (s : Shared) (u : Value), BindsTo s fd ⟨[u], []⟩ [("_law_script", u)]) ∧ (∀ (H : Hp) (a : Addr) (ns : List Int), ns.length ≤ 63 → H P' = some (.tbl #[]) → SqL K H a (ns.map V.int) → sp [.ref a] H (fun v _ => v = .bl true) fun _ _ _ => False) ∧
      ∀ base : Heap, K.In base → base.Ns mainGlobals mg → LamX.TabB base mg c P' → FnOkG (PySem.Challenge.rw_childnotes_k64_whole_changes).prog w K mg base CX0 12 fa fd ["_law_script"] sp := by
  obtain ⟨K, KX, c⟩ := Y
  have S := fs_of KX G c
  obtain ⟨f, fd, FD, hm⟩ := S.k_law
  obtain ⟨fR, fdR, FR, hmR⟩ := S.k_law_is_right
  obtain rfl : f = fa := by
    rw [hm] at hmg
    have e := Option.some.inj hmg
    cases e
    rfl
  have hgR : fR = He.ga K "_law_is_right" := by
    have e := hmR.symm.trans (He.glo_ok KX G (c.t.d.fact 45 (f := .glo "_law_is_right") rfl))
    have e2 := Option.some.inj e
    cases e2
    rfl
  obtain ⟨oc, od, dV, kV, doc, pm, an, cdv, ct, osl, e1, lk, hcd, _⟩ := FR.ex
  obtain ⟨cc, hcc⟩ := He.codeIn_ref hcd
  have hfc : fdR.code = .ref cc := by rw [e1, hcc]
  have hco : He.codeOf K dR = cc := He.codeOf_eq (p := dR) (by show K.lookup (He.ga K "_law_is_right") = _; rw [← hgR]; exact lk) hfc
  have b := FunD.bindsA (ps := ["_law_script"]) FD fun _ _ _ _ _ _ us hl => match us, hl with | [_], _ => rfl
  have hd : PySem.W.codeHdIn K cc (He.tabOf K cc) = true := by
    have := c.hd
    rw [← hco]
    exact this
  have hout : K.lookup (He.tabOf K cc) = none := by
    have := c.out
    rw [← hco]
    exact this
  have hemp : h.get? (He.tabOf K cc) = some oT := by
    have := c.emp
    rw [← hco]
    exact this
  exact ⟨K, fd, cc, He.tabOf K cc, sp_law K (He.tabOf K cc), KX, hemp, hout, PySem.W.codeHd_of_K KX hd, fun s u => b s [u] rfl,
    fun H a ns hl hH hS => ⟨rfl, a, ns, rfl, hS, hl, hH, fun _ => rfl⟩, fun base _ _ TB => law_fn S FD FR hmR hfc TB⟩
end K64
open PySem PySem.W PySem.Calls PyProof.Rows
theorem PySem.Challenge.cw_childnotes_k64_whole_changes_holds : PySem.Challenge.rw_childnotes_k64_whole_changes.Holds := by
  w_on; o_law
  refine HandSHeadRun.head_any (r := OpenLaw.row PySem.Challenge.rw_childnotes_k64_whole_changes) (q := view (OpenLaw.row PySem.Challenge.rw_childnotes_k64_whole_changes).prog [69]) (H := K64.hk) (ob := K64.ob) (M := 6000) (loose := K64.names) (d := HandSHeadRun.topDef (OpenLaw.row PySem.Challenge.rw_childnotes_k64_whole_changes).prog 69) (kwd := []) K64.ob_eq
    (by kernel_rfl) (fun s => by kernel_rfl) K64.run (by kernel_rfl) (by kernel_rfl) (by kernel_rfl) (by rfl) (by first | assumption | decide +kernel) (by decide +kernel) ⟨rfl, rfl, rfl, rfl, rfl, by decide +kernel⟩ ?hw ?hc
  case hw => w_witness2
  case hc =>
    refine K64.end_walk (l := PySem.Challenge.rw_childnotes_k64_whole_changes) (n := 63) (k := 12) (x := "_law_script") rfl (by decide) (by kernel_rfl) K64.room12 fun w mg fa h Y G hmg0 => ?_
    have hmg : mg ("law" : PySem.Str) = some (.ref fa) := by
      have e : (HandSHeadRun.topDef (OpenLaw.row PySem.Challenge.rw_childnotes_k64_whole_changes).prog 69).name = ("law" : PySem.Str) := by kernel_rfl
      rw [← e]
      exact hmg0
    exact K64.end_F w mg fa h Y G hmg
