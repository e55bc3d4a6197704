import PyProof.Rows.All
import Wide.All
import OpenK.AllK
import Wide.FinOn
import HandS.ForMost
import HandS.IsInst
import HandS.TupAny
import HandS.Zip
import HandS.Walk
import HandS.Wide
import HandS.Strs
import HandS.TupSets
import HandS.Flow
import HandS.Conv
import PySem.Challenge.RW_keptopen_k02_whole_parts_of_halls
import HandS.Defaults
import HandS.MakeKwOnly
import KE.GoesMore
import KE.GoesEnum
import KE.KDictZip
import KE.SortData
set_option Elab.async false
set_option maxRecDepth 100000
set_option maxHeartbeats 4000000
set_option linter.all false
namespace Kp
open PySem L2
def top (i : Nat) : Stmt := PySem.Challenge.pw_keptopen_k02_whole_parts_of_halls.main.body.getD i (.Pass ⟨0, 0, 0, 0⟩)
abbrev sIsInteger : Stmt := top 2
theorem scIsInteger : FnScope ["thing"] ["thing"] (defScope sIsInteger) := ⟨rfl, rfl, rfl, by decide +kernel, rfl, by decide +kernel, by decide +kernel⟩
abbrev sIsNumber : Stmt := top 3
theorem scIsNumber : FnScope ["thing"] ["thing"] (defScope sIsNumber) := ⟨rfl, rfl, rfl, by decide +kernel, rfl, by decide +kernel, by decide +kernel⟩
abbrev sIsIndex : Stmt := top 4
theorem scIsIndex : FnScope ["thing", "size"] ["thing", "size"] (defScope sIsIndex) := ⟨rfl, rfl, rfl, by decide +kernel, rfl, by decide +kernel, by decide +kernel⟩
abbrev sIsName : Stmt := top 5
theorem scIsName : FnScope ["thing", "sign"] ["thing"] (defScope sIsName) := ⟨rfl, rfl, rfl, by decide +kernel, rfl, by decide +kernel, by decide +kernel⟩
abbrev sIsTupleOf : Stmt := top 6
theorem scIsTupleOf : FnScope ["thing", "size"] ["thing", "size"] (defScope sIsTupleOf) := ⟨rfl, rfl, rfl, by decide +kernel, rfl, by decide +kernel, by decide +kernel⟩
abbrev sAreAscending : Stmt := top 7
theorem scAreAscending : FnScope ["things", "one", "other"] ["things"] (defScope sAreAscending) := ⟨rfl, rfl, rfl, by decide +kernel, rfl, by decide +kernel, by decide +kernel⟩
abbrev sAreNames : Stmt := top 8
theorem scAreNames : FnScope ["thing", "one"] ["thing"] (defScope sAreNames) := ⟨rfl, rfl, rfl, by decide +kernel, rfl, by decide +kernel, by decide +kernel⟩
abbrev sIsChests : Stmt := top 9
theorem scIsChests : FnScope ["thing"] ["thing"] (defScope sIsChests) := ⟨rfl, rfl, rfl, by decide +kernel, rfl, by decide +kernel, by decide +kernel⟩
abbrev sChestsFault : Stmt := top 11
theorem scChestsFault : FnScope ["chests", "k", "chest"] ["chests"] (defScope sChestsFault) := ⟨rfl, rfl, rfl, by decide +kernel, rfl, by decide +kernel, by decide +kernel⟩
abbrev sSizesFault : Stmt := top 12
theorem scSizesFault : FnScope ["chests", "sizes", "k", "size"] ["chests", "sizes"] (defScope sSizesFault) := ⟨rfl, rfl, rfl, by decide +kernel, rfl, by decide +kernel, by decide +kernel⟩
abbrev sIsLotBy : Stmt := top 13
theorem scIsLotBy : FnScope ["sizes", "thing", "chest"] ["sizes", "thing"] (defScope sIsLotBy) := ⟨rfl, rfl, rfl, by decide +kernel, rfl, by decide +kernel, by decide +kernel⟩
abbrev sIsRowBy : Stmt := top 14
theorem scIsRowBy : FnScope ["sizes", "lot", "thing", "chest", "one"] ["sizes", "lot", "thing"] (defScope sIsRowBy) := ⟨rfl, rfl, rfl, by decide +kernel, rfl, by decide +kernel, by decide +kernel⟩
abbrev sSealFault : Stmt := top 15
theorem scSealFault : FnScope ["sizes", "thing", "k", "lot", "rows", "j", "row"] ["sizes", "thing", "k"] (defScope sSealFault) := ⟨rfl, rfl, rfl, by decide +kernel, rfl, by decide +kernel, by decide +kernel⟩
abbrev sSizesBy : Stmt := top 16
theorem scSizesBy : FnScope ["hall"] ["hall"] (defScope sSizesBy) := ⟨rfl, rfl, rfl, by decide +kernel, rfl, by decide +kernel, by decide +kernel⟩
abbrev sHallFault : Stmt := top 17
theorem scHallFault : FnScope ["thing", "fault", "sizes", "faults", "found", "one", "k", "seal"] ["thing"] (defScope sHallFault) := ⟨rfl, rfl, rfl, by decide +kernel, rfl, by decide +kernel, by decide +kernel⟩
abbrev sSealsWith : Stmt := top 18
theorem scSealsWith : FnScope ["hall", "chest", "k", "lot", "rows"] ["hall", "chest"] (defScope sSealsWith) := ⟨rfl, rfl, rfl, by decide +kernel, rfl, by decide +kernel, by decide +kernel⟩
abbrev sGatesIn : Stmt := top 19
theorem scGatesIn : FnScope ["hall", "pairs", "lot", "rows", "one", "other"] ["hall"] (defScope sGatesIn) := ⟨rfl, rfl, rfl, by decide +kernel, rfl, by decide +kernel, by decide +kernel⟩
abbrev sWant : Stmt := top 25
theorem scWant : FnScope ["is_right", "word", "at"] ["is_right", "word", "at"] (defScope sWant) := ⟨rfl, rfl, rfl, by decide +kernel, rfl, by decide +kernel, by decide +kernel⟩
abbrev sWantHall : Stmt := top 26
theorem scWantHall : FnScope ["hall"] ["hall"] (defScope sWantHall) := ⟨rfl, rfl, rfl, by decide +kernel, rfl, by decide +kernel, by decide +kernel⟩
abbrev sWantChest : Stmt := top 27
theorem scWantChest : FnScope ["hall", "chest"] ["hall", "chest"] (defScope sWantChest) := ⟨rfl, rfl, rfl, by decide +kernel, rfl, by decide +kernel, by decide +kernel⟩
abbrev sSizeOf : Stmt := top 29
theorem scSizeOf : FnScope ["hall", "chest"] ["hall", "chest"] (defScope sSizeOf) := ⟨rfl, rfl, rfl, by decide +kernel, rfl, by decide +kernel, by decide +kernel⟩
abbrev sSealsOf : Stmt := top 30
theorem scSealsOf : FnScope ["hall", "chest"] ["hall", "chest"] (defScope sSealsOf) := ⟨rfl, rfl, rfl, by decide +kernel, rfl, by decide +kernel, by decide +kernel⟩
abbrev sGatesOf : Stmt := top 31
theorem scGatesOf : FnScope ["hall"] ["hall"] (defScope sGatesOf) := ⟨rfl, rfl, rfl, by decide +kernel, rfl, by decide +kernel, by decide +kernel⟩
abbrev sLawFeed : Stmt := top 33
theorem scLawFeed : FnScope ["_law_script", "_law_cell"] ["_law_script"] (defScope sLawFeed) := ⟨rfl, rfl, rfl, by decide +kernel, rfl, by decide +kernel, by decide +kernel⟩
abbrev sLawDraw : Stmt := top 34
theorem scLawDraw : FnScope ["_law_feed_here", "_law_limit", "_law_figure", "_law_spot", "_law_cells", "_law_cell", "_law_blend"] ["_law_feed_here", "_law_limit"] (defScope sLawDraw) := ⟨rfl, rfl, rfl, by decide +kernel, rfl, by decide +kernel, by decide +kernel⟩
abbrev sLawPick : Stmt := top 35
theorem scLawPick : FnScope ["_law_feed_here", "_law_some"] ["_law_feed_here", "_law_some"] (defScope sLawPick) := ⟨rfl, rfl, rfl, by decide +kernel, rfl, by decide +kernel, by decide +kernel⟩
abbrev sLawSame : Stmt := top 36
theorem scLawSame : FnScope ["_law_told", "_law_due"] ["_law_told", "_law_due"] (defScope sLawSame) := ⟨rfl, rfl, rfl, by decide +kernel, rfl, by decide +kernel, by decide +kernel⟩
abbrev sLawACrowd : Stmt := top 37
theorem scLawACrowd : FnScope ["_law_feed_here", "_law_most", "_law_pools", "_law_left", "_law_found", "_law_lap"] ["_law_feed_here", "_law_most"] (defScope sLawACrowd) := ⟨rfl, rfl, rfl, by decide +kernel, rfl, by decide +kernel, by decide +kernel⟩
abbrev sLawASeal : Stmt := top 38
theorem scLawASeal : FnScope ["_law_feed_here", "_law_crowd", "_law_widths", "_law_left", "_law_some", "_law_lap", "_law_limits", "_law_found", "_law_one", "_law_limit"] ["_law_feed_here", "_law_crowd", "_law_widths"] (defScope sLawASeal) := ⟨rfl, rfl, rfl, by decide +kernel, rfl, by decide +kernel, by decide +kernel⟩
abbrev sLawAHall : Stmt := top 39
theorem scLawAHall : FnScope ["_law_feed_here", "_law_most", "_law_crowd", "_law_widths", "_law_some", "_law_one", "_law_lap"] ["_law_feed_here", "_law_most"] (defScope sLawAHall) := ⟨rfl, rfl, rfl, by decide +kernel, rfl, by decide +kernel, by decide +kernel⟩
abbrev sLawIsRight : Stmt := top 40
theorem scLawIsRight : FnScope ["_law_den", "_law_crowd", "_law_widths", "_law_some", "_law_k", "_law_one", "_law_own", "_law_told", "_law_found", "_law_other", "_law_both", "_law_j", "_law_late"] ["_law_den"] (defScope sLawIsRight) := ⟨rfl, rfl, rfl, by decide +kernel, rfl, by decide +kernel, by decide +kernel⟩
abbrev sLaw : Stmt := top 41
theorem scLaw : FnScope ["_law_script", "_law_feed_here", "_law_lap", "_law_den", "_law_kept", "_law_twice"] ["_law_script"] (defScope sLaw) := ⟨rfl, rfl, rfl, by decide +kernel, rfl, by decide +kernel, by decide +kernel⟩
end Kp
/-! The roads that the layer lacks: defs that want the guards told, repr of data, keywords alone, enumerate of a tuple. -/
namespace Kp
open PySem PySem.Spec PyProof.Rows L2

/-! ### promises where no display stands open (the guards are told) -/
structure FnG (P : Program) (w : World) (K : PySem.W.Frag) (mg : Str → Option Value) (base : Heap) (k : Nat) (f : Addr) (fd : FuncData) (ps : List Str) (sp : Sp) : Prop where
  len : ∀ vs H Q E, sp vs H Q E → vs.length = ps.length
  run : ∀ (A : Around) (outer : List Env) (s : Shared) (H : Hp) (args : Args) (us : List Value) (vs : List V) (Q : VK) (E : XK), A.guards = some [] → Room k A → Env0 P w K mg base A outer s H →
    BindsTo s fd args (ps.zip us) → Vals vs us → sp vs H Q E → codeAny (model P w) A (.call (.ref f) args) (CR CX0 outer P w H s Q E) s

theorem guards_deeper (A : Around) (env : Env) : (A.deeper env).guards = A.guards := rfl

section
variable {P : Program} {w : World} {K : PySem.W.Frag} {mg : Str → Option Value} {base : Heap}
/-- a def by its body, the guards told -/
theorem okG {x qual : Str} {st : Stmt} {f : Addr} {fd : FuncData} {N ps : List Str} {k : Nat} {sp : Sp} (F : Fun K x qual st f fd) (S : FnScope N ps (defScope st)) (len : ∀ vs H Q E, sp vs H Q E → vs.length = ps.length)
    (body : ∀ (cdv : Value) (A : Around) (outer : List Env) (s : Shared) (H : Hp) (vs : List V) (Q : VK) (E : XK), A.guards = some [] → Room k (A.deeper (envOfC qual (defScope st) s.heap.objs.size f cdv)) → sp vs H Q E →
      ∃ t, PSs (cxOf CX0 P w K mg base N qual (defScope st) f cdv A outer s H E).nox (defBody st) t ∧ t { nx := fun _ H' => Q .non H', rt := Q } (start N vs) H) :
    FnG P w K mg base (k + 1) f fd ps sp := by
  obtain ⟨oc, od, kV, doc, pm, an, cdv, ct, osl, rfl, lk, hcd⟩ := F.ex
  refine ⟨len, fun A outer s H args us vs Q E hgu hr e0 hb r hsp => ?_⟩
  have hlen := len vs H Q E hsp
  have hKs : K.In s.heap := e0.mod.kin.keeps fun b o e => (e0.bs b o e).1
  have hlim : s.heap.NoLimit := e0.mod.nolimit.keeps fun b o e => (e0.bs b o e).1
  refine codeAny_call_function hr.depth (hKs _ _ lk) rfl S.co S.gen rfl (PySem.W.codeRec_of hKs hcd) (hb _ _ _ _ ?_)
  refine wpAny_newFunctionEnv_cells S.kind (fun y hy => ?_) fun env henv s1 inn => ?_
  · rcases S.par y.1 (List.of_mem_zip hy).1 with q | q
    · exact .inl q
    · exact .inr ⟨q, PySem.W.cellsFrom_some _ _ _ (.inl q)⟩
  · subst henv
    refine ⟨hlim.keeps inn.toInCall.keep, codeAny_func ?_⟩
    obtain ⟨t, ht, hq⟩ := body cdv A outer s H vs Q E hgu (hr.deeper _) hsp
    have J := inv_start (CX := CX0) (E := E) S hr.hd e0 hlen r inn
    refine wpAny_mono (ht.nox.run [] s1 (start N vs) H _ J hq) (fun fl s' hs => ?_) fun e s' hs => hs
    cases fl with
    | ret u => exact let ⟨v, _, H', J', rv, q⟩ := hs; ⟨v, H', J'.os, J'.bare, J'.base, J'.hok, rv, q⟩
    | next => exact let ⟨_, H', J', q⟩ := hs; ⟨V.non, H', J'.os, J'.bare, J'.base, J'.hok, rfl, q⟩
    | brk => exact let ⟨_, _, _, q⟩ := hs; q.elim
    | cont => exact let ⟨_, _, _, q⟩ := hs; q.elim
end

section
variable {X : Cx} {k : Nat} {f : Addr} {fd : FuncData} {ps : List Str} {sp : Sp} {x : Str} {p pos : Pos} {e : Expr} {es : List Expr} {t : TA}
/-- f(e, ..) of such a def -/
theorem pe_callG (hgu : X.A.guards = some []) (F : FnG X.prog X.w X.K X.mg X.base k f fd ps sp) (hr : Room k X.A) (hg : Gl X x) (hm : X.mg x = some (.ref f)) (hk : PySem.W.keepIn X.K (.ref f) = true) (hb : Binds X.K fd ps [])
    (ha : PA X (e :: es) t) (hdb : (x == ("__debug__" : Str)) = false := by decide) (he : starEach (e :: es) X.env = (false, eval e X.env) :: starEach es X.env := by rfl) (hpl : (backTo pos (starEach es X.env)).any (·.1) = false := by rfl) :
    PE X (.Call (.Name x p) (e :: es) [] pos) (fun σ H Q => t σ H fun vs H1 => sp vs H1 Q E0) := by
  refine ⟨fun pins s σ H Q I h => wpAny_Call_Name_kw (ld_glob I hg hm ?_ hdb)⟩
  refine PySem.W.callWith_K (h₀ := X.base) I.ok.mod.kin hk (thn (ha.run pos pins s σ H _ I h) fun us s1 ⟨vs, H1, I1, r, q⟩ => ⟨I1.kIn, ?_⟩) he hpl
  have hl : (us ++ []).length = ps.length := by
    rw [List.append_nil, ← r.length]
    exact F.len _ _ _ _ q
  have hbt := hb s1 us I1.kIn hl
  rw [List.append_nil] at hbt
  refine wpAny_call (codeAny_mono (F.run X.A X.stack s1 H1 ⟨us, []⟩ us vs Q E0 hgu hr I1.env0 hbt r q) fun r s' hq => ?_)
  cases r with
  | error e => exact (show False from hq).elim
  | ok fl =>
    cases fl with
    | ret u => exact I1.after hq
    | next => exact False.elim hq
    | brk => exact False.elim hq
    | cont => exact False.elim hq

/-- repr of data: its shown text -/
def rRepr (K : PySem.W.Frag) : List V → Hp → VK → Prop := fun xs H Q => ∃ (a : Addr) (d : PyData), xs = [.ref a] ∧ Dp K H (.ref a) d ∧ d.showable = true ∧ d.hasDict = false ∧ d.depth ≤ 60 ∧ d.shown.length ≤ sizeLine ∧ Q (.str d.shown) H
theorem call_repr (hgu : X.A.guards = some []) (hu : X.A.units + 64 < cLine) : CallR X (.builtin "repr") (rRepr X.K) := by
  intro pins s σ H xs us Q I r h
  obtain ⟨a, d, rfl, hd, h1, h2, h3, h4, q⟩ := h
  obtain ⟨u, rfl, ru⟩ := vals1 r
  obtain ⟨as, rd⟩ := Dp.reads I d (.ref a) u hd ru
  cases ru
  exact repr_of_reads' rd h1 (PyData.noDict_hsm h2) hgu (by omega) (fun _ _ e => e) (fun h' t tk kp => ⟨.str d.shown, H, I.kept (t' := tk) kp, ⟨_, rfl⟩, q⟩) h4
end

/-! ### f(k = v, ..): keywords alone -/
section
variable {X : Cx} {CX : CXT} {k : Nat} {f : Addr} {fd : FuncData} {ps ks : List Str} {sp : Sp} {E : XK} {x : Str} {p pos : Pos} {kws : List Keyword} {tk : TA} {g : List Value → List Value → List Value} {gV : List V → List V → List V}
theorem pe_callKw (F : FnOk X.prog X.w X.K X.mg X.base CX k f fd ps sp) (hr : Room k X.A) (hg : Gl X x) (hm : X.mg x = some (.ref f)) (hk : PySem.W.keepIn X.K (.ref f) = true) (hb : KBinds X.K fd ps ks g gV) (hx : Passes CX X E) (hkw : PK X kws tk)
    (hall : (backToKw pos (keywordEach kws X.env)).all (·.1.isSome) = true := by rfl) (hks : (backToKw pos (keywordEach kws X.env)).filterMap (·.1) = ks := by rfl) (hdb : (x == ("__debug__" : Str)) = false := by decide)
    (hpl : ((backTo pos (starEach [] X.env)).any (·.1) || (backToKw pos (keywordEach kws X.env)).any (·.1.isNone)) = false := by rfl) :
    PE X (.Call (.Name x p) [] kws pos) (tCallK sp gV E tNil tk) := by
  refine ⟨fun pins s σ H Q I h => wpAny_Call_Name_kw (ld_glob I hg hm ?_ hdb)⟩
  refine PySem.W.callWith_KW0 (h₀ := X.base) I.ok.mod.kin hk hall ?_ hpl
  refine thn (hkw.run pos pins s σ H _ I h) fun ws s2 ⟨zs, H2, I2, rz, q2⟩ => ⟨I2.kIn, ?_⟩
  rw [hks]
  exact run_fnk F hr hb hx I2 .nil rz q2
end

/-! ### enumerate of a tuple -/
theorem meets_enum1 {v : Value} {o : Obj} {Hq : Heap → Prop} (B : Begins v o Hq) :
    Meets (Builtin.«enumerate.__new__» ⟨[.type "enumerate", v], []⟩) (fun _ R s => Hq s.heap ∧
      R (.ok (.ret (.ref (s.heap.push o).objs.size))) { s with heap := (s.heap.push o).push { cls := .type "enumerate", data := .fields #[.none, .bool false, .ref s.heap.objs.size, rawInt 0, .none, .none] } }) :=
  .of_wp fun prog w A R s h => by
    obtain ⟨hp, gs, dr, tk, os⟩ := s
    obtain ⟨h1, h⟩ := h
    have hsub := sub_enumerate
    have it1 : ∀ {A' : Around} {E : Value → Shared → Prop} {Q : Value → Shared → Prop}, Q (.ref hp.objs.size) ⟨hp.push o, gs, dr, tk, os⟩ → wpAny (model prog w) A' (pyIter v) Q E ⟨hp, gs, dr, tk, os⟩ :=
      fun q => B.iter prog w _ _ ⟨hp, gs, dr, tk, os⟩ _ h1 q
    wp_walk using it1
    refine wpAny_stack_any fun st => wpAny_pure ?_
    split
    · rename_i c _ _ _ _ _
      cases (c == Value.type "enumerate") <;> (wp_walk using it1; exact ⟨_, rfl, h⟩)
    · wp_walk using it1
      exact ⟨_, rfl, h⟩
theorem enum1_begins {prog : Program} {w : World} {A : Around} {E : Value → Shared → Prop} {s : Shared} {v : Value} {o : Obj} {Hq : Heap → Prop} {Q : Value → Shared → Prop} (B : Begins v o Hq) (h1 : Hq s.heap)
    (h : ∀ h', IsEnum h' (s.heap.objs.size + 1) s.heap.objs.size 0 .none → h'.get? s.heap.objs.size = some o → h'.objs.size = s.heap.objs.size + 2 →
      (∀ b o, s.heap.get? b = some o → h'.get? b = some o) → Q (.ref (s.heap.objs.size + 1)) { s with heap := h' }) :
    wpAny (model prog w) A (call (.type "enumerate") [v]) Q E s := by
  refine callType_new F.called_enumerate (by decide) (F.typeCall_enumerate_1 _) (F.newCall_enumerate_1 _) (fun obj => F.args_object_init_2 obj _) F.entry_enumerate_new (meets_enum1 B) ⟨h1, ?_⟩
  have sz : (s.heap.push o).objs.size = s.heap.objs.size + 1 := Heap.size_push ..
  show _ ∧ _
  rw [sz]
  have at1 : IsEnum ((s.heap.push o).push { cls := .type "enumerate", data := .fields #[.none, .bool false, .ref s.heap.objs.size, rawInt 0, .none, .none] }) (s.heap.objs.size + 1) s.heap.objs.size 0 .none := by
    have q := Heap.get?_push_size (s.heap.push o) (o := { cls := .type "enumerate", data := .fields #[.none, .bool false, .ref s.heap.objs.size, rawInt 0, .none, .none] }) rfl
    rwa [sz] at q
  exact ⟨⟨_, at1, rfl⟩, h _ at1 (Heap.get?_push_of_some _ (Heap.get?_push_size _ B.free)) (by rw [Heap.size_push, sz]) fun b u x => Heap.get?_push_of_some _ (Heap.get?_push_of_some _ x)⟩

/-- the tuple at a, each item in a new pair with its number -/
def ItEn (K : PySem.W.Frag) (a : Addr) : It :=
  ⟨fun i H => ∃ (xs : List V) (x : V), SqT K H a xs ∧ xs[i]? = some x,
   fun i H v H' => ∃ T x, v = .ref T ∧ H T = none ∧ H' = upd H T (.tup [.int (i : Nat), x]) ∧ ∀ xs, SqT K H a xs → xs[i]? = some x,
   fun i H => ∃ xs : List V, SqT K H a xs ∧ xs.length = i⟩
theorem turn_enumT {P : Program} {w : World} {K : PySem.W.Frag} {elts : List Expr} {kk : Nat} {tpos : Pos} (a e it : Addr) :
    Turn P w K (.Tuple elts kk tpos) (ItEn K a) [e, it] e (fun i h => (∃ old, IsEnum h e it ((i : Nat) : Int) old) ∧ h.IsTupleIter it a i ∧ e ≠ it) where
  mem := List.mem_cons_self
  obj := fun i h st b hb => by
    obtain ⟨⟨old, he⟩, ⟨o, ho, _, hd⟩, _⟩ := st
    rcases List.mem_cons.mp hb with z | hb
    · exact ⟨_, z ▸ he, fun v q => by cases q⟩
    · exact ⟨o, (List.mem_singleton.mp hb) ▸ ho, fun v q => by rw [hd] at q; cases q⟩
  keep := fun i h h' st k => ⟨st.1.imp fun old he => k e (by simp) _ he, st.2.1.at fun o q => k it (by simp) o q, st.2.2⟩
  item := by
    intro X hP hw hK hc i pins s σ H E I hf st hg
    subst hP hw hK
    obtain ⟨⟨old, he⟩, hit, hne⟩ := st
    obtain ⟨xs, x, hq, hx⟩ := hg
    obtain ⟨its, rv, tp, _⟩ := I.tuple hq
    obtain ⟨u, hu, ru⟩ := rv.get hx
    have hea : e ≠ a := by
      rintro rfl
      obtain ⟨o, ho, hcl, _⟩ := tp
      have q := ho.symm.trans he
      cases q
      exact absurd (show Value.type "enumerate" = Value.type "tuple" from hcl) (by decide +kernel)
    have hia : a ≠ it := by
      rintro rfl
      obtain ⟨o, ho, hcl, _⟩ := tp
      obtain ⟨o', ho', hcl', _⟩ := hit
      have q := ho.symm.trans ho'
      cases q
      exact absurd (show Value.type "tuple" = Value.type "tuple_iterator" from hcl.symm.trans hcl') (by decide +kernel)
    have hil : i < its.toArray.size := by
      rw [List.size_toArray]
      exact (List.getElem?_eq_some_iff.mp hu).1
    have hel : e < s.heap.objs.size := Heap.lt_size he
    have hitl : it < s.heap.objs.size := let ⟨_, q, _⟩ := hit; Heap.lt_size q
    refine wpAny_pyNext_enum_itemC (Draws.tuple (prog := X.prog) (w := X.w) (A := X.A.in1) (I.ok.hd hc) it a hia its.toArray) he ⟨hit, tp⟩ hil hne (by simp [hne, hea]) fun v h' tk hv ho hst hT hsz hk => ?_
    obtain rfl : v = u := by
      have q : its[i]? = some v := by simpa using hv
      exact Option.some.inj (q.symm.trans hu)
    refine ⟨_, rfl, wpAny_letOwnedTupleGo_enum (s := { s with heap := h', toks := tk + 1 }) ho fun h'' he' sb => ?_⟩
    have hT2 : h''.get? s.heap.objs.size = some { cls := .type "tuple", data := .seq #[.int i tk, v] } := (sb.2 _ (Nat.ne_of_gt hel)).trans hT
    have nw : ObjOk X.prog X.w (upd H s.heap.objs.size (.tup [.int (i : Nat), x])) h'' s.heap.objs.size (.tup [.int (i : Nat), x]) :=
      ⟨by show 2 ≤ sizeLine; decide, [.int i tk, v], .cons ⟨_, rfl⟩ (.cons ru .nil), ⟨_, hT2, rfl, _, rfl⟩⟩
    have stay : ∀ b o, b ∉ [e, it] → s.heap.get? b = some o → h''.get? b = some o := fun b o hb q => by
      simp only [List.mem_cons, List.not_mem_nil, or_false, not_or] at hb
      exact (sb.2 b hb.1).trans (hk b o hb.1 hb.2 q)
    refine ⟨.ref s.heap.objs.size, _, I.turnedNew (t' := tk + 1) (ch := [e, it]) stay hf (Nat.le_refl _) nw, rfl,
      ⟨_, x, rfl, I.hok.fresh (Nat.le_refl _), rfl, fun ys hy => by rw [I.tuple_inj hy hq]; exact hx⟩, ⟨⟨v, ?_⟩, hst.1.at fun o q => (sb.2 it (Ne.symm hne)).trans q, hne⟩, fun b hb => ?_⟩
    · rw [show ((i + 1 : Nat) : Int) = (i : Int) + 1 by omega]
      exact he'
    · have hlt : b < s.heap.objs.size := by
        rcases List.mem_cons.mp hb with z | hb
        · rw [z]; exact hel
        · rw [List.mem_singleton.mp hb]; exact hitl
      rw [upd_ne (Nat.ne_of_lt hlt)]
      exact (hf b hb).1
  done := by
    intro X hP hw hK hc i pins s σ H E I hf st hg
    subst hP hw hK
    obtain ⟨⟨old, he⟩, hit, hne⟩ := st
    obtain ⟨xs, hq, hx⟩ := hg
    obtain ⟨its, rv, tp, _⟩ := I.tuple hq
    have hia : a ≠ it := by
      rintro rfl
      obtain ⟨o, ho, hcl, _⟩ := tp
      obtain ⟨o', ho', hcl', _⟩ := hit
      have q := ho.symm.trans ho'
      cases q
      exact absurd (show Value.type "tuple" = Value.type "tuple_iterator" from hcl.symm.trans hcl') (by decide +kernel)
    have hn : its.toArray.size = i := by rw [List.size_toArray, ← rv.length, hx]
    have D := Draws.tuple (prog := X.prog) (w := X.w) (A := X.A.in1) (I.ok.hd hc) it a hia its.toArray
    rw [hn] at D
    obtain ⟨f0, f1, f2, f3, f4, f5⟩ := hf it (by simp)
    exact wpAny_pyNext_enum_endD D he ⟨hit, tp⟩ fun h' eb => ⟨rfl, I.turned (t' := s.toks) (fun b o hb q => eb b o hb q) f0 f1 f3 f4 f5⟩
  self := fun A i s Q E st h => let ⟨⟨_, he⟩, _⟩ := st; wpAny_pyIter_enum he h
def iEnT (K : PySem.W.Frag) (ta : TA) : TI := fun σ H R => ta σ H fun vs H1 => ∃ a xs, vs = [.ref a] ∧ SqT K H1 a xs ∧ R (ItEn K a) H1
theorem pi_enumT {X : Cx} {e : Expr} {ta : TA} {p pos tpos : Pos} {elts : List Expr} {kk : Nat} (hg : Gl X "enumerate") (hm : X.mg "enumerate" = none) (ha : PA X [e] ta) (hs : starEach [e] X.env = [(false, eval e X.env)] := by rfl) :
    PI X (.Tuple elts kk tpos) (.Call (.Name "enumerate" p) [e] [] pos) (iEnT X.K ta) := by
  refine ⟨fun pins s σ H R I h => ?_⟩
  refine Call_ (ld_blt I hg hm boot_enumerate (PyProof.Rows.callWith_type1 (thn (ha.run pos pins s σ H _ I h) fun us s1 ⟨vs, H1, I1, r1, q1⟩ => ?_) hs rfl))
  obtain ⟨a, xs, rfl, hq, q⟩ := q1
  cases r1 with
  | cons r rr =>
    cases rr
    cases r
    obtain ⟨its, rv, tp, _⟩ := I1.tuple hq
    refine enum1_begins (begins_tuple a its.toArray) (show s1.heap.IsTuple a its.toArray from tp) fun h' he hit hsz hk => wpAny_pyIter_enum he ?_
    refine ⟨s1.heap.objs.size + 1, [s1.heap.objs.size + 1, s1.heap.objs.size], _, _, H1, rfl, I1.kept (t' := s1.toks) hk, turn_enumT a (s1.heap.objs.size + 1) s1.heap.objs.size, ⟨⟨.none, he⟩, ⟨_, hit, rfl, rfl⟩, Nat.succ_ne_self _⟩, fun b hb => ?_, q⟩
    have hle : s1.heap.objs.size ≤ b := by
      rcases List.mem_cons.mp hb with z | hb
      · rw [z]; exact Nat.le_succ _
      · rw [List.mem_singleton.mp hb]; exact Nat.le_refl _
    exact I1.fpOk hle (I1.hok.fresh hle)
theorem walk_enT {K : PySem.W.Frag} {a : Addr} {xs : List V} : Walk (ItEn K a) xs.length (fun H => SqT K H a xs) (YPair (fun i => some (.int (i : Nat))) (fun i => xs[i]?)) :=
  ⟨fun i _ hi q => ⟨xs, xs[i], q, by simp [hi]⟩, fun _ q => ⟨xs, q, rfl⟩, fun i H v H' _ q y => let ⟨T, x, h1, h2, h3, h4⟩ := y; ⟨T, .int (i : Nat), x, h1, h2, h3, rfl, h4 xs q⟩⟩
theorem walk_zipT {K : PySem.W.Frag} {a b : Addr} {xs ys : List V} {n : Nat} (hn : n = min xs.length ys.length) : Walk (RZ.ItzT K a b) n (fun H => SqT K H a xs ∧ SqT K H b ys) (YPair (fun i => xs[i]?) (fun i => ys[i]?)) := by
  subst hn
  refine ⟨fun i _ hi q => ?_, fun _ q => ⟨xs, ys, q.1, q.2, by omega⟩, fun i H v H' _ q y => ?_⟩
  · exact ⟨xs, ys, xs[i]'(by omega), ys[i]'(by omega), q.1, q.2, by simp [show i < xs.length by omega], by simp [show i < ys.length by omega]⟩
  · obtain ⟨T, x, z, h1, h2, h3, h4, h5⟩ := y
    exact ⟨T, x, z, h1, h2, h3, h4 xs q.1, h5 ys q.2⟩
end Kp
/-! List comprehensions of any number of clauses: one judgement for what stands behind a clause's store and tests. -/
namespace Kp
open PySem PySem.Spec PyProof.Rows L2

abbrev Ff : Value → Shared → Prop := fun _ _ => False
theorem noF {α : Type} {t : Sem α} {Q Q' : α → Shared → Prop} {E : Value → Shared → Prop} {M : Model} {A : Around} {s : Shared} (h : wpAny M A t Q Ff s) (hq : ∀ a s, Q a s → Q' a s) : wpAny M A t Q' E s :=
  wpAny_mono h hq fun _ _ z => z.elim

/-- a clause's tests, as the model asks them -/
abbrev testsOf' (ifs : List Expr) (env : Env) : Sem Bool :=
  forIn ifs true fun c r => if r = true then do let ok ← isTrue c env (eval c env); pure (ForInStep.yield ok) else pure (ForInStep.yield r)

section
variable {prog : Program} {w : World} {A : Around} {R : Result → Shared → Prop} {s : Shared} {elt t i : Expr} {ifs : List Expr} {gens : List Comprehension} {scope : Scope} {pos : Pos} {it acc : Value} {env : Env} {d : Nat}
/-- one turn: what is drawn, its store, its tests, then B -/
def oneTurn (prog : Program) (w : World) (A : Around) (it : Value) (t : Expr) (ifs : List Expr) (env : Env) (fin : Shared → Prop) (nxt : Shared → Prop) (B : (Shared → Prop) → Shared → Prop) (s : Shared) : Prop :=
  wpAny (model prog w) A (pyNext it) (fun r s1 => match r with
    | none => fin s1
    | some v => wpAny (model prog w) A (letOwnedTupleGo t it v) (fun _ s2 => wpAny (model prog w) A (assign t env v) (fun _ s3 =>
        wpAny (model prog w) A (testsOf' ifs env) (fun ok s4 => if ok = true then B nxt s4 else nxt s4) Ff s3) Ff s2) Ff s1) Ff s
/-- the loop of the last clause -/
theorem loopEnd (hd : gens[d]? = some ⟨t, i, ifs, 0⟩) (hn : gens[d + 1]? = none) (I : Nat → Shared → Prop)
    (turn : ∀ n s, I n s → oneTurn prog w A it t ifs env (R (.ok .next)) (fun s' => ∃ m, m < n ∧ I m s')
      (fun nxt s4 => wpAny (model prog w) A (eval elt env) (fun x s5 => wpAny (model prog w) A (call (.builtin "list.append") [acc, x]) (fun _ s6 => nxt s6) Ff s5) Ff s4) s)
    (n : Nat) (h : I n s) : codeAny (model prog w) A (.compLoop (.ListComp elt gens scope pos) d it acc env) R s := by
  refine codeAny_loop rfl I (fun n s hI => ?_) n h
  show wpAny _ A ((compTurn (.ListComp elt gens scope pos) d it acc env).onRaise (fun x => do noteFrame x env; theTreesLotGoes x)) _ _ s
  refine wpAny_noted ?_
  unfold compTurn
  dsimp only
  rw [hd]
  dsimp only
  rw [hn]
  refine wpAny_bind (wpAny_standAt (wpAny_bind (noF (turn n s hI) fun r s1 h1 => ?_)))
  cases r with
  | none => exact wpAny_pure h1
  | some v =>
    refine wpAny_bind (noF h1 fun _ s2 h2 => wpAny_bind (noF h2 fun _ s3 h3 => wpAny_bind (noF h3 fun ok s4 h4 => ?_)))
    cases ok with
    | false => exact wpAny_pure ⟨rfl, h4⟩
    | true => exact wpAny_bind (wpAny_bind (noF h4 fun x s5 h5 => wpAny_bind (noF h5 fun _ s6 h6 => wpAny_pure (wpAny_pure ⟨rfl, h6⟩))))
/-- the loop of a clause that another one follows -/
theorem loopMid {t1 i1 : Expr} {ifs1 : List Expr} (hd : gens[d]? = some ⟨t, i, ifs, 0⟩) (hn : gens[d + 1]? = some ⟨t1, i1, ifs1, 0⟩) (hs : ∀ x, foldedSetIterable i1 env x = pure x) (I : Nat → Shared → Prop)
    (turn : ∀ n s, I n s → oneTurn prog w A it t ifs env (R (.ok .next)) (fun s' => ∃ m, m < n ∧ I m s')
      (fun nxt s4 => wpAny (model prog w) A (eval i1 env) (fun x s5 => wpAny (model prog w) A (pyIter x) (fun it1 s6 => codeAny (model prog w) A (.compStart (.ListComp elt gens scope pos) (d + 1) it1 acc env)
        (fun r s7 => match r with
          | .ok _ => nxt s7
          | .error _ => False) s6) Ff s5) Ff s4) s)
    (n : Nat) (h : I n s) : codeAny (model prog w) A (.compLoop (.ListComp elt gens scope pos) d it acc env) R s := by
  refine codeAny_loop rfl I (fun n s hI => ?_) n h
  show wpAny _ A ((compTurn (.ListComp elt gens scope pos) d it acc env).onRaise (fun x => do noteFrame x env; theTreesLotGoes x)) _ _ s
  refine wpAny_noted ?_
  unfold compTurn
  dsimp only
  rw [hd]
  dsimp only
  rw [hn]
  refine wpAny_bind (wpAny_standAt (wpAny_bind (noF (turn n s hI) fun r s1 h1 => ?_)))
  cases r with
  | none => exact wpAny_pure h1
  | some v =>
    refine wpAny_bind (noF h1 fun _ s2 h2 => wpAny_bind (noF h2 fun _ s3 h3 => wpAny_bind (noF h3 fun ok s4 h4 => ?_)))
    cases ok with
    | false => exact wpAny_pure ⟨rfl, h4⟩
    | true =>
      refine wpAny_bind (noF h4 fun x s5 h5 => ?_)
      refine wpAny_bind (wpAny_standAt (wpAny_bind (wpAny_of_eq (hs x) (wpAny_bind (wpAny_holding (noF h5 fun it1 s6 h6 => ?_))))))
      refine wpAny_bind (wpAny_runOwn ?_)
      rw [Around.mark_none]
      refine codeAny_mono h6 fun r s7 hr => ?_
      cases r with
      | ok f =>
        first
          | exact wpAny_pure ⟨rfl, hr⟩
          | exact wpAny_bind (wpAny_pure (wpAny_pure ⟨rfl, hr⟩))
      | error e => exact hr.elim
/-- a clause's start -/
theorem startAt (hd : gens[d]? = some ⟨t, i, ifs, 0⟩) (h0 : codeAny (model prog w) A (.compLoop (.ListComp elt gens scope pos) d it acc env) R s)
    (h : wpAny (model prog w) A (pyIter it) (fun it' s' => codeAny (model prog w) A (.compLoop (.ListComp elt gens scope pos) d it' acc env) R s') (notedBy (model prog w) A env fun x s' => R (.error x) s') s) :
    codeAny (model prog w) A (.compStart (.ListComp elt gens scope pos) d it acc env) R s := by
  refine codeAny_of_tree ?_
  show wpAny _ _ ((compStart (.ListComp elt gens scope pos) d it acc env).onRaise (fun x => do noteFrame x env; standAt theWindowsPlace)) _ _ s
  refine wpAny_notedAt ?_
  unfold compStart
  have hc : (clausesOf (.ListComp elt gens scope pos))[d]? = some ⟨t, i, ifs, 0⟩ := hd
  rw [hc]
  show wpAny _ _ (ask >>= _) _ _ s
  refine wpAny_bind (wpAny_askSetting (wpAny_ite ?_))
  split
  · first
      | exact wpAny_bind (wpAny_pure (wpAny_pure (And.intro rfl h0)))
      | exact wpAny_pure (And.intro rfl h0)
  · refine wpAny_bind (wpAny_rule ?_)
    show wpAny _ _ (standAt i.pos >>= _) _ _ s
    exact wpAny_bind (wpAny_standAt (wpAny_bind (wpAny_mono h (fun it' s' h' => wpAny_pure (And.intro rfl h')) fun _ _ x => x)))
end

/-! ### behind a clause's store and tests -/
abbrev TN := Addr → L2.St → Hp → (Hp → Prop) → Prop
/-- X: the block's context; d: the clause; D: the new list; vs: the slots that what follows may change -/
def goesOn (X : Cx) (elt : Expr) (gens : List Comprehension) (scope : Scope) (pos : Pos) (D : Addr) (d : Nat) (P : Shared → Prop) (s : Shared) : Prop :=
  match gens[d + 1]? with
  | none => wpAny (model X.prog X.w) X.A (eval elt X.env) (fun x s5 => wpAny (model X.prog X.w) X.A (call (.builtin "list.append") [.ref D, x]) (fun _ s6 => P s6) Ff s5) Ff s
  | some g => wpAny (model X.prog X.w) X.A (eval g.iter X.env) (fun x s5 => wpAny (model X.prog X.w) X.A (pyIter x) (fun it1 s6 => codeAny (model X.prog X.w) X.A (.compStart (.ListComp elt gens scope pos) (d + 1) it1 (.ref D) X.env)
        (fun r s7 => match r with
          | .ok _ => P s7
          | .error _ => False) s6) Ff s5) Ff s
structure PN (X : Cx) (elt : Expr) (gens : List Comprehension) (scope : Scope) (pos : Pos) (d : Nat) (vs : List Nat) (u : TN) : Prop where
  run : ∀ (D : Addr) (pins : List (Addr × Obj)) (s : Shared) (σ : L2.St) (H : Hp) (Nx : Hp → Prop), Inv X pins σ H s → u D σ H Nx → goesOn X elt gens scope pos D d (fun s' => ∃ H', Inv X pins (wipe σ vs) H' s' ∧ Nx H') s
/-- the last clause: the element is put to the list -/
def nEnd (te : TE) : TN := fun D σ H Nx => te σ H fun y H4 => ∃ acc, H4 D = some (.lst acc) ∧ acc.length < sizeLine ∧ Nx (upd H4 D (.lst (acc ++ [y])))
/-- one more clause -/
def nMid (wi : TI) (g : TG) (tt : TT) (u : TN) (vs : List Nat) : TN := fun D σ H Nx => wi σ H fun J H4 => ∃ W : Nat → Nat → Hp → Prop, (∃ m, W 0 m H4) ∧ ∀ j k H, W j k H →
  (J.stop j H ∧ Nx H) ∨ (J.go j H ∧ ∃ Nx1 : Hp → Prop, (∀ H', Nx1 H' → ∃ k', k' < k ∧ W (j + 1) k' H') ∧ ∀ x H', J.yld j H x H' → g x (wipe σ vs) H' fun σ3 H5 => wipe σ3 vs = wipe σ vs ∧ tt σ3 H5 fun b H6 =>
    if b = true then u D σ3 H6 Nx1 else Nx1 H6)
section
variable {X : Cx} {elt : Expr} {gens : List Comprehension} {scope : Scope} {pos : Pos} {d : Nat}
theorem pn_end {te : TE} (hx : X.xe = Ff) (hn : gens[d + 1]? = none) (he : PE X elt te) : PN X elt gens scope pos d [] (nEnd te) := by
  refine ⟨fun D pins s σ H Nx I h => ?_⟩
  unfold goesOn
  rw [hn]
  have q := he.run pins s σ H _ I h
  rw [hx] at q
  refine noF q fun z s5 ⟨yv, H5, I5, r5, acc, hD, hz, nx⟩ => ?_
  exact app_ok I5 hD hz r5 fun s6 I6 => ⟨_, I6, nx⟩
theorem wipe_twice {σ : L2.St} {vs ws : List Nat} (hs : ∀ i ∈ ws, i ∈ vs) {σ3 : L2.St} (e : wipe σ3 vs = wipe σ vs) : (wipe σ vs).length = (wipe σ3 ws).length ∧ ∀ (j : Nat) v, (wipe σ vs)[j]? = some (some v) → (wipe σ3 ws)[j]? = some (some v) := by
  refine ⟨by rw [← e, wipe_length, wipe_length], fun j v q => ?_⟩
  rw [← e] at q
  obtain ⟨q1, q2⟩ := wipe_some q
  rw [wipe_out fun z => q2 (hs j z)]
  exact q1
theorem pn_mid {tg iter : Expr} {ifs : List Expr} {wi : TI} {g : TG} {tt : TT} {u : TN} {vs ws : List Nat} (hx : X.xe = Ff) (hc : X.calm = true) (hn : gens[d + 1]? = some ⟨tg, iter, ifs, 0⟩) (hi : PI X tg iter wi) (hg : PG X tg g) (ht : PTs X ifs tt)
    (hu : PN X elt gens scope pos (d + 1) ws u) (hw : ∀ i ∈ ws, i ∈ vs) (hs : ∀ t1 i1 ifs1, gens[d + 1 + 1]? = some ⟨t1, i1, ifs1, 0⟩ → ∀ x, foldedSetIterable i1 X.env x = pure x) (hz : ∀ g', gens[d + 1 + 1]? = some g' → g'.is_async = 0) :
    PN X elt gens scope pos d vs (nMid wi g tt u vs) := by
  refine ⟨fun D pins s σ H Nx I h => ?_⟩
  unfold goesOn
  rw [hn]
  dsimp only
  have q := hi.run pins s σ H _ I h
  rw [hx] at q
  refine noF q fun xv s5 hq => noF hq fun itv s6 h6 => ?_
  obtain ⟨it, fp, tn, J, H6, rfl, I6, T, st6, f6, W, ⟨m0, w0⟩, turn⟩ := h6
  have stat : ∀ {H' : Hp}, (∀ b ∈ fp, H' b = none) → ∀ b ∈ fp, FpOk X pins H' b := fun hf b hb => ⟨hf b hb, (f6 b hb).2⟩
  have body : ∀ (n : Nat) (s7 : Shared), (∃ j H', Inv X pins (wipe σ vs) H' s7 ∧ tn j s7.heap ∧ (∀ b ∈ fp, H' b = none) ∧ W j n H') →
      oneTurn X.prog X.w X.A (.ref it) tg ifs X.env (fun s' => ∃ H', Inv X pins (wipe σ vs) H' s' ∧ Nx H') (fun s' => ∃ m, m < n ∧ ∃ j H', Inv X pins (wipe σ vs) H' s' ∧ tn j s'.heap ∧ (∀ b ∈ fp, H' b = none) ∧ W j m H')
        (fun nxt s8 => goesOn X elt gens scope pos D (d + 1) nxt s8) s7 := by
    rintro n s7 ⟨j, H7, I7, st7, n7, w7⟩
    unfold oneTurn
    rcases turn j n H7 w7 with ⟨stop, nx⟩ | ⟨go, Nx1, hNx, step⟩
    · refine noF (T.done X rfl rfl rfl hc j pins s7 _ H7 Ff I7 (stat n7) st7 stop) fun r s8 ⟨hr, I8⟩ => ?_
      subst hr
      exact ⟨H7, I8, nx⟩
    · refine noF (T.item X rfl rfl rfl hc j pins s7 _ H7 Ff I7 (stat n7) st7 go) fun r s8 ⟨uv, hr, h8⟩ => ?_
      subst hr
      refine noF h8 fun _ s9 ⟨x, H9, I9, r9, y9, st9, n9⟩ => ?_
      have P9 := I9.pinned (stat n9) (T.obj _ _ st9)
      have g9 := hg.run _ s9 _ H9 x uv _ P9 r9 (step x H9 y9)
      rw [hx] at g9
      refine noF g9 fun _ s10 ⟨σ10, H10, I10, e10, q10⟩ => ?_
      have t10 := ht.run _ s10 σ10 H10 _ I10 q10
      rw [hx] at t10
      refine noF t10 fun b s11 ⟨H11, I11, q11⟩ => ?_
      have fin : ∀ {σ' : L2.St} {s' : Shared} {H' : Hp}, Inv X (pins ++ pinsAt fp s9.heap) σ' H' s' → ((wipe σ vs).length = σ'.length ∧ ∀ (j : Nat) v, (wipe σ vs)[j]? = some (some v) → σ'[j]? = some (some v)) → Nx1 H' →
          ∃ m, m < n ∧ ∃ j H', Inv X pins (wipe σ vs) H' s' ∧ tn j s'.heap ∧ (∀ b ∈ fp, H' b = none) ∧ W j m H' := fun {σ' s' H'} I' hk nx => by
        obtain ⟨m', hm, w'⟩ := hNx H' nx
        have pinned : ∀ b ∈ fp, ∀ o, s9.heap.get? b = some o → s'.heap.get? b = some o ∧ H' b = none := fun b hb o e =>
          have z := I'.pin (b, o) (List.mem_append_right _ (List.mem_append_right _ (mem_pinsAt hb e)))
          ⟨z.1, z.2.1⟩
        refine ⟨m', hm, j + 1, H', (I'.unpinned (pins := pins)).weak hk.1 hk.2, T.keep _ _ _ st9 fun b hb o e => (pinned b hb o e).1, fun b hb => ?_, w'⟩
        obtain ⟨o, e, _⟩ := T.obj _ _ st9 b hb
        exact (pinned b hb o e).2
      cases b with
      | false =>
        simp only [Bool.false_eq_true, if_false] at q11 ⊢
        exact fin I11 (wipe_twice (ws := []) (fun _ z => nomatch z) e10) q11
      | true =>
        simp only [if_true] at q11 ⊢
        have g11 := hu.run D _ s11 σ10 H11 Nx1 I11 q11
        unfold goesOn at g11 ⊢
        cases e2 : gens[d + 1 + 1]? with
        | none =>
          rw [e2] at g11
          exact noF g11 fun x s12 h12 => noF h12 fun _ s13 ⟨H13, I13, nx⟩ => fin I13 (wipe_twice hw e10) nx
        | some g2 =>
          rw [e2] at g11
          exact noF g11 fun x s12 h12 => noF h12 fun it2 s13 h13 => codeAny_mono h13 fun r s14 hr => by
            cases r with
            | ok f =>
              obtain ⟨H14, I14, nx⟩ := hr
              exact fin I14 (wipe_twice hw e10) nx
            | error e => exact hr
  have loop : codeAny (model X.prog X.w) X.A (.compLoop (.ListComp elt gens scope pos) (d + 1) (.ref it) (.ref D) X.env)
      (fun r s7 => match r with
        | .ok _ => ∃ H', Inv X pins (wipe σ vs) H' s7 ∧ Nx H'
        | .error _ => False) s6 := by
    have i0 : ∃ j H', Inv X pins (wipe σ vs) H' s6 ∧ tn j s6.heap ∧ (∀ b ∈ fp, H' b = none) ∧ W j m0 H' :=
      ⟨0, H6, I6.weak (wipe_length _ _) fun j v e => (wipe_some e).1, st6, fun b hb => (f6 b hb).1, w0⟩
    cases e2 : gens[d + 1 + 1]? with
    | none =>
      refine loopEnd hn e2 (fun n s' => ∃ j H', Inv X pins (wipe σ vs) H' s' ∧ tn j s'.heap ∧ (∀ b ∈ fp, H' b = none) ∧ W j n H') (fun n s7 hI => ?_) m0 i0
      have z := body n s7 hI
      unfold goesOn at z
      rw [e2] at z
      exact z
    | some g2 =>
      obtain ⟨t2, i2, ifs2, a2⟩ := g2
      obtain rfl : a2 = 0 := hz _ e2
      refine loopMid hn e2 (hs _ _ _ e2) (fun n s' => ∃ j H', Inv X pins (wipe σ vs) H' s' ∧ tn j s'.heap ∧ (∀ b ∈ fp, H' b = none) ∧ W j n H') (fun n s7 hI => ?_) m0 i0
      have z := body n s7 hI
      unfold goesOn at z
      rw [e2] at z
      exact z
  exact startAt hn loop (T.self X.A 0 _ _ _ st6 loop)
end
end Kp
/-! .. and the comprehension itself, given to a name. -/
namespace Kp
open PySem PySem.Spec PyProof.Rows L2

/-- [elt for tg in iter if .. for .. ..]: u says what stands behind the first clause -/
def tLcN (wi : TI) (g : TG) (tt : TT) (u : TN) (vs : List Nat) : TE := fun σ H Q => wi σ H fun J H1 => ∀ D, H1 D = none → ∃ W : Nat → Nat → Hp → Prop, (∃ m, W 0 m (upd H1 D (.lst []))) ∧ ∀ j k H, W j k H →
  (J.stop j H ∧ Q (.ref D) H) ∨ (J.go j H ∧ ∃ Nx : Hp → Prop, (∀ H', Nx H' → ∃ k', k' < k ∧ W (j + 1) k' H') ∧ ∀ x H', J.yld j H x H' → g x (wipe σ vs) H' fun σ2 H2 => wipe σ2 vs = wipe σ vs ∧ tt σ2 H2 fun b H3 =>
    if b = true then u D σ2 H3 Nx else Nx H3)

section
variable {X : Cx} {elt tg iter tg1 iter1 : Expr} {ifs ifs1 : List Expr} {rest : List Comprehension} {scope : Scope} {pos : Pos} {own : List (Str × Nat)} {ws : List Nat} {wi : TI} {g : TG} {tt : TT} {u : TN}
theorem lcN_core {pins : List (Addr × Obj)} {s : Shared} {σ : L2.St} {H : Hp} {Q : VK} {pos' : Pos} {use : Option (Value → Sem Unit)} {Qf : Value → Shared → Prop}
    (hc : X.calm = true) (hN : X.N.Nodup) (I : Inv X pins σ H s) (hi : PI X tg iter wi) (ok : BlkOk X.N X.env.scope scope own) (hw : ∀ i ∈ ws, i ∈ own.map (·.2))
    (hg : ∀ (s : Shared) (H : Hp) (C : Addr) (cl : List (Str × Addr)) (fp : List Addr), PG (X.blk s H scope (compEnvC scope cl C X.env) fp) tg g)
    (ht : ∀ (s : Shared) (H : Hp) (C : Addr) (cl : List (Str × Addr)) (fp : List Addr), PTs (X.blk s H scope (compEnvC scope cl C X.env) fp) ifs tt)
    (hu : ∀ (s : Shared) (H : Hp) (C : Addr) (cl : List (Str × Addr)) (fp : List Addr), PN (X.blk s H scope (compEnvC scope cl C X.env) fp) elt (⟨tg, iter, ifs, 0⟩ :: ⟨tg1, iter1, ifs1, 0⟩ :: rest) scope pos 0 ws u)
    (hs : ∀ x, foldedSetIterable iter X.env x = pure x) (hs1 : ∀ env x, foldedSetIterable iter1 env x = pure x)
    (h : tLcN wi g tt u (own.map (·.2)) σ H Q)
    (hend : ∀ D C s' m H', Inv X pins σ H' s' → Q (.ref D) H' → s'.heap.Ns C m → FpOk X pins H' C → compPost (model X.prog X.w) X.A X.xe use Qf (.ref D) C (.ok .next) s') :
    wpAny (model X.prog X.w) X.A (comprehension (.ListComp elt (⟨tg, iter, ifs, 0⟩ :: ⟨tg1, iter1, ifs1, 0⟩ :: rest) scope pos) scope X.env pos' (newList []) false (eval iter X.env) use) Qf X.xe s := by
  have caught : ∀ y ∈ scope.names, y.2 = .free → ∃ c, X.env.cells.lookup y.1 = some c := fun y hy e => (ok.free y hy e).elim (fun k => I.ok.has _ (.inl k)) fun k => I.ok.has _ (.inr k)
  refine wpAny_comprehension_free (use := use) rfl hs (closure_ok caught) ok.kind (fun y hy e => (ok.uniq y hy).trans (congrArg some e)) (thn (hi.run pins s σ H _ I h) fun xv s1 hx => thn hx fun itv s2 h2 => ?_)
  obtain ⟨it, fp, tn, J, H2, rfl, I2, T, st2, f2, q⟩ := h2
  refine wpAny_newObj_type (newEnv_comp ?_) (by show 0 ≤ sizeLine; decide)
  obtain ⟨D, hD⟩ : ∃ D, s2.heap.objs.size = D := ⟨_, rfl⟩
  rw [hD]
  have free2 : H2 D = none := I2.hok.fresh (Nat.le_of_eq hD)
  obtain ⟨W, ⟨m0, w0⟩, turn⟩ := q D free2
  obtain ⟨s3, hs3⟩ : ∃ s3 : Shared, { s2 with heap := s2.heap.push { cls := .type "list", data := .seq ([] : List Value).toArray } } = s3 := ⟨_, rfl⟩
  rw [hs3]
  have up3 : ∀ b o, s2.heap.get? b = some o → s3.heap.get? b = some o := fun b o e => by
    rw [← hs3]
    exact Heap.get?_push_of_some _ e
  have size3 : s3.heap.objs.size = s2.heap.objs.size + 1 := by
    rw [← hs3]
    exact Heap.size_push ..
  have I3 : Inv X pins σ (upd H2 D (.lst [])) s3 := by
    have new : s3.heap.get? D = some { cls := .type "list", data := .seq ([] : List Value).toArray } := by
      rw [← hs3, ← hD]
      exact Heap.get?_push_size _ rfl
    rw [← hs3] at new ⊢
    exact I2.laid (t' := s2.toks) (fun b o e => Heap.get?_push_of_some _ e) (Nat.le_of_eq hD) ⟨Nat.zero_le _, [], 0, .nil, new⟩
  have below : ∀ b ∈ fp, b < s2.heap.objs.size := fun b hb => let ⟨_, e, _⟩ := T.obj _ _ st2 b hb; Heap.lt_size e
  have f3 : ∀ b ∈ fp, FpOk X pins (upd H2 D (.lst [])) b ∧ b < s3.heap.objs.size := fun b hb => by
    have lt := below b hb
    refine ⟨⟨(upd_ne (by rw [← hD]; exact Nat.ne_of_lt lt)).trans (f2 b hb).1, (f2 b hb).2⟩, ?_⟩
    rw [size3]
    exact Nat.lt_succ_of_lt lt
  have st3 : tn 0 s3.heap := T.keep _ _ _ st2 fun b _ o e => up3 b o e
  have I4 := block_start I3 ok hN f3
  obtain ⟨cl, hcl⟩ : ∃ cl, cellsFrom (s3.heap.objs.size + 1) scope.names (cloFrom X.env.cells scope.names []) = cl := ⟨_, rfl⟩
  rw [hcl] at I4 ⊢
  obtain ⟨H3, hH3⟩ : ∃ H3, upd H2 D (.lst []) = H3 := ⟨_, rfl⟩
  rw [hH3] at I3 I4 w0 f3
  have pg := hg s3 H3 s3.heap.objs.size cl fp
  have pt := ht s3 H3 s3.heap.objs.size cl fp
  have pu := hu s3 H3 s3.heap.objs.size cl fp
  obtain ⟨ce, hce⟩ : ∃ ce, compEnvC scope cl s3.heap.objs.size X.env = ce := ⟨_, rfl⟩
  have cloc : ce.locals = s3.heap.objs.size := by rw [← hce]; rfl
  show codeAny _ _ (.compStart _ 0 (.ref it) (.ref D) (compEnvC scope cl s3.heap.objs.size X.env)) _ { s3 with heap := pushCells (s3.heap.push { cls := .type "dict", data := .dict #[] }) scope.names }
  rw [hce] at I4 pg pt pu ⊢
  obtain ⟨s4, hs4⟩ : ∃ s4 : Shared, { s3 with heap := pushCells (s3.heap.push { cls := .type "dict", data := .dict #[] }) scope.names } = s4 := ⟨_, rfl⟩
  have st4 : tn 0 s4.heap := T.keep _ _ _ st3 fun b _ o e => by
    rw [← hs4]
    exact pushCells_keeps _ _ _ _ (Heap.get?_push_of_some _ e)
  rw [hs4] at I4 ⊢
  obtain ⟨Y, hY⟩ : ∃ Y, X.blk s3 H3 scope ce fp = Y := ⟨_, rfl⟩
  have yP : Y.prog = X.prog := by rw [← hY]
  have yW : Y.w = X.w := by rw [← hY]
  have yK : Y.K = X.K := by rw [← hY]
  have yC : Y.calm = true := by rw [← hY]; exact hc
  have yx : Y.ex = fp := by rw [← hY]
  have yp : Y.pn = [] := by rw [← hY]
  have yA : Y.A = X.A := by rw [← hY]
  have yE : Y.env = ce := by rw [← hY]
  have yX : Y.xe = Ff := by rw [← hY]
  have yS : Y.stack = X.stack := by rw [← hY]
  have yO : Y.fs = frs X.stack := by rw [← hY]
  have y0 : Y.s_0 = s3 := by rw [← hY]
  have yH : Y.H_0 = H3 := by rw [← hY]
  rw [hY] at I4 pg pt pu
  have stat : ∀ {σ' : L2.St} {H' : Hp} {s' : Shared}, Inv Y [] σ' H' s' → (∀ b ∈ fp, H' b = none) → ∀ b ∈ fp, FpOk Y [] H' b := fun {σ' H' s'} I' hn b hb => by
    have hb' : b ∈ Y.ex := by rw [yx]; exact hb
    exact ⟨hn b hb, (I'.ok.exf b hb').1, I'.ok.exfs b hb', .inl hb', fun x c e => (I'.ok.exf b hb').2 x c e, fun p hp => by rw [yp] at hp; cases hp⟩
  have cM : model Y.prog Y.w = model X.prog X.w := by rw [yP, yW]
  have loop : codeAny (model X.prog X.w) X.A (.compLoop (.ListComp elt (⟨tg, iter, ifs, 0⟩ :: ⟨tg1, iter1, ifs1, 0⟩ :: rest) scope pos) 0 (.ref it) (.ref D) ce) (compPost (model X.prog X.w) X.A X.xe use Qf (.ref D) s3.heap.objs.size) s4 := by
    refine loopMid (d := 0) rfl rfl (hs1 ce) (fun n s' => ∃ j H', Inv Y [] (wipe σ (own.map (·.2))) H' s' ∧ tn j s'.heap ∧ (∀ b ∈ fp, H' b = none) ∧ W j n H') ?_ m0 ⟨0, H3, I4, st4, fun b hb => (f3 b hb).1.1, w0⟩
    rintro n s5 ⟨j, H5, I5, st5, n5, w5⟩
    unfold oneTurn
    rcases turn j n H5 w5 with ⟨stop, qq⟩ | ⟨go, Nx, hNx, step⟩
    · have td := T.done Y yP yW yK yC j [] s5 _ H5 Ff I5 (stat I5 n5) st5 stop
      rw [yA] at td
      refine noF td fun r s6 ⟨hr, I6⟩ => ?_
      subst hr
      have un := I6.base
      rw [yO, yx, y0, yH] at un
      have os6 := I6.os
      rw [y0] at os6
      have ok6 := I6.hok
      rw [yP, yW] at ok6
      have I7 : Inv X pins σ H5 s6 := I3.call' (ch := fp) os6 un ok6 I6.bare fun b hb => ⟨(f3 b hb).1.2.2.2.1, (f3 b hb).1.2.1, (f3 b hb).1.2.2.2.2.1, (f3 b hb).1.2.2.2.2.2⟩
      have fr := I6.free
      obtain ⟨m, hn, _⟩ := I6.loc
      rw [yE, cloc] at fr hn
      exact hend D s3.heap.objs.size s6 m H5 I7 qq hn (I3.fpOk (Nat.le_refl _) fr)
    · have ti := T.item Y yP yW yK yC j [] s5 _ H5 Ff I5 (stat I5 n5) st5 go
      rw [yA] at ti
      refine noF ti fun r s6 ⟨uv, hr, h6⟩ => ?_
      subst hr
      refine noF h6 fun _ s7 ⟨x, H7, I7, r7, y7, st7, n7⟩ => ?_
      have P7 := I7.pinned (stat I7 n7) (T.obj _ _ st7)
      have g7 := pg.run _ s7 _ H7 x uv _ P7 r7 (step x H7 y7)
      rw [cM, yA, yE, yX] at g7
      refine noF g7 fun _ s8 ⟨σ8, H8, I8, e8, q8⟩ => ?_
      have t8 := pt.run _ s8 σ8 H8 _ I8 q8
      rw [cM, yA, yE, yX] at t8
      refine noF t8 fun b s9 ⟨H9, I9, q9⟩ => ?_
      have fin : ∀ {σ' : L2.St} {s' : Shared} {H' : Hp}, Inv Y ([] ++ pinsAt fp s7.heap) σ' H' s' → ((wipe σ (own.map (·.2))).length = σ'.length ∧ ∀ (j : Nat) v, (wipe σ (own.map (·.2)))[j]? = some (some v) → σ'[j]? = some (some v)) → Nx H' →
          ∃ m, m < n ∧ ∃ j H', Inv Y [] (wipe σ (own.map (·.2))) H' s' ∧ tn j s'.heap ∧ (∀ b ∈ fp, H' b = none) ∧ W j m H' := fun {σ' s' H'} I' hk nx => by
        obtain ⟨m', hm, w'⟩ := hNx H' nx
        have pinned : ∀ b ∈ fp, ∀ o, s7.heap.get? b = some o → s'.heap.get? b = some o ∧ H' b = none := fun b hb o e =>
          have z := I'.pin (b, o) (List.mem_append_right _ (List.mem_append_right _ (mem_pinsAt hb e)))
          ⟨z.1, z.2.1⟩
        refine ⟨m', hm, j + 1, H', (I'.unpinned (pins := [])).weak hk.1 hk.2, T.keep _ _ _ st7 fun b hb o e => (pinned b hb o e).1, fun b hb => ?_, w'⟩
        obtain ⟨o, e, _⟩ := T.obj _ _ st7 b hb
        exact (pinned b hb o e).2
      cases b with
      | false =>
        simp only [Bool.false_eq_true, if_false] at q9 ⊢
        exact fin I9 (wipe_twice (ws := []) (fun _ z => nomatch z) e8) q9
      | true =>
        simp only [if_true] at q9 ⊢
        have g9 := pu.run D _ s9 σ8 H9 Nx I9 q9
        unfold goesOn at g9
        rw [cM, yA, yE] at g9
        exact noF g9 fun x s12 h12 => noF h12 fun it2 s13 h13 => codeAny_mono h13 fun r s14 hr => by
          cases r with
          | ok f =>
            obtain ⟨H14, I14, nx⟩ := hr
            exact fin I14 (wipe_twice hw e8) nx
          | error e => exact hr
  exact codeAny_compStart_list loop (T.self X.A 0 _ _ _ st4 loop)
/-- name = [..], several clauses -/
theorem ps_setLcN {i : Nat} {y : Str} {py spos : Pos} (hc : X.calm = true) (hN : X.N.Nodup) (hy : X.N[i]? = some y) (hyl : X.env.scope.names.lookup y = some .local)
    (hsw : swapsWith (.ListComp elt (⟨tg, iter, ifs, 0⟩ :: ⟨tg1, iter1, ifs1, 0⟩ :: rest) scope pos) (some (.Name y py)) spos.line X.env = pure true) (hi : PI X tg iter wi) (ok : BlkOk X.N X.env.scope scope own) (hw : ∀ i ∈ ws, i ∈ own.map (·.2))
    (hg : ∀ (s : Shared) (H : Hp) (C : Addr) (cl : List (Str × Addr)) (fp : List Addr), PG (X.blk s H scope (compEnvC scope cl C X.env) fp) tg g)
    (ht : ∀ (s : Shared) (H : Hp) (C : Addr) (cl : List (Str × Addr)) (fp : List Addr), PTs (X.blk s H scope (compEnvC scope cl C X.env) fp) ifs tt)
    (hu : ∀ (s : Shared) (H : Hp) (C : Addr) (cl : List (Str × Addr)) (fp : List Addr), PN (X.blk s H scope (compEnvC scope cl C X.env) fp) elt (⟨tg, iter, ifs, 0⟩ :: ⟨tg1, iter1, ifs1, 0⟩ :: rest) scope pos 0 ws u)
    (hs : ∀ x, foldedSetIterable iter X.env x = pure x := by intro _; rfl) (hs1 : ∀ env x, foldedSetIterable iter1 env x = pure x := by intro _ _; rfl) :
    PS X (.Assign [.Name y py] (.ListComp elt (⟨tg, iter, ifs, 0⟩ :: ⟨tg1, iter1, ifs1, 0⟩ :: rest) scope pos) spos) (tAsg (tLcN wi g tt u (own.map (·.2))) (gName i)) := by
  refine ⟨fun pins s σ H Dn I h => ?_⟩
  rw [exec_Assign_Name_used _ _ _ _ hsw]
  refine wpAny_bind (wpAny_standAt (wpAny_bind ?_))
  show wpAny _ X.A (do let _ ← comprehension (.ListComp elt (⟨tg, iter, ifs, 0⟩ :: ⟨tg1, iter1, ifs1, 0⟩ :: rest) scope pos) scope X.env (firstIterPos (⟨tg, iter, ifs, 0⟩ :: ⟨tg1, iter1, ifs1, 0⟩ :: rest) pos) (newList []) false (eval iter X.env) (some (assign (.Name y py) X.env))) _ _ s
  refine wpAny_bind (thn (lcN_core (Q := fun x H1 => gName i x σ H1 Dn.nx) (Qf := fun _ s' => SP X pins Dn .next s') hc hN I hi ok hw hg ht hu hs hs1 h fun L C s' m H' I' q hn f => ?_) fun _ s' hq => wpAny_pure (wpAny_pure hq))
  show wpAny _ _ (assign (.Name y py) X.env (.ref L)) _ _ _
  obtain ⟨f0, f1, f2, f3, f4, f5⟩ := f
  refine wpAny_assign_Name (store_ok2 (v := V.ref L) I' hN hy (.inl hyl) rfl (fun s2 I2 ⟨a, sb, ha⟩ => ?_) (.inr hyl))
  have apart : C ≠ a := ha.elim (fun z => by rw [z]; exact f1) fun z e => f4 y a z e.symm
  exact ⟨m, hn.sameBut sb apart, fun h3 sb3 => ⟨_, H', I2.turned (t' := s2.toks) (fun b o hb e => (sb3.2 b hb).trans e) f0 f1 f3 f4 f5, q⟩⟩
end
end Kp
/-! list(zip(t, u)) of two tuples of one length. -/
namespace Kp
open PySem PySem.Spec PyProof.Rows L2

/-- the heap has grown: what was tracked stays, what is new is told -/
theorem Inv_grown {X : Cx} {pins : List (Addr × Obj)} {σ : L2.St} {H H' : Hp} {s : Shared} {h' : Heap} {t' : Nat} (I : Inv X pins σ H s) (k : ∀ b o, s.heap.get? b = some o → h'.get? b = some o)
    (old : ∀ b, b < s.heap.objs.size → H' b = H b) (new : ∀ b o, s.heap.objs.size ≤ b → H' b = some o → ObjOk X.prog X.w H' h' b o) : Inv X pins σ H' { s with heap := h', toks := t' } := by
  have up : ∀ b o, H b = some o → H' b = some o := fun b o e => (old b (I.hok.lt e)).trans e
  refine I.step (g' := s.gens) (d' := s.drawn) (ch := []) (fun b hb => nomatch hb) (fun b o _ _ _ e _ => k b o e) (fun b o _ _ _ e _ => ⟨o.slots, k b o e⟩) (fun b o _ e n => (old b (Heap.lt_size e)).trans n)
    (fun b o _ e => ⟨o, k b o e⟩) (fun b xs e => up b _ e) (fun b o u e => up b _ e) (fun b ps e => ⟨#[], by rw [up b _ e]; simp⟩) (fun m hm => ?_) (fun b u e => ?_) I.bare
  · obtain ⟨o, es, ep, ho, r⟩ := hm
    exact ⟨o, es, ep, k _ _ ho, r⟩
  · rcases Nat.lt_or_ge b s.heap.objs.size with lt | ge
    · rw [old b lt] at e
      exact (I.hok b u e).stay (fun c v _ q => k c v q) (fun c q => up c _ q) fun c xs q => up c _ q
    · exact new b u ge e

section
variable {prog : Program} {w : World} {A : Around} {E : Value → Shared → Prop} {s : Shared}
theorem zip_no_len : typeLookup (.type "zip") "__len__" = pure none := am_miss_of_fast (by decide +kernel)
theorem zip_no_hint : typeLookup (.type "zip") "__length_hint__" = pure none := am_miss_of_fast (by decide +kernel)

/-- the next pair, the one before it still held -/
theorem zipT_item_held {z TI TO T i1 i2 l1 l2 : Addr} {f : Bool} {oT : Obj} {k1 k2 : Nat} {xs ys : Array Value} {x y : Value} {Q : Option Value → Shared → Prop} (D : ZipApart z TI TO i1 i2 l1 l2)
    (hz : IsZipHeld s.heap z TI TO T f) (hT : s.heap.get? T = some oT) (hTI : IsPair s.heap TI (.ref i1) (.ref i2))
    (h1 : s.heap.IsTupleIter i1 l1 k1) (h2 : s.heap.IsTupleIter i2 l2 k2) (hl1 : s.heap.IsTuple l1 xs) (hl2 : s.heap.IsTuple l2 ys) (hx : xs[k1]? = some x) (hy : ys[k2]? = some y)
    (hQ : ∀ h', IsZipHeld h' z TI TO T true → h'.IsTupleIter i1 l1 (k1 + 1) → h'.IsTupleIter i2 l2 (k2 + 1) → IsPair h' s.heap.objs.size x y → h'.objs.size = s.heap.objs.size + 1 →
      (∀ c o, c ≠ z → c ≠ i1 → c ≠ i2 → s.heap.get? c = some o → h'.get? c = some o) → Q (some (.ref s.heap.objs.size)) { s with heap := h' }) :
    wpAny (model prog w) A (pyNext (.ref z)) Q E s := by
  have ty : s.TypeIs (.ref z) "zip" := ⟨_, hz, rfl⟩
  unfold pyNext
  refine wpAny_bind (wpAny_attempt (wpAny_callSpecial?_slot (name := Str.ofString "__next__") ty F.slot_zip_next (wpAny_call_entry F.slot_zip_next ty F.entry_zip_next ?_ (F.args_zip_next_1 _))))
  show wpAny _ _ (field (.ref z) 2 >>= _) _ _ _
  refine wpAny_bind (wpAny_field hz rfl (x := .bool false) rfl ?_)
  show wpAny _ _ (field (.ref z) 3 >>= _) _ _ _
  refine wpAny_bind (wpAny_field hz rfl (x := .ref TI) rfl (wpAny_bind (wpAny_seqItems hTI rfl ?_)))
  show wpAny _ _ (Builtin.SmallTypes.ownedTupleIsFree (.ref z) >>= _) _ _ _
  refine wpAny_bind (wpAny_tupleHeld_zip hz hT fun g1 z1 b1 => ?_)
  simp only [Bool.false_eq_true, if_false]
  refine wpAny_bind ?_
  rw [← Array.forIn_toList]
  simp only [List.forIn_cons, List.forIn_nil]
  refine wpAny_bind (wpAny_bind (wpAny_holding ?_))
  show wpAny _ _ (Builtin.SmallTypes.nextOf (.ref i1) >>= _) _ _ _
  refine wpAny_bind (RZ.nextOf_tuple_item (s := { s with heap := g1 }) (h1.extBut b1.extBut D.i1z) (hl1.extBut b1.extBut D.l1z) hx fun g2 j1 b2 => wpAny_pure (wpAny_pure ?_))
  refine wpAny_bind (wpAny_bind (wpAny_holding ?_))
  show wpAny _ _ (Builtin.SmallTypes.nextOf (.ref i2) >>= _) _ _ _
  refine wpAny_bind (RZ.nextOf_tuple_item (s := { s with heap := g2 }) ((h2.extBut b1.extBut D.i2z).extBut b2.extBut D.i12.symm) ((hl2.extBut b1.extBut D.l2z).extBut b2.extBut D.l2i1) hy fun g3 j2 b3 => wpAny_pure (wpAny_pure (wpAny_pure ?_)))
  show wpAny _ _ (newTuple [x, y] >>= _) _ _ _
  refine wpAny_bind (wpAny_newTuple ?_)
  have sz : g3.objs.size = s.heap.objs.size := by rw [b3.1, b2.1, b1.1]
  have z3 : IsZipHeld g3 z TI TO T true := b3.extBut _ _ D.i2z.symm (b2.extBut _ _ D.i1z.symm z1)
  have rest : ∀ c o, c ≠ z → c ≠ i1 → c ≠ i2 → s.heap.get? c = some o → g3.get? c = some o := fun c o c1 c2 c3 e => b3.extBut _ _ c3 (b2.extBut _ _ c2 (b1.extBut _ _ c1 e))
  have j1' : g3.IsTupleIter i1 l1 (k1 + 1) := j1.extBut b3.extBut D.i12
  refine wpAny_pure ⟨_, rfl, wpAny_pure ?_⟩
  show Q (some (.ref g3.objs.size)) _
  have pr : IsPair (g3.push { cls := .type "tuple", data := .seq #[x, y] }) g3.objs.size x y := Heap.get?_push_size _ rfl
  have s4 : (g3.push { cls := .type "tuple", data := .seq #[x, y] }).objs.size = g3.objs.size + 1 := Heap.size_push ..
  rw [sz] at pr s4 ⊢
  exact hQ _ (Heap.get?_push_of_some _ z3) (j1'.at fun o e => Heap.get?_push_of_some _ e) (j2.at fun o e => Heap.get?_push_of_some _ e) pr s4 fun c o c1 c2 c3 e => Heap.get?_push_of_some _ (rest c o c1 c2 c3 e)
/-- the end, the last pair still held -/
theorem zipT_end_held {z TI TO T i1 i2 l1 l2 : Addr} {f : Bool} {oT : Obj} {k1 : Nat} {xs : Array Value} {Q : Option Value → Shared → Prop} (hh : A.handled = none) (D : ZipApart z TI TO i1 i2 l1 l2)
    (hz : IsZipHeld s.heap z TI TO T f) (hT : s.heap.get? T = some oT) (hTI : IsPair s.heap TI (.ref i1) (.ref i2))
    (h1 : s.heap.IsTupleIter i1 l1 k1) (hl1 : s.heap.IsTuple l1 xs) (hend : xs[k1]? = none)
    (hQ : ∀ h', (∀ c o, c ≠ z → c ≠ i1 → s.heap.get? c = some o → h'.get? c = some o) → Q none { s with heap := h' }) : wpAny (model prog w) A (pyNext (.ref z)) Q E s := by
  have ty : s.TypeIs (.ref z) "zip" := ⟨_, hz, rfl⟩
  unfold pyNext
  refine wpAny_bind (wpAny_attempt (wpAny_callSpecial?_slot (name := Str.ofString "__next__") ty F.slot_zip_next (wpAny_call_entry F.slot_zip_next ty F.entry_zip_next ?_ (F.args_zip_next_1 _))))
  show wpAny _ _ (field (.ref z) 2 >>= _) _ _ _
  refine wpAny_bind (wpAny_field hz rfl (x := .bool false) rfl ?_)
  show wpAny _ _ (field (.ref z) 3 >>= _) _ _ _
  refine wpAny_bind (wpAny_field hz rfl (x := .ref TI) rfl (wpAny_bind (wpAny_seqItems hTI rfl ?_)))
  show wpAny _ _ (Builtin.SmallTypes.ownedTupleIsFree (.ref z) >>= _) _ _ _
  refine wpAny_bind (wpAny_tupleHeld_zip hz hT fun g1 z1 b1 => ?_)
  simp only [Bool.false_eq_true, if_false]
  refine wpAny_bind ?_
  rw [← Array.forIn_toList]
  simp only [List.forIn_cons, List.forIn_nil]
  refine wpAny_bind (wpAny_bind (wpAny_holding ?_))
  show wpAny _ _ (Builtin.SmallTypes.nextOf (.ref i1) >>= _) _ _ _
  refine wpAny_bind (RZ.nextOf_tuple_end (s := { s with heap := g1 }) hh (h1.extBut b1.extBut D.i1z) (hl1.extBut b1.extBut D.l1z) hend fun g2 e b2 ⟨oe, hoe, hce⟩ => ?_)
  refine wpAny_bind (wpAny_isInstance (T := "StopIteration") (b := true) ⟨oe, hoe, hce⟩ isSubtype_stop ?_)
  exact wpAny_pure (hQ g2 fun c o c1 c2 x => b2 _ _ c2 (b1.extBut _ _ c1 x))

/-- the zip at turn i, while the list at S takes its pairs -/
structure ZSt (h : Heap) (z TI TO i1 i2 l1 l2 S : Addr) (xs ys : Array Value) (i : Nat) : Prop where
  tin : IsPair h TI (.ref i1) (.ref i2)
  it1 : h.IsTupleIter i1 l1 i
  it2 : h.IsTupleIter i2 l2 i
  tp1 : h.IsTuple l1 xs
  tp2 : h.IsTuple l2 ys
  tou : ∃ o, h.get? TO = some o
  zip : (IsZip h z TI TO .none ∧ ∃ a b, IsPair h TO a b) ∨ ∃ T f oT, IsZipHeld h z TI TO T f ∧ h.get? T = some oT ∧ T ≠ z ∧ T ≠ TO ∧ T ≠ i1 ∧ T ≠ i2 ∧ T ≠ S
/-- the pairs taken so far -/
structure ZGot (h : Heap) (lo : Nat) (z TO i1 i2 S : Addr) (xs ys : Array Value) (i : Nat) (ts : List Addr) : Prop where
  len : ts.length = i
  at' : ∀ (j : Nat) T, ts[j]? = some T → ∃ x y, xs[j]? = some x ∧ ys[j]? = some y ∧ IsPair h T x y ∧ lo ≤ T ∧ T ≠ S ∧ T ≠ z ∧ T ≠ TO ∧ T ≠ i1 ∧ T ≠ i2
theorem ZGot.keep {h h' : Heap} {lo : Nat} {z TO i1 i2 S : Addr} {xs ys : Array Value} {i : Nat} {ts : List Addr} (g : ZGot h lo z TO i1 i2 S xs ys i ts)
    (k : ∀ T o, T ≠ S → T ≠ z → T ≠ TO → T ≠ i1 → T ≠ i2 → h.get? T = some o → h'.get? T = some o) : ZGot h' lo z TO i1 i2 S xs ys i ts :=
  ⟨g.len, fun j T hj => let ⟨x, y, a1, a2, a3, a4, a5, a6, a7, a8, a9⟩ := g.at' j T hj; ⟨x, y, a1, a2, k T _ a5 a6 a7 a8 a9 a3, a4, a5, a6, a7, a8, a9⟩⟩
theorem ZGot.more {h : Heap} {lo : Nat} {z TO i1 i2 S T : Addr} {xs ys : Array Value} {i : Nat} {ts : List Addr} {x y : Value} (g : ZGot h lo z TO i1 i2 S xs ys i ts) (hx : xs[i]? = some x) (hy : ys[i]? = some y) (hT : IsPair h T x y) (hlo : lo ≤ T)
    (h1 : T ≠ S) (h2 : T ≠ z) (h3 : T ≠ TO) (h4 : T ≠ i1) (h5 : T ≠ i2) : ZGot h lo z TO i1 i2 S xs ys (i + 1) (ts ++ [T]) := by
  refine ⟨by rw [List.length_append, g.len]; rfl, fun j T' hj => ?_⟩
  rcases Nat.lt_trichotomy j ts.length with q | q | q
  · rw [List.getElem?_append_left q] at hj
    exact g.at' j T' hj
  · subst q
    have e : T = T' := by simpa using hj
    subst e
    have e2 := g.len
    subst e2
    exact ⟨x, y, hx, hy, hT, hlo, h1, h2, h3, h4, h5⟩
  · rw [List.getElem?_eq_none (by rw [List.length_append, List.length_singleton]; omega)] at hj
    cases hj

theorem zl_loop {R : Result → Shared → Prop} {z TI TO i1 i2 l1 l2 S : Addr} {xs ys : Array Value} {res : Value} {h0 : Heap} {lo : Nat} (hh : A.handled = none) (D : ZipApart z TI TO i1 i2 l1 l2) (hxy : xs.size = ys.size) (hn : xs.size ≤ sizeLine)
    (hS : S ≠ z ∧ S ≠ TI ∧ S ≠ TO ∧ S ≠ i1 ∧ S ≠ i2 ∧ l1 ≠ S ∧ l2 ≠ S) (h0z : ∀ b o, h0.get? b = some o → b ≠ z ∧ b ≠ TO ∧ b ≠ i1 ∧ b ≠ i2 ∧ b ≠ S)
    (hR : ∀ h' tk ts c, (∀ b o, h0.get? b = some o → h'.get? b = some o) → ZGot h' lo z TO i1 i2 S xs ys xs.size ts → h'.get? S = some { cls := .type "list", dict := none, data := .seq (ts.map Value.ref).toArray c, slots := #[] } → R (.ok (.ret res)) { s with heap := h', toks := tk }) :
    ∀ (k i : Nat) (h : Heap) (tk : Nat) (ts : List Addr) (c : Nat), xs.size - i = k → i ≤ xs.size → ZSt h z TI TO i1 i2 l1 l2 S xs ys i → ZGot h lo z TO i1 i2 S xs ys i ts → lo ≤ h.objs.size → (∀ b o, h0.get? b = some o → h.get? b = some o) →
      h.get? S = some { cls := .type "list", dict := none, data := .seq (ts.map Value.ref).toArray c, slots := #[] } →
      codeAny (model prog w) A (.builtin "list.extend.loop" ⟨[.ref S, .ref z, res], []⟩) R { s with heap := h, toks := tk } := by
  obtain ⟨n1, n2, n3, n4, n5, n6, n7⟩ := hS
  intro k
  induction k with
  | zero =>
    intro i h tk ts c hk hi st g hsz kp hL
    have hin : i = xs.size := by omega
    subst hin
    refine codeAny_builtin F.entry_extend_loop ?_
    rw [Around.under_plainId F.plain_extend_loop _]
    show wpAny _ A.in1 (pyNext (.ref z) >>= _) _ _ _
    have hend : xs[xs.size]? = none := Array.getElem?_eq_none (Nat.le_refl _)
    have fin : ∀ h', (∀ c o, c ≠ z → c ≠ TO → c ≠ i1 → c ≠ i2 → h.get? c = some o → h'.get? c = some o) → R (.ok (.ret res)) { s with heap := h', toks := tk } := fun h' kk => by
      refine hR h' tk ts c (fun b o e => ?_) (g.keep fun T o _ a1 a2 a3 a4 e => kk T o a1 a2 a3 a4 e) (kk S _ n1 n3 n4 n5 hL)
      obtain ⟨b1, b2, b3, b4, _⟩ := h0z b o e
      exact kk b o b1 b2 b3 b4 (kp b o e)
    rcases st.zip with ⟨hz, a, b, hTO⟩ | ⟨T, f, oT, hz, hT, t1, t2, t3, t4, t5⟩
    · exact wpAny_bind (RZ.pyNext_zipT_end (s := { s with heap := h, toks := tk }) hh D hz st.tin hTO st.it1 st.it2 st.tp1 st.tp2 (.inl hend) fun h' kk => wpAny_pure (fin h' kk))
    · exact wpAny_bind (zipT_end_held (s := { s with heap := h, toks := tk }) hh D hz hT st.tin st.it1 st.tp1 hend fun h' kk => wpAny_pure (fin h' fun c o c1 _ c3 _ e => kk c o c1 c3 e))
  | succ k ih =>
    intro i h tk ts c hk hi st g hsz kp hL
    have hlt : i < xs.size := by omega
    have ex := Array.getElem?_eq_getElem hlt
    have ey := Array.getElem?_eq_getElem (xs := ys) (i := i) (by omega)
    have lz : h.objs.size ≠ z := by
      rcases st.zip with ⟨hz, _⟩ | ⟨_, _, _, hz, _⟩ <;> exact Nat.ne_of_gt (Heap.lt_size hz)
    have li1 : h.objs.size ≠ i1 := let ⟨_, e, _⟩ := st.it1; Nat.ne_of_gt (Heap.lt_size e)
    have li2 : h.objs.size ≠ i2 := let ⟨_, e, _⟩ := st.it2; Nat.ne_of_gt (Heap.lt_size e)
    have lS : h.objs.size ≠ S := Nat.ne_of_gt (Heap.lt_size hL)
    have lTO : h.objs.size ≠ TO := let ⟨_, e⟩ := st.tou; Nat.ne_of_gt (Heap.lt_size e)
    refine codeAny_builtin F.entry_extend_loop ?_
    rw [Around.under_plainId F.plain_extend_loop _]
    show wpAny _ A.in1 (pyNext (.ref z) >>= _) _ _ _
    -- behind the draw: the pair goes to the list
    have push : ∀ h', (∃ o, h'.get? TO = some o) → h'.IsTupleIter i1 l1 (i + 1) → h'.IsTupleIter i2 l2 (i + 1) → IsPair h' h.objs.size xs[i] ys[i] → h'.objs.size = h.objs.size + 1 →
        (∃ T f oT, IsZipHeld h' z TI TO T f ∧ h'.get? T = some oT ∧ T ≠ z ∧ T ≠ TO ∧ T ≠ i1 ∧ T ≠ i2 ∧ T ≠ S) → (∀ c o, c ≠ z → c ≠ TO → c ≠ i1 → c ≠ i2 → h.get? c = some o → h'.get? c = some o) →
        wpAny (model prog w) A.in1 (updateSeq S (·.push (Value.ref h.objs.size)) >>= fun _ => again (.builtin "list.extend.loop" ⟨[.ref S, .ref z, res], []⟩))
          (fun fin s' => match fin with
            | .done f => R (.ok f) s'
            | .again c' => c'.quiet = true ∧ codeAny (model prog w) A c' R s') (fun e s' => R (.error e) s') { s with heap := h', toks := tk } := fun h' hto a1 a2 a3 a4 a5 kk => by
      have hS' := kk S _ n1 n3 n4 n5 hL
      have oth : ∀ b o, b ≠ S → h'.get? b = some o → (h'.update S (Obj.mapSeq (·.push (Value.ref h.objs.size)))).get? b = some o := fun b o hb e => (Heap.get?_update_other _ _ (Ne.symm hb)).trans e
      have szl : (ts.map Value.ref).toArray.size = i := by simp [g.len]
      refine wpAny_bind (wpAny_updateSeq hS' rfl (wpAny_pure ⟨plainId_quiet F.plain_extend_loop _, ih (i + 1) (h'.update S (Obj.mapSeq (·.push (Value.ref h.objs.size)))) tk (ts ++ [h.objs.size]) (c + 1) (by omega) hlt ⟨?_, ?_, ?_, ?_, ?_, ?_, ?_⟩ ?_ ?_ ?_ ?_⟩) (by rw [szl]; omega) (by show ((ts.map Value.ref).toArray.push _).size ≤ sizeLine + 1; rw [Array.size_push, szl]; omega))
      · exact oth _ _ (Ne.symm n2) (kk _ _ D.TIz D.TITO D.TIi1 D.TIi2 st.tin)
      · exact a1.at fun o e => oth _ o (Ne.symm n4) e
      · exact a2.at fun o e => oth _ o (Ne.symm n5) e
      · exact st.tp1.at fun o e => oth _ o n6 (kk _ o D.l1z D.l1TO D.l1i1 D.l1i2 e)
      · exact st.tp2.at fun o e => oth _ o n7 (kk _ o D.l2z D.l2TO D.l2i1 D.l2i2 e)
      · exact hto.imp fun o e => oth _ o (Ne.symm n3) e
      · obtain ⟨T, f, oT, q1, q2, q3, q4, q5, q6, q7⟩ := a5
        exact .inr ⟨T, f, oT, oth _ _ (Ne.symm n1) q1, oth _ _ q7 q2, q3, q4, q5, q6, q7⟩
      · exact ((g.keep fun T o _ b1 b2 b3 b4 e => kk T o b1 b2 b3 b4 e).more ex ey a3 hsz lS lz lTO li1 li2).keep fun T o b0 _ _ _ _ e => oth T o b0 e
      · have e : (h'.update S (Obj.mapSeq (·.push (Value.ref h.objs.size)))).objs.size = h'.objs.size := by first | exact Heap.size_update .. | simp [Heap.update]
        rw [e, a4]
        exact Nat.le_succ_of_le hsz
      · intro b o e
        obtain ⟨b1, b2, b3, b4, b5⟩ := h0z b o e
        exact oth b o b5 (kk b o b1 b2 b3 b4 (kp b o e))
      · have e := Heap.get?_update_self (Obj.mapSeq (·.push (Value.ref h.objs.size))) hS' rfl
        rw [e]
        simp [Obj.mapSeq]
    rcases st.zip with ⟨hz, a, b, hTO⟩ | ⟨T, f, oT, hz, hT, t1, t2, t3, t4, t5⟩
    · refine wpAny_bind (RZ.pyNext_zipT_item (s := { s with heap := h, toks := tk }) D hz st.tin hTO st.it1 st.it2 st.tp1 st.tp2 ex ey fun h' a1 a2 a3 a4 a5 a6 kk => ?_)
      exact push h' ⟨_, a2⟩ a3 a4 a5 a6 ⟨h.objs.size, false, _, a1, a5, lz, lTO, li1, li2, lS⟩ kk
    · refine wpAny_bind (zipT_item_held (s := { s with heap := h, toks := tk }) D hz hT st.tin st.it1 st.it2 st.tp1 st.tp2 ex ey fun h' a1 a3 a4 a5 a6 kk => ?_)
      exact push h' (st.tou.imp fun o e => kk TO o D.TOz D.TOi1 D.TOi2 e) a3 a4 a5 a6 ⟨T, true, oT, a1, kk _ _ t1 t3 t4 hT, t1, t2, t3, t4, t5⟩ fun c o c1 _ c3 c4 e => kk c o c1 c3 c4 e

/-- list(z), z a zip of two tuples that was just made -/
theorem call_list_zip {Q : Value → Shared → Prop} {z TI TO i1 i2 l1 l2 : Addr} {xs ys : Array Value} {h0 : Heap} (hh : A.handled = none) (D : ZipApart z TI TO i1 i2 l1 l2) (hxy : xs.size = ys.size) (hn : xs.size ≤ sizeLine)
    (hz : IsZip s.heap z TI TO .none) (hTI : IsPair s.heap TI (.ref i1) (.ref i2)) (hTO : IsPair s.heap TO .none .none) (h1 : s.heap.IsTupleIter i1 l1 0) (h2 : s.heap.IsTupleIter i2 l2 0) (hl1 : s.heap.IsTuple l1 xs) (hl2 : s.heap.IsTuple l2 ys)
    (old : ∀ b o, h0.get? b = some o → s.heap.get? b = some o) (h0z : ∀ b o, h0.get? b = some o → b ≠ z ∧ b ≠ TO ∧ b ≠ i1 ∧ b ≠ i2)
    (hQ : ∀ h' tk ts c, (∀ b o, h0.get? b = some o → h'.get? b = some o) → ZGot h' s.heap.objs.size z TO i1 i2 s.heap.objs.size xs ys xs.size ts →
      h'.get? s.heap.objs.size = some { cls := .type "list", dict := none, data := .seq (ts.map Value.ref).toArray c, slots := #[] } → Q (.ref s.heap.objs.size) { s with heap := h', toks := tk }) :
    wpAny (model prog w) A (call (.type "list") [.ref z]) Q E s := by
  have lt : ∀ {b : Addr} {o : Obj}, s.heap.get? b = some o → s.heap.objs.size ≠ b := fun e => Nat.ne_of_gt (Heap.lt_size e)
  have n1 := lt hz
  have n2 := lt hTI
  have n3 := lt hTO
  have n4 : s.heap.objs.size ≠ i1 := let ⟨_, e, _⟩ := h1; lt e
  have n5 : s.heap.objs.size ≠ i2 := let ⟨_, e, _⟩ := h2; lt e
  have n6 : l1 ≠ s.heap.objs.size := let ⟨_, e, _⟩ := hl1; (lt e).symm
  have n7 : l2 ≠ s.heap.objs.size := let ⟨_, e, _⟩ := hl2; (lt e).symm
  refine callType_codes (Q₁ := fun obj s₁ => obj = .ref s.heap.objs.size ∧ s₁ = { s with heap := s.heap.push { cls := .type "list", data := .seq #[] } }) F.called_list (F.typeCall_list_1 _) F.entry_list_init (code_list_new _ ⟨rfl, rfl⟩) fun obj s₁ hs₁ => ?_
  obtain ⟨rfl, rfl⟩ := hs₁
  have hS : (s.heap.push { cls := .type "list", data := .seq #[] }).get? s.heap.objs.size = some { cls := .type "list", data := .seq #[] } := Heap.get?_push_size _ rfl
  refine ⟨⟨_, hS, rfl⟩, F.args_list_init_2 _ _, ?_⟩
  have tyz : ∀ {h : Heap} {tk : Nat}, IsZip h z TI TO .none → Shared.TypeIs { s with heap := h, toks := tk } (.ref z) "zip" := fun e => ⟨_, e, rfl⟩
  show wpAny _ A.in1.in1 (do let old ← Builtin.List.listItems (.ref s.heap.objs.size); Builtin.List.listUpdate (.ref s.heap.objs.size) (fun _ => #[]); letGo old.toList.reverse; Builtin.List.listExtendWith (.ref s.heap.objs.size) (.ref z) .none) _ _ _
  refine wpAny_bind ?_
  unfold Builtin.List.listItems
  refine wpAny_bind (wpAny_seqItems hS rfl (wpAny_pure ?_))
  show wpAny _ _ (updateSeq s.heap.objs.size (fun _ => #[]) >>= fun _ => letGo (#[] : Array Value).toList.reverse >>= fun _ => Builtin.List.listExtendWith (.ref s.heap.objs.size) (.ref z) .none) _ _ _
  refine wpAny_bind (wpAny_updateSeq hS rfl ?_)
  have hS2 := Heap.get?_update_self (Obj.mapSeq (fun _ => (#[] : Array Value))) hS rfl
  have up2 : ∀ b o, s.heap.get? b = some o → ((s.heap.push { cls := .type "list", data := .seq #[] }).update s.heap.objs.size (Obj.mapSeq (fun _ => (#[] : Array Value)))).get? b = some o :=
    fun b o e => (Heap.get?_update_other _ _ (lt e)).trans (Heap.get?_push_of_some _ e)
  refine wpAny_bind (wpAny_letGo ?_)
  obtain ⟨g2, hg2⟩ : ∃ g, (s.heap.push { cls := .type "list", data := .seq #[] }).update s.heap.objs.size (Obj.mapSeq (fun _ => (#[] : Array Value))) = g := ⟨_, rfl⟩
  rw [hg2] at hS2 up2
  have hS2' : g2.get? s.heap.objs.size = some { cls := .type "list", data := .seq #[] } := hS2
  have sz2 : s.heap.objs.size ≤ g2.objs.size := Nat.le_of_lt (Heap.lt_size hS2')
  show wpAny _ _ (Builtin.List.listExtendWith (.ref s.heap.objs.size) (.ref z) .none) _ _ { s with heap := (s.heap.push { cls := .type "list", data := .seq #[] }).update s.heap.objs.size (Obj.mapSeq (fun _ => (#[] : Array Value))) }
  rw [hg2]
  unfold Builtin.List.listExtendWith
  refine wpAny_bind (wpAny_typeOf (tyz (up2 _ _ hz)) ?_)
  have e1 : Builtin.List.listSameRef (.ref s.heap.objs.size) (.ref z) = false := by simp [Builtin.List.listSameRef, n1]
  have e2 : (Value.type "zip" == Value.type "list") = false := by decide
  have e3 : (Value.type "zip" == Value.type "tuple") = false := by decide
  simp only [e1, e2, e3, Bool.or_false, Bool.false_eq_true, if_false]
  refine wpAny_bind (wpAny_pyIter_zip (up2 _ _ hz) ?_)
  refine wpAny_bind (wpAny_holding ?_)
  unfold Builtin.List.listLengthHint
  refine wpAny_bind (wpAny_specialOf (tyz (up2 _ _ hz)) zip_no_len ?_)
  show wpAny _ _ (specialOf (Value.ref z) (Str.ofString "__length_hint__") >>= _) _ _ _
  refine wpAny_bind (wpAny_specialOf (tyz (up2 _ _ hz)) zip_no_hint (wpAny_pure ?_))
  show wpAny _ _ (rule "list.extend.makes-room" >>= fun _ => Builtin.List.listTouch (.ref s.heap.objs.size) >>= fun _ => again (.builtin "list.extend.loop" ⟨[.ref s.heap.objs.size, .ref z, .none], []⟩)) _ _ _
  refine wpAny_bind (wpAny_rule (wpAny_bind ?_))
  show wpAny _ _ (updateSeq s.heap.objs.size (·.push .none) >>= fun _ => updateSeq s.heap.objs.size (·.pop)) _ _ _
  refine wpAny_bind (wpAny_updateSeq hS2' rfl ?_)
  have hS3 := Heap.get?_update_self (Obj.mapSeq (·.push Value.none)) hS2' rfl
  refine wpAny_updateSeq (hz := by seq_fits) hS3 rfl ?_
  have hS4 := Heap.get?_update_self (Obj.mapSeq (·.pop)) hS3 rfl
  have up4 : ∀ b o, s.heap.get? b = some o → ((g2.update s.heap.objs.size (Obj.mapSeq (·.push Value.none))).update s.heap.objs.size (Obj.mapSeq (·.pop))).get? b = some o :=
    fun b o e => (Heap.get?_update_other _ _ (lt e)).trans ((Heap.get?_update_other _ _ (lt e)).trans (up2 b o e))
  refine wpAny_pure ⟨plainId_quiet F.plain_extend_loop _, ?_⟩
  refine zl_loop (s := s) (A := A.in1) (lo := s.heap.objs.size) (h0 := h0) (xs := xs) (ys := ys) hh D hxy hn ⟨n1, n2, n3, n4, n5, n6, n7⟩ (fun b o e => ?_) (fun h' tk ts c a1 a2 a3 => ⟨rfl, hQ h' tk ts c a1 a2 a3⟩) xs.size 0 _ s.toks [] _ (Nat.sub_zero _) (Nat.zero_le _)
    ⟨up4 _ _ hTI, h1.at fun o e => up4 _ o e, h2.at fun o e => up4 _ o e, hl1.at fun o e => up4 _ o e, hl2.at fun o e => up4 _ o e, ⟨_, up4 _ _ hTO⟩, .inl ⟨up4 _ _ hz, _, _, up4 _ _ hTO⟩⟩ ⟨rfl, fun j T hj => nomatch hj⟩ ?_ (fun b o e => up4 b o (old b o e)) hS4
  · obtain ⟨b1, b2, b3, b4⟩ := h0z b o e
    exact ⟨b1, b2, b3, b4, (lt (old b o e)).symm⟩
  · exact Nat.le_of_lt (Heap.lt_size hS4)
end

/-! ### as a rule of the layer -/
theorem vals_refs : ∀ ts : List Addr, Vals (ts.map V.ref) (ts.map Value.ref)
  | [] => .nil
  | _ :: ts => .cons rfl (vals_refs ts)
/-- a new list of new pairs -/
def tLz (K : PySem.W.Frag) (ta : TA) : TE := fun σ H Q => ta σ H fun vs H1 => ∃ a b xs ys, vs = [.ref a, .ref b] ∧ SqT K H1 a xs ∧ SqT K H1 b ys ∧ xs.length = ys.length ∧
  ∀ (H2 : Hp) (l : Addr) (ts : List Addr), Same H1 H2 → H1 l = none → H2 l = some (.lst (ts.map V.ref)) → ts.length = xs.length → (∀ (j : Nat) T, ts[j]? = some T → ∃ x y, xs[j]? = some x ∧ ys[j]? = some y ∧ H2 T = some (.tup [x, y])) → Q (.ref l) H2
section
variable {X : Cx} {e1 e2 : Expr} {ta : TA} {p p2 pos q : Pos}
theorem pe_listZip (hg : Gl X "list") (hm : X.mg "list" = none) (hg2 : Gl X "zip") (hm2 : X.mg "zip" = none) (ha : PA X [e1, e2] ta) (hc : X.calm = true := by rfl)
    (hs : starEach [e1, e2] X.env = (false, eval e1 X.env) :: starEach [e2] X.env := by rfl) (hpl : (backTo q (starEach [e2] X.env)).any (·.1) = false := by rfl)
    (na : starEach [Expr.Call (.Name "zip" p2) [e1, e2] [] q] X.env = (false, eval (.Call (.Name "zip" p2) [e1, e2] [] q) X.env) :: starEach [] X.env := by rfl) :
    PE X (.Call (.Name "list" p) [.Call (.Name "zip" p2) [e1, e2] [] q] [] pos) (tLz X.K ta) := by
  refine ⟨fun pins s σ H Q I h => ?_⟩
  refine Call_ (ld_blt I hg hm (u := .type "list") (by decide +kernel) ?_)
  refine PyProof.Rows.callWith_type1 (PyProof.Rows.args_cons ?_ na) na rfl
  refine Call_ (ld_blt I hg2 hm2 PyProof.Rows.boot_zip (PyProof.Rows.callWith_type1 (thn (ha.run q pins s σ H _ I h) fun us s1 ⟨vs, H1, I1, r1, q1⟩ => ?_) hs hpl))
  obtain ⟨a, b, xs, ys, rfl, hx, hy, hlen, q1⟩ := q1
  cases r1 with
  | cons r rr =>
    cases rr with
    | cons r' rr =>
      cases rr
      cases r
      cases r'
      obtain ⟨its, rv, tp, hz⟩ := I1.tuple hx
      obtain ⟨its2, rv2, tp2, _⟩ := I1.tuple hy
      have l1 := rv.length
      have l2 := rv2.length
      obtain ⟨o1, ho1, _⟩ := id tp
      obtain ⟨o2, ho2, _⟩ := id tp2
      refine RZ.call_zipT (show s1.heap.IsTuple a its.toArray from tp) (show s1.heap.IsTuple b its2.toArray from tp2) fun h1 hzip hTI hTO j1 j2 hsz hk => PyProof.Rows.args_nil ?_
      have below : ∀ {c : Addr} {o : Obj} (d : Nat), s1.heap.get? c = some o → c ≠ s1.heap.objs.size + d := fun d e => Nat.ne_of_lt (Nat.lt_of_lt_of_le (Heap.lt_size e) (Nat.le_add_right _ _))
      refine call_list_zip (s := { s1 with heap := h1 }) (h0 := s1.heap) (xs := its.toArray) (ys := its2.toArray) (I1.ok.hd hc) (PySem.W.ktu_apart s1.heap.objs.size a b (Heap.lt_size ho1) (Heap.lt_size ho2)) (by simp only [List.size_toArray]; omega) (by simp only [List.size_toArray]; omega)
        hzip hTI hTO j1 j2 (Heap.IsTuple.at (show s1.heap.IsTuple a its.toArray from tp) fun o e => hk _ o e) (Heap.IsTuple.at (show s1.heap.IsTuple b its2.toArray from tp2) fun o e => hk _ o e) hk (fun c o e => ⟨below 4 e, below 3 e, Nat.ne_of_lt (Heap.lt_size e), below 1 e⟩) fun h' tk ts c kp got hL => ?_
      have hS : h1.objs.size = s1.heap.objs.size + 5 := hsz
      have lows : ∀ T ∈ ts, s1.heap.objs.size ≤ T ∧ T ≠ h1.objs.size := fun T hT => by
        obtain ⟨j, hj⟩ := List.mem_iff_getElem?.mp hT
        obtain ⟨x, y, _, _, _, a4, a5, _⟩ := got.at' j T hj
        have a4' : h1.objs.size ≤ T := a4
        exact ⟨Nat.le_trans (by rw [hS]; exact Nat.le_add_right _ _) a4', a5⟩
      -- what the j-th pair holds
      have pairs : ∀ (j : Nat) T, ts[j]? = some T → ∃ x y u v, xs[j]? = some x ∧ ys[j]? = some y ∧ RelV x u ∧ RelV y v ∧ IsPair h' T u v := fun j T hj => by
        obtain ⟨u, v, a1, a2, a3, _⟩ := got.at' j T hj
        have b1 : its[j]? = some u := by simpa using a1
        have b2 : its2[j]? = some v := by simpa using a2
        have c1 : j < xs.length := by rw [l1]; exact (List.getElem?_eq_some_iff.mp b1).1
        have c2 : j < ys.length := by rw [l2]; exact (List.getElem?_eq_some_iff.mp b2).1
        obtain ⟨u', d1, d2⟩ := rv.get (List.getElem?_eq_getElem c1)
        obtain ⟨v', d3, d4⟩ := rv2.get (List.getElem?_eq_getElem c2)
        obtain rfl : u' = u := Option.some.inj (d1.symm.trans b1)
        obtain rfl : v' = v := Option.some.inj (d3.symm.trans b2)
        exact ⟨_, _, _, _, List.getElem?_eq_getElem c1, List.getElem?_eq_getElem c2, d2, d4, a3⟩
      let H2 : Hp := fun b => if b = h1.objs.size then some (.lst (ts.map V.ref)) else if b ∈ ts then some (.tup [xs.getD (ts.idxOf b) .non, ys.getD (ts.idxOf b) .non]) else H1 b
      have H2S : H2 h1.objs.size = some (.lst (ts.map V.ref)) := if_pos rfl
      have H2T : ∀ (j : Nat) T, ts[j]? = some T → ∃ x y, xs[j]? = some x ∧ ys[j]? = some y ∧ H2 T = some (.tup [x, y]) := fun j T hj => by
        have hm : T ∈ ts := List.mem_of_getElem? hj
        obtain ⟨x, y, u, v, e1, e2, r1, r2, ip⟩ := pairs j T hj
        have hi : ts.idxOf T < ts.length := List.idxOf_lt_length_of_mem hm
        have hi2 : ts[ts.idxOf T]? = some T := by rw [List.getElem?_eq_getElem hi, List.getElem_idxOf]
        obtain ⟨x', y', u', v', e1', e2', r1', r2', ip'⟩ := pairs _ T hi2
        have eo := Option.some.inj (ip.symm.trans ip')
        have ed : Data.seq #[u, v] = Data.seq #[u', v'] := congrArg Obj.data eo
        injection ed with ea
        injection ea with ea
        injection ea with eu ev
        injection ev with ev
        refine ⟨x, y, e1, e2, ?_⟩
        show (if T = h1.objs.size then _ else if T ∈ ts then some (HO.tup [xs.getD (ts.idxOf T) .non, ys.getD (ts.idxOf T) .non]) else H1 T) = _
        rw [if_neg (lows T hm).2, if_pos hm, List.getD_eq_getElem?_getD, List.getD_eq_getElem?_getD, e1', e2']
        subst eu ev
        rw [r1.inj r1', r2.inj r2']
        rfl
      have oldH : ∀ b, b < s1.heap.objs.size → H2 b = H1 b := fun b hb => by
        show (if b = h1.objs.size then _ else if b ∈ ts then _ else H1 b) = _
        rw [if_neg (Nat.ne_of_lt (Nat.lt_of_lt_of_le hb (by rw [hS]; exact Nat.le_add_right _ _))), if_neg fun hm => absurd (Nat.lt_of_lt_of_le hb (lows b hm).1) (Nat.lt_irrefl _)]
      have lenT : ts.length = xs.length := by
        have e := got.len
        rw [e, l1, List.size_toArray]
      have J : L2.Inv X pins σ H2 { s1 with heap := h', toks := tk } := Inv_grown (s := s1) (h' := h') (t' := tk) I1 kp oldH fun b o hb e => ?new
      exact ⟨.ref h1.objs.size, H2, J, rfl, q1 H2 h1.objs.size ts (fun b o e => (oldH b (I1.hok.lt e)).trans e) (I1.hok.fresh (by rw [hS]; exact Nat.le_add_right _ _)) H2S lenT H2T⟩
      by_cases hbS : b = h1.objs.size
      · subst hbS
        rw [H2S] at e
        cases e
        exact ⟨by rw [List.length_map, lenT]; exact hz, ts.map Value.ref, c, vals_refs ts, hL⟩
      · by_cases hm : b ∈ ts
        · obtain ⟨j, hj⟩ := List.mem_iff_getElem?.mp hm
          obtain ⟨x, y, u, v, e1, e2, r1, r2, ip⟩ := pairs j b hj
          obtain ⟨x', y', e1', e2', e3⟩ := H2T j b hj
          rw [e3] at e
          cases e
          obtain rfl := Option.some.inj (e1.symm.trans e1')
          obtain rfl := Option.some.inj (e2.symm.trans e2')
          exact ⟨by show 2 ≤ sizeLine; decide, [u, v], .cons r1 (.cons r2 .nil), ⟨_, ip, rfl, _, rfl⟩⟩
        · have e' : H1 b = some o := by
            have q : H2 b = H1 b := by
              show (if b = h1.objs.size then _ else if b ∈ ts then _ else H1 b) = _
              rw [if_neg hbS, if_neg hm]
            rw [← q]; exact e
          exact absurd (Nat.lt_of_lt_of_le (I1.hok.lt e') hb) (Nat.lt_irrefl _)
end
end Kp
/-! set(xs), xs a list of tuples of keys of any one kind (texts), fewer than 64. -/
namespace Kp
open PySem PySem.Spec PyProof.Rows L2

/-- a kind of key whose values are plain: no class statement, its hash told at once -/
structure Plainly {P : Program} {w : World} {κ : Type} [DecidableEq κ] (knd : PySem.KeyKind P w κ) : Prop where
  cls : ∀ (n : Nat) k v, knd.is k v = true → ofAClassStatement n v = pure false
  hsh : ∀ (n : Nat) k v, knd.is k v = true → ∃ r, hashByValue n v = pure r
theorem plainly_str (P : Program) (w : World) : Plainly (strKind P w) := by
  have sh : ∀ k v, (strKind P w).is k v = true → ∃ t, v = Value.str k t := fun k v h => Value.isStrOf_shape h
  refine ⟨fun n k v h => ?_, fun n k v h => ?_⟩
  · obtain ⟨t, rfl⟩ := sh k v h
    cases n <;> rfl
  · obtain ⟨t, rfl⟩ := sh k v h
    exact ⟨false, by cases n <;> rfl⟩

section
variable {P : Program} {w : World} {A : Around} {E : Value → Shared → Prop} {s : Shared} {κ : Type} [DecidableEq κ] {knd : PySem.KeyKind P w κ}

theorem kinds_in {ks : List κ} {vs : List Value} (h : ItemsAre knd ks vs) : ∀ v ∈ vs, ∃ k, knd.is k v = true := by
  induction h with
  | nil => exact fun v hv => nomatch hv
  | cons h1 _ ih => exact fun v hv => (List.mem_cons.mp hv).elim (fun e => ⟨_, e ▸ h1⟩) fun z => ih v z

theorem tup_cls (pl : Plainly knd) {k : List κ} {b : Addr} {Q : Bool → Shared → Prop} (hk : IsTupleKey knd s.heap k b) (h : Q false s) : wpAny (model P w) A (ofAClassStatement 8 (.ref b)) Q E s := by
  have ty := hk.typeIs
  obtain ⟨o, items, n, ho, _, hd, hi⟩ := hk
  unfold ofAClassStatement
  refine wpAny_bind (wpAny_typeOf ty ?_)
  dsimp only
  have e : (("tuple" : String) == "tuple") = true := by decide
  simp only [e, if_true, Bool.not_true, Bool.false_eq_true, if_false]
  try refine wpAny_bind (wpAny_pure ?_)
  try simp only [Bool.not_true, Bool.false_eq_true, if_false]
  show wpAny _ _ (seqItems? (.ref b) >>= _) _ _ s
  refine wpAny_bind (wpAny_seqItems ho hd (wpAny_bind ?_))
  show wpAny _ _ (forIn items _ _) _ _ s
  rw [← Array.forIn_toList]
  refine wpAny_forIn_list _ (fun rest r s' => r.1 = none ∧ s' = s ∧ ∀ v ∈ rest, ∃ k, knd.is k v = true) _ (fun v rest r s' ⟨hr, es, all⟩ => ?_) (fun r s' ⟨hr, es, _⟩ => ?_) _ _ ⟨rfl, rfl, kinds_in hi⟩
  · obtain ⟨k1, e1⟩ := all v List.mem_cons_self
    rw [pl.cls _ _ _ e1]
    refine wpAny_bind (wpAny_pure ?_)
    simp only [Bool.false_eq_true, if_false]
    exact wpAny_pure ⟨rfl, es, fun u hu => all u (List.mem_cons_of_mem _ hu)⟩
  · subst es
    obtain ⟨r1, r2⟩ := r
    obtain rfl : r1 = none := hr
    exact wpAny_pure h
theorem tup_hsh (pl : Plainly knd) {k : List κ} {b : Addr} {Q : Bool → Shared → Prop} (hk : IsTupleKey knd s.heap k b) (h : ∀ r, Q r s) : wpAny (model P w) A (hashByValue 8 (.ref b)) Q E s := by
  have ty := hk.typeIs
  obtain ⟨o, items, n, ho, _, hd, hi⟩ := hk
  unfold hashByValue
  refine wpAny_bind (wpAny_specialOf ty F.slot_tuple_hash.lookup ?_)
  show wpAny _ _ (seqItems? (.ref b) >>= _) _ _ s
  refine wpAny_bind (wpAny_seqItems ho hd (wpAny_bind ?_))
  show wpAny _ _ (forIn items _ _) _ _ s
  rw [← Array.forIn_toList]
  refine wpAny_forIn_list _ (fun rest r s' => r.1 = none ∧ s' = s ∧ ∀ v ∈ rest, ∃ k, knd.is k v = true) _ (fun v rest r s' ⟨hr, es, all⟩ => ?_) (fun r s' ⟨hr, es, _⟩ => ?_) _ _ ⟨rfl, rfl, kinds_in hi⟩
  · obtain ⟨k1, e1⟩ := all v List.mem_cons_self
    obtain ⟨b1, e2⟩ := pl.hsh 7 _ _ e1
    rw [e2]
    subst es
    refine wpAny_bind (wpAny_pure ?_)
    cases b1 with
    | true =>
      simp only [Bool.not_true, Bool.false_eq_true, if_false]
      exact wpAny_pure ⟨rfl, rfl, fun u hu => all u (List.mem_cons_of_mem _ hu)⟩
    | false =>
      simp only [Bool.not_false, if_true]
      first
        | exact wpAny_pure (wpAny_pure (h false))
        | exact wpAny_bind (wpAny_pure (wpAny_pure (wpAny_pure (h false))))
        | exact wpAny_bind (wpAny_pure (wpAny_pure (h false)))
  · subst es
    obtain ⟨r1, r2⟩ := r
    obtain rfl : r1 = none := hr
    exact wpAny_pure (h true)
theorem tup_seen (pl : Plainly knd) {k : List κ} {b : Addr} {Q : Bool → Shared → Prop} (hk : IsTupleKey knd s.heap k b) {ys : List Value} (hy : ∀ y ∈ ys, ∃ k' c, y = Value.ref c ∧ IsTupleKey knd s.heap k' c) (h : Q false s) :
    wpAny (model P w) A (searchCouldBeSeen (.ref b) ys) Q E s := by
  unfold searchCouldBeSeen
  refine wpAny_bind (wpAny_forIn_list _ (fun rest r s' => r.1 = none ∧ s' = s ∧ ∀ y ∈ rest, ∃ k' c, y = Value.ref c ∧ IsTupleKey knd s.heap k' c) _ (fun v rest r s' ⟨hr, es, all⟩ => ?_) (fun r s' ⟨hr, es, _⟩ => ?_) _ _ ⟨rfl, rfl, hy⟩)
  · subst es
    obtain ⟨k', c, rfl, hc⟩ := all v List.mem_cons_self
    have more : ∀ y ∈ rest, ∃ k' c, y = Value.ref c ∧ IsTupleKey knd s'.heap k' c := fun u hu => all u (List.mem_cons_of_mem _ hu)
    dsimp only
    by_cases same : (b == c || (carriedByValue (.ref b) && carriedByValue (.ref c))) = true
    · exact wp_if_pos same (wpAny_pure ⟨rfl, rfl, more⟩)
    · refine wp_if_neg same (wpAny_bind (wpAny_eqIsQuiet_tuple hk ?_))
      simp only [Bool.not_true, Bool.false_eq_true, if_false]
      refine wpAny_bind (wpAny_eqIsQuiet_tuple hc ?_)
      simp only [Bool.not_true, Bool.false_eq_true, if_false]
      refine wpAny_bind (tup_cls pl hk ?_)
      simp only [Bool.false_eq_true, if_false]
      refine wpAny_bind (tup_cls pl hc ?_)
      simp only [Bool.false_eq_true, if_false]
      exact wpAny_pure ⟨rfl, rfl, more⟩
  · subst es
    obtain ⟨r1, r2⟩ := r
    obtain rfl : r1 = none := hr
    exact wpAny_pure h

/-! ### the set as it stands -/
abbrev hK (knd : PySem.KeyKind P w κ) (k : List κ) : Int := tupleKeyHash knd k
def rowsK (knd : PySem.KeyKind P w κ) (L : List (Addr × List κ)) : List (Int × Value) := L.map fun p => (hK knd p.2, Value.ref p.1)
theorem rowsK_length (knd : PySem.KeyKind P w κ) (L : List (Addr × List κ)) : (rowsK knd L).length = L.length := List.length_map _
/-- all but the tuples themselves -/
structure Tab (knd : PySem.KeyKind P w κ) (L : List (Addr × List κ)) (es : Array (Int × Value)) (t : SetTable) : Prop where
  rows : es.toList = rowsK knd L
  tab : TabOk t (L.map fun p => hK knd p.2)
  nd : (L.map (·.2)).Nodup
  led : w.params.followText "set-order" = true ∨ t.led = true
  room : L.length * 5 < t.mask * 3
  few : L.length < 64
structure SetIs (knd : PySem.KeyKind P w κ) (h : Heap) (a : Addr) (L : List (Addr × List κ)) (es : Array (Int × Value)) (ep : Nat) (t : SetTable) : Prop where
  ob : ∃ o, h.get? a = some o ∧ o.ExactSet ∧ o.data = .set es ep t
  tb : Tab knd L es t
  tup : ∀ p ∈ L, IsTupleKey knd h p.2 p.1
variable {a : Addr} {L : List (Addr × List κ)} {es : Array (Int × Value)} {ep : Nat} {t : SetTable}
theorem Tab.size (R : Tab knd L es t) : es.size = L.length := by
  rw [← Array.length_toList, R.rows, rowsK_length]
theorem Tab.fits (R : Tab knd L es t) : t.fits es.size = true := by
  have h1 := R.tab.sz
  have h2 := R.size
  have h3 := R.room
  rw [List.length_map] at h1
  unfold SetTable.fits SetTable.fill
  rw [R.tab.dm, Bool.and_eq_true, beq_iff_eq, decide_eq_true_eq]
  show t.place.size = es.size ∧ t.place.size + 0 ≤ t.mask
  omega
theorem Tab.entry (R : Tab knd L es t) {i : Nat} {p : Addr × List κ} (h : L[i]? = some p) : es[i]? = some (hK knd p.2, Value.ref p.1) := by
  rw [← Array.getElem?_toList, R.rows]
  unfold rowsK
  rw [List.getElem?_map, h]
  rfl
theorem Tab.gave (R : Tab knd L es t) : ¬ t.gaveWay = true := by
  unfold SetTable.gaveWay
  rw [mask_odd R.tab.mok]
  decide
theorem Tab.place (R : Tab knd L es t) : t.place.toList.length = L.length := by
  have h1 := R.tab.sz
  rw [List.length_map] at h1
  rw [Array.length_toList, h1]

/-- the steps of the search for a hash -/
abbrev stp (t : SetTable) (hs : Int) (c : Nat) : SetTable.Probe := nth t.mask (runAt t.mask (SetTable.bits hs % (t.mask + 1)) (SetTable.bits hs)) c
theorem stp_next (t : SetTable) (hs : Int) (c q : Nat) : nth t.mask (stp t hs c) q = stp t hs (c + q) := (nth_add t.mask c _ q).symm
theorem stp_dummy (t : SetTable) (hs : Int) (c : Nat) : (stp t hs c).dummy = none := by
  have key : ∀ (n : Nat) (p : SetTable.Probe), p.dummy = none → (nth t.mask p n).dummy = none := by
    intro n
    induction n with
    | zero => exact fun p h => h
    | succ n ih =>
      refine fun p h => ih (adv t.mask p) ?_
      unfold adv
      split <;> exact h
  exact key c _ rfl

theorem find_from (pl : Plainly knd) (R : SetIs knd s.heap a L es ep t) {x : Addr} {k : List κ} (hx : IsTupleKey knd s.heap k x) (hu : A.units < cLine) {K : Nat} (hKf : K < 10 * SetTable.turns t.mask)
    (hfree : (stp t (hK knd k) K).j ∉ t.place.toList) (hfull : ∀ c, c < K → (stp t (hK knd k) c).j ∈ t.place.toList) {Q : SetFound → Shared → Prop}
    (hin : k ∈ L.map (·.2) → Q (.there none) s) (hout : k ∉ L.map (·.2) → Q (.free (stp t (hK knd k) K).j false) s) :
    ∀ (f c : Nat) (st : Option SetTable.Probe), st.getD (t.probeStart (hK knd k)) = stp t (hK knd k) c → c ≤ K → K - c < f →
      (∀ (i : Nat) p, L[i]? = some p → p.2 = k → ∃ c', c ≤ c' ∧ c' < K ∧ t.place.toList[i]? = some (stp t (hK knd k) c').j) →
      wpAny (model P w) A (setSearchFrom a (.ref x) (hK knd k) true f st) Q E s := by
  obtain ⟨o, ho, hex, hd⟩ := R.ob
  have T := R.tb
  intro f
  induction f with
  | zero => exact fun c st _ _ hf _ => absurd hf (Nat.not_lt_zero _)
  | succ f ih =>
    intro c st hst hc hf reach
    rw [setSearchFrom_succ]
    refine wpAny_bind (wpAny_setState_of ho hd T.fits ?_)
    dsimp only
    refine wp_if_neg T.gave ?_
    try refine wpAny_bind (wpAny_pure ?_)
    have ix : ∀ q, (nth t.mask (stp t (hK knd k) c) q).j = (stp t (hK knd k) (c + q)).j := fun q => by rw [stp_next]
    have hashOf : ∀ (i : Nat) p, L[i]? = some p → (fun i => (es[i]?.map (·.1)).getD 0) i = hK knd p.2 := fun i p hp => by
      show (es[i]?.map (·.1)).getD 0 = _
      rw [T.entry hp]
      rfl
    -- an entry of the same key is not passed
    have notPassed : ∀ (i : Nat) p (B : Nat), L[i]? = some p → p.2 = k → (∀ (k' i' : Nat), k' < B → t.place.toList[i']? = some (nth t.mask (stp t (hK knd k) c) k').j → (es[i']?.map (·.1)).getD 0 ≠ hK knd k) →
        ∃ c', c + B ≤ c' ∧ c' < K ∧ t.place.toList[i]? = some (stp t (hK knd k) c').j := fun i p B hp hk no => by
      obtain ⟨c', b1, b2, b3⟩ := reach i p hp hk
      rcases Nat.lt_or_ge c' (c + B) with z | z
      · refine absurd ((hashOf i p hp).trans (congrArg (hK knd) hk)) (no (c' - c) i (by omega) ?_)
        rw [ix, show c + (c' - c) = c' by omega]
        exact b3
      · exact ⟨c', z, b2, b3⟩
    rcases go_spec t T.tab.ris T.tab.dm (fun i => (es[i]?.map (·.1)).getD 0) (hK knd k) (10 * SetTable.turns t.mask) (K - c) _ (stp_dummy t _ c) (by omega)
      (fun q hq => by rw [ix]; exact hfull (c + q) (by omega)) (by rw [ix, show c + (K - c) = K by omega]; exact hfree) with ⟨q, i, hq, hi, _, no, met⟩ | ⟨no, met⟩
    · have met' : t.probe (fun i => (es[i]?.map (·.1)).getD 0) (hK knd k) (st.getD (t.probeStart (hK knd k))) = some (.candidate (stp t (hK knd k) (c + q)).j i (stp t (hK knd k) (c + (q + 1)))) := by
        rw [hst, ← ix, ← stp_next]
        exact met
      rw [met']
      dsimp only
      rw [ix] at hi
      have hil : i < L.length := by
        have h1 := (List.getElem?_eq_some_iff.mp hi).1
        rwa [T.place] at h1
      obtain ⟨p, hp⟩ : ∃ p, L[i]? = some p := ⟨_, List.getElem?_eq_getElem hil⟩
      have inL : p ∈ L := List.mem_of_getElem? hp
      have after : wpAny (model P w) A (searchRest a (.ref x) (hK knd k) true f es t (stp t (hK knd k) (c + q)).j i (stp t (hK knd k) (c + (q + 1)))) Q E s := by
        unfold searchRest
        rw [T.entry hp]
        dsimp only
        refine wpAny_bind (wpAny_holding (wpAny_eqBool_tuple hu (R.tup p inL) hx (wpAny_bind (wpAny_setState_of ho hd T.fits ?_))))
        dsimp only
        by_cases same : p.2 = k
        · exact wp_if_pos (by simp [same]) (wpAny_pure (hin (List.mem_map.mpr ⟨p, inL, same⟩)))
        · refine wp_if_neg (by simp [same]) ?_
          try refine wpAny_bind (wpAny_pure ?_)
          have live : t.slot (stp t (hK knd k) (c + q)).j = .live i := slot_live T.tab.ris hi
          rw [sameMem]
          dsimp only
          simp only [if_true, live, T.entry hp]
          refine wpAny_bind (wpAny_isSame_ref_self (wpAny_bind (wpAny_pure ?_)))
          simp only [if_true]
          refine wp_if_neg (by simp [same]) (ih (c + (q + 1)) _ rfl (by omega) (by omega) fun i0 p0 h0 hk0 => ?_)
          obtain ⟨c', b1, b2, b3⟩ := notPassed i0 p0 q h0 hk0 no
          refine ⟨c', ?_, b2, b3⟩
          rcases Nat.lt_or_ge (c + q) c' with y | y
          · omega
          · exfalso
            have ec : c' = c + q := Nat.le_antisymm y b1
            rw [ec] at b3
            have l0 := slot_live T.tab.ris b3
            rw [live] at l0
            injection l0 with l0
            rw [← l0, hp] at h0
            exact same ((congrArg Prod.snd (Option.some.inj h0)).trans hk0)
      by_cases hl : t.led = true
      · refine wp_if_neg (by simp [hl]) ?_
        try refine wpAny_bind (wpAny_pure ?_)
        exact after
      · refine wp_if_pos (by simp [hl]) (wpAny_bind (tup_seen pl hx (fun y hy => ?_) ?_))
        · obtain ⟨e, he, ee⟩ := List.mem_map.mp hy
          have he0 : e ∈ es ∧ e.1 = hK knd k := by simpa using he
          have he1 : e ∈ es.toList := by simpa using he0.1
          rw [T.rows] at he1
          obtain ⟨p2, hp2, e2⟩ := List.mem_map.mp he1
          exact ⟨p2.2, p2.1, by rw [← ee, ← e2], R.tup p2 hp2⟩
        · refine wp_if_neg (by decide) ?_
          try refine wpAny_bind (wpAny_pure ?_)
          exact after
    · have met' : t.probe (fun i => (es[i]?.map (·.1)).getD 0) (hK knd k) (st.getD (t.probeStart (hK knd k))) = some (.empty (stp t (hK knd k) K).j none) := by
        have e2 : (stp t (hK knd k) K).j = (nth t.mask (stp t (hK knd k) c) (K - c)).j := by rw [ix, show c + (K - c) = K by omega]
        rw [hst, e2]
        exact met
      rw [met']
      dsimp only
      refine wpAny_pure (hout fun hm => ?_)
      obtain ⟨p0, h0, hk0⟩ := List.mem_map.mp hm
      obtain ⟨i0, hi0⟩ := List.mem_iff_getElem?.mp h0
      obtain ⟨c', b1, b2, _⟩ := notPassed i0 p0 (K - c) hi0 hk0 no
      omega
theorem find_at (pl : Plainly knd) (R : SetIs knd s.heap a L es ep t) {x : Addr} {k : List κ} (hx : IsTupleKey knd s.heap k x) (hu : A.units < cLine) {Q : SetFound → Shared → Prop} (hin : k ∈ L.map (·.2) → Q (.there none) s)
    (hout : ∀ K, k ∉ L.map (·.2) → way t.mask (hK knd k) K ∉ t.place.toList → (∀ c, c < K → way t.mask (hK knd k) c ∈ t.place.toList) → Q (.free (way t.mask (hK knd k) K) false) s) :
    wpAny (model P w) A (setSearch a (.ref x) (hK knd k) true) Q E s := by
  have rm := R.tb.room
  obtain ⟨K, hKf, hfree, hfull⟩ := R.tb.tab.first (by rw [List.length_map]; omega) (hK knd k)
  have small : 10 * SetTable.turns t.mask ≤ 1420 := by
    unfold SetTable.turns
    rcases R.tb.tab.mok with e | e | e <;> omega
  unfold setSearch
  refine find_from pl R hx hu hKf hfree hfull hin (fun hn => hout K hn hfree hfull) 100000 0 none rfl (Nat.zero_le _) (by omega) fun i p hp hk => ?_
  have hi : (L.map fun p => hK knd p.2)[i]? = some (hK knd k) := by
    rw [List.getElem?_map, hp, ← hk]
    rfl
  have hil : i < t.place.toList.length := by
    rw [R.tb.place]
    exact (List.getElem?_eq_some_iff.mp hp).1
  have hj := List.getElem?_eq_getElem hil
  obtain ⟨c, hc, e⟩ := R.tb.tab.before hfree hi hj
  exact ⟨c, Nat.zero_le _, hc, by rw [hj]; exact congrArg some e.symm⟩
end
end Kp
/-! .. one put in; the table laid anew. -/
namespace Kp
open PySem PySem.Spec PyProof.Rows L2

/-- the table's word hangs on its places alone -/
theorem tabOk_plain {t : SetTable} {hs : List Int} {b : Bool} (T : TabOk t hs) : TabOk { t with plain := b } hs := ⟨T.ris, T.dm, T.sz, T.mok, T.bd, T.reach⟩

section
variable {P : Program} {w : World} {A : Around} {E : Value → Shared → Prop} {s : Shared} {κ : Type} [DecidableEq κ] {knd : PySem.KeyKind P w κ}
theorem key_apart {h h' : Heap} {k : List κ} {a b : Addr} {o : Obj} {es : Array (Int × Value)} {ep : Nat} {t : SetTable} (hb : IsTupleKey knd h k b) (ho : h.get? a = some o) (hd : o.data = .set es ep t) (hs : Heap.SameBut a h h') : IsTupleKey knd h' k b := by
  obtain ⟨o', items, n, ho', hc, hd', hi⟩ := hb
  refine ⟨o', items, n, (hs.2 b ?_).trans ho', hc, hd', hi⟩
  rintro rfl
  cases ho'.symm.trans ho
  rw [hd] at hd'
  cases hd'
theorem key_keep {h h' : Heap} {k : List κ} {b : Addr} (x : IsTupleKey knd h k b) (hk : ∀ c o, h.get? c = some o → h'.get? c = some o) : IsTupleKey knd h' k b :=
  let ⟨o, items, n, ho, r⟩ := x
  ⟨o, items, n, hk b o ho, r⟩

/-- the rows in another order -/
theorem rows_order (L : List (Addr × List κ)) (es : Array (Int × Value)) (order : Array Nat) (hr : es.toList = rowsK knd L) (hp : order.toList.Perm (List.range L.length)) :
    ∃ L2, (order.filterMap (es[·]?)).toList = rowsK knd L2 ∧ L2.Perm L ∧ (L2.map fun p => hK knd p.2) = order.toList.map fun i => (es.map (·.1)).getD i 0 := by
  have ent : ∀ (i : Nat) p, L[i]? = some p → es[i]? = some (hK knd p.2, Value.ref p.1) := fun i p h => by
    rw [← Array.getElem?_toList, hr]
    unfold rowsK
    rw [List.getElem?_map, h]
    rfl
  have pick : ∀ l : List Nat, (∀ i ∈ l, i < L.length) → l.filterMap (fun i => es[i]?) = rowsK knd (l.filterMap fun i => L[i]?) ∧ ((l.filterMap fun i => L[i]?).map fun p => hK knd p.2) = l.map fun i => (es.map (·.1)).getD i 0 := by
    intro l
    induction l with
    | nil => exact fun _ => ⟨rfl, rfl⟩
    | cons i l ih =>
      intro hl
      obtain ⟨p, hp'⟩ : ∃ p, L[i]? = some p := ⟨_, List.getElem?_eq_getElem (hl i List.mem_cons_self)⟩
      obtain ⟨e1, e2⟩ := ih fun j hj => hl j (List.mem_cons_of_mem _ hj)
      have e3 : (es.map (·.1)).getD i 0 = hK knd p.2 := by
        rw [Array.getD_eq_getD_getElem?, Array.getElem?_map, ent i p hp']
        rfl
      rw [List.filterMap_cons_some (ent i p hp'), List.filterMap_cons_some hp', e1, List.map_cons, List.map_cons, e2, e3]
      exact ⟨rfl, rfl⟩
  obtain ⟨e1, e2⟩ := pick order.toList fun i hi => List.mem_range.mp (hp.mem_iff.mp hi)
  refine ⟨order.toList.filterMap fun i => L[i]?, by first | (rw [Array.toList_filterMap]; exact e1) | simpa using e1, ?_, e2⟩
  have q := hp.filterMap fun i => L[i]?
  have whole : ∀ n, n ≤ L.length → (List.range n).filterMap (fun i => L[i]?) = L.take n := by
    intro n
    induction n with
    | zero => exact fun _ => rfl
    | succ n ih =>
      intro hn
      rw [List.range_succ, List.filterMap_append, ih (Nat.le_of_lt hn), List.take_succ, List.getElem?_eq_getElem hn, List.filterMap_cons_some (List.getElem?_eq_getElem hn)]
      rfl
  rw [whole L.length (Nat.le_refl _), List.take_length] at q
  exact q

variable {a : Addr} {L : List (Addr × List κ)} {es : Array (Int × Value)} {ep : Nat} {t : SetTable}
/-- laid anew, larger: M the new mask -/
theorem laid_anew {o : Obj} (ho : s.heap.get? a = some o) (hex : o.ExactSet) (hd : o.data = .set es ep t) (hrows : es.toList = rowsK knd L) (hsz : t.place.size = es.size) (hdm : t.dummies = #[]) (hfl : es.size ≤ t.mask) (nd : (L.map (·.2)).Nodup)
    (tup : ∀ p ∈ L, IsTupleKey knd s.heap p.2 p.1) (ld : w.params.followText "set-order" = true ∨ t.led = true) (few : L.length < 64) {wanted M : Nat} (hw : SetTable.sizeAbove wanted - 1 = M) (hM : MaskOk M) (hw2 : SetTable.sizeAbove wanted ≤ 128)
    (hn : L.length * 5 < M * 3) {Q : Unit → Shared → Prop} (hQ : ∀ h' L' es' ep' t', Heap.SameBut a s.heap h' → SetIs knd h' a L' es' ep' t' → L'.Perm L → Q () { s with heap := h' }) : wpAny (model P w) A (setRelay a wanted) Q E s := by
  have size : es.size = L.length := by rw [← Array.length_toList, hrows, rowsK_length]
  have fits : t.fits es.size = true := by
    unfold SetTable.fits SetTable.fill
    rw [hdm, Bool.and_eq_true, beq_iff_eq, decide_eq_true_eq]
    show t.place.size = es.size ∧ t.place.size + 0 ≤ t.mask
    omega
  obtain ⟨t', order, e, hp, T, em, el, _, _⟩ := relaid_ok t (hs := es.map (·.1)) (wanted := wanted) hw hM (by rw [Array.size_map, size]; omega)
  rw [Array.size_map, size] at hp
  obtain ⟨L2, r1, r2, r3⟩ := rows_order L es order hrows hp
  rw [← r3] at T
  have size2 : (order.filterMap (es[·]?)).size = es.size := by rw [← Array.length_toList, r1, rowsK_length, r2.length_eq, size]
  rw [setRelay_eq]
  refine wpAny_bind (wpAny_setState_of ho hd fits ?_)
  dsimp only
  refine wp_if_neg (by rw [sizeLine_eq]; omega) ?_
  try refine wpAny_bind (wpAny_pure ?_)
  rw [e]
  dsimp only
  refine wpAny_bind (wp_if_neg (by rw [size2]; simp) ?_)
  try refine wpAny_bind (wpAny_pure ?_)
  refine wpAny_pure ?_
  dsimp only
  have sb : Heap.SameBut a s.heap (s.heap.update a (Obj.putSet (order.filterMap (es[·]?)) t')) := Heap.SameBut.update ..
  refine wpAny_storeSet_of ho hd (hQ _ L2 (order.filterMap (es[·]?)) (ep + 1) t' sb ⟨⟨_, store_at ho hd, ⟨hex.1, hex.2.1, hex.2.2⟩, rfl⟩, ⟨r1, T, (r2.map (·.2)).nodup_iff.mpr nd, ?_, ?_, ?_⟩, fun p hpm => key_apart (tup p (r2.mem_iff.mp hpm)) ho hd sb⟩ r2) (by rw [size2, size, sizeLine_eq]; omega)
  · rw [el]; exact ld
  · rw [r2.length_eq, em]; exact hn
  · rw [r2.length_eq]; exact few

/-- one put in: it is there already, or it joins -/
theorem put_in (pl : Plainly knd) (R : SetIs knd s.heap a L es ep t) {x : Addr} {k : List κ} (hx : IsTupleKey knd s.heap k x) (hu : A.units < cLine) (hfew : L.length + 1 < 64) {Q : Bool → Shared → Prop}
    (hQ : ∀ b h' L' es' ep' t', Heap.SameBut a s.heap h' → SetIs knd h' a L' es' ep' t' → (k ∈ L.map (·.2) → L' = L) → (k ∉ L.map (·.2) → L'.Perm ((x, k) :: L)) → Q b { s with heap := h' }) :
    wpAny (model P w) A (setAddHashed a (.ref x) (hK knd k)) Q E s := by
  obtain ⟨o, ho, hex, hd⟩ := R.ob
  have T := R.tb
  have size := T.size
  have room := T.room
  unfold setAddHashed
  refine wpAny_holding ?_
  rw [show (100000 : Nat) = 99999 + 1 from rfl, setAddHashedIn_succ]
  refine wpAny_bind (wpAny_setState_of ho hd T.fits ?_)
  dsimp only
  refine wp_if_neg (by simp [byScan, Value.scannable]) ?_
  try refine wpAny_bind (wpAny_pure ?_)
  refine wpAny_bind (find_at pl R hx hu (fun hm => ?_) fun K hm hfree hfull => ?_)
  · dsimp only
    exact wpAny_pure (hQ false s.heap L es ep t (Heap.SameBut.refl a s.heap) R (fun _ => rfl) fun z => absurd hm z)
  · dsimp only
    refine wpAny_bind (wpAny_setState_of ho hd T.fits ?_)
    dsimp only
    obtain ⟨p1, p2, p3, p4, p5, p6, p7, p8, p9⟩ := T.tab.put hfree hfull
    obtain ⟨pt, hpt⟩ : ∃ pt, t.put (way t.mask (hK knd k) K) = pt := ⟨_, rfl⟩
    rw [hpt] at p1 p3 p4 p5 p6 p7 p8 p9 ⊢
    obtain ⟨t1, p⟩ := pt
    dsimp only at p1 p3 p4 p5 p6 p7 p8 p9 ⊢
    subst p1
    -- what goes on, whatever «plain» says
    have go : ∀ t2 : SetTable, t2.place = t1.place → t2.dummies = t1.dummies → t2.mask = t1.mask → t2.led = t1.led → t2.tooFull = t1.tooFull → TabOk t2 ((L.map fun p => hK knd p.2).take (SetTable.below t.place (way t.mask (hK knd k) K)) ++ hK knd k :: (L.map fun p => hK knd p.2).drop (SetTable.below t.place (way t.mask (hK knd k) K))) →
        wpAny (model P w) A (do
          storeSet a (SetTable.insertAt es (SetTable.below t.place (way t.mask (hK knd k) K)) (hK knd k, Value.ref x)) t2
          if !false && t2.tooFull then setRelay a (SetTable.grown (es.size + 1))
          return true) Q E s := fun t2 c1 c2 c3 c4 c5 T2 => by
      obtain ⟨q, hq⟩ : ∃ q, SetTable.below t.place (way t.mask (hK knd k) K) = q := ⟨_, rfl⟩
      rw [hq] at p2 T2 ⊢
      have pm := put_perm L q (x, k)
      have len : (L.take q ++ (x, k) :: L.drop q).length = L.length + 1 := pm.length_eq
      have rows1 : (SetTable.insertAt es q (hK knd k, Value.ref x)).toList = rowsK knd (L.take q ++ (x, k) :: L.drop q) := by
        rw [SetTable.toList_insertAt, T.rows]
        unfold rowsK
        rw [List.map_append, List.map_cons, List.map_take, List.map_drop]
      have hs1 : (L.take q ++ (x, k) :: L.drop q).map (fun p => hK knd p.2) = (L.map fun p => hK knd p.2).take q ++ hK knd k :: (L.map fun p => hK knd p.2).drop q := by
        rw [List.map_append, List.map_cons, List.map_take, List.map_drop]
      rw [← hs1] at T2
      have nd1 : ((L.take q ++ (x, k) :: L.drop q).map (·.2)).Nodup := (pm.map (·.2)).nodup_iff.mpr (by rw [List.map_cons]; exact List.nodup_cons.mpr ⟨hm, T.nd⟩)
      have size1 : (SetTable.insertAt es q (hK knd k, Value.ref x)).size = L.length + 1 := by rw [← Array.length_toList, rows1, rowsK_length, len]
      obtain ⟨es1, hes1⟩ : ∃ es1, SetTable.insertAt es q (hK knd k, Value.ref x) = es1 := ⟨_, rfl⟩
      obtain ⟨L1, hL1⟩ : ∃ L1, L.take q ++ (x, k) :: L.drop q = L1 := ⟨_, rfl⟩
      rw [hes1] at rows1 size1 ⊢
      rw [hL1] at pm len rows1 nd1 T2
      refine wpAny_bind (wpAny_storeSet_of ho hd ?_ (by rw [size1, sizeLine_eq]; omega))
      have sb : Heap.SameBut a s.heap (s.heap.update a (Obj.putSet es1 t2)) := Heap.SameBut.update ..
      have ho1 := store_at (es' := es1) (t' := t2) ho hd
      obtain ⟨h1, hh1⟩ : ∃ h1, s.heap.update a (Obj.putSet es1 t2) = h1 := ⟨_, rfl⟩
      rw [hh1] at sb ho1 ⊢
      have tup1 : ∀ p ∈ L1, IsTupleKey knd h1 p.2 p.1 := fun p hp => by
        rcases List.mem_cons.mp (pm.mem_iff.mp hp) with e | hp
        · rw [e]; exact key_apart hx ho hd sb
        · exact key_apart (R.tup p hp) ho hd sb
      have led1 : w.params.followText "set-order" = true ∨ t2.led = true := by rw [c4, p5]; exact T.led
      have fill1 : t1.tooFull = decide ((L.length + 1) * 5 ≥ t1.mask * 3) := by
        unfold SetTable.tooFull
        rw [p9, List.length_map]
      by_cases hf : t2.tooFull = true
      · have full : (L.length + 1) * 5 ≥ t.mask * 3 := by
          rw [c5, fill1, decide_eq_true_eq, p4] at hf
          exact hf
        have again : ∀ M, SetTable.sizeAbove (SetTable.grown (L.length + 1)) - 1 = M → MaskOk M → SetTable.sizeAbove (SetTable.grown (L.length + 1)) ≤ 128 → (L.length + 1) * 5 < M * 3 →
            wpAny (model P w) A (setRelay a (SetTable.grown (L.length + 1))) (fun _ s' => wpAny (model P w) A (pure true) Q E s') E { s with heap := h1 } := fun M g1 g2 g3 g4 => by
          refine laid_anew (s := { s with heap := h1 }) ho1 ⟨hex.1, hex.2.1, hex.2.2⟩ rfl rows1 ?_ T2.dm ?_ nd1 tup1 led1 (by rw [len]; exact hfew) g1 g2 g3 (by rw [len]; exact g4) fun h2 L2 es2 ep2 t3 sb2 R2 pm2 => ?_
          · have z := T2.sz
            rw [List.length_map, len] at z
            rw [z, size1]
          · rw [size1, c3, p4]
            rcases T.tab.mok with e | e | e <;> omega
          · exact wpAny_pure (hQ true h2 L2 es2 ep2 t3 (sb.trans sb2) R2 (fun z => absurd z hm) fun _ => pm2.trans pm)
        have at' : (t.mask = 7 ∧ L.length = 4) ∨ (t.mask = 31 ∧ L.length = 18) := by
          rcases T.tab.mok with e | e | e
          · left; rw [e] at full room; exact ⟨e, by omega⟩
          · right; rw [e] at full room; exact ⟨e, by omega⟩
          · exfalso; rw [e] at full; omega
        have both : wpAny (model P w) A (setRelay a (SetTable.grown (L.length + 1))) (fun _ s' => wpAny (model P w) A (pure true) Q E s') E { s with heap := h1 } := by
          rcases at' with ⟨_, e2⟩ | ⟨_, e2⟩
          · exact again 31 (by rw [e2, size_20]) (.inr (.inl rfl)) (by rw [e2, size_20]; decide) (by omega)
          · exact again 127 (by rw [e2, size_76]) (.inr (.inr rfl)) (by rw [e2, size_76]; decide) (by omega)
        rw [size]
        first
          | exact wpAny_bind (wp_if_pos (by simp [hf]) both)
          | exact wp_if_pos (by simp [hf]) (wpAny_bind both)
      · have less : (L.length + 1) * 5 < t2.mask * 3 := by
          rw [c5, fill1, decide_eq_true_eq, ← c3] at hf
          omega
        have fin := hQ true h1 L1 es1 (ep + 1) t2 sb ⟨⟨_, ho1, ⟨hex.1, hex.2.1, hex.2.2⟩, rfl⟩, ⟨rows1, T2, nd1, led1, by rw [len]; exact less, by rw [len]; exact hfew⟩, tup1⟩ (fun z => absurd z hm) fun _ => pm
        first
          | exact wp_if_neg (by simp [hf]) (wpAny_pure fin)
          | exact wpAny_bind (wp_if_neg (by simp [hf]) (wpAny_pure (wpAny_pure fin)))
    have tooFullOf : ∀ b : Bool, SetTable.tooFull { t1 with plain := b } = t1.tooFull := fun b => rfl
    by_cases hpn : t1.plain = true
    · have cont : ∀ r : Bool, wpAny (model P w) A (do
          storeSet a (SetTable.insertAt es (SetTable.below t.place (way t.mask (hK knd k) K)) (hK knd k, Value.ref x)) (if r = true then t1 else { t1 with plain := false })
          if !false && (if r = true then t1 else { t1 with plain := false }).tooFull then setRelay a (SetTable.grown (es.size + 1))
          return true) Q E s := fun r => by
        cases r with
        | true => exact go t1 rfl rfl rfl rfl rfl p3
        | false => exact go { t1 with plain := false } rfl rfl rfl rfl rfl (tabOk_plain p3)
      first
        | exact wpAny_bind (wp_if_pos hpn (tup_hsh pl hx cont))
        | exact wp_if_pos hpn (wpAny_bind (tup_hsh pl hx cont))
    · have cont := go t1 rfl rfl rfl rfl rfl p3
      first
        | exact wpAny_bind (wp_if_neg hpn (wpAny_pure cont))
        | exact wp_if_neg hpn (wpAny_bind (wpAny_pure cont))
end
end Kp
/-! set(xs) and sorted(set), xs a list of tuples of ints, or of texts. -/
namespace Kp
open PySem PySem.Spec PyProof.Rows L2

/-- what the set has got from the first i items -/
structure Gets {κ : Type} (ks : List (Addr × List κ)) (i : Nat) (L : List (Addr × List κ)) : Prop where
  sub : ∀ p ∈ L, p ∈ ks.take i
  all : ∀ p ∈ ks.take i, p.2 ∈ L.map (·.2)
  len : L.length ≤ i
theorem Gets.step {κ : Type} {ks L L' : List (Addr × List κ)} {i : Nat} {x : Addr × List κ} (g : Gets ks i L) (h : ks[i]? = some x) (c1 : x.2 ∈ L.map (·.2) → L' = L) (c2 : x.2 ∉ L.map (·.2) → L'.Perm (x :: L)) : Gets ks (i + 1) L' := by
  have tk : ks.take (i + 1) = ks.take i ++ [x] := by
    rw [List.take_succ, h]
    rfl
  rcases Classical.em (x.2 ∈ L.map (·.2)) with c | c
  · rw [c1 c]
    refine ⟨fun p hp => ?_, fun p hp => ?_, Nat.le_succ_of_le g.len⟩
    · rw [tk]
      exact List.mem_append_left _ (g.sub p hp)
    · rw [tk] at hp
      rcases List.mem_append.mp hp with z | z
      · exact g.all p z
      · rw [List.mem_singleton.mp z]; exact c
  · have pm := c2 c
    refine ⟨fun p hp => ?_, fun p hp => ?_, by rw [pm.length_eq]; exact Nat.succ_le_succ g.len⟩
    · rw [tk]
      rcases List.mem_cons.mp (pm.mem_iff.mp hp) with e | z
      · exact List.mem_append_right _ (List.mem_singleton.mpr e)
      · exact List.mem_append_left _ (g.sub p z)
    · rw [(pm.map (·.2)).mem_iff, List.map_cons]
      rw [tk] at hp
      rcases List.mem_append.mp hp with z | z
      · exact List.mem_cons_of_mem _ (g.all p z)
      · rw [List.mem_singleton.mp z]; exact List.mem_cons_self

section
variable {P : Program} {w : World} {A : Around} {E : Value → Shared → Prop} {s : Shared} {κ : Type} [DecidableEq κ] {knd : PySem.KeyKind P w κ}
theorem SetIs.keep {h h' : Heap} {a : Addr} {L : List (Addr × List κ)} {es : Array (Int × Value)} {ep : Nat} {t : SetTable} (R : SetIs knd h a L es ep t) (ha : ∀ o, h.get? a = some o → h'.get? a = some o) (ht : ∀ p ∈ L, IsTupleKey knd h' p.2 p.1) :
    SetIs knd h' a L es ep t :=
  let ⟨o, ho, r⟩ := R.ob
  ⟨⟨o, ha o ho, r⟩, R.tb, ht⟩
abbrev freshSet (w : World) : Obj := { cls := .type "set", dict := none, data := .set #[] 0 (.fresh 0 0 (!w.params.followText "set-order")) }
theorem tab_fresh : Tab knd [] #[] (.fresh 0 0 (!w.params.followText "set-order")) where
  rows := rfl
  tab := ⟨List.Pairwise.nil, rfl, rfl, .inl rfl, fun x hx => (by cases hx), fun i h j hi => (by simp at hi)⟩
  nd := List.nodup_nil
  led := by
    show _ ∨ (!w.params.followText "set-order") = true
    cases w.params.followText "set-order"
    · exact .inr rfl
    · exact .inl rfl
  room := by
    show 0 * 5 < 7 * 3
    decide
  few := by
    show 0 < 64
    decide

/-- the loop that fills it -/
theorem fill_loop (pl : Plainly knd) {I : Addr} {fp wr : List Addr} {G : Array GenState → Array GenState → Prop} {n : Nat} {Pv : Nat → Value → Prop} {St : Nat → Shared → Prop} {R : Result → Shared → Prop}
    (W : WalksS P w A.in1 I fp wr G n Pv St) (S : Addr) (hSf : S ∉ fp) (ks : List (Addr × List κ)) (hn : n = ks.length) (hfew : ks.length < 64) (hval : ∀ i v, Pv i v → ∃ p, ks[i]? = some p ∧ v = .ref p.1)
    (h0 : Heap) (hk : ∀ p ∈ ks, IsTupleKey knd h0 p.2 p.1) (hS0 : h0.get? S = none) (hw0 : ∀ b ∈ wr, h0.get? b = none) (hu : A.in1.units < cLine)
    (hR : ∀ s0 s' L es ep t, Moved (S :: wr) G s0 s' → SetIs knd s'.heap S L es ep t → Gets ks n L → (∀ b o, h0.get? b = some o → s'.heap.get? b = some o) → s0.gens = s.gens ∧ s0.drawn = s.drawn ∧ s0.os = s.os → R (.ok (.ret .none)) s') :
    ∀ (k i : Nat) (s1 : Shared), n - i = k → i ≤ n → St i s1 → Moved (S :: wr) G s s1 → (∀ b o, h0.get? b = some o → s1.heap.get? b = some o) → (∃ L es ep t, SetIs knd s1.heap S L es ep t ∧ Gets ks i L) →
      codeAny (model P w) A (.builtin "set.update.loop" ⟨[.ref S, .ref I], []⟩) R s1 := by
  have offW : S ∉ wr := fun h => hSf (W.sub _ h)
  have incl : ∀ b ∈ wr, b ∈ S :: wr := fun b hb => List.mem_cons_of_mem _ hb
  have stays : ∀ {s s' : Shared}, Moved wr G s s' → (∀ b o, h0.get? b = some o → s.heap.get? b = some o) → ∀ b o, h0.get? b = some o → s'.heap.get? b = some o := fun hm hkp b o e =>
    hm.heap b o (fun hb => by rw [hw0 b hb] at e; cases e) (hkp b o e)
  intro k
  induction k with
  | zero =>
    intro i s1 hk' hi hst mv hkp ⟨L, es, ep, t, hS, g⟩
    have hin : i = n := by omega
    subst hin
    refine codeAny_builtin F.entry_set_update_loop ?_
    rw [Around.under_plainId F.plain_set_update_loop _]
    show wpAny _ A.in1 (pyNext (.ref I) >>= _) _ _ s1
    refine wpAny_bind (W.done s1 _ _ hst fun s' hm => ?_)
    show wpAny _ A.in1 (ret Value.none) _ _ s'
    have kp' := stays hm hkp
    exact wpAny_pure (hR s s' L es ep t (Moved.trans W.gtrans mv (hm.mono incl)) (hS.keep (fun o e => hm.heap S o offW e) fun p hp => key_keep (hk p (List.mem_of_mem_take (g.sub p hp))) kp') g kp' ⟨rfl, rfl, rfl⟩)
  | succ k ih =>
    intro i s1 hk' hi hst mv hkp ⟨L, es, ep, t, hS, g⟩
    have lt : i < n := by omega
    refine codeAny_builtin F.entry_set_update_loop ?_
    rw [Around.under_plainId F.plain_set_update_loop _]
    show wpAny _ A.in1 (pyNext (.ref I) >>= _) _ _ s1
    refine wpAny_bind (W.item i s1 _ _ lt hst fun v s' hP hst' hm => ?_)
    obtain ⟨p, hp, rfl⟩ := hval i v hP
    have kp' := stays hm hkp
    have hS' : SetIs knd s'.heap S L es ep t := hS.keep (fun o e => hm.heap S o offW e) fun q hq => key_keep (hk q (List.mem_of_mem_take (g.sub q hq))) kp'
    have hx : IsTupleKey knd s'.heap p.2 p.1 := key_keep (hk p (List.mem_of_getElem? hp)) kp'
    show wpAny _ A.in1 (holding [Value.ref p.1] (setAdd S (.ref p.1)) >>= _) _ _ s'
    refine wpAny_bind (wpAny_holding ?_)
    unfold setAdd
    refine wpAny_holding (wpAny_bind (wpAny_pyHash_tuple hu hx ?_))
    refine put_in (s := { s' with toks := s'.toks + (p.2.length + 1) }) pl hS' hx hu (by have := g.len; omega) fun b h' L' es' ep' t' sb hS2 c1 c2 => ?_
    have kp2 : ∀ b o, h0.get? b = some o → h'.get? b = some o := fun b o e => (sb.2 b (fun z => by rw [z, hS0] at e; cases e)).trans (kp' b o e)
    have mv2 : Moved (S :: wr) G s { s' with heap := h', toks := s'.toks + (p.2.length + 1) } := by
      refine (Moved.trans W.gtrans mv (hm.mono incl)).then_heap (Nat.le_add_right _ _) fun b o hb e => ?_
      rw [sb.2 b (fun h : b = S => hb (by rw [h]; exact List.mem_cons_self))]
      exact e
    refine wpAny_pure ⟨plainId_quiet F.plain_set_update_loop _, ih (i + 1) _ (by omega) lt (W.frame _ s' _ _ hst' (Nat.le_add_right _ _) fun b hb o e => ?_) mv2 kp2 ⟨L', es', ep', t', hS2, g.step hp c1 c2⟩⟩
    rw [sb.2 b (fun h : b = S => hSf (by rw [← h]; exact hb))]
    exact e

/-- set(xs), xs a list -/
theorem call_set_keys (pl : Plainly knd) {l : Addr} {items : Array Value} (ks : List (Addr × List κ)) {Q : Value → Shared → Prop} (hh : A.handled = none) (hl : s.heap.IsList l items) (hit : items.toList = ks.map fun p => Value.ref p.1)
    (hk : ∀ p ∈ ks, IsTupleKey knd s.heap p.2 p.1) (hfew : ks.length < 64) (hu : A.units + 3 < cLine)
    (h : ∀ (h' : Heap) (tk : Nat) L es ep t, SetIs knd h' s.heap.objs.size L es ep t → Gets ks ks.length L → (∀ b o, s.heap.get? b = some o → h'.get? b = some o) → Q (.ref s.heap.objs.size) { s with heap := h', toks := tk }) :
    wpAny (model P w) A (call (.type "set") [.ref l]) Q E s := by
  have size : items.size = ks.length := by rw [← Array.length_toList, hit, List.length_map]
  obtain ⟨c, tl, hmro⟩ := F.called_set.mro
  have hmade := F.called_set.made
  have hsub := F.called_set.sub
  refine wpAny_call (codeAny_of_tree ?_)
  show wpAny _ _ (callAny (.type "set") _) _ _ _
  refine wpAny_pure ⟨Code.quiet_builtin _ (by decide +kernel), codeAny_builtin F.entry_type_call ?_⟩
  rw [Around.under_plain (weight_type_call_type "set" [.ref l] []) rfl]
  have h1 := F.called_set.notType
  have h2 := F.called_set.canCreate
  have hct := F.typeCall_set_1 (.ref l)
  repeat (any_goals (first | assumption | wp_step))

  refine codeAny_mono (code_set_led1 (.ref l) (E := E) (Q₁ := fun obj s₁ => obj = .ref s.heap.objs.size ∧ s₁ = { s with heap := s.heap.push (freshSet w) }) ⟨rfl, rfl⟩) fun r s₁ hr => ?_
  cases r with
  | error e => exact hr
  | ok fl =>
    cases fl with
    | ret obj =>
      obtain ⟨rfl, rfl⟩ := hr
      have hS : (s.heap.push (freshSet w)).get? s.heap.objs.size = some (freshSet w) := Heap.get?_push_size _ rfl
      have hT : Shared.TypeIs { s with heap := s.heap.push (freshSet w) } (.ref s.heap.objs.size) "set" := ⟨_, hS, rfl⟩
      have hli := F.called_set.init.lookup
      have hbi := F.called_set.init.bind (.ref s.heap.objs.size)
      repeat (any_goals (first | assumption | wp_step))

      refine codeAny_mono (codeAny_call_builtin (R := wants (fun r s₂ => r = .none ∧ ∃ h' tk L es ep t, s₂ = { s with heap := h', toks := tk } ∧ SetIs knd h' s.heap.objs.size L es ep t ∧ Gets ks ks.length L ∧
          (∀ b o, s.heap.get? b = some o → h'.get? b = some o)) E) F.called_set.init.plain F.entry_set_init (check_set_init_1 hT ?_)) fun r₂ s₂ hr₂ => ?_
      · obtain ⟨ol, hol, hcl, nl, hdl⟩ := hl
        obtain ⟨ocls, odict, odata, oslots⟩ := ol
        simp only at hcl hdl
        subst hcl hdl
        have hol' : (s.heap.push (freshSet w)).get? l = some { cls := .type "list", dict := odict, data := .seq items nl, slots := oslots } := Heap.get?_push_of_some _ hol
        have hsls := F.sub_list_set
        have hslf := F.sub_list_frozenset
        have hne : (Value.type "list" == Value.type "dict") = false := by decide
        have hl1 : (s.heap.push (freshSet w)).IsList l items := ⟨_, hol', rfl, nl, rfl⟩
        unfold Builtin.«set.__init__» noKeywords Builtin.Frozenset.updateFrom
        generalize hPI : pyIter = PI
        wp_walk
        subst hPI

        refine wpAny_pyIter_list hl1 ?_
        refine wpAny_bind (wpAny_runValue ?_)
        have ll : l < s.heap.objs.size := Heap.lt_size hol
        have hh3 : A.in1.in1.in1.handled = none := by simp [hh]
        have z1 : (s.heap.push (freshSet w)).objs.size = s.heap.objs.size + 1 := Heap.size_push ..
        have hneI : l ≠ (s.heap.push (freshSet w)).objs.size := by
          rw [z1]
          exact Nat.ne_of_lt (Nat.lt_succ_of_lt ll)
        have hSf : s.heap.objs.size ∉ [(s.heap.push (freshSet w)).objs.size, l] := by
          rw [z1]
          simp only [List.mem_cons, List.mem_singleton, List.not_mem_nil, or_false, not_or]
          exact ⟨Nat.ne_of_lt (Nat.lt_succ_self _), Nat.ne_of_gt ll⟩
        have hval : ∀ (i : Nat) (v : Value), items[i]? = some v → ∃ p, ks[i]? = some p ∧ v = .ref p.1 := fun i v hv => by
          have q : items.toList[i]? = some v := by rw [Array.getElem?_toList]; exact hv
          rw [hit, List.getElem?_map] at q
          obtain ⟨p, e1, e2⟩ := Option.map_eq_some_iff.mp q
          exact ⟨p, e1, e2.symm⟩
        have none_of : ∀ b, s.heap.objs.size ≤ b → s.heap.get? b = none := fun b hb => by
          cases q : s.heap.get? b with
          | none => rfl
          | some o => exact absurd (Nat.lt_of_lt_of_le (Heap.lt_size q) hb) (Nat.lt_irrefl _)
        refine fill_loop (s := { s with heap := (s.heap.push (freshSet w)).push { cls := .type "list_iterator", data := .fields #[.ref l, .int 0 0] } }) pl ((Walks.list hh3 _ l hneI items).toS) s.heap.objs.size hSf ks size hfew hval s.heap hk (none_of _ (Nat.le_refl _)) (fun b hb => none_of b (by
            rw [List.mem_singleton.mp hb, z1]
            exact Nat.le_succ _)) hu ?hR (items.size - 0) 0 _ (by omega) (Nat.zero_le _) ⟨⟨_, Heap.get?_push_size _ rfl, rfl, rfl⟩, (hl1.push _)⟩ (Moved.refl fun _ => rfl)
          (fun b o e => Heap.get?_push_of_some _ (Heap.get?_push_of_some _ e)) ?hS0
        case hS0 => exact ⟨[], #[], 0, _, ⟨⟨_, Heap.get?_push_of_some _ hS, ⟨rfl, rfl, rfl⟩, rfl⟩, tab_fresh, fun p hp => (by cases hp)⟩, ⟨fun p hp => (by cases hp), fun p hp => (by simp at hp), Nat.le_refl _⟩⟩
        case hR =>
          intro s0 s' L es ep t hm hS' g' hkp ⟨e1, e2, e3⟩
          obtain ⟨h', g2, d', tk', os'⟩ := s'
          have eg : g2 = s0.gens := hm.gens
          have ed : d' = s0.drawn := hm.drawn
          have eo : os' = s0.os := hm.os
          have eg' := eg.trans e1
          have ed' := ed.trans e2
          have eo' := eo.trans e3
          clear eg ed eo hm
          subst eg' ed' eo'
          refine wpAny_pure ?_
          show wpAny _ _ (ret Value.none) _ _ _
          rw [size] at g'
          exact wpAny_pure ⟨rfl, h', tk', L, es, ep, t, rfl, hS', g', hkp⟩
      · cases r₂ with
        | error e => exact hr₂
        | ok fl₂ =>
          cases fl₂ with
          | ret r =>
            obtain ⟨rfl, h', tk, L, es, ep, t, rfl, hS', g', hk'⟩ := hr₂
            repeat (any_goals (first | assumption | wp_step))
            exact h _ _ _ _ _ _ hS' g' hk'
          | _ => exact hr₂.elim
    | _ => exact hr.elim
end
end Kp
namespace Kp
open PySem PySem.Spec PyProof.Rows L2 PySem.W

/-- ints, texts: as keys, as the layer's values, as data -/
structure Flat {P : Program} {w : World} {κ : Type} [DecidableEq κ] (knd : PySem.KeyKind P w κ) (toV : κ → V) (dat : κ → PyData) : Prop where
  pl : Plainly knd
  is : ∀ k v, RelV (toV k) v → knd.is k v = true
  reads : ∀ h k v, knd.is k v = true → Reads h v (dat k) []
  alike : ∀ a b, alike (dat a) (dat b) = true
  depth : ∀ a, (dat a).depth = 0
theorem plainly_int (P : Program) (w : World) : Plainly (intKind P w) := by
  have sh : ∀ k v, (intKind P w).is k v = true → ∃ t, v = Value.int k t := fun k v h => Value.isInt_shape h
  refine ⟨fun n k v h => ?_, fun n k v h => ?_⟩
  · obtain ⟨t, rfl⟩ := sh k v h
    cases n <;> rfl
  · obtain ⟨t, rfl⟩ := sh k v h
    exact ⟨true, by cases n <;> rfl⟩
theorem flat_int (P : Program) (w : World) : Flat (intKind P w) V.int PyData.int where
  pl := plainly_int P w
  is := fun k v h => by
    obtain ⟨t, rfl⟩ := h
    exact intKind_is P w k t
  reads := fun h k v e => by
    obtain ⟨t, rfl⟩ := (Value.isInt_shape e : ∃ t, v = Value.int k t)
    exact .int _ _
  alike := fun _ _ => rfl
  depth := fun _ => by simp [PyData.depth]
theorem flat_str (P : Program) (w : World) : Flat (strKind P w) V.str PyData.str where
  pl := plainly_str P w
  is := fun k v h => by
    obtain ⟨t, rfl⟩ := h
    show Value.isStrOf k (.str k t) = true
    simp [Value.isStrOf]
  reads := fun h k v e => by
    obtain ⟨t, rfl⟩ := (Value.isStrOf_shape e : ∃ t, v = Value.str k t)
    exact .str _ _
  alike := fun _ _ => rfl
  depth := fun _ => by simp [PyData.depth]

section
variable {P : Program} {w : World} {A : Around} {E : Value → Shared → Prop} {s : Shared} {κ : Type} [DecidableEq κ] {knd : PySem.KeyKind P w κ} {toV : κ → V} {dat : κ → PyData}
theorem items_read (F : Flat knd toV dat) {h : Heap} {k : List κ} {vs : List Value} (x : ItemsAre knd k vs) : ReadsAll h vs (k.map dat) [] := by
  induction x with
  | nil => exact .nil
  | cons h1 _ ih => exact .cons (as := []) (F.reads _ _ _ h1) ih
/-- a tuple of such keys as data -/
abbrev tupD (dat : κ → PyData) (k : List κ) : PyData := .tuple (k.map dat)
theorem key_read (F : Flat knd toV dat) {h : Heap} {k : List κ} {b : Addr} (x : IsTupleKey knd h k b) : Reads h (.ref b) (tupD dat k) [] :=
  let ⟨_, _, _, ho, hc, hd, hi⟩ := x
  .tuple ho hc hd (items_read F hi)
theorem depth_all (F : Flat knd toV dat) (k : List κ) : PyData.depthAll (k.map dat) = 0 := by
  induction k with
  | nil => simp [PyData.depthAll]
  | cons x k ih =>
    rw [List.map_cons, PyData.depthAll, ih, F.depth]
    simp
theorem depth_key (F : Flat knd toV dat) (k : List κ) : (tupD dat k).depth = 1 := by
  unfold tupD
  rw [PyData.depth, depth_all F]
theorem alike_all (F : Flat knd toV dat) : ∀ k l : List κ, alikeAll (k.map dat) (l.map dat) = true
  | [], _ => by simp [alikeAll]
  | _ :: _, [] => by simp [alikeAll]
  | x :: k, y :: l => by
    rw [List.map_cons, List.map_cons, alikeAll, F.alike, alike_all F k l]
    rfl
theorem alike_key (F : Flat knd toV dat) (k l : List κ) : alike (tupD dat k) (tupD dat l) = true := by
  unfold tupD
  rw [PySem.W.alike]
  exact alike_all F k l
/-- the order of such tuples -/
abbrev keyLe (dat : κ → PyData) : Addr × List κ → Addr × List κ → Bool := dataLe false fun p => tupD dat p.2

/-- sorted(set): the tuples, in their order -/
theorem sorted_keys (F : Flat knd toV dat) {a : Addr} {L : List (Addr × List κ)} {es : Array (Int × Value)} {ep : Nat} {t : SetTable} {Q : Value → Shared → Prop} (R : SetIs knd s.heap a L es ep t) (hh : A.handled = none) (hu : A.units + 8 < cLine) (hne : ∀ p ∈ L, p.2 ≠ [])
    (hQ : ∀ s' p (out : List Value) (c : Nat) (L0 : List (Addr × List κ)), (∀ b o, s.heap.get? b = some o → s'.heap.get? b = some o) → s'.gens = s.gens → s'.os = s.os → s.heap.objs.size ≤ p →
      s'.heap.get? p = some (seqObj "list" out.toArray c) → out = (L0.mergeSort (keyLe dat)).map (fun q => Value.ref q.1) → L0.Perm L → Q (.ref p) s') :
    wpAny (model P w) A (call (.builtin "sorted") [.ref a]) Q E s := by
  obtain ⟨o, ho, hex, hd⟩ := R.ob
  have few := R.tb.few
  have size := R.tb.size
  refine Calls.call_function_entry kind_sorted plain_sorted entry_sorted (args_sorted1 _) ?_
  unfold Builtin.«sorted»
  refine wpAny_bind (m := checkCount "sorted" 1 1 _) (wpAny_pure ?_)
  refine wpAny_bind (collect_set (A := A.in1) hh ⟨o, ho, hex.1, hd⟩ R.tb.fits (by unfold scanBound; omega) R.tb.tab.ris R.tb.led fun s1 vs k1 hz g1 o1 pm => ?_)
  have hes : es.toList.map (·.2) = L.map fun q => Value.ref q.1 := by
    rw [R.tb.rows]
    unfold rowsK
    rw [List.map_map]
    rfl
  rw [hes] at pm
  -- the rows in the order in which they came out
  have back : ∀ vs : List Value, (∀ v ∈ vs, ∃ q ∈ L, v = Value.ref q.1) → ∃ L1 : List (Addr × List κ), vs = L1.map (fun q => Value.ref q.1) ∧ ∀ q ∈ L1, q ∈ L := by
    intro vs
    induction vs with
    | nil => exact fun _ => ⟨[], rfl, fun q hq => (by cases hq)⟩
    | cons v vs ih =>
      intro hv
      obtain ⟨q, hq, e⟩ := hv v List.mem_cons_self
      obtain ⟨L1, e1, h1⟩ := ih fun u hu => hv u (List.mem_cons_of_mem _ hu)
      exact ⟨q :: L1, by rw [List.map_cons, e, e1], fun r hr => (List.mem_cons.mp hr).elim (fun z => z ▸ hq) (h1 r)⟩
  obtain ⟨L0, e0, in0⟩ := back vs fun v hv => by
    obtain ⟨q, hq, e⟩ := List.mem_map.mp (pm.mem_iff.mp hv)
    exact ⟨q, hq, e.symm⟩
  have one : ∀ q ∈ L, ∀ r ∈ L, q.1 = r.1 → q = r := fun q hq r hr e => by
    have a1 := R.tup q hq
    have a2 := R.tup r hr
    rw [e] at a1
    exact Prod.ext e (a1.inj a2)
  have nL : L.Nodup := nodup_of_map R.tb.nd
  have nref : (L.map fun q => Value.ref q.1).Nodup := List.pairwise_map.mpr (List.Pairwise.imp_of_mem (fun {q r} hq hr ne e => by
    injection e with e
    exact ne (one q hq r hr e)) nL)
  rw [e0] at pm
  have perm : L0.Perm L := by
    refine (List.perm_ext_iff_of_nodup (nodup_of_map (pm.nodup_iff.mpr nref)) nL).mpr fun q => ⟨in0 q, fun hq => ?_⟩
    obtain ⟨r, hr, e⟩ := List.mem_map.mp (pm.mem_iff.mpr (List.mem_map.mpr ⟨q, hq, rfl⟩))
    injection e with e
    rw [← one r (in0 r hr) q hq e]
    exact hr
  have len0 : L0.length < 64 := by rw [perm.length_eq]; exact few
  have lenv : vs.length < 64 := by rw [e0, List.length_map]; exact len0
  refine wpAny_bind (wpAny_newList ?_ (by rw [sizeLine_eq]; omega))
  have hoL : (s1.heap.push (seqObj "list" vs.toArray 0)).get? s1.heap.objs.size = some (seqObj "list" vs.toArray 0) := Heap.get?_push_size _ rfl
  have each : ∀ M : List (Addr × List κ), (∀ q ∈ M, q ∈ L) → EachIs (fun v (b : Addr × List κ) => v = Value.ref b.1) (M.map fun q => Value.ref q.1) M := by
    intro M
    induction M with
    | nil => exact fun _ => .nil
    | cons q M ih => exact fun h => .cons rfl (ih fun r hr => h r (List.mem_cons_of_mem _ hr))
  have eR := each L0 in0
  rw [← e0] at eR
  have read : EachIs (fun v (b : Addr × List κ) => ∃ as, Reads (s1.heap.push (seqObj "list" vs.toArray 0)) v (tupD dat b.2) as ∧ s1.heap.objs.size ∉ as) vs L0 := (each_mem eR).mono fun v b ⟨e, hb⟩ => by
    subst e
    exact ⟨[], key_read F (key_keep (R.tup b (in0 b hb)) fun c u e => Heap.get?_push_of_some _ (k1 c u e)), by simp⟩
  refine wpAny_bind (wpAny_holding (list_sort_data (s := { s1 with heap := s1.heap.push (seqObj "list" vs.toArray 0) }) hoL eR read (AllAlike.of fun b b' => alike_key F b.2 b'.2) (.inl fun d hd => ?_) (by rw [sizeLine_eq]; omega) (fun b _ => by rw [depth_key F]; show A.units + 1 + 1 + 1 < cLine; omega) fun out hol eo => ?_))
  · obtain ⟨b, hb, rfl⟩ := List.mem_map.mp hd
    have ne := hne b (in0 b hb)
    cases e : b.2 with
    | nil => exact absurd e ne
    | cons x r => exact ⟨dat x, r.map dat, by rfl⟩
  · have eout : out = (L0.mergeSort (keyLe dat)).map fun q => Value.ref q.1 := by
      have key : ∀ {as : List Value} {bs : List (Addr × List κ)}, EachIs (fun v (b : Addr × List κ) => v = Value.ref b.1) as bs → as = bs.map fun q => Value.ref q.1 := by
        intro as bs h
        induction h with
        | nil => rfl
        | cons h1 _ ih => rw [List.map_cons, h1, ih]
      exact key eo
    obtain ⟨c, hc⟩ := sortedHeap_at (vs := vs) (out := out.toArray) hoL
    refine wpAny_pure ⟨_, rfl, hQ _ s1.heap.objs.size out c L0 (fun b u e => ?_) g1 o1 hz hc eout perm⟩
    have q := k1 b u e
    have lt := Heap.lt_size q
    show (sortedHeap (s1.heap.push (seqObj "list" vs.toArray 0)) s1.heap.objs.size vs out.toArray).get? b = some u
    rw [sortedHeap_old (Nat.ne_of_lt lt) (by rw [size_push']; exact Nat.lt_succ_of_lt lt)]
    exact Heap.get?_push_of_some _ q
end

/-! ### as rules of the layer -/
/-- the set at a: its rows, without the tuples themselves -/
def SetHO {P : Program} {w : World} {κ : Type} [DecidableEq κ] (knd : PySem.KeyKind P w κ) (a : Addr) (L : List (Addr × List κ)) : HO := .ext fun h => ∃ es ep t, (∃ o, h.get? a = some o ∧ o.ExactSet ∧ o.data = .set es ep t) ∧ Tab knd L es t
section
variable {X : Cx} {κ : Type} [DecidableEq κ] {knd : PySem.KeyKind X.prog X.w κ} {toV : κ → V} {dat : κ → PyData}
theorem Inv_key (F : Flat knd toV dat) {pins : List (Addr × Obj)} {σ : L2.St} {H : Hp} {s : Shared} {b : Addr} {k : List κ} (I : L2.Inv X pins σ H s) (h : SqT X.K H b (k.map toV)) : IsTupleKey knd s.heap k b := by
  obtain ⟨its, r, ⟨o, ho, hc, n, hd⟩, _⟩ := I.tuple h
  have items : ∀ {k : List κ} {us : List Value}, Vals (k.map toV) us → ItemsAre knd k us := by
    intro k
    induction k with
    | nil =>
      intro us h
      cases h
      exact .nil
    | cons x k ih =>
      intro us h
      cases h with
      | cons h1 h2 => exact .cons (F.is _ _ h1) (ih h2)
  exact ⟨o, its.toArray, n, ho, hc, hd, by simpa using items r⟩
/-- set(xs), xs a list of tuples of such keys -/
def rSetK (K : PySem.W.Frag) (knd : PySem.KeyKind X.prog X.w κ) (toV : κ → V) : List V → Hp → VK → Prop := fun xs H Q => ∃ (l : Addr) (ks : List (Addr × List κ)), xs = [V.ref l] ∧ SqL K H l (ks.map fun p => V.ref p.1) ∧ (∀ p ∈ ks, SqT K H p.1 (p.2.map toV)) ∧ ks.length < 64 ∧
  ∀ a L, H a = none → (∀ p ∈ L, p ∈ ks) → (∀ p ∈ ks, p.2 ∈ L.map (·.2)) → (L.map (·.2)).Nodup → Q (.ref a) (upd H a (SetHO knd a L))
theorem call_setK (F : Flat knd toV dat) (hc : X.calm = true) (hu : X.A.units + 64 < cLine) : CallR X (.type "set") (rSetK X.K knd toV) := by
  intro pins s σ H xs us Q I r h
  obtain ⟨l, ks, rfl, hl, hk, hf, q⟩ := h
  rw [Vals.ref1 r]
  obtain ⟨its, rv, pl, hz⟩ := I.list hl
  have refs : ∀ {ks : List (Addr × List κ)} {us : List Value}, Vals (ks.map fun p => V.ref p.1) us → us = ks.map fun p => Value.ref p.1 := by
    intro ks
    induction ks with
    | nil =>
      intro us h
      cases h
      rfl
    | cons p ks ih =>
      intro us h
      cases h with
      | cons h1 h2 =>
        cases h1
        rw [ih h2]
        rfl
  refine call_set_keys (P := X.prog) (w := X.w) F.pl ks (I.ok.hd hc) pl.isList (by simpa using refs rv) (fun p hp => Inv_key F I (hk p hp)) hf (by omega) fun h' tk L es ep t R g k => ?_
  have new : ObjOk X.prog X.w (upd H s.heap.objs.size (SetHO knd s.heap.objs.size L)) h' s.heap.objs.size (SetHO knd s.heap.objs.size L) := by
    obtain ⟨o, ho, r⟩ := R.ob
    refine ⟨⟨es, ep, t, ⟨o, ho, r⟩, R.tb⟩, ⟨o, ho⟩, fun h1 h2 p kk => ?_⟩
    obtain ⟨es', ep', t', ⟨o', ho', r'⟩, q'⟩ := p
    exact ⟨es', ep', t', ⟨o', kk o' ho', r'⟩, q'⟩
  refine ⟨.ref s.heap.objs.size, _, I.laid (t' := tk) k (Nat.le_refl _) new, rfl, q _ L (I.hok.fresh (Nat.le_refl _)) (fun p hp => List.mem_of_mem_take (g.sub p hp)) (fun p hp => g.all p (by rw [List.take_length]; exact hp)) R.tb.nd⟩
/-- sorted(set) -/
def rSortK (K : PySem.W.Frag) (knd : PySem.KeyKind X.prog X.w κ) (toV : κ → V) (dat : κ → PyData) : List V → Hp → VK → Prop := fun vs H Q => ∃ (a : Addr) (L : List (Addr × List κ)), vs = [V.ref a] ∧ H a = some (SetHO knd a L) ∧ (∀ p ∈ L, SqT K H p.1 (p.2.map toV)) ∧ (∀ p ∈ L, p.2 ≠ []) ∧
  ∀ (L0 : List (Addr × List κ)) (p : Addr), L0.Perm L → H p = none → Q (.ref p) (upd H p (.lst ((L0.mergeSort (keyLe dat)).map fun q => V.ref q.1)))
theorem call_sortK (F : Flat knd toV dat) (hc : X.calm = true) (hu : X.A.units + 64 < cLine) : CallR X (.builtin "sorted") (rSortK X.K knd toV dat) := by
  intro pins s σ H vs us Q I r h
  obtain ⟨a, L, rfl, ha, hk, hne, q⟩ := h
  obtain ⟨⟨es, ep, t, ob, tb⟩, _⟩ := I.hok a _ ha
  rw [Vals.ref1 r]
  refine sorted_keys F ⟨ob, tb, fun p hp => Inv_key F I (hk p hp)⟩ (I.ok.hd hc) (by omega) hne fun s' p out c L0 k g o hp hg hout pm => ?_
  have few : (L0.mergeSort (keyLe dat)).length < 64 := by
    rw [(List.mergeSort_perm _ _).length_eq, pm.length_eq]
    exact tb.few
  have hv : ∀ M : List (Addr × List κ), Vals (M.map fun q => V.ref q.1) (M.map fun q => Value.ref q.1) := by
    intro M
    induction M with
    | nil => exact .nil
    | cons q M ih => exact .cons rfl ih
  have J : L2.Inv X pins σ (upd H p (.lst ((L0.mergeSort (keyLe dat)).map fun q => V.ref q.1))) { s with heap := s'.heap, gens := s'.gens, drawn := s'.drawn, toks := s'.toks } :=
    I.call (ch := []) (Un.laid k hp (I.hok.fresh hp)) (I.hok.laid k hp ⟨by rw [List.length_map, sizeLine_eq]; omega, out, c, by rw [hout]; exact hv _, hg⟩) (by rw [g]; exact I.bare) (fun _ z => nomatch z)
  have e : s' = { s with heap := s'.heap, gens := s'.gens, drawn := s'.drawn, toks := s'.toks } := by
    cases s'
    cases s
    cases o
    rfl
  rw [e]
  exact ⟨.ref p, _, J, rfl, q L0 p pm (I.hok.fresh hp)⟩
end
end Kp
/-! Helpers: heaps, comprehensions that only grow the heap, defs as they stand. -/
namespace Kp
open PySem PySem.Spec PyProof.Rows L2

theorem same_new {H : Hp} {p : Addr} {o : HO} (h : H p = none) : Same H (upd H p o) := fun b x e => by
  rw [upd_ne (ne_of_none e h)]
  exact e
theorem same_at {H1 H : Hp} {p : Addr} {o : HO} (s : Same H1 H) (h : H1 p = none) : Same H1 (upd H p o) := fun b x e => by
  rw [upd_ne (ne_of_none e h)]
  exact s _ _ e
theorem _root_.L2.Same.tp {K : PySem.W.Frag} {H H' : Hp} {a : Addr} {xs : List V} (e : Same H H') (h : SqT K H a xs) : SqT K H' a xs := by
  rcases h with (h | ⟨o, h⟩) | h
  · exact .inl (.inl (e _ _ h))
  · exact .inl (.inr ⟨o, e _ _ h⟩)
  · exact .inr h

section
variable {J : It} {n : Nat} {G : Hp → Prop} {Y : Nat → Hp → V → Hp → Prop}
theorem lc_filt (w : Walk J n G Y) (keep : Nat → Bool) (val : Nat → V) {g : TG} {tt : TT} {te : TE} {vs : List Nat} {σ : L2.St} {H1 : Hp} {D : Addr} {Qd : Hp → Prop} (hsz : n < sizeLine) (hD : H1 D = none) (hG : ∀ H, Same H1 H → G H)
    (hs : ∀ i x H H' (fin : V → Hp → Prop) (skip : Hp → Prop), i < n → Same H1 H → Y i H x H' → (∀ H4, Same H H4 → keep i = true → fin (val i) H4) → (∀ H4, Same H H4 → keep i = false → skip H4) →
      g x (wipe σ vs) H' fun σ2 H2 => wipe σ2 vs = wipe σ vs ∧ tt σ2 H2 fun b H3 => if b = true then te σ2 H3 fin else skip H3)
    (hd : ∀ H, Same H1 H → H D = some (.lst (((List.range n).filter keep).map val)) → Qd H) :
    ∃ W : Nat → Nat → Hp → Prop, (∃ m, W 0 m (upd H1 D (.lst []))) ∧ ∀ i m H, W i m H →
      (J.stop i H ∧ Qd H) ∨ (J.go i H ∧ ∃ Nx : Hp → Prop, (∀ H', Nx H' → ∃ m', m' < m ∧ W (i + 1) m' H') ∧ ∀ x H', J.yld i H x H' → g x (wipe σ vs) H' fun σ2 H2 => wipe σ2 vs = wipe σ vs ∧ tt σ2 H2 fun b H3 =>
        if b = true then te σ2 H3 fun y H4 => ∃ acc, H4 D = some (.lst acc) ∧ acc.length < sizeLine ∧ Nx (upd H4 D (.lst (acc ++ [y]))) else Nx H3) := by
  refine lc_it w (fun i H => Same H1 H ∧ H D = some (.lst (((List.range i).filter keep).map val))) ⟨same_new hD, upd_same⟩ (fun i H _ p => hG H p.1) (fun i x H H' hi p y => ?_) (fun H p => hd H p.1 p.2)
  obtain ⟨p1, p2⟩ := p
  refine hs i x H H' _ _ hi p1 y (fun H4 s4 hk => ⟨_, s4 _ _ p2, ?_, same_at (p1.trans s4) hD, ?_⟩) (fun H4 s4 hk => ⟨p1.trans s4, ?_⟩)
  · have a := List.length_filter_le keep (List.range i)
    rw [List.length_map]
    rw [List.length_range] at a
    omega
  · rw [upd_same, List.range_succ, List.filter_append, List.map_append]
    simp [hk]
  · rw [s4 _ _ p2, List.range_succ, List.filter_append, List.map_append]
    simp [hk]
theorem lc_map (w : Walk J n G Y) (ys : List V) {g : TG} {te : TE} {vs : List Nat} {σ : L2.St} {H1 : Hp} {D : Addr} {Qd : Hp → Prop} (hn : n = ys.length) (hsz : n < sizeLine) (hD : H1 D = none) (hG : ∀ H, Same H1 H → G H)
    (hs : ∀ i x H H' (fin : V → Hp → Prop) (hi : i < ys.length), Same H1 H → Y i H x H' → (∀ H4, Same H H4 → fin ys[i] H4) →
      g x (wipe σ vs) H' fun σ2 H2 => wipe σ2 vs = wipe σ vs ∧ te σ2 H2 fin)
    (hd : ∀ H, Same H1 H → H D = some (.lst ys) → Qd H) :
    ∃ W : Nat → Nat → Hp → Prop, (∃ m, W 0 m (upd H1 D (.lst []))) ∧ ∀ i m H, W i m H →
      (J.stop i H ∧ Qd H) ∨ (J.go i H ∧ ∃ Nx : Hp → Prop, (∀ H', Nx H' → ∃ m', m' < m ∧ W (i + 1) m' H') ∧ ∀ x H', J.yld i H x H' → g x (wipe σ vs) H' fun σ2 H2 => wipe σ2 vs = wipe σ vs ∧ tYes σ2 H2 fun b H3 =>
        if b = true then te σ2 H3 fun y H4 => ∃ acc, H4 D = some (.lst acc) ∧ acc.length < sizeLine ∧ Nx (upd H4 D (.lst (acc ++ [y]))) else Nx H3) := by
  subst hn
  refine lc_it w (fun i H => Same H1 H ∧ H D = some (.lst (ys.take i))) ⟨same_new hD, by rw [upd_same]; rfl⟩ (fun i H _ p => hG H p.1) (fun i x H H' hi p y => ?_) (fun H p => hd H p.1 (by rw [p.2, List.take_length]))
  obtain ⟨p1, p2⟩ := p
  refine hs i x H H' (fun y H4 => ∃ acc, H4 D = some (.lst acc) ∧ acc.length < sizeLine ∧ (Same H1 (upd H4 D (.lst (acc ++ [y]))) ∧ (upd H4 D (.lst (acc ++ [y]))) D = some (.lst (ys.take (i + 1))))) hi p1 y (fun H4 s4 => ⟨_, s4 _ _ p2, ?_, same_at (p1.trans s4) hD, ?_⟩)
  · rw [List.length_take]
    omega
  · rw [upd_same, List.take_add_one, List.getElem?_eq_getElem hi]
    rfl
end

/-! ### defs as they stand -/
/-- a def of the module with its promise -/
structure Has (P : Program) (w : World) (K : PySem.W.Frag) (mg : Str → Option Value) (base : Heap) (x : Str) (k : Nat) (ps : List Str) (sp : Sp) : Prop where
  ex : ∃ (f : Addr) (fd : FuncData), mg x = some (.ref f) ∧ PySem.W.keepIn K (.ref f) = true ∧ Binds K fd ps [] ∧ FnOk P w K mg base CX0 k f fd ps sp
/-- a def of the module -/
structure DefAt (K : PySem.W.Frag) (mg : Str → Option Value) (x : Str) (st : Stmt) (ps : List Str) (f : Addr) (fd : FuncData) : Prop where
  g : mg x = some (.ref f)
  F : Fun K x x st f fd
  b : Binds K fd ps []
def tHas (sp : Sp) (t : TA) : TE := fun σ H Q => t σ H fun vs H1 => sp vs H1 Q E0
section
variable {P : Program} {w : World} {K : PySem.W.Frag} {mg : Str → Option Value} {base : Heap} {x : Str} {st : Stmt} {k : Nat} {ps : List Str} {sp : Sp} {f : Addr} {fd : FuncData}
theorem DefAt.has (D : DefAt K mg x st ps f fd) (F : FnOk P w K mg base CX0 k f fd ps sp) : Has P w K mg base x k ps sp := ⟨f, fd, D.g, D.F.kp, D.b, F⟩
end
section
variable {X : Cx} {k : Nat} {ps : List Str} {sp : Sp} {x : Str} {p pos : Pos} {e : Expr} {es : List Expr} {t : TA}
theorem pe_has (F : Has X.prog X.w X.K X.mg X.base x k ps sp) (hr : Room k X.A) (ha : PA X (e :: es) t) (hg : Gl X x := by rfl) (hdb : (x == ("__debug__" : Str)) = false := by decide)
    (he : starEach (e :: es) X.env = (false, eval e X.env) :: starEach es X.env := by rfl) (hpl : (backTo pos (starEach es X.env)).any (·.1) = false := by rfl) : PE X (.Call (.Name x p) (e :: es) [] pos) (tHas sp t) := by
  obtain ⟨f, fd, h1, h2, h3, h4⟩ := F.ex
  have q := pe_call (p := p) (pos := pos) (E := E0) h4 hr hg h1 h2 h3 .nil pass0 ha hdb he hpl
  have e : tCall sp [] E0 t = tHas sp t := by
    unfold tCall tHas
    simp only [List.append_nil]
  rwa [e] at q
end
/-- a promise that only reads: the answer r, the heap only grown -/
def Pu (pre : List V → Hp → V → Prop) : Sp := fun vs H Q _ => ∃ r, pre vs H r ∧ ∀ H', Same H H' → Q r H'

/-- the built-ins of the module, none of them hidden -/
structure Blt (mg : Str → Option Value) (L : Str) : Prop where
  isi : mg "isinstance" = none
  int : mg "int" = none
  bool : mg "bool" = none
  str : mg "str" = none
  tuple : mg "tuple" = none
  len : mg "len" = none
  all : mg "all" = none
  zip : mg "zip" = none
  enumerate : mg "enumerate" = none
  max : mg "max" = none
  min : mg "min" = none
  dict : mg "dict" = none
  list : mg "list" = none
  set : mg "set" = none
  sorted : mg "sorted" = none
  range : mg "range" = none
  repr : mg "repr" = none
  letters : ∃ t, mg "LETTERS" = some (.str L t)
/-- the signs of names -/
def lettersS : Str := "abcdefghijklmnopqrstuvwxyz"

section
variable {P : Program} {w : World} {K : PySem.W.Frag} {mg : Str → Option Value} {base : Heap} {f : Addr} {fd : FuncData}
def preInt : List V → Hp → V → Prop := fun vs H r => ∃ i, vs = [.int i] ∧ r = .bl true
theorem ok_isInteger (B : Blt mg lettersS) (F : Fun K "is_integer" "is_integer" sIsInteger f fd) : FnOk P w K mg base CX0 1 f fd ["thing"] (Pu preInt) := by
  refine F.ok scIsInteger (fun vs H Q E h => ?_) (fun cdv A outer s H vs Q E hr h => ?_)
  · obtain ⟨r, ⟨i, rfl, _⟩, _⟩ := h
    rfl
  · obtain ⟨r, ⟨i, rfl, rfl⟩, q⟩ := h
    refine ⟨_, pss_one (ps_ret (pe_and (pe_callB call_isi (by rfl) B.isi (by decide +kernel) (pa_cons (pv 0) (pa_cons (pe_bltn (by rfl) B.int (by decide +kernel) (v := .ty "int") rfl) pa_nil)))
      (pe_one (pe_not (pe_callB call_isi (by rfl) B.isi (by decide +kernel) (pa_cons (pv 0) (pa_cons (pe_bltn (by rfl) B.bool (by decide +kernel) (v := .ty "bool") rfl) pa_nil))))))), ?_⟩
    refine ⟨.int i, rfl, .int i, .ty "int", _, _, true, rfl, .ty "int", .base (.int i), kit_ty (by decide +kernel), true, rfl, iteT ?_⟩
    exact ⟨.int i, rfl, .int i, .ty "bool", _, _, false, rfl, .ty "bool", .base (.int i), kit_ty (by decide +kernel), false, rfl, q _ (Same.refl _)⟩
def preNum : List V → Hp → V → Prop := fun vs H r => ∃ i, vs = [.int i] ∧ r = .bl (decide (0 ≤ i))
theorem ok_isNumber (h1 : Has P w K mg base "is_integer" 1 ["thing"] (Pu preInt)) (F : Fun K "is_number" "is_number" sIsNumber f fd) : FnOk P w K mg base CX0 2 f fd ["thing"] (Pu preNum) := by
  refine F.ok scIsNumber (fun vs H Q E h => ?_) (fun cdv A outer s H vs Q E hr h => ?_)
  · obtain ⟨r, ⟨i, rfl, _⟩, _⟩ := h
    rfl
  · obtain ⟨r, ⟨i, rfl, rfl⟩, q⟩ := h
    refine ⟨_, pss_one (ps_ret (pe_and (pe_has h1 hr (pa_cons (pv 0) pa_nil)) (pe_one (pe_cmpR op_ge (pv 0) pe_int (nomark _))))), ?_⟩
    refine ⟨.int i, rfl, _, ⟨i, rfl, rfl⟩, fun H' s' => ⟨true, rfl, iteT ?_⟩⟩
    exact ⟨.int i, rfl, _, _, rfl, rfl, q _ s'⟩
def preIdx : List V → Hp → V → Prop := fun vs H r => ∃ i n, vs = [.int i, .int n] ∧ 0 ≤ i ∧ i < n ∧ r = .bl true
theorem ok_isIndex (h1 : Has P w K mg base "is_number" 2 ["thing"] (Pu preNum)) (F : Fun K "is_index" "is_index" sIsIndex f fd) : FnOk P w K mg base CX0 3 f fd ["thing", "size"] (Pu preIdx) := by
  refine F.ok scIsIndex (fun vs H Q E h => ?_) (fun cdv A outer s H vs Q E hr h => ?_)
  · obtain ⟨r, ⟨i, n, rfl, _⟩, _⟩ := h
    rfl
  · obtain ⟨r, ⟨i, n, rfl, hi, hn, rfl⟩, q⟩ := h
    refine ⟨_, pss_one (ps_ret (pe_and (pe_has h1 hr (pa_cons (pv 0) pa_nil)) (pe_one (pe_cmpR op_lt (pv 0) (pv 1) (nomark _))))), ?_⟩
    refine ⟨.int i, rfl, _, ⟨i, rfl, rfl⟩, fun H' s' => ⟨true, by rw [decide_eq_true hi], iteT ?_⟩⟩
    refine ⟨.int i, rfl, .int n, rfl, _, _, rfl, rfl, ?_⟩
    show Q (.bl (decide (i < n))) H'
    rw [decide_eq_true hn]
    exact q _ s'
/-- a name: one to eight small letters -/
structure NameOk (s : Str) : Prop where
  pos : 0 < s.cps.size
  few : s.cps.size < 9
  low : ∀ c ∈ s.cps.toList, c ∈ lettersS.cps.toList
def preName : List V → Hp → V → Prop := fun vs H r => ∃ s, vs = [.str s] ∧ NameOk s ∧ r = .bl true
theorem ok_isName (B : Blt mg lettersS) (F : Fun K "is_name" "is_name" sIsName f fd) : FnOk P w K mg base CX0 1 f fd ["thing"] (Pu preName) := by
  obtain ⟨tL, mL⟩ := B.letters
  refine F.ok scIsName (fun vs H Q E h => ?_) (fun cdv A outer s H vs Q E hr h => ?_)
  · obtain ⟨r, ⟨i, rfl, _⟩, _⟩ := h
    rfl
  · obtain ⟨r, ⟨z, rfl, ok, rfl⟩, q⟩ := h
    refine ⟨_, pss_one (ps_ret (pe_and (pe_callB call_isi (by rfl) B.isi (by decide +kernel) (pa_cons (pv 0) (pa_cons (pe_bltn (by rfl) B.str (by decide +kernel) (v := .ty "str") rfl) pa_nil)))
      (pe_and (pe_chain op_lt op_lt pe_int (pe_callB call_len_str (by rfl) B.len PySem.boot_len (pa_cons (pv 0) pa_nil)) pe_int)
      (pe_one (pe_callB (cr_all rfl) (by rfl) B.all (by decide +kernel) (pa_cons (pe_lc (own := [("sign", 1)]) (g := gName 1) (tt := tYes) rfl scIsName.nd (pi_str (pv 0))
        (blkOk_by (own := [("sign", 1)]) (N := ["thing", "sign"]) (sc := defScope sIsName) (by decide +kernel)) (fun _ _ _ _ _ => pg_name (i := 1) scIsName.nd rfl (Or.inl rfl)) (fun _ _ _ _ _ => pts_nil)
        (fun _ _ _ _ _ => pe_cmpR op_in_sign (pv 1) (pe_glob (v := .str lettersS) rfl mL ⟨_, rfl⟩) (by rfl))) pa_nil)))))), ?_⟩
    have hl : z.length = z.cps.size := rfl
    refine ⟨.str z, rfl, .str z, .ty "str", _, _, true, rfl, .ty "str", .base (.str z), kit_ty (by decide +kernel), true, rfl, iteT ?_⟩
    refine ⟨.str z, rfl, _, rfl, ?_, _, _, rfl, rfl, _, rfl, ?_⟩
    · have := ok.few
      exact Nat.le_trans (show z.cps.size ≤ 9 by omega) (by decide)
    · have p1 : (0 : Int) < ((z.length : Nat) : Int) := by have := ok.pos; rw [hl]; omega
      have p2 : ((z.length : Nat) : Int) < 9 := by have := ok.few; rw [hl]; omega
      rw [decide_eq_true p1]
      refine iteT ⟨_, _, rfl, rfl, true, congrArg V.bl (decide_eq_true p2), iteT ?_⟩
      refine ⟨.str z, rfl, z, rfl, fun D hD => lc_map walk_str ((List.range z.cps.size).map fun _ => V.bl true) (by simp) (Nat.lt_of_lt_of_le ok.few (by decide)) hD (fun _ _ => trivial) (fun i x H1 H' fin hi s1 y hf => ?_) (fun H1 s1 e1 => ?_)⟩
      · obtain ⟨rfl, c, ec, rfl⟩ := y
        refine ⟨rfl, _, rfl, c, lettersS, rfl, rfl, ?_⟩
        have hm : c ∈ z.cps.toList := by
          rw [Array.mem_toList_iff]
          exact Array.mem_of_getElem? ec
        rw [decide_eq_true (ok.low c hm)]
        have := hf _ (Same.refl _)
        simpa using this
      · refine ⟨D, (List.range z.cps.size).map fun _ => true, rfl, .of (by rw [e1, List.map_map]; rfl), ?_⟩
        have : ((List.range z.cps.size).map fun _ => true).all id = true := by simp
        rw [this]
        exact q _ s1
def preTupOf (K : PySem.W.Frag) : List V → Hp → V → Prop := fun vs H r => ∃ a xs, vs = [.ref a, .int (xs.length : Nat)] ∧ SqT K H a xs ∧ r = .bl true
theorem tyT {H : Hp} {a : Addr} {xs : List V} (h : SqT K H a xs) : TyX K H (.ref a) (.type "tuple") := by
  rcases h with (h | ⟨o, h⟩) | ⟨o, its, n, h1, h2, _⟩
  · exact .base (.tup h)
  · exact .fTuple h
  · exact .kTuple h1 h2
theorem ok_isTupleOf (B : Blt mg lettersS) (F : Fun K "is_tuple_of" "is_tuple_of" sIsTupleOf f fd) : FnOk P w K mg base CX0 1 f fd ["thing", "size"] (Pu (preTupOf K)) := by
  refine F.ok scIsTupleOf (fun vs H Q E h => ?_) (fun cdv A outer s H vs Q E hr h => ?_)
  · obtain ⟨r, ⟨a, xs, rfl, _⟩, _⟩ := h
    rfl
  · obtain ⟨r, ⟨a, xs, rfl, hq, rfl⟩, q⟩ := h
    refine ⟨_, pss_one (ps_ret (pe_and (pe_callB call_isi (by rfl) B.isi (by decide +kernel) (pa_cons (pv 0) (pa_cons (pe_bltn (by rfl) B.tuple (by decide +kernel) (v := .ty "tuple") rfl) pa_nil)))
      (pe_one (pe_cmpR op_eq (pe_callB call_len_seq (by rfl) B.len PySem.boot_len (pa_cons (pv 0) pa_nil)) (pv 1) (nomark _))))), ?_⟩
    refine ⟨_, rfl, _, .ty "tuple", _, _, true, rfl, .ty "tuple", tyT hq, kit_ty (by decide +kernel), true, rfl, iteT ?_⟩
    refine ⟨_, rfl, a, xs, rfl, .inr hq, _, rfl, rfl, ?_⟩
    rw [decide_eq_true rfl]
    exact q _ (Same.refl _)
end
end Kp
/-! The kinds of the program: names, orders, faults of chests and sizes. -/
namespace Kp
open PySem PySem.Spec PyProof.Rows L2

theorem cutV_map {α : Type} (f : α → V) (xs : List α) (lo hi : Option Int) : ∃ i j, cutV (xs.map f) lo hi = ((xs.drop i).take j).map f := by
  refine ⟨HT.sIx (xs.map f).length 0 lo, HT.sIx (xs.map f).length (xs.map f).length hi - HT.sIx (xs.map f).length 0 lo, ?_⟩
  unfold cutV
  rw [List.map_take, List.map_drop]
theorem slA {K : PySem.W.Frag} {H : Hp} {a : Addr} {xs : List V} {lo hi : Option Int} {Q : VK} (h : SqT K H a xs) (q : ∀ b H', Same H H' → SqT K H' b (cutV xs lo hi) → Q (.ref b) H') : rSlA K (.ref a) lo hi H Q := by
  refine ⟨a, xs, rfl, h, fun w => q a H (Same.refl _) ?_, fun _ p hp => q p _ (same_new hp) (.of upd_same)⟩
  have e : cutV xs lo hi = xs := by
    unfold cutV
    rw [w.1, w.2]
    simp
  rw [e]
  exact h
theorem slA_no {K : PySem.W.Frag} {σ : L2.St} {H : Hp} {a : Addr} {xs : List V} {lo : Option Int} {Q : VK} (h : SqT K H a xs) (q : ∀ b H', Same H H' → SqT K H' b (cutV xs lo none) → Q (.ref b) H') : tNoPart σ H (fun u H3 => rSlA K (.ref a) lo u H3 Q) :=
  slA h q
theorem cut1 (xs : List V) : cutV xs (some 1) none = xs.drop 1 := by
  unfold cutV
  rw [show HT.sIx xs.length 0 (some 1) = min 1 xs.length from HT.sIx_nat xs.length 0 1, HT.sIx_none]
  cases xs with
  | nil => rfl
  | cons x r =>
    rw [show min 1 (x :: r).length = 1 by
      rw [List.length_cons]
      omega]
    show (List.take ((x :: r).length - 1) r) = r
    rw [List.length_cons, Nat.add_sub_cancel]
    exact List.take_length

def AscS (ss : List Str) : Prop := ss.Pairwise fun a b => a.cps.toList < b.cps.toList
def AscT (rs : List (List Int)) : Prop := rs.Pairwise fun a b => HT.lexLt a b = true
section
variable {P : Program} {w : World} {K : PySem.W.Frag} {mg : Str → Option Value} {base : Heap} {f : Addr} {fd : FuncData}
def preAscS (K : PySem.W.Frag) : List V → Hp → V → Prop := fun vs H r => ∃ a ss, vs = [.ref a] ∧ SqT K H a (ss.map V.str) ∧ ss.length ≤ 1000 ∧ AscS ss ∧ r = .bl true
theorem ok_ascS (B : Blt mg lettersS) (F : Fun K "are_ascending" "are_ascending" sAreAscending f fd) : FnOk P w K mg base CX0 1 f fd ["things"] (Pu (preAscS K)) := by
  refine F.ok scAreAscending (fun vs H Q E h => ?_) (fun cdv A outer s H vs Q E hr h => ?_)
  · obtain ⟨r, ⟨a, xs, rfl, _⟩, _⟩ := h
    rfl
  · obtain ⟨r, ⟨a, ss, rfl, ha, hl, asc, rfl⟩, q⟩ := h
    refine ⟨_, pss_one (ps_ret (pe_callB (cr_all rfl) (by rfl) B.all (by decide +kernel) (pa_cons (pe_lc (own := [("one", 1), ("other", 2)]) (g := gTup K 2 (gCons (gName 1) (gCons (gName 2) gNil))) (tt := tYes) rfl scAreAscending.nd
        (RZ.pi_zipA (by rfl) B.zip (pa_cons (pv 0) (pa_cons (pe_slice sl_tupA (pv 0) (po_some pe_int) po_none) pa_nil)))
        (blkOk_by (own := [("one", 1), ("other", 2)]) (N := ["things", "one", "other"]) (sc := defScope sAreAscending) (by decide +kernel))
        (fun _ _ _ _ _ => pg_tup rfl (pgs_cons (pg_name (i := 1) scAreAscending.nd rfl (Or.inl rfl)) (pgs_cons (pg_name (i := 2) scAreAscending.nd rfl (Or.inl rfl)) pgs_nil))) (fun _ _ _ _ _ => pts_nil)
        (fun _ _ _ _ _ => pe_cmpR op_lt_str (pv 1) (pv 2) (nomark _))) pa_nil))), ?_⟩
    refine ⟨.ref a, rfl, .ref a, rfl, 1, rfl, ?_⟩
    refine slA_no (lo := some 1) ha fun b H1 s1 hb => ?_
    rw [cut1] at hb
    refine ⟨a, b, _, _, rfl, .inr ⟨s1.tp ha, hb, fun D hD => ?_⟩⟩
    refine lc_map (walk_zipT (n := ss.length - 1) ?_) ((List.range (ss.length - 1)).map fun _ => V.bl true) (by simp) (Nat.lt_of_le_of_lt (Nat.sub_le _ _) (small1000 hl)) hD (fun H2 s2 => ⟨s2.tp (s1.tp ha), s2.tp hb⟩) (fun i x H2 H3 fin hi s2 y hf => ?_) (fun H2 s2 e2 => ?_)
    · simp <;> omega
    · obtain ⟨T, x1, x2, rfl, hT, rfl, e1, e2⟩ := y
      dsimp only at e1 e2
      have hi' : i + 1 < ss.length := by
        simp at hi
        omega
      have g1 : x1 = .str (ss[i]'(by omega)) := by
        rw [List.getElem?_map, List.getElem?_eq_getElem (by omega)] at e1
        exact (Option.some.inj e1).symm
      have g2 : x2 = .str (ss[i + 1]'hi') := by
        rw [List.getElem?_drop, Nat.add_comm 1 i, List.getElem?_map, List.getElem?_eq_getElem hi'] at e2
        exact (Option.some.inj e2).symm
      refine ⟨T, [x1, x2], rfl, .of upd_same, rfl, x1, [x2], rfl, x2, [], rfl, rfl, rfl, x1, rfl, x2, rfl, _, _, g1, g2, ?_⟩
      have hlt : (ss[i]'(by omega)).cps.toList < (ss[i + 1]'hi').cps.toList := List.pairwise_iff_getElem.mp asc i (i + 1) (by omega) hi' (by omega)
      have := hf _ (same_new (o := .tup [x1, x2]) hT)
      rw [decide_eq_true hlt]
      simpa using this
    · refine ⟨D, (List.range (ss.length - 1)).map fun _ => true, rfl, .of (by rw [e2, List.map_map]; rfl), ?_⟩
      have : ((List.range (ss.length - 1)).map fun _ => true).all id = true := by simp
      rw [this]
      exact q _ (s1.trans s2)
def preAscT (K : PySem.W.Frag) : List V → Hp → V → Prop := fun vs H r => ∃ (a : Addr) (ks : List (Addr × List Int)), vs = [.ref a] ∧ SqT K H a (ks.map fun p => V.ref p.1) ∧ (∀ p ∈ ks, SqT K H p.1 (p.2.map V.int)) ∧ ks.length ≤ 1000 ∧ AscT (ks.map (·.2)) ∧ r = .bl true
theorem ok_ascT (B : Blt mg lettersS) (F : Fun K "are_ascending" "are_ascending" sAreAscending f fd) : FnOk P w K mg base CX0 1 f fd ["things"] (Pu (preAscT K)) := by
  refine F.ok scAreAscending (fun vs H Q E h => ?_) (fun cdv A outer s H vs Q E hr h => ?_)
  · obtain ⟨r, ⟨a, xs, rfl, _⟩, _⟩ := h
    rfl
  · obtain ⟨r, ⟨a, ks, rfl, ha, hk, hl, asc, rfl⟩, q⟩ := h
    refine ⟨_, pss_one (ps_ret (pe_callB (cr_all rfl) (by rfl) B.all (by decide +kernel) (pa_cons (pe_lc (own := [("one", 1), ("other", 2)]) (g := gTup K 2 (gCons (gName 1) (gCons (gName 2) gNil))) (tt := tYes) rfl scAreAscending.nd
        (RZ.pi_zipA (by rfl) B.zip (pa_cons (pv 0) (pa_cons (pe_slice sl_tupA (pv 0) (po_some pe_int) po_none) pa_nil)))
        (blkOk_by (own := [("one", 1), ("other", 2)]) (N := ["things", "one", "other"]) (sc := defScope sAreAscending) (by decide +kernel))
        (fun _ _ _ _ _ => pg_tup rfl (pgs_cons (pg_name (i := 1) scAreAscending.nd rfl (Or.inl rfl)) (pgs_cons (pg_name (i := 2) scAreAscending.nd rfl (Or.inl rfl)) pgs_nil))) (fun _ _ _ _ _ => pts_nil)
        (fun _ _ _ _ _ => pe_cmpR (show OpR _ _ (rLtT K) from op_ltT hr.units0) (pv 1) (pv 2) (nomark _))) pa_nil))), ?_⟩
    refine ⟨.ref a, rfl, .ref a, rfl, 1, rfl, ?_⟩
    refine slA_no (lo := some 1) ha fun b H1 s1 hb => ?_
    rw [cut1] at hb
    refine ⟨a, b, _, _, rfl, .inr ⟨s1.tp ha, hb, fun D hD => ?_⟩⟩
    refine lc_map (walk_zipT (n := ks.length - 1) ?_) ((List.range (ks.length - 1)).map fun _ => V.bl true) (by simp) (Nat.lt_of_le_of_lt (Nat.sub_le _ _) (small1000 hl)) hD (fun H2 s2 => ⟨s2.tp (s1.tp ha), s2.tp hb⟩) (fun i x H2 H3 fin hi s2 y hf => ?_) (fun H2 s2 e2 => ?_)
    · simp <;> omega
    · obtain ⟨T, x1, x2, rfl, hT, rfl, e1, e2⟩ := y
      dsimp only at e1 e2
      have hi' : i + 1 < ks.length := by
        simp at hi
        omega
      have g1 : x1 = .ref (ks[i]'(by omega)).1 := by
        rw [List.getElem?_map, List.getElem?_eq_getElem (by omega)] at e1
        exact (Option.some.inj e1).symm
      have g2 : x2 = .ref (ks[i + 1]'hi').1 := by
        rw [List.getElem?_drop, Nat.add_comm 1 i, List.getElem?_map, List.getElem?_eq_getElem hi'] at e2
        exact (Option.some.inj e2).symm
      have sT : Same H (upd H2 T (.tup [x1, x2])) := (s1.trans s2).trans (same_new hT)
      refine ⟨T, [x1, x2], rfl, .of upd_same, rfl, x1, [x2], rfl, x2, [], rfl, rfl, rfl, x1, rfl, x2, rfl, _, _, _, _, g1, g2, sT.tp (hk _ (List.getElem_mem _)), sT.tp (hk _ (List.getElem_mem _)), ?_⟩
      have hlt : HT.lexLt (ks[i]'(by omega)).2 (ks[i + 1]'hi').2 = true := by
        have := List.pairwise_iff_getElem.mp asc i (i + 1) (by simpa using (by omega : i < ks.length)) (by simpa using hi') (by omega)
        simpa using this
      have := hf _ (same_new (o := .tup [x1, x2]) hT)
      rw [hlt]
      simpa using this
    · refine ⟨D, (List.range (ks.length - 1)).map fun _ => true, rfl, .of (by rw [e2, List.map_map]; rfl), ?_⟩
      have : ((List.range (ks.length - 1)).map fun _ => true).all id = true := by simp
      rw [this]
      exact q _ (s1.trans s2)
abbrev hAscS (P : Program) (w : World) (K : PySem.W.Frag) (mg : Str → Option Value) (base : Heap) : Prop := Has P w K mg base "are_ascending" 1 ["things"] (Pu (preAscS K))
abbrev hAscT (P : Program) (w : World) (K : PySem.W.Frag) (mg : Str → Option Value) (base : Heap) : Prop := Has P w K mg base "are_ascending" 1 ["things"] (Pu (preAscT K))
abbrev hName (P : Program) (w : World) (K : PySem.W.Frag) (mg : Str → Option Value) (base : Heap) : Prop := Has P w K mg base "is_name" 1 ["thing"] (Pu preName)
abbrev hNum (P : Program) (w : World) (K : PySem.W.Frag) (mg : Str → Option Value) (base : Heap) : Prop := Has P w K mg base "is_number" 2 ["thing"] (Pu preNum)

def preNames (K : PySem.W.Frag) : List V → Hp → V → Prop := fun vs H r => ∃ a ss, vs = [.ref a] ∧ SqT K H a (ss.map V.str) ∧ ss.length ≤ 1000 ∧ AscS ss ∧ (∀ s ∈ ss, NameOk s) ∧ r = .bl true
theorem ok_areNames (B : Blt mg lettersS) (h1 : hAscS P w K mg base) (h2 : hName P w K mg base) (F : Fun K "are_names" "are_names" sAreNames f fd) : FnOk P w K mg base CX0 2 f fd ["thing"] (Pu (preNames K)) := by
  refine F.ok scAreNames (fun vs H Q E h => ?_) (fun cdv A outer s H vs Q E hr h => ?_)
  · obtain ⟨r, ⟨a, xs, rfl, _⟩, _⟩ := h
    rfl
  · obtain ⟨r, ⟨a, ss, rfl, ha, hl, asc, nm, rfl⟩, q⟩ := h
    refine ⟨_, pss_one (ps_ret (pe_and (pe_callB call_isi (by rfl) B.isi (by decide +kernel) (pa_cons (pv 0) (pa_cons (pe_bltn (by rfl) B.tuple (by decide +kernel) (v := .ty "tuple") rfl) pa_nil)))
      (pe_and (pe_callB (cr_all rfl) (by rfl) B.all (by decide +kernel) (pa_cons (pe_lc (own := [("one", 1)]) (g := gName 1) (tt := tYes) rfl scAreNames.nd (pi_tup (pv 0))
        (blkOk_by (own := [("one", 1)]) (N := ["thing", "one"]) (sc := defScope sAreNames) (by decide +kernel)) (fun _ _ _ _ _ => pg_name (i := 1) scAreNames.nd rfl (Or.inl rfl)) (fun _ _ _ _ _ => pts_nil)
        (fun _ _ _ _ _ => pe_has h2 hr (pa_cons (pv 1) pa_nil))) pa_nil))
      (pe_one (pe_has h1 hr (pa_cons (pv 0) pa_nil)))))), ?_⟩
    refine ⟨_, rfl, _, .ty "tuple", _, _, true, rfl, .ty "tuple", tyT ha, kit_ty (by decide +kernel), true, rfl, iteT ?_⟩
    refine ⟨.ref a, rfl, a, rfl, ⟨_, ha⟩, fun D hD => lc_map walk_tup (ss.map fun _ => V.bl true) (by simp) (by rw [List.length_map]; exact small1000 hl) hD (fun H2 s2 => s2.tp ha) (fun i x H2 H3 fin hi s2 y hf => ?_) (fun H2 s2 e2 => ?_)⟩
    · obtain ⟨rfl, e⟩ := y
      have hi' : i < ss.length := by simpa using hi
      rw [List.getElem?_map, List.getElem?_eq_getElem hi'] at e
      have e' := (Option.some.inj e).symm
      subst e'
      refine ⟨rfl, _, rfl, _, ⟨ss[i], rfl, nm _ (List.getElem_mem _), rfl⟩, fun H4 s4 => ?_⟩
      have := hf H4 s4
      simpa using this
    · refine ⟨D, ss.map fun _ => true, rfl, .of (by rw [e2, List.map_map]; rfl), true, by simp, iteT ?_⟩
      exact ⟨_, rfl, _, ⟨a, ss, rfl, s2.tp ha, hl, asc, rfl⟩, fun H3 s3 => q _ (s2.trans s3)⟩
abbrev hNames (P : Program) (w : World) (K : PySem.W.Frag) (mg : Str → Option Value) (base : Heap) : Prop := Has P w K mg base "are_names" 2 ["thing"] (Pu (preNames K))
def preChests (K : PySem.W.Frag) : List V → Hp → V → Prop := fun vs H r => ∃ a ss, vs = [.ref a] ∧ SqT K H a (ss.map V.str) ∧ ss.length ≤ 1000 ∧ AscS ss ∧ (∀ s ∈ ss, NameOk s) ∧ ss ≠ [] ∧ r = .bl true
theorem ok_isChests (B : Blt mg lettersS) (h1 : hNames P w K mg base) (F : Fun K "is_chests" "is_chests" sIsChests f fd) : FnOk P w K mg base CX0 3 f fd ["thing"] (Pu (preChests K)) := by
  refine F.ok scIsChests (fun vs H Q E h => ?_) (fun cdv A outer s H vs Q E hr h => ?_)
  · obtain ⟨r, ⟨a, xs, rfl, _⟩, _⟩ := h
    rfl
  · obtain ⟨r, ⟨a, ss, rfl, ha, hl, asc, nm, ne, rfl⟩, q⟩ := h
    refine ⟨_, pss_one (ps_ret (pe_and (pe_has h1 hr (pa_cons (pv 0) pa_nil)) (pe_one (pe_cmpR op_gt (pe_callB call_len_seq (by rfl) B.len PySem.boot_len (pa_cons (pv 0) pa_nil)) pe_int (nomark _))))), ?_⟩
    refine ⟨_, rfl, _, ⟨a, ss, rfl, ha, hl, asc, nm, rfl⟩, fun H2 s2 => ⟨true, rfl, iteT ?_⟩⟩
    refine ⟨_, rfl, a, _, rfl, .inr (s2.tp ha), _, _, rfl, rfl, ?_⟩
    have hp : (0 : Int) < (((ss.map V.str).length : Nat) : Int) := by
      have := List.length_pos_iff.mpr ne
      rw [List.length_map]
      omega
    show Q (.bl (decide ((0 : Int) < (((ss.map V.str).length : Nat) : Int)))) H2
    rw [decide_eq_true hp]
    exact q _ s2

theorem AscS.sub {ss : List Str} (h : AscS ss) (i j : Nat) : AscS ((ss.drop i).take j) := List.Pairwise.sublist ((List.take_sublist _ _).trans (List.drop_sublist _ _)) h
def preCf (K : PySem.W.Frag) : List V → Hp → V → Prop := fun vs H r => ∃ a ss, vs = [.ref a] ∧ SqT K H a (ss.map V.str) ∧ ss.length ≤ 1000 ∧ AscS ss ∧ (∀ s ∈ ss, NameOk s) ∧ r = .non
theorem ok_chestsFault (B : Blt mg lettersS) (h1 : hName P w K mg base) (h2 : hAscS P w K mg base) (F : Fun K "chests_fault" "chests_fault" sChestsFault f fd) : FnOk P w K mg base CX0 2 f fd ["chests"] (Pu (preCf K)) := by
  refine F.ok scChestsFault (fun vs H Q E h => ?_) (fun cdv A outer s H vs Q E hr h => ?_)
  · obtain ⟨r, ⟨a, xs, rfl, _⟩, _⟩ := h
    rfl
  · obtain ⟨r, ⟨a, ss, rfl, ha, hl, asc, nm, rfl⟩, q⟩ := h
    refine ⟨_, pss_cons (ps_for PassesOwn.never rfl (pi_enumT (by rfl) B.enumerate (pa_cons (pv 0) pa_nil)) (pg_tup rfl (pgs_cons (pg_name (i := 1) scChestsFault.nd rfl (Or.inl rfl)) (pgs_cons (pg_name (i := 2) scChestsFault.nd rfl (Or.inl rfl)) pgs_nil)))
        (pss_one (ps_if (PW.pt (pw_or (pt_not (pt_val (pe_has h1 hr (pa_cons (pv 2) pa_nil)))) (pw_or1 (pt_not (pt_val (pe_has h2 hr (pa_cons (pe_slice sl_tupA (pv 0)
          (po_some (pe_callB (call_max2 rfl) (by rfl) B.max (by decide +kernel) (pa_cons pe_int (pa_cons (pe_op op_sub (pv 1) pe_int) pa_nil)))) (po_some (pe_op op_add (pv 1) pe_int))) pa_nil))))))) (pss_one ps_never) pss_nil)))
      (pss_one (ps_ret pe_non)), ?_⟩
    refine ⟨.ref a, rfl, a, _, rfl, ha, for_it (walk_enT (K := K) (a := a) (xs := ss.map V.str)) (fun i σ H2 => ∃ y1 y2, σ = [some (.ref a), y1, y2] ∧ Same H H2) ⟨none, none, rfl, Same.refl _⟩ (fun i σ H2 _ p => ?_) (fun i x σ H2 H3 hi p y => ?_) (fun σ H2 p => ?_)⟩
    · obtain ⟨_, _, _, p⟩ := p
      exact p.tp ha
    · obtain ⟨y1, y2, rfl, s2⟩ := p
      obtain ⟨T, x1, x2, rfl, hT, rfl, e1, e2⟩ := y
      dsimp only at e1 e2
      have hi' : i < ss.length := by simpa using hi
      simp only [List.getElem?_map, List.getElem?_eq_getElem hi'] at e2
      have e1' := (Option.some.inj e1).symm
      have e2' := (Option.some.inj e2).symm
      subst e1' e2'
      have sT := s2.trans (same_new (o := .tup [.int (i : Nat), .str ss[i]]) hT)
      refine ⟨T, _, rfl, .of upd_same, rfl, _, _, rfl, _, [], rfl, rfl, ?_⟩
      refine ⟨_, rfl, _, ⟨ss[i], rfl, nm _ (List.getElem_mem _), rfl⟩, fun H4 s4 => ⟨true, rfl, iteF ?_⟩⟩
      have s5 := sT.trans s4
      refine ⟨.ref a, rfl, _, rfl, _, _, rfl, rfl, _, _, rfl, _, rfl, _, rfl, _, _, rfl, rfl, _, rfl, ?_⟩
      refine slA (s5.tp ha) fun b H5 s6 hb => ?_
      obtain ⟨ii, jj, ec⟩ := cutV_map V.str ss _ _
      rw [ec] at hb
      refine ⟨_, ⟨b, _, rfl, hb, ?_, asc.sub ii jj, rfl⟩, fun H6 s7 => ⟨true, rfl, iteF ?_⟩⟩
      · rw [List.length_take, List.length_drop]
        omega
      · exact ⟨_, _, rfl, (s5.trans s6).trans s7⟩
    · obtain ⟨y1, y2, rfl, s2⟩ := p
      exact q _ s2
def preSf (K : PySem.W.Frag) : List V → Hp → V → Prop := fun vs H r => ∃ (a b : Addr) (xs : List V) (ws : List Int), vs = [.ref a, .ref b] ∧ SqT K H a xs ∧ SqT K H b (ws.map V.int) ∧ xs.length = ws.length ∧ ws.length ≤ 1000 ∧ (∀ x ∈ ws, 0 < x) ∧ r = .non
theorem ok_sizesFault (B : Blt mg lettersS) (h1 : hNum P w K mg base) (F : Fun K "sizes_fault" "sizes_fault" sSizesFault f fd) : FnOk P w K mg base CX0 3 f fd ["chests", "sizes"] (Pu (preSf K)) := by
  refine F.ok scSizesFault (fun vs H Q E h => ?_) (fun cdv A outer s H vs Q E hr h => ?_)
  · obtain ⟨r, ⟨a, b, xs, ws, rfl, _⟩, _⟩ := h
    rfl
  · obtain ⟨r, ⟨a, b, xs, ws, rfl, ha, hb, el, hl, pos, rfl⟩, q⟩ := h
    refine ⟨_, pss_cons (ps_if (pt_cmpR op_ne (pe_callB call_len_seq (by rfl) B.len PySem.boot_len (pa_cons (pv 1) pa_nil)) (pe_callB call_len_seq (by rfl) B.len PySem.boot_len (pa_cons (pv 0) pa_nil)) (nomark _)) (pss_one ps_never) pss_nil)
      (pss_cons (ps_for PassesOwn.never rfl (pi_enumT (by rfl) B.enumerate (pa_cons (pv 1) pa_nil)) (pg_tup rfl (pgs_cons (pg_name (i := 2) scSizesFault.nd rfl (Or.inl rfl)) (pgs_cons (pg_name (i := 3) scSizesFault.nd rfl (Or.inl rfl)) pgs_nil)))
        (pss_one (ps_if (PW.pt (pw_or (pt_not (pt_val (pe_has h1 hr (pa_cons (pv 3) pa_nil)))) (pw_or1 (pt_cmpR op_eq (pv 3) pe_int (nomark _))))) (pss_one ps_never) pss_nil)))
      (pss_one (ps_ret pe_non))), ?_⟩
    refine ⟨_, rfl, b, _, rfl, .inr hb, _, rfl, a, _, rfl, .inr ha, rfl, _, rfl, iteNS ?_ ?_⟩
    · rw [List.length_map, el]
    refine ⟨.ref b, rfl, b, _, rfl, hb, for_it (walk_enT (K := K) (a := b) (xs := ws.map V.int)) (fun i σ H2 => ∃ y1 y2, σ = [some (.ref a), some (.ref b), y1, y2] ∧ Same H H2) ⟨none, none, rfl, Same.refl _⟩ (fun i σ H2 _ p => ?_) (fun i x σ H2 H3 hi p y => ?_) (fun σ H2 p => ?_)⟩
    · obtain ⟨_, _, _, p⟩ := p
      exact p.tp hb
    · obtain ⟨y1, y2, rfl, s2⟩ := p
      obtain ⟨T, x1, x2, rfl, hT, rfl, e1, e2⟩ := y
      dsimp only at e1 e2
      have hi' : i < ws.length := by simpa using hi
      simp only [List.getElem?_map, List.getElem?_eq_getElem hi'] at e2
      have e1' := (Option.some.inj e1).symm
      have e2' := (Option.some.inj e2).symm
      subst e1' e2'
      have sT := s2.trans (same_new (o := .tup [.int (i : Nat), .int ws[i]]) hT)
      have hp := pos _ (List.getElem_mem hi')
      refine ⟨T, _, rfl, .of upd_same, rfl, _, _, rfl, _, [], rfl, rfl, ?_⟩
      refine ⟨_, rfl, _, ⟨ws[i], rfl, rfl⟩, fun H4 s4 => ⟨_, rfl, ?_⟩⟩
      have h0 : 0 ≤ ws[i] := Int.le_of_lt hp
      rw [decide_eq_true h0]
      refine iteF ⟨_, rfl, rfl, _, rfl, ?_⟩
      have hn : ¬ (V.int ws[i] = V.int 0) := fun z => by
        have := V.int.inj z
        omega
      rw [decide_eq_false hn]
      exact iteF ⟨_, _, rfl, sT.trans s4⟩
    · obtain ⟨y1, y2, rfl, s2⟩ := p
      exact q _ s2
end
end Kp
/-! Halls: what they are, and that the program finds no fault in them. -/
namespace Kp
open PySem PySem.Spec PyProof.Rows L2

/-! ### a hall as data -/
def widOf : List Str → List Int → Str → Option Int
  | c :: cs, w :: ws, s => if c = s then some w else widOf cs ws s
  | _, _, _ => none
theorem widOf_cons (c : Str) (cs : List Str) (w : Int) (ws : List Int) (s : Str) : widOf (c :: cs) (w :: ws) s = if c = s then some w else widOf cs ws s := rfl
theorem widOf_none : ∀ (cs : List Str) (ws : List Int) (s : Str), s ∉ cs → widOf cs ws s = none
  | [], _, _, _ => by simp [widOf]
  | _ :: _, [], _, _ => by simp [widOf]
  | c :: cs, w :: ws, s, h => by
    rw [List.mem_cons, not_or] at h
    rw [widOf_cons]
    rw [if_neg (fun e => h.1 e.symm)]
    exact widOf_none cs ws s h.2
theorem widOf_some : ∀ (cs : List Str) (ws : List Int) (s : Str), s ∈ cs → ws.length = cs.length → ∃ w, widOf cs ws s = some w ∧ w ∈ ws
  | [], _, _, h, _ => by cases h
  | _ :: _, [], _, _, h => by cases h
  | c :: cs, w :: ws, s, h, hl => by
    rw [widOf_cons]
    by_cases e : c = s
    · rw [if_pos e]
      exact ⟨w, rfl, List.mem_cons_self ..⟩
    · rw [if_neg e]
      obtain ⟨v, h1, h2⟩ := widOf_some cs ws s ((List.mem_cons.mp h).resolve_left fun z => e z.symm) (Nat.succ.inj hl)
      exact ⟨v, h1, List.mem_cons_of_mem _ h2⟩
theorem widOf_at : ∀ (cs : List Str) (ws : List Int) (i : Nat) (s : Str) (w : Int), cs.Nodup → cs[i]? = some s → ws[i]? = some w → widOf cs ws s = some w
  | [], _, _, _, _, _, h, _ => by simp at h
  | _ :: _, [], _, _, _, _, _, h => by simp at h
  | c :: cs, v :: ws, 0, s, w, _, h1, h2 => by
    have e1 : c = s := Option.some.inj h1
    have e2 : v = w := Option.some.inj h2
    rw [widOf_cons]
    rw [if_pos e1, e2]
  | c :: cs, v :: ws, i + 1, s, w, nd, h1, h2 => by
    have h1' : cs[i]? = some s := h1
    have h2' : ws[i]? = some w := h2
    rw [widOf_cons]
    rw [List.nodup_cons] at nd
    rw [if_neg (fun e : c = s => nd.1 (by rw [e]; exact List.mem_of_getElem? h1'))]
    exact widOf_at cs ws i s w nd.2 h1' h2'
/-- the entries of the dict of sizes -/
def szKV : List Str → List Int → List (Key × V)
  | c :: cs, w :: ws => (.inr c, .int w) :: szKV cs ws
  | _, _ => []
theorem valV_merge : ∀ (cs : List Str) (ws : List Int) (acc : List (Key × V)) (s : Str), cs.Nodup → valV (mergeK acc (szKV cs ws)) (.inr s) = match widOf cs ws s with
    | some w => some (.int w)
    | none => valV acc (.inr s)
  | [], _, _, _, _ => by simp [szKV, widOf, mergeK]
  | _ :: _, [], _, _, _ => by simp [szKV, widOf, mergeK]
  | c :: cs, w :: ws, acc, s, nd => by
    rw [List.nodup_cons] at nd
    show valV (mergeK (putK acc (.inr c) (.int w)) (szKV cs ws)) (.inr s) = _
    rw [valV_merge cs ws _ s nd.2]
    rw [widOf_cons]
    by_cases e : c = s
    · subst e
      rw [if_pos rfl, widOf_none cs ws c nd.1, valV_put, if_pos rfl]
    · rw [if_neg e]
      cases widOf cs ws s with
      | some v => rfl
      | none => 
        show valV (putK acc (.inr c) (.int w)) (.inr s) = _
        rw [valV_put, if_neg (fun z => e (Sum.inr.inj z).symm)]
structure SealD where
  p : Addr
  l : Addr
  r : Addr
  lot : List Str
  rows : List (Addr × List Int)
structure HallD where
  a : Addr
  b : Addr
  c : Addr
  cs : List Str
  ws : List Int
  qs : List SealD
structure SealAt (K : PySem.W.Frag) (H : Hp) (q : SealD) : Prop where
  p : SqT K H q.p [.ref q.l, .ref q.r]
  l : SqT K H q.l (q.lot.map V.str)
  r : SqT K H q.r (q.rows.map fun x => V.ref x.1)
  x : ∀ x ∈ q.rows, SqT K H x.1 (x.2.map V.int)
structure HallAt (K : PySem.W.Frag) (H : Hp) (p : Addr) (d : HallD) : Prop where
  p : SqT K H p [.ref d.a, .ref d.b, .ref d.c]
  a : SqT K H d.a (d.cs.map V.str)
  b : SqT K H d.b (d.ws.map V.int)
  c : SqT K H d.c (d.qs.map fun q => V.ref q.p)
  q : ∀ q ∈ d.qs, SealAt K H q
theorem SealAt.keep {K : PySem.W.Frag} {H H' : Hp} {q : SealD} (h : SealAt K H q) (s : Same H H') : SealAt K H' q := ⟨s.tp h.p, s.tp h.l, s.tp h.r, fun x hx => s.tp (h.x x hx)⟩
theorem HallAt.keep {K : PySem.W.Frag} {H H' : Hp} {p : Addr} {d : HallD} (h : HallAt K H p d) (s : Same H H') : HallAt K H' p d := ⟨s.tp h.p, s.tp h.a, s.tp h.b, s.tp h.c, fun q hq => (h.q q hq).keep s⟩
structure RowOk (cs : List Str) (ws : List Int) (lot : List Str) (x : List Int) : Prop where
  len : x.length = lot.length
  fit : ∀ (j : Nat) v s, x[j]? = some v → lot[j]? = some s → ∃ w, widOf cs ws s = some w ∧ 0 ≤ v ∧ v < w
structure SealOk (cs : List Str) (ws : List Int) (q : SealD) : Prop where
  ne : q.lot ≠ []
  few : q.lot.length ≤ 3
  asc : AscS q.lot
  sub : ∀ s ∈ q.lot, s ∈ cs
  rfew : q.rows.length ≤ 64
  rasc : AscT (q.rows.map (·.2))
  row : ∀ x ∈ q.rows, RowOk cs ws q.lot x.2
structure HallOk (d : HallD) : Prop where
  ne : d.cs ≠ []
  few : d.cs.length ≤ 5
  asc : AscS d.cs
  nm : ∀ s ∈ d.cs, NameOk s
  len : d.ws.length = d.cs.length
  pos : ∀ w ∈ d.ws, 0 < w
  top : ∀ w ∈ d.ws, w ≤ 12
  qfew : d.qs.length ≤ 14
  q : ∀ q ∈ d.qs, SealOk d.cs d.ws q
theorem AscS.nodup {ss : List Str} (h : AscS ss) : ss.Nodup := by
  refine List.Pairwise.imp (fun {a b} hab => ?_) h
  intro e
  subst e
  exact List.lt_irrefl _ hab
/-- the dict of sizes at z -/
def SzAt (H : Hp) (z : Addr) (cs : List Str) (ws : List Int) : Prop := ∃ kvs, H z = some (.dK kvs) ∧ ∀ s, valV kvs (.inr s) = (widOf cs ws s).map V.int
theorem SzAt.keep {H H' : Hp} {z : Addr} {cs : List Str} {ws : List Int} (h : SzAt H z cs ws) (s : Same H H') : SzAt H' z cs ws := let ⟨k, h1, h2⟩ := h; ⟨k, s _ _ h1, h2⟩

section
variable {P : Program} {w : World} {K : PySem.W.Frag} {mg : Str → Option Value} {base : Heap} {f : Addr} {fd : FuncData}
abbrev hChests (P : Program) (w : World) (K : PySem.W.Frag) (mg : Str → Option Value) (base : Heap) : Prop := Has P w K mg base "is_chests" 3 ["thing"] (Pu (preChests K))
def preLot (K : PySem.W.Frag) : List V → Hp → V → Prop := fun vs H r => ∃ z a cs ws lot, vs = [.ref z, .ref a] ∧ SzAt H z cs ws ∧ SqT K H a (lot.map V.str) ∧ lot ≠ [] ∧ lot.length ≤ 3 ∧ AscS lot ∧ (∀ s ∈ lot, NameOk s ∧ (widOf cs ws s).isSome = true) ∧ r = .bl true
theorem ok_isLotBy (B : Blt mg lettersS) (h1 : hChests P w K mg base) (F : Fun K "is_lot_by" "is_lot_by" sIsLotBy f fd) : FnOk P w K mg base CX0 4 f fd ["sizes", "thing"] (Pu (preLot K)) := by
  refine F.ok scIsLotBy (fun vs H Q E h => ?_) (fun cdv A outer s H vs Q E hr h => ?_)
  · obtain ⟨r, ⟨z, a, cs, ws, lot, rfl, _⟩, _⟩ := h
    rfl
  · obtain ⟨r, ⟨z, a, cs, ws, lot, rfl, hz, ha, ne, hl, asc, nm, rfl⟩, q⟩ := h
    refine ⟨_, pss_one (ps_ret (pe_and (pe_has h1 hr (pa_cons (pv 1) pa_nil)) (pe_and (pe_cmpR op_lt (pe_callB call_len_seq (by rfl) B.len PySem.boot_len (pa_cons (pv 1) pa_nil)) pe_int (nomark _))
      (pe_one (pe_callB (cr_all rfl) (by rfl) B.all (by decide +kernel) (pa_cons (pe_lc (own := [("chest", 2)]) (g := gName 2) (tt := tYes) rfl scIsLotBy.nd (pi_tup (pv 1))
        (blkOk_by (own := [("chest", 2)]) (N := ["sizes", "thing", "chest"]) (sc := defScope sIsLotBy) (by decide +kernel)) (fun _ _ _ _ _ => pg_name (i := 2) scIsLotBy.nd rfl (Or.inl rfl)) (fun _ _ _ _ _ => pts_nil)
        (fun _ _ _ _ _ => pe_cmp (pc_din (hu_of hr) (pv 2) (pv 0)) rfl)) pa_nil)))))), ?_⟩
    have hl3 : (((lot.map V.str).length : Nat) : Int) < 4 := by
      rw [List.length_map]
      omega
    refine ⟨_, rfl, _, ⟨a, lot, rfl, ha, by omega, asc, fun s hs => (nm s hs).1, ne, rfl⟩, fun H2 s2 => ⟨true, rfl, iteT ?_⟩⟩
    refine ⟨_, rfl, a, _, rfl, .inr (s2.tp ha), _, _, rfl, rfl, true, congrArg V.bl (decide_eq_true hl3), iteT ?_⟩
    refine ⟨_, rfl, a, rfl, ⟨_, s2.tp ha⟩, fun D hD => lc_map walk_tup (lot.map fun _ => V.bl true) (by simp) (by rw [List.length_map]; exact small1000 (by omega)) hD (fun H3 s3 => s3.tp (s2.tp ha)) (fun i x H3 H4 fin hi s3 y hf => ?_) (fun H3 s3 e3 => ?_)⟩
    · obtain ⟨rfl, e⟩ := y
      have hi' : i < lot.length := by simpa using hi
      rw [List.getElem?_map, List.getElem?_eq_getElem hi'] at e
      have e' := (Option.some.inj e).symm
      subst e'
      obtain ⟨kvs, hk, hv⟩ := (hz.keep s2).keep s3
      refine ⟨rfl, _, rfl, _, rfl, z, _, rfl, DGet.k (k := Sum.inr lot[i]) hk, ?_⟩
      have := hf _ (Same.refl _)
      rw [hv, Option.isSome_map, (nm _ (List.getElem_mem hi')).2]
      simpa using this
    · refine ⟨D, lot.map fun _ => true, rfl, .of (by rw [e3, List.map_map]; rfl), ?_⟩
      have : (lot.map fun _ => true).all id = true := by simp
      rw [this]
      exact q _ (s2.trans s3)
abbrev hLot (P : Program) (w : World) (K : PySem.W.Frag) (mg : Str → Option Value) (base : Heap) : Prop := Has P w K mg base "is_lot_by" 4 ["sizes", "thing"] (Pu (preLot K))
abbrev hTupOf (P : Program) (w : World) (K : PySem.W.Frag) (mg : Str → Option Value) (base : Heap) : Prop := Has P w K mg base "is_tuple_of" 1 ["thing", "size"] (Pu (preTupOf K))
abbrev hIdx (P : Program) (w : World) (K : PySem.W.Frag) (mg : Str → Option Value) (base : Heap) : Prop := Has P w K mg base "is_index" 3 ["thing", "size"] (Pu preIdx)
def preRow (K : PySem.W.Frag) : List V → Hp → V → Prop := fun vs H r => ∃ z a b cs ws lot x, vs = [.ref z, .ref a, .ref b] ∧ SzAt H z cs ws ∧ SqT K H a (lot.map V.str) ∧ SqT K H b (x.map V.int) ∧ lot.length ≤ 1000 ∧ RowOk cs ws lot x ∧ r = .bl true
theorem ok_isRowBy (B : Blt mg lettersS) (h1 : hTupOf P w K mg base) (h2 : hIdx P w K mg base) (F : Fun K "is_row_by" "is_row_by" sIsRowBy f fd) : FnOk P w K mg base CX0 4 f fd ["sizes", "lot", "thing"] (Pu (preRow K)) := by
  refine F.ok scIsRowBy (fun vs H Q E h => ?_) (fun cdv A outer s H vs Q E hr h => ?_)
  · obtain ⟨r, ⟨z, a, b, cs, ws, lot, x, rfl, _⟩, _⟩ := h
    rfl
  · obtain ⟨r, ⟨z, a, b, cs, ws, lot, x, rfl, hz, ha, hb, hl, ok, rfl⟩, q⟩ := h
    refine ⟨_, pss_cons (ps_if (pt_not (pt_val (pe_has h1 (hr.mono (by decide)) (pa_cons (pv 2) (pa_cons (pe_callB call_len_seq (by rfl) B.len PySem.boot_len (pa_cons (pv 1) pa_nil)) pa_nil))))) (pss_one ps_never) pss_nil)
      (pss_one (ps_ret (pe_callB (cr_all rfl) (by rfl) B.all (by decide +kernel) (pa_cons (pe_lc (own := [("chest", 3), ("one", 4)]) (g := gTup K 2 (gCons (gName 3) (gCons (gName 4) gNil))) (tt := tYes) rfl scIsRowBy.nd
        (RZ.pi_zipA (by rfl) B.zip (pa_cons (pv 1) (pa_cons (pv 2) pa_nil)))
        (blkOk_by (own := [("chest", 3), ("one", 4)]) (N := ["sizes", "lot", "thing", "chest", "one"]) (sc := defScope sIsRowBy) (by decide +kernel))
        (fun _ _ _ _ _ => pg_tup rfl (pgs_cons (pg_name (i := 3) scIsRowBy.nd rfl (Or.inl rfl)) (pgs_cons (pg_name (i := 4) scIsRowBy.nd rfl (Or.inl rfl)) pgs_nil))) (fun _ _ _ _ _ => pts_nil)
        (fun _ _ _ _ _ => pe_has h2 hr (pa_cons (pv 4) (pa_cons (pe_dget (hu_of hr) (pv 0) (pv 3) (fun _ _ => rfl)) pa_nil)))) pa_nil)))), ?_⟩
    refine ⟨_, rfl, _, rfl, a, _, rfl, .inr ha, _, ⟨b, x.map V.int, ?_, hb, rfl⟩, fun H1 s1 => ⟨true, rfl, iteF ?_⟩⟩
    · rw [List.length_map, List.length_map, ok.len]
    refine ⟨_, rfl, _, rfl, a, b, _, _, rfl, .inr ⟨s1.tp ha, s1.tp hb, fun D hD => ?_⟩⟩
    refine lc_map (walk_zipT (n := lot.length) ?_) (lot.map fun _ => V.bl true) (by simp) (small1000 hl) hD (fun H2 s2 => ⟨s2.tp (s1.tp ha), s2.tp (s1.tp hb)⟩) (fun i y0 H2 H3 fin hi s2 y hf => ?_) (fun H2 s2 e2 => ?_)
    · rw [List.length_map, List.length_map, ok.len, Nat.min_self]
    · obtain ⟨T, x1, x2, rfl, hT, rfl, e1, e2⟩ := y
      dsimp only at e1 e2
      have hi' : i < lot.length := by simpa using hi
      have hx' : i < x.length := by rw [ok.len]; exact hi'
      rw [List.getElem?_map, List.getElem?_eq_getElem hi'] at e1
      rw [List.getElem?_map, List.getElem?_eq_getElem hx'] at e2
      have e1' := (Option.some.inj e1).symm
      have e2' := (Option.some.inj e2).symm
      subst e1' e2'
      have sT : Same H2 (upd H2 T (.tup [V.str lot[i], V.int x[i]])) := same_new hT
      obtain ⟨kvs, hk, hv⟩ := hz.keep ((s1.trans s2).trans sT)
      obtain ⟨v, hw, h0, hlt⟩ := ok.fit i _ _ (List.getElem?_eq_getElem hx') (List.getElem?_eq_getElem hi')
      have hg := DGet.k (k := Sum.inr lot[i]) hk
      rw [hv, hw] at hg
      refine ⟨T, _, rfl, .of upd_same, rfl, _, _, rfl, _, [], rfl, rfl, rfl, _, rfl, _, rfl, _, rfl, z, _, rfl, hg, _, ⟨x[i], v, rfl, h0, hlt, rfl⟩, fun H4 s4 => ?_⟩
      have := hf _ (sT.trans s4)
      simpa using this
    · refine ⟨D, lot.map fun _ => true, rfl, .of (by rw [e2, List.map_map]; rfl), ?_⟩
      have : (lot.map fun _ => true).all id = true := by simp
      rw [this]
      exact q _ (s1.trans s2)
abbrev hRow (P : Program) (w : World) (K : PySem.W.Frag) (mg : Str → Option Value) (base : Heap) : Prop := Has P w K mg base "is_row_by" 4 ["sizes", "lot", "thing"] (Pu (preRow K))
theorem AscT.sub {rs : List (List Int)} (h : AscT rs) (i j : Nat) : AscT ((rs.drop i).take j) := List.Pairwise.sublist ((List.take_sublist _ _).trans (List.drop_sublist _ _)) h
def preSeal (K : PySem.W.Frag) : List V → Hp → V → Prop := fun vs H r => ∃ z cs ws q k, vs = [.ref z, .ref q.p, .int k] ∧ SzAt H z cs ws ∧ ws.length = cs.length ∧ SealAt K H q ∧ SealOk cs ws q ∧ (∀ s ∈ cs, NameOk s) ∧ r = .non
theorem ok_sealFault (B : Blt mg lettersS) (h1 : hTupOf P w K mg base) (h2 : hLot P w K mg base) (h3 : hRow P w K mg base) (h4 : hAscT P w K mg base) (F : Fun K "seal_fault" "seal_fault" sSealFault f fd) : FnOk P w K mg base CX0 5 f fd ["sizes", "thing", "k"] (Pu (preSeal K)) := by
  refine F.ok scSealFault (fun vs H Q E h => ?_) (fun cdv A outer s H vs Q E hr h => ?_)
  · obtain ⟨r, ⟨z, cs, ws, q, k, rfl, _⟩, _⟩ := h
    rfl
  · obtain ⟨r, ⟨z, cs, ws, d, k, rfl, hz, hlen, at0, ok, nm, rfl⟩, q⟩ := h
    refine ⟨_, pss_cons (ps_if (PW.pt (pw_or (pt_not (pt_val (pe_has h1 (hr.mono (by decide)) (pa_cons (pv 1) (pa_cons pe_int pa_nil)))))
        (pw_or (pt_not (pt_val (pe_callB call_isi (by rfl) B.isi (by decide +kernel) (pa_cons (pe_ix ix_tup (pv 1) pe_int (fun _ _ => rfl)) (pa_cons (pe_bltn (by rfl) B.tuple (by decide +kernel) (v := .ty "tuple") rfl) pa_nil)))))
        (pw_or1 (pt_not (pt_val (pe_callB call_isi (by rfl) B.isi (by decide +kernel) (pa_cons (pe_ix ix_tup (pv 1) pe_int (fun _ _ => rfl)) (pa_cons (pe_bltn (by rfl) B.tuple (by decide +kernel) (v := .ty "tuple") rfl) pa_nil))))))))) (pss_one ps_never) pss_nil)
      (pss_cons (ps_asg (pv 1) (pg_tup rfl (pgs_cons (pg_name (i := 3) scSealFault.nd rfl (Or.inl rfl)) (pgs_cons (pg_name (i := 4) scSealFault.nd rfl (Or.inl rfl)) pgs_nil))))
      (pss_cons (ps_if (pt_not (pt_val (pe_has h2 hr (pa_cons (pv 0) (pa_cons (pv 3) pa_nil))))) (pss_one ps_never) pss_nil)
      (pss_cons (ps_for PassesOwn.never rfl (pi_enumT (by rfl) B.enumerate (pa_cons (pv 4) pa_nil)) (pg_tup rfl (pgs_cons (pg_name (i := 5) scSealFault.nd rfl (Or.inl rfl)) (pgs_cons (pg_name (i := 6) scSealFault.nd rfl (Or.inl rfl)) pgs_nil)))
        (pss_one (ps_if (PW.pt (pw_or (pt_not (pt_val (pe_has h3 hr (pa_cons (pv 0) (pa_cons (pv 3) (pa_cons (pv 6) pa_nil)))))) (pw_or1 (pt_not (pt_val (pe_has h4 (hr.mono (by decide)) (pa_cons (pe_slice sl_tupA (pv 4)
          (po_some (pe_callB (call_max2 rfl) (by rfl) B.max (by decide +kernel) (pa_cons pe_int (pa_cons (pe_op op_sub (pv 5) pe_int) pa_nil)))) (po_some (pe_op op_add (pv 5) pe_int))) pa_nil))))))) (pss_one ps_never) pss_nil)))
      (pss_one (ps_ret pe_non))))), ?_⟩
    refine ⟨_, rfl, _, ⟨d.p, _, rfl, at0.p, rfl⟩, fun H1 s1 => ⟨true, rfl, iteF ?_⟩⟩
    have at1 := at0.keep s1
    refine ⟨_, rfl, d.p, _, 0, .ref d.l, rfl, rfl, at1.p, atI_nat (j := 0) rfl, .ref d.l, .ty "tuple", _, _, true, rfl, .ty "tuple", tyT at1.l, kit_ty (by decide +kernel), true, rfl, iteF ?_⟩
    refine ⟨_, rfl, d.p, _, 1, .ref d.r, rfl, rfl, at1.p, atI_nat (j := 1) rfl, .ref d.r, .ty "tuple", _, _, true, rfl, .ty "tuple", tyT at1.r, kit_ty (by decide +kernel), true, rfl, iteF ?_⟩
    refine ⟨_, rfl, d.p, _, rfl, at1.p, rfl, .ref d.l, _, rfl, .ref d.r, [], rfl, rfl, ?_⟩
    refine ⟨_, rfl, _, rfl, _, ⟨z, d.l, cs, ws, d.lot, rfl, hz.keep s1, at1.l, ok.ne, ok.few, ok.asc, fun s hs => ⟨nm s (ok.sub s hs), ?_⟩, rfl⟩, fun H2 s2 => ⟨true, rfl, iteF ?_⟩⟩
    · obtain ⟨v, hv, _⟩ := widOf_some cs ws s (ok.sub s hs) hlen
      rw [hv]
      rfl
    have s02 := s1.trans s2
    have at2 := at1.keep s2
    refine ⟨_, rfl, d.r, _, rfl, at2.r, for_it (walk_enT (K := K) (a := d.r) (xs := d.rows.map fun x => V.ref x.1)) (fun i σ H3 => ∃ y1 y2, σ = [some (.ref z), some (.ref d.p), some (.int k), some (.ref d.l), some (.ref d.r), y1, y2] ∧ Same H2 H3) ⟨none, none, rfl, Same.refl _⟩ (fun i σ H3 _ p => ?_) (fun i x σ H3 H4 hi p y => ?_) (fun σ H3 p => ?_)⟩
    · obtain ⟨_, _, _, p⟩ := p
      exact p.tp at2.r
    · obtain ⟨y1, y2, rfl, s3⟩ := p
      obtain ⟨T, x1, x2, rfl, hT, rfl, e1, e2⟩ := y
      dsimp only at e1 e2
      have hi' : i < d.rows.length := by simpa using hi
      simp only [List.getElem?_map, List.getElem?_eq_getElem hi'] at e2
      have e1' := (Option.some.inj e1).symm
      have e2' := (Option.some.inj e2).symm
      subst e1' e2'
      have sT := s3.trans (same_new (o := .tup [.int (i : Nat), .ref d.rows[i].1]) hT)
      have atT := at2.keep sT
      have hm := List.getElem_mem hi'
      refine ⟨T, _, rfl, .of upd_same, rfl, _, _, rfl, _, [], rfl, rfl, ?_⟩
      refine ⟨_, rfl, _, rfl, _, rfl, _, ⟨z, d.l, d.rows[i].1, cs, ws, d.lot, d.rows[i].2, rfl, hz.keep (s02.trans sT), atT.l, atT.x _ hm, Nat.le_trans ok.few (by decide), ok.row _ hm, rfl⟩, fun H5 s5 => ⟨true, rfl, iteF ?_⟩⟩
      have s6 := sT.trans s5
      refine ⟨_, rfl, _, rfl, _, _, rfl, rfl, _, _, rfl, _, rfl, _, rfl, _, _, rfl, rfl, _, rfl, ?_⟩
      refine slA ((at2.keep s6).r) fun b H6 s7 hb => ?_
      obtain ⟨ii, jj, ec⟩ := cutV_map (fun x : Addr × List Int => V.ref x.1) d.rows _ _
      rw [ec] at hb
      refine ⟨_, ⟨b, _, rfl, hb, fun x hx => (at2.keep (s6.trans s7)).x x (List.mem_of_mem_drop (List.mem_of_mem_take hx)), ?_, ?_, rfl⟩, fun H7 s8 => ⟨true, rfl, iteF ?_⟩⟩
      · have := ok.rfew
        rw [List.length_take, List.length_drop]
        omega
      · rw [List.map_take, List.map_drop]
        exact ok.rasc.sub ii jj
      · exact ⟨_, _, rfl, (s6.trans s7).trans s8⟩
    · obtain ⟨y1, y2, rfl, s3⟩ := p
      exact q _ (s02.trans s3)
abbrev hSealF (P : Program) (w : World) (K : PySem.W.Frag) (mg : Str → Option Value) (base : Heap) : Prop := Has P w K mg base "seal_fault" 5 ["sizes", "thing", "k"] (Pu (preSeal K))
end
end Kp
/-! hall_fault, want, size_of, seals_of. -/
namespace Kp
open PySem PySem.Spec PyProof.Rows L2

theorem szKV_length : ∀ (cs : List Str) (ws : List Int), ws.length = cs.length → (szKV cs ws).length = cs.length
  | [], _, _ => rfl
  | _ :: _, [], h => by simp at h
  | c :: cs, w :: ws, h => congrArg Nat.succ (szKV_length cs ws (Nat.succ.inj h))
theorem paired_sz {K : PySem.W.Frag} {H2 : Hp} : ∀ (cs : List Str) (ws : List Int) (ts : List Addr), ws.length = cs.length → ts.length = cs.length →
    (∀ (j : Nat) T, ts[j]? = some T → ∃ x y, (cs.map V.str)[j]? = some x ∧ (ws.map V.int)[j]? = some y ∧ H2 T = some (.tup [x, y])) →
    Paired (fun (p : Addr) (kv : Key × V) => SqT K H2 p [kV kv.1, kv.2]) ts (szKV cs ws)
  | [], _, [], _, _, _ => by
    cases ‹List Int› <;> exact .nil
  | [], _, _ :: _, _, h, _ => by simp at h
  | _ :: _, [], _, h, _, _ => by simp at h
  | _ :: _, _ :: _, [], _, h, _ => by simp at h
  | c :: cs, w :: ws, t :: ts, h1, h2, h => by
    refine .cons ?_ (paired_sz cs ws ts (Nat.succ.inj h1) (Nat.succ.inj h2) fun j T e => h (j + 1) T e)
    obtain ⟨x, y, e1, e2, e3⟩ := h 0 t rfl
    have e1' := (Option.some.inj e1).symm
    have e2' := (Option.some.inj e2).symm
    subst e1' e2'
    exact .of e3
section
variable {P : Program} {w : World} {K : PySem.W.Frag} {mg : Str → Option Value} {base : Heap} {f : Addr} {fd : FuncData}
def spSizes (K : PySem.W.Frag) : Sp := fun vs H Q _ => ∃ p d, vs = [.ref p] ∧ HallAt K H p d ∧ HallOk d ∧ ∀ H' z, Same H H' → SzAt H' z d.cs d.ws → Q (.ref z) H'
theorem ok_sizesBy (B : Blt mg lettersS) (F : Fun K "sizes_by" "sizes_by" sSizesBy f fd) : FnOk P w K mg base CX0 1 f fd ["hall"] (spSizes K) := by
  refine F.ok scSizesBy (fun vs H Q E h => ?_) (fun cdv A outer s H vs Q E hr h => ?_)
  · obtain ⟨p, d, rfl, _⟩ := h
    rfl
  · obtain ⟨p, d, rfl, hp, ok, q⟩ := h
    refine ⟨_, pss_one (ps_ret (pe_callTy (call_dictP rfl) (by rfl) B.dict (by decide +kernel) (pa_cons (pe_listZip (by rfl) B.list (by rfl) B.zip
      (pa_cons (pe_ix ix_tup (pv 0) pe_int (fun _ _ => rfl)) (pa_cons (pe_ix ix_tup (pv 0) pe_int (fun _ _ => rfl)) pa_nil))) pa_nil))), ?_⟩
    refine ⟨_, rfl, p, _, 0, .ref d.a, rfl, rfl, hp.p, atI_nat (j := 0) rfl, _, rfl, p, _, 1, .ref d.b, rfl, rfl, hp.p, atI_nat (j := 1) rfl, ?_⟩
    refine ⟨d.a, d.b, _, _, rfl, hp.a, hp.b, ?_, fun H2 l ts s2 hl el tl ht => ?_⟩
    · rw [List.length_map, List.length_map, ok.len]
    · rw [List.length_map] at tl
      refine ⟨l, ts, szKV d.cs d.ws, rfl, .of el, paired_sz d.cs d.ws ts ok.len tl ht, fun z hz => ?_⟩
      refine q _ z (s2.trans (same_new hz)) ⟨_, upd_same, fun s => ?_⟩
      rw [valV_merge d.cs d.ws [] s ok.asc.nodup]
      cases widOf d.cs d.ws s <;> rfl
abbrev hSizes (P : Program) (w : World) (K : PySem.W.Frag) (mg : Str → Option Value) (base : Heap) : Prop := Has P w K mg base "sizes_by" 1 ["hall"] (spSizes K)
abbrev hCf (P : Program) (w : World) (K : PySem.W.Frag) (mg : Str → Option Value) (base : Heap) : Prop := Has P w K mg base "chests_fault" 2 ["chests"] (Pu (preCf K))
abbrev hSf (P : Program) (w : World) (K : PySem.W.Frag) (mg : Str → Option Value) (base : Heap) : Prop := Has P w K mg base "sizes_fault" 3 ["chests", "sizes"] (Pu (preSf K))
def preHall (K : PySem.W.Frag) : List V → Hp → V → Prop := fun vs H r => ∃ p d, vs = [.ref p] ∧ HallAt K H p d ∧ HallOk d ∧ r = .non
theorem ok_hallFault (B : Blt mg lettersS) (h1 : hTupOf P w K mg base) (h2 : hCf P w K mg base) (h3 : hSf P w K mg base) (h4 : hSizes P w K mg base) (h5 : hSealF P w K mg base) (F : Fun K "hall_fault" "hall_fault" sHallFault f fd) :
    FnOk P w K mg base CX0 6 f fd ["thing"] (Pu (preHall K)) := by
  refine F.ok scHallFault (fun vs H Q E h => ?_) (fun cdv A outer s H vs Q E hr h => ?_)
  · obtain ⟨r, ⟨p, d, rfl, _⟩, _⟩ := h
    rfl
  · obtain ⟨r, ⟨p, d, rfl, hp, ok, rfl⟩, q⟩ := h
    refine ⟨_, pss_cons (ps_if (PW.pt (pw_or (pt_not (pt_val (pe_has h1 (hr.mono (by decide)) (pa_cons (pv 0) (pa_cons pe_int pa_nil)))))
        (pw_or (pt_not (pt_val (pe_callB (cr_all rfl) (by rfl) B.all (by decide +kernel) (pa_cons (pe_lc (own := [("one", 5)]) (g := gName 5) (tt := tYes) rfl scHallFault.nd (pi_tup (pv 0))
          (blkOk_by (own := [("one", 5)]) (N := ["thing", "fault", "sizes", "faults", "found", "one", "k", "seal"]) (sc := defScope sHallFault) (by decide +kernel)) (fun _ _ _ _ _ => pg_name (i := 5) scHallFault.nd rfl (Or.inl rfl)) (fun _ _ _ _ _ => pts_nil)
          (fun _ _ _ _ _ => pe_callB (show CallR _ _ (rIsi K) from call_isi) (by rfl) B.isi (by decide +kernel) (pa_cons (pv 5) (pa_cons (pe_bltn (by rfl) B.tuple (by decide +kernel) (v := .ty "tuple") rfl) pa_nil)))) pa_nil))))
        (pw_or1 (pt_cmpR op_eq (pe_callB call_len_seq (by rfl) B.len PySem.boot_len (pa_cons (pe_ix ix_tup (pv 0) pe_int (fun _ _ => rfl)) pa_nil)) pe_int (nomark _)))))) (pss_one ps_never) pss_nil)
      (pss_cons (ps_set (i := 1) scHallFault.nd rfl (Or.inl rfl) (pe_has h2 (hr.mono (by decide)) (pa_cons (pe_ix ix_tup (pv 0) pe_int (fun _ _ => rfl)) pa_nil)))
      (pss_cons (ps_if (pt_cmpR op_isN (pv 1) pe_non (nomark _)) (pss_one (ps_set (i := 1) scHallFault.nd rfl (Or.inl rfl) (pe_has h3 (hr.mono (by decide)) (pa_cons (pe_ix ix_tup (pv 0) pe_int (fun _ _ => rfl)) (pa_cons (pe_ix ix_tup (pv 0) pe_int (fun _ _ => rfl)) pa_nil))))) pss_nil)
      (pss_cons (ps_if (pt_cmpR op_notN (pv 1) pe_non (nomark _)) (pss_one ps_never) pss_nil)
      (pss_cons (ps_set (i := 2) scHallFault.nd rfl (Or.inr rfl) (pe_has h4 (hr.mono (by decide)) (pa_cons (pv 0) pa_nil)))
      (pss_cons (ps_setLc (i := 3) (own := [("k", 6), ("seal", 7)]) (g := gTup K 2 (gCons (gName 6) (gCons (gName 7) gNil))) (tt := tYes) rfl scHallFault.nd rfl rfl (sw_true rfl rfl rfl (by decide +kernel))
          (pi_enumT (by rfl) B.enumerate (pa_cons (pe_ix ix_tup (pv 0) pe_int (fun _ _ => rfl)) pa_nil))
          (blkOk_by (own := [("k", 6), ("seal", 7)]) (N := ["thing", "fault", "sizes", "faults", "found", "one", "k", "seal"]) (sc := defScope sHallFault) (by decide +kernel))
          (fun _ _ _ _ _ => pg_tup rfl (pgs_cons (pg_name (i := 6) scHallFault.nd rfl (Or.inl rfl)) (pgs_cons (pg_name (i := 7) scHallFault.nd rfl (Or.inl rfl)) pgs_nil))) (fun _ _ _ _ _ => pts_nil)
          (fun _ _ _ _ _ => pe_has h5 hr (pa_cons (pv 2) (pa_cons (pv 7) (pa_cons (pv 6) pa_nil)))))
      (pss_cons (ps_setLc (i := 4) (own := [("one", 5)]) (g := gName 5) rfl scHallFault.nd rfl rfl (sw_true rfl rfl rfl (by decide +kernel)) (pi_list (pv 3))
          (blkOk_by (own := [("one", 5)]) (N := ["thing", "fault", "sizes", "faults", "found", "one", "k", "seal"]) (sc := defScope sHallFault) (by decide +kernel)) (fun _ _ _ _ _ => pg_name (i := 5) scHallFault.nd rfl (Or.inl rfl))
          (fun _ _ _ _ _ => pts_one (pt_cmpR op_notN (pv 5) pe_non (nomark _))) (fun _ _ _ _ _ => pv 5))
      (pss_one (ps_ret (pe_ifExp (pt_cmpR op_gt (pe_callB call_len_seq (by rfl) B.len PySem.boot_len (pa_cons (pv 4) pa_nil)) pe_int (nomark _)) (pe_ix ix_list (pv 4) pe_int (fun _ _ => rfl)) pe_non))))))))), ?_⟩
    refine ⟨_, rfl, _, ⟨p, _, rfl, hp.p, rfl⟩, fun H1 s1 => ⟨true, rfl, iteF ?_⟩⟩
    have p1 := hp.keep s1
    refine ⟨_, rfl, p, rfl, ⟨_, p1.p⟩, fun D hD => lc_map (walk_tup (K := K) (a := p) (xs := [.ref d.a, .ref d.b, .ref d.c])) [V.bl true, V.bl true, V.bl true] rfl (by show 3 < sizeLine; decide) hD (fun H3 s3 => s3.tp p1.p) (fun i x H3 H4 fin hi s3 y hf => ?_) (fun H3 s3 e3 => ?_)⟩
    · obtain ⟨rfl, e⟩ := y
      have p3 := p1.keep s3
      have key : ∀ (b : Addr) (ys : List V), x = .ref b → SqT K H4 b ys → fin (.bl true) H4 → ∃ (z c : V) (t u : Value) (r : Bool), [x, V.ty "tuple"] = [z, c] ∧ ClsV c u ∧ TyX K H4 z t ∧ PySem.W.kitOne K t u = some r ∧ fin (.bl r) H4 := by
        rintro b ys rfl hb hq
        exact ⟨.ref b, .ty "tuple", _, _, true, rfl, .ty "tuple", tyT hb, kit_ty (by decide +kernel), hq⟩
      have hq := hf _ (Same.refl _)
      match i, hi, e, hq with
      | 0, _, e, hq => exact ⟨rfl, _, rfl, key _ _ (Option.some.inj e).symm p3.a hq⟩
      | 1, _, e, hq => exact ⟨rfl, _, rfl, key _ _ (Option.some.inj e).symm p3.b hq⟩
      | 2, _, e, hq => exact ⟨rfl, _, rfl, key _ _ (Option.some.inj e).symm p3.c hq⟩
      | i + 3, hi, _, _ => exact absurd hi (by simp)
    · refine ⟨D, [true, true, true], rfl, .of e3, true, rfl, iteF ?_⟩
      have p3 := p1.keep s3
      have s03 := s1.trans s3
      refine ⟨_, rfl, p, _, 0, .ref d.a, rfl, rfl, p3.p, atI_nat (j := 0) rfl, d.a, _, rfl, .inr p3.a, rfl, _, rfl, ?_⟩
      have hn : ¬ (V.int (((d.cs.map V.str).length : Nat) : Int) = V.int 0) := fun z => by
        have z := V.int.inj z
        have := List.length_pos_iff.mpr ok.ne
        rw [List.length_map] at z
        omega
      rw [decide_eq_false hn]
      refine iteF ?_
      refine ⟨_, rfl, p, _, 0, .ref d.a, rfl, rfl, p3.p, atI_nat (j := 0) rfl, _, ⟨d.a, d.cs, rfl, p3.a, Nat.le_trans ok.few (by decide), ok.asc, ok.nm, rfl⟩, fun H4 s4 => ?_⟩
      have p4 := p3.keep s4
      refine ⟨_, rfl, rfl, _, rfl, iteT ?_⟩
      refine ⟨_, rfl, p, _, 0, .ref d.a, rfl, rfl, p4.p, atI_nat (j := 0) rfl, _, rfl, p, _, 1, .ref d.b, rfl, rfl, p4.p, atI_nat (j := 1) rfl, _, ⟨d.a, d.b, _, d.ws, rfl, p4.a, p4.b, ?_, ?_, ok.pos, rfl⟩, fun H5 s5 => ?_⟩
      · rw [List.length_map, ok.len]
      · have := ok.few
        rw [ok.len]
        omega
      have p5 := p4.keep s5
      refine ⟨_, rfl, rfl, _, rfl, iteF ?_⟩
      refine ⟨_, rfl, p, d, rfl, p5, ok, fun H6 z s6 hz => ?_⟩
      have p6 := p5.keep s6
      refine ⟨_, rfl, p, _, 2, .ref d.c, rfl, rfl, p6.p, atI_nat (j := 2) rfl, d.c, _, rfl, p6.c, fun D2 hD2 => ?_⟩
      have hq14 : d.qs.length < sizeLine := small1000 (Nat.le_trans ok.qfew (by decide))
      refine lc_map (walk_enT (K := K) (a := d.c) (xs := d.qs.map fun q => V.ref q.p)) (d.qs.map fun _ => V.non) (by simp) (by rw [List.length_map]; exact hq14) hD2 (fun H7 s7 => s7.tp p6.c) (fun i x H7 H8 fin hi s7 y hf => ?_) (fun H7 s7 e7 => ?_)
      · obtain ⟨T, x1, x2, rfl, hT, rfl, e1, e2⟩ := y
        dsimp only at e1 e2
        have hi' : i < d.qs.length := by simpa using hi
        rw [List.getElem?_map, List.getElem?_eq_getElem hi'] at e2
        have e1' := (Option.some.inj e1).symm
        have e2' := (Option.some.inj e2).symm
        subst e1' e2'
        have sT : Same H7 (upd H7 T (.tup [V.int (i : Nat), V.ref d.qs[i].p])) := same_new hT
        have hm := List.getElem_mem hi'
        refine ⟨T, _, rfl, .of upd_same, rfl, _, _, rfl, _, [], rfl, rfl, rfl, _, rfl, _, rfl, _, rfl, _, ⟨z, d.cs, d.ws, d.qs[i], (i : Nat), rfl, hz.keep (s7.trans sT), ok.len, (p6.keep (s7.trans sT)).q _ hm, ok.q _ hm, ok.nm, rfl⟩, fun H9 s9 => ?_⟩
        have := hf _ (sT.trans s9)
        simpa using this
      · refine ⟨_, rfl, D2, rfl, ⟨_, .of e7⟩, fun D3 hD3 => ?_⟩
        refine lc_filt (walk_list (K := K) (a := D2) (xs := d.qs.map fun _ => V.non)) (fun _ => false) (fun _ => V.non) (by rw [List.length_map]; exact hq14) hD3 (fun H8 s8 => .of (s8 _ _ e7)) (fun i x H8 H9 fin skip hi s8 y hf hs => ?_) (fun H8 s8 e8 => ?_)
        · obtain ⟨rfl, e⟩ := y
          have hi' : i < d.qs.length := by simpa using hi
          rw [List.getElem?_map, List.getElem?_eq_getElem hi'] at e
          have e' := (Option.some.inj e).symm
          subst e'
          exact ⟨rfl, _, rfl, rfl, _, rfl, iteF (hs _ (Same.refl _) rfl)⟩
        · have e8' : H8 D3 = some (.lst []) := by
            rw [List.filter_eq_nil_iff.mpr (by simp)] at e8
            exact e8
          refine ⟨_, rfl, D3, _, rfl, .inl (.of e8'), _, _, rfl, rfl, _, rfl, iteF ?_⟩
          exact q _ ((((s03.trans s4).trans s5).trans s6).trans (s7.trans s8))
abbrev hHallF (P : Program) (w : World) (K : PySem.W.Frag) (mg : Str → Option Value) (base : Heap) : Prop := Has P w K mg base "hall_fault" 6 ["thing"] (Pu (preHall K))
end
end Kp
/-! want, size_of, seals_of. -/
namespace Kp
open PySem PySem.Spec PyProof.Rows L2

structure HasD (P : Program) (w : World) (K : PySem.W.Frag) (mg : Str → Option Value) (base : Heap) (x : Str) (k : Nat) (ps : List Str) (dvs : List V) (sp : Sp) : Prop where
  ex : ∃ (f : Addr) (fd : FuncData) (ds : List Value), mg x = some (.ref f) ∧ PySem.W.keepIn K (.ref f) = true ∧ Binds K fd ps ds ∧ Vals dvs ds ∧ FnOk P w K mg base CX0 k f fd ps sp
def tHasD (sp : Sp) (dvs : List V) (t : TA) : TE := fun σ H Q => t σ H fun vs H1 => sp (vs ++ dvs) H1 Q E0
section
variable {X : Cx} {k : Nat} {ps : List Str} {dvs : List V} {sp : Sp} {x : Str} {p pos : Pos} {e : Expr} {es : List Expr} {t : TA}
theorem pe_hasD (F : HasD X.prog X.w X.K X.mg X.base x k ps dvs sp) (hr : Room k X.A) (ha : PA X (e :: es) t) (hg : Gl X x := by rfl) (hdb : (x == ("__debug__" : Str)) = false := by decide)
    (he : starEach (e :: es) X.env = (false, eval e X.env) :: starEach es X.env := by rfl) (hpl : (backTo pos (starEach es X.env)).any (·.1) = false := by rfl) : PE X (.Call (.Name x p) (e :: es) [] pos) (tHasD sp dvs t) := by
  obtain ⟨f, fd, ds, h1, h2, h3, h4, h5⟩ := F.ex
  exact pe_call (p := p) (pos := pos) (E := E0) h5 hr hg h1 h2 h3 h4 pass0 ha hdb he hpl
end
theorem inV_str (s : Str) : ∀ lot : List Str, inV (.str s) (lot.map V.str) = decide (s ∈ lot)
  | [] => by simp [inV]
  | c :: lot => by
    have e : inV (.str s) ((c :: lot).map V.str) = (eqV (.str c) (.str s) || inV (.str s) (lot.map V.str)) := rfl
    rw [e, inV_str s lot]
    show ((c == s) || decide (s ∈ lot)) = _
    by_cases h : c = s
    · subst h
      simp
    · have h2 : (c == s) = false := by simp [h]
      have h3 : (s ∈ c :: lot) ↔ s ∈ lot := by
        rw [List.mem_cons]
        exact ⟨fun z => z.resolve_left fun q => h q.symm, Or.inr⟩
      rw [h2, Bool.false_or]
      exact (decide_eq_decide.mpr h3).symm
theorem flat_strs (lot : List Str) : (lot.map V.str).all flatV = true := by
  simp [List.all_map, flatV]
section
variable {P : Program} {w : World} {K : PySem.W.Frag} {mg : Str → Option Value} {base : Heap} {f : Addr} {fd : FuncData}
def preWant : List V → Hp → V → Prop := fun vs H r => ∃ b c, vs = [.bl true, b, c] ∧ r = .non
theorem ok_want (F : FunD K "want" "want" (defArgs sWant) (defBody sWant) (defScope sWant) [V.int (-1)] [] f fd) : FnOk P w K mg base CX0 1 f fd ["is_right", "word", "at"] (Pu preWant) := by
  refine F.ok scWant (fun vs H Q E h => ?_) (fun cdv A outer s H vs Q E hr h => ?_)
  · obtain ⟨r, ⟨b, c, rfl, _⟩, _⟩ := h
    rfl
  · obtain ⟨r, ⟨b, c, rfl, rfl⟩, q⟩ := h
    refine ⟨_, pss_one (ps_if (pt_not (pt_val (pv 0))) (pss_one ps_never) pss_nil), ?_⟩
    exact ⟨_, rfl, true, rfl, iteF (q _ (Same.refl _))⟩
theorem want2 (g : mg "want" = some (.ref f)) (F : FunD K "want" "want" (defArgs sWant) (defBody sWant) (defScope sWant) [V.int (-1)] [] f fd) : HasD P w K mg base "want" 1 ["is_right", "word", "at"] [V.int (-1)] (Pu preWant) := by
  obtain ⟨ds, h1, h2⟩ := F.binds1 (ps := ["is_right", "word", "at"]) 2 0 (by simp) rfl fun T kV doc pm an cdv ct us its l1 l2 => match us, its, l1, l2 with
    | [_, _], [_], _, _ => ⟨_, rfl, rfl⟩
  exact ⟨f, fd, ds, g, F.kp, h2, h1, ok_want F⟩
theorem want3 (g : mg "want" = some (.ref f)) (F : FunD K "want" "want" (defArgs sWant) (defBody sWant) (defScope sWant) [V.int (-1)] [] f fd) : HasD P w K mg base "want" 1 ["is_right", "word", "at"] [] (Pu preWant) := by
  obtain ⟨ds, h1, h2⟩ := F.binds1 (ps := ["is_right", "word", "at"]) 3 1 (by simp) rfl fun T kV doc pm an cdv ct us its l1 l2 => match us, its, l1, l2 with
    | [_, _, _], [_], _, _ => ⟨_, rfl, rfl⟩
  exact ⟨f, fd, ds, g, F.kp, h2, h1, ok_want F⟩
abbrev hWant2 (P : Program) (w : World) (K : PySem.W.Frag) (mg : Str → Option Value) (base : Heap) : Prop := HasD P w K mg base "want" 1 ["is_right", "word", "at"] [V.int (-1)] (Pu preWant)
abbrev hWant3 (P : Program) (w : World) (K : PySem.W.Frag) (mg : Str → Option Value) (base : Heap) : Prop := HasD P w K mg base "want" 1 ["is_right", "word", "at"] [] (Pu preWant)
theorem ok_wantHall (h1 : hHallF P w K mg base) (h2 : hWant2 P w K mg base) (F : Fun K "want_hall" "want_hall" sWantHall f fd) : FnOk P w K mg base CX0 7 f fd ["hall"] (Pu (preHall K)) := by
  refine F.ok scWantHall (fun vs H Q E h => ?_) (fun cdv A outer s H vs Q E hr h => ?_)
  · obtain ⟨r, ⟨p, d, rfl, _⟩, _⟩ := h
    rfl
  · obtain ⟨r, ⟨p, d, rfl, hp, ok, rfl⟩, q⟩ := h
    refine ⟨_, pss_one (ps_expr (pe_hasD h2 (hr.mono (by decide)) (pa_cons (pe_cmpR op_isN (pe_has h1 hr (pa_cons (pv 0) pa_nil)) pe_non (nomark _)) (pa_cons pe_str pa_nil)))), ?_⟩
    exact ⟨_, rfl, _, ⟨p, d, rfl, hp, ok, rfl⟩, fun H1 s1 => ⟨rfl, _, ⟨_, _, rfl, rfl⟩, fun H2 s2 => q _ (s1.trans s2)⟩⟩
abbrev hWantHall (P : Program) (w : World) (K : PySem.W.Frag) (mg : Str → Option Value) (base : Heap) : Prop := Has P w K mg base "want_hall" 7 ["hall"] (Pu (preHall K))
def preWc (K : PySem.W.Frag) : List V → Hp → V → Prop := fun vs H r => ∃ p d s, vs = [.ref p, .str s] ∧ HallAt K H p d ∧ HallOk d ∧ s ∈ d.cs ∧ r = .non
theorem ok_wantChest (h1 : hName P w K mg base) (h2 : hWant3 P w K mg base) (F : Fun K "want_chest" "want_chest" sWantChest f fd) : FnOk P w K mg base CX0 2 f fd ["hall", "chest"] (Pu (preWc K)) := by
  refine F.ok scWantChest (fun vs H Q E h => ?_) (fun cdv A outer s H vs Q E hr h => ?_)
  · obtain ⟨r, ⟨p, d, s, rfl, _⟩, _⟩ := h
    rfl
  · obtain ⟨r, ⟨p, d, s, rfl, hp, ok, hs, rfl⟩, q⟩ := h
    refine ⟨_, pss_one (ps_expr (pe_hasD h2 hr (pa_cons (pe_and (pe_has h1 hr (pa_cons (pv 1) pa_nil)) (pe_one (pe_cmpR op_in_seq (pv 1) (pe_ix ix_tup (pv 0) pe_int (fun _ _ => rfl)) (by rfl)))) (pa_cons pe_str (pa_cons (pv 1) pa_nil))))), ?_⟩
    refine ⟨_, rfl, _, ⟨s, rfl, ok.nm s hs, rfl⟩, fun H1 s1 => ⟨true, rfl, iteT ?_⟩⟩
    have p1 := hp.keep s1
    refine ⟨_, rfl, _, rfl, p, _, 0, .ref d.a, rfl, rfl, p1.p, atI_nat (j := 0) rfl, d.a, _, rfl, .inr p1.a, rfl, flat_strs _, _, rfl, _, ⟨.str "chest", .str s, ?_, rfl⟩, fun H2 s2 => q _ (s1.trans s2)⟩
    show [V.bl (inV (.str s) (d.cs.map V.str)), .str "chest", .str s] = [V.bl true, .str "chest", .str s]
    rw [inV_str, decide_eq_true hs]
abbrev hWantChest (P : Program) (w : World) (K : PySem.W.Frag) (mg : Str → Option Value) (base : Heap) : Prop := Has P w K mg base "want_chest" 2 ["hall", "chest"] (Pu (preWc K))
def preSize (K : PySem.W.Frag) : List V → Hp → V → Prop := fun vs H r => ∃ p d s x, vs = [.ref p, .str s] ∧ HallAt K H p d ∧ HallOk d ∧ s ∈ d.cs ∧ widOf d.cs d.ws s = some x ∧ r = .int x
theorem ok_sizeOf (h1 : hWantHall P w K mg base) (h2 : hWantChest P w K mg base) (h3 : hSizes P w K mg base) (F : Fun K "size_of" "size_of" sSizeOf f fd) : FnOk P w K mg base CX0 8 f fd ["hall", "chest"] (Pu (preSize K)) := by
  refine F.ok scSizeOf (fun vs H Q E h => ?_) (fun cdv A outer s H vs Q E hr h => ?_)
  · obtain ⟨r, ⟨p, d, s, x, rfl, _⟩, _⟩ := h
    rfl
  · obtain ⟨r, ⟨p, d, s, x, rfl, hp, ok, hs, hx, rfl⟩, q⟩ := h
    refine ⟨_, pss_cons (ps_expr (pe_has h1 hr (pa_cons (pv 0) pa_nil))) (pss_cons (ps_expr (pe_has h2 (hr.mono (by decide)) (pa_cons (pv 0) (pa_cons (pv 1) pa_nil))))
      (pss_one (ps_ret (pe_dget (hu_of hr) (pe_has h3 (hr.mono (by decide)) (pa_cons (pv 0) pa_nil)) (pv 1) (fun _ _ => rfl))))), ?_⟩
    refine ⟨_, rfl, _, ⟨p, d, rfl, hp, ok, rfl⟩, fun H1 s1 => ?_⟩
    refine ⟨_, rfl, _, rfl, _, ⟨p, d, s, rfl, hp.keep s1, ok, hs, rfl⟩, fun H2 s2 => ?_⟩
    refine ⟨_, rfl, p, d, rfl, hp.keep (s1.trans s2), ok, fun H3 z s3 hz => ?_⟩
    obtain ⟨kvs, hk, hv⟩ := hz
    have hg := DGet.k (k := Sum.inr s) hk
    rw [hv, hx] at hg
    exact ⟨_, rfl, z, _, rfl, hg, q _ ((s1.trans s2).trans s3)⟩
/-- the numbers of the seals that hold s -/
def sealsK (d : HallD) (s : Str) (k : Nat) : Bool := (d.qs[k]?).any fun q => decide (s ∈ q.lot)
def sealsL (d : HallD) (s : Str) : List Int := ((List.range d.qs.length).filter (sealsK d s)).map fun (k : Nat) => (k : Int)
def spSeals (K : PySem.W.Frag) : Sp := fun vs H Q _ => ∃ p d s, vs = [.ref p, .str s] ∧ HallAt K H p d ∧ HallOk d ∧ s ∈ d.cs ∧ ∀ H' t, Same H H' → SqT K H' t ((sealsL d s).map V.int) → Q (.ref t) H'
theorem ok_sealsWith (B : Blt mg lettersS) (F : Fun K "seals_with" "seals_with" sSealsWith f fd) : FnOk P w K mg base CX0 1 f fd ["hall", "chest"] (spSeals K) := by
  refine F.ok scSealsWith (fun vs H Q E h => ?_) (fun cdv A outer s H vs Q E hr h => ?_)
  · obtain ⟨p, d, s, rfl, _⟩ := h
    rfl
  · obtain ⟨p, d, s, rfl, hp, ok, hs, q⟩ := h
    refine ⟨_, pss_one (ps_ret (pe_callTy call_tuple_of (by rfl) B.tuple (by decide +kernel) (pa_cons (pe_lc (own := [("k", 2), ("lot", 3), ("rows", 4)])
      (g := gTup K 2 (gCons (gName 2) (gCons (gTup K 2 (gCons (gName 3) (gCons (gName 4) gNil))) gNil))) rfl scSealsWith.nd (pi_enumT (by rfl) B.enumerate (pa_cons (pe_ix ix_tup (pv 0) pe_int (fun _ _ => rfl)) pa_nil))
      (blkOk_by (own := [("k", 2), ("lot", 3), ("rows", 4)]) (N := ["hall", "chest", "k", "lot", "rows"]) (sc := defScope sSealsWith) (by decide +kernel))
      (fun _ _ _ _ _ => pg_tup rfl (pgs_cons (pg_name (i := 2) scSealsWith.nd rfl (Or.inl rfl)) (pgs_cons (pg_tup rfl (pgs_cons (pg_name (i := 3) scSealsWith.nd rfl (Or.inl rfl)) (pgs_cons (pg_name (i := 4) scSealsWith.nd rfl (Or.inl rfl)) pgs_nil))) pgs_nil)))
      (fun _ _ _ _ _ => pts_one (pt_cmpR (show OpR _ _ (rIn K false) from op_in_seq) (pv 1) (pv 3) (by rfl))) (fun _ _ _ _ _ => pv 2)) pa_nil))), ?_⟩
    refine ⟨_, rfl, p, _, 2, .ref d.c, rfl, rfl, hp.p, atI_nat (j := 2) rfl, d.c, _, rfl, hp.c, fun D hD => ?_⟩
    have hq14 : d.qs.length < sizeLine := small1000 (Nat.le_trans ok.qfew (by decide))
    refine lc_filt (walk_enT (K := K) (a := d.c) (xs := d.qs.map fun q => V.ref q.p)) (sealsK d s) (fun k => V.int (k : Nat)) (by rw [List.length_map]; exact hq14) hD (fun H2 s2 => s2.tp hp.c) (fun i x H2 H3 fin skip hi s2 y hf hk => ?_) (fun H2 s2 e2 => ?_)
    · obtain ⟨T, x1, x2, rfl, hT, rfl, e1, e2⟩ := y
      dsimp only at e1 e2
      have hi' : i < d.qs.length := by simpa using hi
      rw [List.getElem?_map, List.getElem?_eq_getElem hi'] at e2
      have e1' := (Option.some.inj e1).symm
      have e2' := (Option.some.inj e2).symm
      subst e1' e2'
      have sT : Same H2 (upd H2 T (.tup [V.int (i : Nat), V.ref d.qs[i].p])) := same_new hT
      have at1 := (hp.keep (s2.trans sT)).q _ (List.getElem_mem hi')
      refine ⟨T, _, rfl, .of upd_same, rfl, _, _, rfl, _, [], rfl, ⟨_, _, rfl, at1.p, rfl, _, _, rfl, _, [], rfl, rfl, ?_⟩⟩
      refine ⟨rfl, rfl, _, rfl, _, rfl, d.qs[i].l, _, rfl, .inr at1.l, rfl, flat_strs _, _, rfl, ?_⟩
      show if inV (.str s) (d.qs[i].lot.map V.str) = true then _ else _
      have ek : sealsK d s i = decide (s ∈ d.qs[i].lot) := by
        unfold sealsK
        rw [List.getElem?_eq_getElem hi']
        rfl
      rw [inV_str]
      refine ite2 (fun h => ?_) (fun h => ?_)
      · exact ⟨_, rfl, hf _ sT (by rw [ek]; exact h)⟩
      · exact hk _ sT (by rw [ek]; exact Bool.eq_false_iff.mpr h)
    · rw [List.length_map] at e2
      refine ⟨D, _, rfl, .inl ⟨.of e2, fun t ht => ?_⟩⟩
      refine q _ t (s2.trans (same_new ht)) (.of ?_)
      rw [upd_same]
      unfold sealsL
      rw [List.map_map]
      rfl
abbrev hSealsWith (P : Program) (w : World) (K : PySem.W.Frag) (mg : Str → Option Value) (base : Heap) : Prop := Has P w K mg base "seals_with" 1 ["hall", "chest"] (spSeals K)
theorem ok_sealsOf (h1 : hWantHall P w K mg base) (h2 : hWantChest P w K mg base) (h3 : hSealsWith P w K mg base) (F : Fun K "seals_of" "seals_of" sSealsOf f fd) : FnOk P w K mg base CX0 8 f fd ["hall", "chest"] (spSeals K) := by
  refine F.ok scSealsOf (fun vs H Q E h => ?_) (fun cdv A outer s H vs Q E hr h => ?_)
  · obtain ⟨p, d, s, rfl, _⟩ := h
    rfl
  · obtain ⟨p, d, s, rfl, hp, ok, hs, q⟩ := h
    refine ⟨_, pss_cons (ps_expr (pe_has h1 hr (pa_cons (pv 0) pa_nil))) (pss_cons (ps_expr (pe_has h2 (hr.mono (by decide)) (pa_cons (pv 0) (pa_cons (pv 1) pa_nil))))
      (pss_one (ps_ret (pe_has h3 (hr.mono (by decide)) (pa_cons (pv 0) (pa_cons (pv 1) pa_nil)))))), ?_⟩
    refine ⟨_, rfl, _, ⟨p, d, rfl, hp, ok, rfl⟩, fun H1 s1 => ?_⟩
    refine ⟨_, rfl, _, rfl, _, ⟨p, d, s, rfl, hp.keep s1, ok, hs, rfl⟩, fun H2 s2 => ?_⟩
    exact ⟨_, rfl, _, rfl, p, d, s, rfl, hp.keep (s1.trans s2), ok, hs, fun H3 t s3 ht => q _ t ((s1.trans s2).trans s3) ht⟩
end
end Kp
/-! Orders: rows of numbers, rows of texts; sorted sets; the gates. -/
namespace Kp
open PySem PySem.Spec PyProof.Rows L2

theorem strict_unique {α : Type} {lt : α → α → Prop} (irr : ∀ a, ¬ lt a a) (tr : ∀ a b c, lt a b → lt b c → lt a c) : ∀ xs ys : List α, xs.Pairwise lt → ys.Pairwise lt → (∀ a, a ∈ xs ↔ a ∈ ys) → xs = ys
  | [], [], _, _, _ => rfl
  | [], y :: ys, _, _, h => by simpa using h y
  | x :: xs, [], _, _, h => by simpa using h x
  | x :: xs, y :: ys, hx, hy, h => by
    rw [List.pairwise_cons] at hx hy
    have e : x = y := by
      rcases List.mem_cons.mp ((h x).mp (List.mem_cons_self ..)) with q | q
      · exact q
      · rcases List.mem_cons.mp ((h y).mpr (List.mem_cons_self ..)) with r | r
        · exact r.symm
        · exact absurd (tr _ _ _ (hx.1 y r) (hy.1 x q)) (irr x)
    subst e
    have t := strict_unique irr tr xs ys hx.2 hy.2 fun a => ⟨fun q => ?_, fun q => ?_⟩
    · rw [t]
    · rcases List.mem_cons.mp ((h a).mp (List.mem_cons_of_mem _ q)) with r | r
      · subst r
        exact absurd (hx.1 a q) (irr a)
      · exact r
    · rcases List.mem_cons.mp ((h a).mpr (List.mem_cons_of_mem _ q)) with r | r
      · subst r
        exact absurd (hy.1 a q) (irr a)
      · exact r
theorem sort_strict {α γ : Type} (key : α → γ) (lt : γ → γ → Bool) (irr : ∀ a, lt a a = false) (tr : ∀ a b c, lt a b = true → lt b c = true → lt a c = true) (tri : ∀ a b, lt a b = false → lt b a = false → a = b) (le : α → α → Bool)
    (hle : ∀ a b, le a b = !lt (key b) (key a)) (L : List α) (nd : (L.map key).Nodup) : ((L.mergeSort le).map key).Pairwise fun a b => lt a b = true := by
  have p := List.pairwise_mergeSort (le := le) (fun a b c h1 h2 => ?_) (fun a b => ?_) L
  · have nd2 : ((L.mergeSort le).map key).Nodup := ((List.mergeSort_perm L le).map key).nodup_iff.mpr nd
    rw [List.pairwise_map]
    have nd3 : (L.mergeSort le).Pairwise fun a b => key a ≠ key b := by
      unfold List.Nodup at nd2
      rwa [List.pairwise_map] at nd2
    refine (p.and nd3).imp fun {a b} hab => ?_
    obtain ⟨h1, h2⟩ := hab
    rw [hle] at h1
    cases e : lt (key a) (key b) with
    | true => rfl
    | false => exact absurd (tri _ _ e (by simpa using h1)) h2
  · rw [hle] at h1 h2 ⊢
    cases e : lt (key c) (key a) with
    | false => rfl
    | true =>
      have n1 : lt (key b) (key a) = false := by simpa using h1
      have n2 : lt (key c) (key b) = false := by simpa using h2
      cases e2 : lt (key a) (key b) with
      | true =>
        rw [tr _ _ _ e e2] at n2
        cases n2
      | false =>
        rw [tri _ _ e2 n1] at e
        rw [e] at n2
        cases n2
  · rw [hle, hle]
    cases e : lt (key a) (key b) with
    | false => simp
    | true =>
      cases e2 : lt (key b) (key a) with
      | false => simp
      | true =>
        have := tr _ _ _ e e2
        rw [irr] at this
        cases this
theorem lexLt_eq : ∀ xs ys : List Int, HT.lexLt xs ys = decide (xs < ys)
  | [], [] => by simp [HT.lexLt_nil_nil]
  | [], y :: ys => by simp [HT.lexLt_nil_cons]
  | x :: xs, [] => by simp [HT.lexLt_cons_nil]
  | x :: xs, y :: ys => by
    rw [HT.lexLt_cons, lexLt_eq xs ys]
    by_cases h : x = y
    · rw [if_pos h]
      simp [h, List.cons_lt_cons_iff]
    · rw [if_neg h]
      simp [h, List.cons_lt_cons_iff]
def toL (k : List Str) : List (List Nat) := k.map fun s => s.cps.toList
theorem str_inj {a b : Str} (h : a.cps.toList = b.cps.toList) : a = b := by
  obtain ⟨a⟩ := a
  obtain ⟨b⟩ := b
  simp only at h
  rw [Array.toList_inj.mp h]
theorem toL_inj : ∀ {a b : List Str}, toL a = toL b → a = b
  | [], [], _ => rfl
  | [], _ :: _, h => by cases h
  | _ :: _, [], h => by cases h
  | x :: xs, y :: ys, h => by
    have h1 := (List.cons.inj h).1
    have h2 := (List.cons.inj h).2
    rw [str_inj h1, toL_inj h2]
theorem lt_strs : ∀ xs ys : List Str, PySem.W.rowLt (xs.map .str) (ys.map .str) = decide (toL xs < toL ys)
  | [], [] => by
    have e : PySem.W.rowLt [] [] = false := PyProof.Rows.lex_irrefl _
    simp [e, toL]
  | [], y :: ys => by
    have e : PySem.W.rowLt [] (PyData.str y :: ys.map .str) = true := by
      unfold PySem.W.rowLt
      rw [PySem.W.toks_all_cons]
      simp only [PySem.W.keyToksAll]
      rw [PyProof.Rows.lex_diff (O := PyProof.Rows.itemOrd) (by simp)]
      rfl
    simpa [toL] using e
  | x :: xs, [] => by
    have e : PySem.W.rowLt (PyData.str x :: xs.map .str) [] = false := by
      unfold PySem.W.rowLt
      rw [PySem.W.toks_all_cons]
      simp only [PySem.W.keyToksAll]
      rw [PyProof.Rows.lex_diff (O := PyProof.Rows.itemOrd) (by simp)]
      rfl
    simpa [toL] using e
  | x :: xs, y :: ys => by
    have e : PySem.W.rowLt (PyData.str x :: xs.map .str) (PyData.str y :: ys.map .str) = if x = y then PySem.W.rowLt (xs.map .str) (ys.map .str) else decide (x.cps.toList < y.cps.toList) := by
      unfold PySem.W.rowLt
      rw [PySem.W.dataLt_cons (by simp [PySem.W.alike]), PySem.W.dataLt_str]
      simp only [PyData.eqv, beq_iff_eq]
    show PySem.W.rowLt (PyData.str x :: xs.map .str) (PyData.str y :: ys.map .str) = decide (x.cps.toList :: toL xs < y.cps.toList :: toL ys)
    rw [e]
    by_cases h : x = y
    · rw [if_pos h, lt_strs xs ys]
      simp [h, List.cons_lt_cons_iff]
    · have h2 : x.cps.toList ≠ y.cps.toList := fun z => h (str_inj z)
      rw [if_neg h]
      simp [h2, List.cons_lt_cons_iff]
theorem sort_rows (L : List (Addr × List Int)) (nd : (L.map (·.2)).Nodup) : AscT ((L.mergeSort (keyLe PyData.int)).map (·.2)) := by
  refine sort_strict (·.2) HT.lexLt (fun a => ?_) (fun a b c h1 h2 => ?_) (fun a b h1 h2 => ?_) _ (fun a b => ?_) L nd
  · rw [lexLt_eq]
    exact decide_eq_false (List.lt_irrefl _)
  · rw [lexLt_eq] at h1 h2 ⊢
    exact decide_eq_true (List.lt_trans (of_decide_eq_true h1) (of_decide_eq_true h2))
  · rw [lexLt_eq] at h1 h2
    exact List.le_antisymm (List.not_lt.mp (of_decide_eq_false h2)) (List.not_lt.mp (of_decide_eq_false h1))
  · show (!PySem.W.dataLt (.tuple (b.2.map .int)) (.tuple (a.2.map .int))) = _
    rw [PySem.W.dataLt_tuple, lexLt_eq]
    show (!PySem.W.rowLt (b.2.map .int) (a.2.map .int)) = _
    rw [PySem.W.dataLt_ints]
def ltK (a b : List Str) : Prop := toL a < toL b
theorem sort_strs (L : List (Addr × List Str)) (nd : (L.map (·.2)).Nodup) : ((L.mergeSort (keyLe PyData.str)).map (·.2)).Pairwise ltK := by
  have p := sort_strict (fun p : Addr × List Str => p.2) (fun a b => decide (toL a < toL b)) (fun a => decide_eq_false (List.lt_irrefl _)) (fun a b c h1 h2 => decide_eq_true (List.lt_trans (of_decide_eq_true h1) (of_decide_eq_true h2)))
    (fun a b h1 h2 => toL_inj (List.le_antisymm (List.not_lt.mp (of_decide_eq_false h2)) (List.not_lt.mp (of_decide_eq_false h1)))) (keyLe PyData.str) (fun a b => ?_) L nd
  · exact p.imp fun h => of_decide_eq_true h
  · show (!PySem.W.dataLt (.tuple (b.2.map .str)) (.tuple (a.2.map .str))) = _
    rw [PySem.W.dataLt_tuple]
    show (!PySem.W.rowLt (b.2.map .str) (a.2.map .str)) = _
    rw [lt_strs]
theorem ltK_irr (a : List Str) : ¬ ltK a a := List.lt_irrefl _
theorem ltK_tr (a b c : List Str) (h1 : ltK a b) (h2 : ltK b c) : ltK a c := List.lt_trans h1 h2
theorem ltK_pair {a b c d : Str} : ltK [a, b] [c, d] ↔ a.cps.toList < c.cps.toList ∨ (a = c ∧ b.cps.toList < d.cps.toList) := by
  unfold ltK toL
  simp only [List.map_cons, List.map_nil]
  rw [List.cons_lt_cons_iff]
  constructor
  · rintro (h | ⟨h1, h2⟩)
    · exact .inl h
    · refine .inr ⟨str_inj h1, ?_⟩
      rw [List.cons_lt_cons_iff] at h2
      rcases h2 with h2 | ⟨_, h2⟩
      · exact h2
      · exact absurd h2 (List.lt_irrefl _)
  · rintro (h | ⟨h1, h2⟩)
    · exact .inl h
    · exact .inr ⟨by rw [h1], List.cons_lt_cons_iff.mpr (.inl h2)⟩

/-! ### the gates -/
abbrev ltS (a b : Str) : Bool := decide (a.cps.toList < b.cps.toList)
/-- the pairs of one lot -/
def pairsOf (lot : List Str) : List (List Str) := lot.flatMap fun one => (lot.filter fun other => ltS one other).map fun other => [one, other]
/-- one seal holds both -/
def both (d : HallD) (one other : Str) : Bool := d.qs.any fun q => decide (one ∈ q.lot) && decide (other ∈ q.lot)
/-- the gates, as the law counts them -/
def gatesL (d : HallD) : List (List Str) := d.cs.flatMap fun one => (d.cs.filter fun other => ltS one other && both d one other).map fun other => [one, other]
theorem mem_pairsOf {lot : List Str} {x : List Str} : x ∈ pairsOf lot ↔ ∃ a b, a ∈ lot ∧ b ∈ lot ∧ a.cps.toList < b.cps.toList ∧ x = [a, b] := by
  unfold pairsOf
  simp only [List.mem_flatMap, List.mem_map, List.mem_filter]
  constructor
  · rintro ⟨a, ha, b, ⟨hb, hab⟩, rfl⟩
    exact ⟨a, b, ha, hb, of_decide_eq_true hab, rfl⟩
  · rintro ⟨a, b, ha, hb, hab, rfl⟩
    exact ⟨a, ha, b, ⟨hb, decide_eq_true hab⟩, rfl⟩
theorem mem_gatesL {d : HallD} {x : List Str} : x ∈ gatesL d ↔ ∃ a b, a ∈ d.cs ∧ b ∈ d.cs ∧ a.cps.toList < b.cps.toList ∧ (∃ q ∈ d.qs, a ∈ q.lot ∧ b ∈ q.lot) ∧ x = [a, b] := by
  unfold gatesL both
  simp only [List.mem_flatMap, List.mem_map, List.mem_filter, Bool.and_eq_true, decide_eq_true_eq, List.any_eq_true]
  constructor
  · rintro ⟨a, ha, b, ⟨hb, hab, q, hq, h1, h2⟩, rfl⟩
    exact ⟨a, b, ha, hb, hab, ⟨q, hq, h1, h2⟩, rfl⟩
  · rintro ⟨a, b, ha, hb, hab, ⟨q, hq, h1, h2⟩, rfl⟩
    exact ⟨a, ha, b, ⟨hb, hab, q, hq, h1, h2⟩, rfl⟩
theorem gatesL_asc {d : HallD} (asc : AscS d.cs) : (gatesL d).Pairwise ltK := by
  unfold gatesL
  rw [List.pairwise_flatMap]
  refine ⟨fun a _ => ?_, asc.imp fun {a b} hab x hx y hy => ?_⟩
  · rw [List.pairwise_map]
    refine (List.Pairwise.sublist List.filter_sublist asc).imp fun {b c} h => ?_
    exact ltK_pair.mpr (.inr ⟨rfl, h⟩)
  · obtain ⟨x2, _, rfl⟩ := List.mem_map.mp hx
    obtain ⟨y2, _, rfl⟩ := List.mem_map.mp hy
    exact ltK_pair.mpr (.inl hab)
theorem pairsOf_few {lot : List Str} (asc : AscS lot) (hl : lot.length ≤ 3) : (pairsOf lot).length ≤ 3 := by
  have irr : ∀ a : Str, ltS a a = false := fun a => decide_eq_false (List.lt_irrefl _)
  have asym : ∀ a b : Str, a.cps.toList < b.cps.toList → ltS b a = false := fun a b h => decide_eq_false fun h2 => List.lt_irrefl _ (List.lt_trans h h2)
  match lot, asc, hl with
  | [], _, _ => simp [pairsOf]
  | [a], _, _ => simp [pairsOf, irr]
  | [a, b], asc, _ =>
    have h1 : a.cps.toList < b.cps.toList := by
      simp [AscS] at asc
      exact asc
    have h1' : ltS a b = true := decide_eq_true h1
    simp [pairsOf, irr, h1', asym _ _ h1]
  | [a, b, c], asc, _ =>
    unfold AscS at asc
    simp only [List.pairwise_cons, List.mem_cons, List.not_mem_nil, or_false, forall_eq_or_imp, forall_eq] at asc
    obtain ⟨⟨h1, h2⟩, h3, _⟩ := asc
    simp [pairsOf, irr, (decide_eq_true h1 : ltS a b = true), (decide_eq_true h2 : ltS a c = true), (decide_eq_true h3 : ltS b c = true), asym _ _ h1, asym _ _ h2, asym _ _ h3]
theorem pairs_few : ∀ (qs : List SealD), (∀ q ∈ qs, AscS q.lot ∧ q.lot.length ≤ 3) → (qs.flatMap fun q => pairsOf q.lot).length ≤ 3 * qs.length
  | [], _ => by simp
  | q :: qs, h => by
    have h1 := pairs_few qs fun p hp => h p (List.mem_cons_of_mem _ hp)
    have h2 := h q (List.mem_cons_self ..)
    have h3 := pairsOf_few h2.1 h2.2
    rw [List.flatMap_cons, List.length_append, List.length_cons]
    omega
theorem gates_same {d : HallD} (ok : HallOk d) {ks : List (List Str)} (asc : ks.Pairwise ltK) (hm : ∀ x, x ∈ ks ↔ x ∈ d.qs.flatMap fun q => pairsOf q.lot) : ks = gatesL d := by
  refine strict_unique ltK_irr ltK_tr _ _ asc (gatesL_asc ok.asc) fun x => ?_
  rw [hm, mem_gatesL, List.mem_flatMap]
  constructor
  · rintro ⟨q, hq, hx⟩
    obtain ⟨a, b, ha, hb, hab, rfl⟩ := mem_pairsOf.mp hx
    exact ⟨a, b, (ok.q q hq).sub a ha, (ok.q q hq).sub b hb, hab, ⟨q, hq, ha, hb⟩, rfl⟩
  · rintro ⟨a, b, _, _, hab, ⟨q, hq, ha, hb⟩, rfl⟩
    exact ⟨q, hq, mem_pairsOf.mpr ⟨a, b, ha, hb, hab, rfl⟩⟩
end Kp
/-! gates_in, gates_of. -/
namespace Kp
open PySem PySem.Spec PyProof.Rows L2

theorem n_it {J : It} {n : Nat} {G : Hp → Prop} {Y : Nat → Hp → V → Hp → Prop} (w : Walk J n G Y) {step : V → Hp → (Hp → Prop) → Prop} {H0 : Hp} {Qd : Hp → Prop} (Pv : Nat → Hp → Prop) (h0 : Pv 0 H0) (hG : ∀ i H, i ≤ n → Pv i H → G H)
    (hs : ∀ i x H H', i < n → Pv i H → Y i H x H' → step x H' (Pv (i + 1))) (hd : ∀ H, Pv n H → Qd H) :
    ∃ W : Nat → Nat → Hp → Prop, (∃ m, W 0 m H0) ∧ ∀ j k H, W j k H → (J.stop j H ∧ Qd H) ∨ (J.go j H ∧ ∃ Nx : Hp → Prop, (∀ H', Nx H' → ∃ k', k' < k ∧ W (j + 1) k' H') ∧ ∀ x H', J.yld j H x H' → step x H' Nx) := by
  refine ⟨fun i m H => m = n - i ∧ i ≤ n ∧ Pv i H, ⟨n, by simp, Nat.zero_le _, h0⟩, ?_⟩
  rintro i m H ⟨rfl, hi, p⟩
  have q := hG i H hi p
  by_cases hlt : i < n
  · exact .inr ⟨w.goes i H hlt q, Pv (i + 1), fun H' p' => ⟨n - (i + 1), by omega, rfl, hlt, p'⟩, fun x H' y => hs i x H H' hlt p (w.yields i H x H' hlt q y)⟩
  · have e : i = n := by omega
    subst e
    exact .inl ⟨w.stops H q, hd H p⟩

theorem tYes_if {σ : L2.St} {H : Hp} {A B : Hp → Prop} (h : A H) : tYes σ H (fun b H3 => if b = true then A H3 else B H3) := by
  show if true = true then A H else B H
  exact iteT h
/-- a tuple stays where a list changes -/
theorem tp_at {K : PySem.W.Frag} {H : Hp} {a D : Addr} {xs ys : List V} {o : HO} (z : SqT K H a xs) (h : H D = some (.lst ys)) : SqT K (upd H D o) a xs := by
  rcases z with (z | ⟨u, z⟩) | z
  · exact .inl (.inl (by rw [upd_ne (fun e => by rw [e, h] at z; cases z)]; exact z))
  · exact .inl (.inr ⟨u, by rw [upd_ne (fun e => by rw [e, h] at z; cases z)]; exact z⟩)
  · exact .inr z
/-- the list at D holds the pairs E -/
def PairsIn (K : PySem.W.Frag) (H1 : Hp) (D : Addr) (n : Nat) (E : List (List Str)) (H : Hp) : Prop :=
  Same H1 H ∧ ∃ acc : List (Addr × List Str), H D = some (.lst (acc.map fun x => V.ref x.1)) ∧ (∀ x ∈ acc, SqT K H x.1 (x.2.map V.str)) ∧ acc.map (·.2) = E ∧ acc.length ≤ n
theorem PairsIn.cast {K : PySem.W.Frag} {H1 H : Hp} {D : Addr} {n m : Nat} {E E' : List (List Str)} (h : PairsIn K H1 D n E H) (hn : n ≤ m) (e : E = E') : PairsIn K H1 D m E' H := by
  subst e
  obtain ⟨s, acc, h1, h2, h3, h4⟩ := h
  exact ⟨s, acc, h1, h2, h3, Nat.le_trans h4 hn⟩
theorem PairsIn.keep {K : PySem.W.Frag} {H1 H H' : Hp} {D : Addr} {n : Nat} {E : List (List Str)} (h : PairsIn K H1 D n E H) (s : Same H H') : PairsIn K H1 D n E H' := by
  obtain ⟨s0, acc, h1, h2, h3, h4⟩ := h
  exact ⟨s0.trans s, acc, s _ _ h1, fun x hx => s.tp (h2 x hx), h3, h4⟩
section
variable {P : Program} {w : World} {K : PySem.W.Frag} {mg : Str → Option Value} {base : Heap} {f : Addr} {fd : FuncData}
def spGates (K : PySem.W.Frag) : Sp := fun vs H Q _ => ∃ p d, vs = [.ref p] ∧ HallAt K H p d ∧ HallOk d ∧ ∀ (H' : Hp) (t : Addr) (ks : List (Addr × List Str)), Same H H' → SqT K H' t (ks.map fun x => V.ref x.1) → (∀ x ∈ ks, SqT K H' x.1 (x.2.map V.str)) → ks.map (·.2) = gatesL d → Q (.ref t) H'
theorem ok_gatesIn (B : Blt mg lettersS) (F : Fun K "gates_in" "gates_in" sGatesIn f fd) : FnOk P w K mg base CX0 1 f fd ["hall"] (spGates K) := by
  refine F.ok scGatesIn (fun vs H Q E h => ?_) (fun cdv A outer s H vs Q E hr h => ?_)
  · obtain ⟨p, d, rfl, _⟩ := h
    rfl
  · obtain ⟨p, d, rfl, hp, ok, q⟩ := h
    have hu := hr.units
    refine ⟨_, pss_cons (ps_setLcN (i := 1) (own := [("lot", 2), ("rows", 3), ("one", 4), ("other", 5)]) (ws := [4, 5]) (g := gTup K 2 (gCons (gName 2) (gCons (gName 3) gNil))) (tt := tYes)
        (u := nMid (iTup K (tVar 2)) (gName 4) tYes (nMid (iTup K (tVar 2)) (gName 5) _ (nEnd (tTup (tCons (tVar 4) (tCons (tVar 5) tNil)))) [5]) [4, 5])
        rfl scGatesIn.nd rfl rfl (sw_true rfl rfl rfl (by decide +kernel)) (pi_tup (pe_ix ix_tup (pv 0) pe_int (fun _ _ => rfl)))
        (blkOk_by (own := [("lot", 2), ("rows", 3), ("one", 4), ("other", 5)]) (N := ["hall", "pairs", "lot", "rows", "one", "other"]) (sc := defScope sGatesIn) (by decide +kernel)) (by decide)
        (fun _ _ _ _ _ => pg_tup rfl (pgs_cons (pg_name (i := 2) scGatesIn.nd rfl (Or.inl rfl)) (pgs_cons (pg_name (i := 3) scGatesIn.nd rfl (Or.inl rfl)) pgs_nil))) (fun _ _ _ _ _ => pts_nil)
        (fun _ _ _ _ _ => pn_mid rfl rfl rfl (show PI _ _ _ (iTup K (tVar 2)) from pi_tup (pv 2)) (pg_name (i := 4) scGatesIn.nd rfl (Or.inl rfl)) pts_nil
          (pn_mid rfl rfl rfl (show PI _ _ _ (iTup K (tVar 2)) from pi_tup (pv 2)) (pg_name (i := 5) scGatesIn.nd rfl (Or.inl rfl)) (pts_one (pt_cmpR op_lt_str (pv 4) (pv 5) (nomark _)))
            (pn_end rfl rfl (pe_tup (pa_cons (pv 4) (pa_cons (pv 5) pa_nil)))) (by decide) (fun _ _ _ h => by cases h) (fun _ h => by cases h)) (by decide) (fun _ _ _ h => by cases h; intro x; rfl) (fun _ h => by cases h; rfl)))
      (pss_one (ps_ret (pe_callTy call_tuple_of (by rfl) B.tuple (by decide +kernel) (pa_cons (pe_callB (call_sortK (flat_str P w) rfl hu) (by rfl) B.sorted (by decide +kernel)
        (pa_cons (pe_callTy (call_setK (flat_str P w) rfl hu) (by rfl) B.set (by decide +kernel) (pa_cons (pv 1) pa_nil)) pa_nil)) pa_nil)))), ?_⟩
    refine ⟨_, rfl, p, _, 2, .ref d.c, rfl, rfl, hp.p, atI_nat (j := 2) rfl, d.c, rfl, ⟨_, hp.c⟩, fun D hD => ?_⟩
    refine n_it (walk_tup (K := K) (a := d.c) (xs := d.qs.map fun q => V.ref q.p)) (fun i H2 => PairsIn K H D (9 * i) ((d.qs.take i).flatMap fun q => pairsOf q.lot) H2) ⟨same_new hD, [], upd_same, by simp, rfl, by simp⟩
      (fun i H2 _ pr => pr.1.tp hp.c) (fun i x H2 H3 hi pr y => ?_) (fun H2 pr => ?_)
    · obtain ⟨rfl, e⟩ := y
      have hi' : i < d.qs.length := by simpa using hi
      rw [List.getElem?_map, List.getElem?_eq_getElem hi'] at e
      have e' := (Option.some.inj e).symm
      subst e'
      have hm := List.getElem_mem hi'
      have at1 := hp.q _ hm
      have so := ok.q _ hm
      generalize hqq : d.qs[i] = qq at *
      have at2 := at1.keep pr.1
      have big : 9 * 14 + 9 + 9 < sizeLine := by decide
      have hi14 := ok.qfew
      refine ⟨qq.p, _, rfl, at2.p, rfl, _, _, rfl, _, [], rfl, rfl, rfl, tYes_if ?_⟩
      refine ⟨_, rfl, qq.l, rfl, ⟨_, at2.l⟩, ?_⟩
      refine n_it (walk_tup (K := K) (a := qq.l) (xs := qq.lot.map V.str)) (fun j H4 => PairsIn K H D (9 * i + 3 * j) ((d.qs.take i).flatMap (fun q => pairsOf q.lot) ++ (qq.lot.take j).flatMap fun one => (qq.lot.filter fun other => ltS one other).map fun other => [one, other]) H4)
        (pr.cast (by omega) (by simp)) (fun j H4 _ pr => pr.1.tp at1.l) (fun j x H4 H5 hj pr2 y => ?_) (fun H4 pr2 => ?_)
      · obtain ⟨rfl, e⟩ := y
        have hj' : j < qq.lot.length := by simpa using hj
        rw [List.getElem?_map, List.getElem?_eq_getElem hj'] at e
        have e' := (Option.some.inj e).symm
        subst e'
        have at4 := at1.keep pr2.1
        have few := so.few
        refine ⟨rfl, tYes_if ?_⟩
        refine ⟨_, rfl, qq.l, rfl, ⟨_, at4.l⟩, ?_⟩
        refine n_it (walk_tup (K := K) (a := qq.l) (xs := qq.lot.map V.str)) (fun k H6 => PairsIn K H D (9 * i + 3 * j + k) ((d.qs.take i).flatMap (fun q => pairsOf q.lot) ++ ((qq.lot.take j).flatMap fun one => (qq.lot.filter fun other => ltS one other).map fun other => [one, other]) ++
          (((qq.lot.take k).filter fun other => ltS qq.lot[j] other).map fun other => [qq.lot[j], other])) H6)
          (pr2.cast (by omega) (by simp)) (fun k H6 _ pr => pr.1.tp at1.l) (fun k x H6 H7 hk pr3 y => ?_) (fun H6 pr3 => ?_)
        · obtain ⟨rfl, e⟩ := y
          have hk' : k < qq.lot.length := by simpa using hk
          rw [List.getElem?_map, List.getElem?_eq_getElem hk'] at e
          have e' := (Option.some.inj e).symm
          subst e'
          have ek : qq.lot.take (k + 1) = qq.lot.take k ++ [qq.lot[k]] := by
            rw [List.take_add_one, List.getElem?_eq_getElem hk']
            rfl
          refine ⟨rfl, _, rfl, _, rfl, _, _, rfl, rfl, _, rfl, ?_⟩
          show if ltS qq.lot[j] qq.lot[k] = true then _ else _
          refine ite2 (fun c => ?_) (fun c => ?_)
          · refine ⟨_, rfl, _, rfl, (by show 2 ≤ sizeLine; decide), fun t ht => ?_⟩
            obtain ⟨s6, acc, a1, a2, a3, a4⟩ := pr3
            have sT : Same H7 (upd H7 t (.tup [V.str qq.lot[j], V.str qq.lot[k]])) := same_new ht
            refine ⟨_, sT _ _ a1, ?_, same_at (s6.trans sT) hD, acc ++ [(t, [qq.lot[j], qq.lot[k]])], ?_, fun x hx => ?_, ?_, ?_⟩
            · rw [List.length_map]
              omega
            · rw [upd_same, List.map_append]
              rfl
            · have z : SqT K (upd H7 t (.tup [V.str qq.lot[j], V.str qq.lot[k]])) x.1 (x.2.map V.str) := by
                rcases List.mem_append.mp hx with h | h
                · exact sT.tp (a2 x h)
                · rw [List.mem_singleton.mp h]
                  exact .of upd_same
              exact tp_at z (sT _ _ a1)
            · rw [List.map_append, a3, ek, List.filter_append, List.map_append, List.append_assoc, List.append_assoc, List.append_assoc]
              simp [c]
            · rw [List.length_append]
              exact Nat.succ_le_succ a4
          · refine pr3.cast (by omega) ?_
            rw [ek, List.filter_append]
            simp [c]
        · refine pr3.cast (by rw [List.length_map]; omega) ?_
          rw [List.length_map, List.take_length, List.take_add_one, List.getElem?_eq_getElem hj', List.flatMap_append, List.append_assoc]
          simp
      · refine pr2.cast (by rw [List.length_map]; have := so.few; omega) ?_
        rw [List.length_map, List.take_length, List.take_add_one, List.getElem?_eq_getElem hi', List.flatMap_append]
        simp [pairsOf, hqq]
    · rw [List.length_map, List.take_length] at pr
      obtain ⟨s2, acc, a1, a2, a3, a4⟩ := pr
      have few : acc.length < 64 := by
        have := pairs_few d.qs fun q hq => ⟨(ok.q q hq).asc, (ok.q q hq).few⟩
        have l := congrArg List.length a3
        rw [List.length_map] at l
        have := ok.qfew
        omega
      refine ⟨_, rfl, D, acc, rfl, .of a1, a2, few, fun a L ha hsub hcov hnd => ?_⟩
      have sa : Same H2 (upd H2 a (SetHO (PySem.strKind P w) a L)) := same_new ha
      refine ⟨a, L, rfl, upd_same, fun x hx => sa.tp (a2 x (hsub x hx)), fun x hx => ?_, fun L0 b pm hb => ?_⟩
      · have hx2 : x.2 ∈ d.qs.flatMap fun q => pairsOf q.lot := by
          rw [← a3]
          exact List.mem_map_of_mem (hsub x hx)
        obtain ⟨qq, _, h2⟩ := List.mem_flatMap.mp hx2
        obtain ⟨y, z, _, _, _, e⟩ := mem_pairsOf.mp h2
        rw [e]
        exact List.cons_ne_nil _ _
      · refine ⟨b, _, rfl, .inl ⟨.of upd_same, fun t ht => ?_⟩⟩
        have sb := sa.trans (same_new (o := .lst ((L0.mergeSort (keyLe PyData.str)).map fun q => V.ref q.1)) hb)
        have st := sb.trans (same_new (o := .tup ((L0.mergeSort (keyLe PyData.str)).map fun q => V.ref q.1)) ht)
        have pm2 : (L0.mergeSort (keyLe PyData.str)).Perm L := (List.mergeSort_perm _ _).trans pm
        refine q _ t (L0.mergeSort (keyLe PyData.str)) (s2.trans st) (.of upd_same) (fun x hx => st.tp (a2 x (hsub x (pm2.mem_iff.mp hx)))) ?_
        refine gates_same ok (sort_strs L0 ((pm.map _).nodup_iff.mpr hnd)) fun x => ?_
        rw [← a3, (pm2.map (·.2)).mem_iff]
        constructor
        · intro h
          obtain ⟨y, hy, rfl⟩ := List.mem_map.mp h
          exact List.mem_map_of_mem (hsub y hy)
        · intro h
          obtain ⟨y, hy, rfl⟩ := List.mem_map.mp h
          exact hcov y hy
abbrev hGatesIn (P : Program) (w : World) (K : PySem.W.Frag) (mg : Str → Option Value) (base : Heap) : Prop := Has P w K mg base "gates_in" 1 ["hall"] (spGates K)
theorem ok_gatesOf (h1 : hWantHall P w K mg base) (h2 : hGatesIn P w K mg base) (F : Fun K "gates_of" "gates_of" sGatesOf f fd) : FnOk P w K mg base CX0 8 f fd ["hall"] (spGates K) := by
  refine F.ok scGatesOf (fun vs H Q E h => ?_) (fun cdv A outer s H vs Q E hr h => ?_)
  · obtain ⟨p, d, rfl, _⟩ := h
    rfl
  · obtain ⟨p, d, rfl, hp, ok, q⟩ := h
    refine ⟨_, pss_cons (ps_expr (pe_has h1 hr (pa_cons (pv 0) pa_nil))) (pss_one (ps_ret (pe_has h2 (hr.mono (by decide)) (pa_cons (pv 0) pa_nil)))), ?_⟩
    refine ⟨_, rfl, _, ⟨p, d, rfl, hp, ok, rfl⟩, fun H1 s1 => ?_⟩
    exact ⟨_, rfl, p, d, rfl, hp.keep s1, ok, fun H3 t ks s3 ht hk e => q _ t ks (s1.trans s3) ht hk e⟩
end
end Kp
/-! The law's feed of figures: what is drawn lies below the limit; which figure it is does not matter. -/
namespace Kp
open PySem PySem.Spec PyProof.Rows L2

/-- all but what stands at f is as it was -/
def But (f : Addr) (H H' : Hp) : Prop := ∀ b o, b ≠ f → H b = some o → H' b = some o
theorem But.refl (f : Addr) (H : Hp) : But f H H := fun _ _ _ h => h
theorem But.trans {f : Addr} {H H1 H2 : Hp} (a : But f H H1) (b : But f H1 H2) : But f H H2 := fun c o n h => b c o n (a c o n h)
theorem _root_.L2.Same.but {H H' : Hp} (s : Same H H') (f : Addr) : But f H H' := fun b o _ h => s b o h
theorem But.upd {f : Addr} {H H1 : Hp} {o : HO} (s : But f H H1) : But f H (upd H1 f o) := fun b x n h => by
  rw [upd_ne n]
  exact s b x n h
theorem But.tp {K : PySem.W.Frag} {f : Addr} {H H' : Hp} {a : Addr} {xs : List V} {kvs : List (Key × V)} (s : But f H H') (hf : H f = some (.dK kvs)) (h : SqT K H a xs) : SqT K H' a xs := by
  rcases h with (h | ⟨o, h⟩) | h
  · exact .inl (.inl (s _ _ (fun e => by rw [e, hf] at h; cases h) h))
  · exact .inl (.inr ⟨o, s _ _ (fun e => by rw [e, hf] at h; cases h) h⟩)
  · exact .inr h
theorem But.seq {K : PySem.W.Frag} {f : Addr} {H H' : Hp} {a : Addr} {xs : List V} {kvs : List (Key × V)} (s : But f H H') (hf : H f = some (.dK kvs)) (h : SqL K H a xs) : SqL K H' a xs := by
  rcases h with (h | ⟨o, h⟩) | h
  · exact .inl (.inl (s _ _ (fun e => by rw [e, hf] at h; cases h) h))
  · exact .inl (.inr ⟨o, s _ _ (fun e => by rw [e, hf] at h; cases h) h⟩)
  · exact .inr h
theorem But.at {f : Addr} {H H' : Hp} {a : Addr} {o : HO} {kvs : List (Key × V)} (s : But f H H') (hf : H f = some (.dK kvs)) (h : H a = some o) (hn : ∀ k, o ≠ .dK k) : H' a = some o :=
  s _ _ (fun e => by rw [e, hf] at h; exact hn _ (Option.some.inj h).symm) h
abbrev kC : Key := .inr "cells"
abbrev kS : Key := .inr "spot"
abbrev kL : Key := .inr "left"
abbrev kT : Key := .inr "turn"
structure FeedIs (H : Hp) (f : Addr) (kvs : List (Key × V)) (cl : Addr) (ns : List Int) (sp lf tn : Int) : Prop where
  at0 : H f = some (.dK kvs)
  len : kvs.length = 4
  c : valV kvs kC = some (.ref cl)
  s : valV kvs kS = some (.int sp)
  l : valV kvs kL = some (.int lf)
  t : valV kvs kT = some (.int tn)
  cl : H cl = some (.lst (ns.map V.int))
def Feed (H : Hp) (f cl : Addr) : Prop := ∃ kvs ns sp lf tn, FeedIs H f kvs cl ns sp lf tn
theorem FeedIs.keep {H H' : Hp} {f cl : Addr} {kvs : List (Key × V)} {ns : List Int} {sp lf tn : Int} (h : FeedIs H f kvs cl ns sp lf tn) (s : Same H H') : FeedIs H' f kvs cl ns sp lf tn :=
  ⟨s _ _ h.at0, h.len, h.c, h.s, h.l, h.t, s _ _ h.cl⟩
theorem Feed.keep {H H' : Hp} {f cl : Addr} (h : Feed H f cl) (s : Same H H') : Feed H' f cl := by
  obtain ⟨a, c, d, e, g, h⟩ := h
  exact ⟨a, c, d, e, g, h.keep s⟩
theorem putK_same (kvs : List (Key × V)) (k : Key) (v : V) (h : (valV kvs k).isSome = true) : (putK kvs k v).length = kvs.length := by
  unfold putK
  rw [if_pos (by rw [valV_any]; exact h), List.length_map]
theorem FeedIs.ne {H : Hp} {f cl : Addr} {kvs : List (Key × V)} {ns : List Int} {sp lf tn : Int} (h : FeedIs H f kvs cl ns sp lf tn) : cl ≠ f := fun e => by
  have z := h.cl
  rw [e, h.at0] at z
  cases z
theorem FeedIs.putS {H : Hp} {f cl : Addr} {kvs : List (Key × V)} {ns : List Int} {sp lf tn : Int} (h : FeedIs H f kvs cl ns sp lf tn) (v : Int) : FeedIs (upd H f (.dK (putK kvs kS (.int v)))) f (putK kvs kS (.int v)) cl ns v lf tn :=
  ⟨upd_same, by rw [putK_same _ _ _ (by rw [h.s]; rfl), h.len], by rw [valV_put, if_neg (by decide)]; exact h.c, by rw [valV_put, if_pos rfl], by rw [valV_put, if_neg (by decide)]; exact h.l, by rw [valV_put, if_neg (by decide)]; exact h.t,
    by rw [upd_ne h.ne]; exact h.cl⟩
theorem FeedIs.putL {H : Hp} {f cl : Addr} {kvs : List (Key × V)} {ns : List Int} {sp lf tn : Int} (h : FeedIs H f kvs cl ns sp lf tn) (v : Int) : FeedIs (upd H f (.dK (putK kvs kL (.int v)))) f (putK kvs kL (.int v)) cl ns sp v tn :=
  ⟨upd_same, by rw [putK_same _ _ _ (by rw [h.l]; rfl), h.len], by rw [valV_put, if_neg (by decide)]; exact h.c, by rw [valV_put, if_neg (by decide)]; exact h.s, by rw [valV_put, if_pos rfl], by rw [valV_put, if_neg (by decide)]; exact h.t,
    by rw [upd_ne h.ne]; exact h.cl⟩
theorem FeedIs.putT {H : Hp} {f cl : Addr} {kvs : List (Key × V)} {ns : List Int} {sp lf tn : Int} (h : FeedIs H f kvs cl ns sp lf tn) (v : Int) : FeedIs (upd H f (.dK (putK kvs kT (.int v)))) f (putK kvs kT (.int v)) cl ns sp lf v :=
  ⟨upd_same, by rw [putK_same _ _ _ (by rw [h.t]; rfl), h.len], by rw [valV_put, if_neg (by decide)]; exact h.c, by rw [valV_put, if_neg (by decide)]; exact h.s, by rw [valV_put, if_neg (by decide)]; exact h.l, by rw [valV_put, if_pos rfl],
    by rw [upd_ne h.ne]; exact h.cl⟩
theorem FeedIs.dget {H : Hp} {f cl : Addr} {kvs : List (Key × V)} {ns : List Int} {sp lf tn : Int} {k : Key} {v : V} (h : FeedIs H f kvs cl ns sp lf tn) (e : valV kvs k = some v) : DGet H f (kV k) (some v) := by
  have q := DGet.k (k := k) h.at0
  rwa [e] at q
theorem FeedIs.dput {H : Hp} {f cl : Addr} {kvs : List (Key × V)} {ns : List Int} {sp lf tn : Int} {k : Key} {v : V} (h : FeedIs H f kvs cl ns sp lf tn) : DPut H f (kV k) v (upd H f (.dK (putK kvs k v))) :=
  DPut.k h.at0 (by rw [h.len]; decide)
theorem dp_ints {K : PySem.W.Frag} {H : Hp} : ∀ ns : List Int, DpAll K H (ns.map V.int) (ns.map PyData.int)
  | [] => .nil
  | n :: ns => .cons (.int n) (dp_ints ns)

theorem atI_some {xs : List V} {z : Int} (h0 : 0 ≤ z) (h1 : z < ((xs.length : Nat) : Int)) : ∃ v, atI xs z = some v ∧ v ∈ xs := by
  obtain ⟨j, rfl⟩ := Int.eq_ofNat_of_zero_le h0
  have hj : j < xs.length := by omega
  exact ⟨xs[j], atI_nat (List.getElem?_eq_getElem hj), List.getElem_mem hj⟩
theorem seq_cell {te : TE} {g : TG} {u : TS} {D : Ends} {σ : L2.St} {H : Hp} (h1 : ∀ Q' : VK, (∀ (c : Int) H3, Same H H3 → Q' (.int c) H3) → te σ H Q') (h2 : ∀ (c : Int) H3, Same H H3 → g (.int c) σ H3 (fun σ2 H2 => u D σ2 H2)) : tSeq (tAsg te g) u D σ H := h1 _ h2
theorem seq_and {tt : TT} {t1 t2 u : TS} {D : Ends} {σ : L2.St} {H : Hp} (h : ∀ Q' : Bool → Hp → Prop, Q' true H → Q' false H → tt σ H Q') (h1 : t1 { D with nx := u D } σ H) (h2 : t2 { D with nx := u D } σ H) : tSeq (tIfS tt t1 t2) u D σ H := h _ (iteT h1) (iteF h2)
theorem cell_lem {te : TE} {σ : L2.St} {H : Hp} {Q : VK} (h1 : ∀ Q' : VK, (∀ (c : Int) H3, Same H H3 → Q' (.int c) H3) → te σ H Q') (h2 : ∀ (c : Int) H3, Same H H3 → Q (.int c) H3) : te σ H Q := h1 Q h2
theorem and_lem {tt : TT} {σ : L2.St} {H : Hp} {Q : Bool → Hp → Prop} (h : ∀ Q' : Bool → Hp → Prop, Q' true H → Q' false H → tt σ H Q') (h1 : Q true H) (h2 : Q false H) : tt σ H Q := h Q h1 h2
section
variable {P : Program} {w : World} {K : PySem.W.Frag} {mg : Str → Option Value} {base : Heap} {f : Addr} {fd : FuncData}
def spFeed (K : PySem.W.Frag) : Sp := fun vs H Q _ => ∃ (a : Addr) (ns : List Int), vs = [.ref a] ∧ SqL K H a (ns.map V.int) ∧ ∀ H' f cl, Same H H' → H f = none → H cl = none → Feed H' f cl → Q (.ref f) H'
theorem ok_lawFeed (B : Blt mg lettersS) (F : Fun K "_law_feed" "_law_feed" sLawFeed f fd) : FnOk P w K mg base CX0 1 f fd ["_law_script"] (spFeed K) := by
  refine F.ok scLawFeed (fun vs H Q E h => ?_) (fun cdv A outer s H vs Q E hr h => ?_)
  · obtain ⟨a, ns, rfl, _⟩ := h
    rfl
  · obtain ⟨a, ns, rfl, ha, q⟩ := h
    refine ⟨_, pss_one (ps_ret (pe_disp (pps_cons pe_str (pe_lc (own := [("_law_cell", 1)]) (g := gName 1) (tt := tYes) rfl scLawFeed.nd (pi_list (pe_slice sl_list (pv 0) po_none (po_some pe_int)))
        (blkOk_by (own := [("_law_cell", 1)]) (N := ["_law_script", "_law_cell"]) (sc := defScope sLawFeed) (by decide +kernel)) (fun _ _ _ _ _ => pg_name (i := 1) scLawFeed.nd rfl (Or.inl rfl)) (fun _ _ _ _ _ => pts_nil)
        (fun _ _ _ _ _ => pe_callTy call_int1 (by rfl) B.int (by decide +kernel) (pa_cons (pv 1) pa_nil)))
      (pps_cons pe_str pe_int (pps_cons pe_str pe_int (pps_cons pe_str pe_int pps_nil)))) (by rfl) (by rfl) (fun z => by cases z) (by decide))), ?_⟩
    refine fun p hp => ?_
    have sp := same_new (o := .dK []) hp
    refine ⟨_, rfl, 63, rfl, a, _, rfl, sp.seq ha, fun b hb => ?_⟩
    have sb := same_new (o := .lst (cutV (ns.map V.int) none (some 63))) hb
    refine ⟨b, rfl, ⟨_, .of upd_same⟩, fun D hD => ?_⟩
    obtain ⟨i0, j0, ec⟩ := cutV_map V.int ns none (some 63)
    have hsz : ((ns.drop i0).take j0).length ≤ 63 := by
      have e1 : (cutV (ns.map V.int) none (some 63)).length = ((ns.drop i0).take j0).length := by rw [ec, List.length_map]
      rw [← e1]
      unfold cutV
      rw [List.length_take, HT.sIx_none, show HT.sIx (ns.map V.int).length (ns.map V.int).length (some 63) = min 63 (ns.map V.int).length from HT.sIx_nat _ _ 63]
      omega
    refine lc_map (walk_list (K := K) (a := b) (xs := ((ns.drop i0).take j0).map V.int)) (((ns.drop i0).take j0).map V.int) rfl (by rw [List.length_map]; exact small1000 (by omega)) hD (fun H2 s2 => by rw [← ec]; exact s2.seq (.of upd_same))
      (fun i x H2 H3 fin hi s2 y hf => ?_) (fun H2 s2 e2 => ?_)
    · obtain ⟨rfl, e⟩ := y
      have hi' : i < ((ns.drop i0).take j0).length := by simpa using hi
      rw [List.getElem?_eq_getElem hi] at e
      have e' := (Option.some.inj e).symm
      have e2 : (((ns.drop i0).take j0).map V.int)[i] = .int ((ns.drop i0).take j0)[i] := by rw [List.getElem_map]
      have := hf _ (Same.refl _)
      rw [e2] at this e'
      subst e'
      exact ⟨rfl, _, rfl, .inl ⟨_, rfl, this⟩⟩
    · have s02 := sp.trans (sb.trans s2)
      refine ⟨(sb.trans s2) _ _ upd_same, [(kC, .ref D), (kS, .int 0), (kL, .int 0), (kT, .int 0)], rfl, (by show 4 ≤ 15; decide), ?_⟩
      have hDp : D ≠ p := fun e => by
        rw [e, (sb.trans s2) p (.dK []) upd_same] at e2
        cases e2
      have v1 : mergeK [] [(kC, V.ref D), (kS, .int 0), (kL, .int 0), (kT, .int 0)] = [(kC, V.ref D), (kS, .int 0), (kL, .int 0), (kT, .int 0)] := by
        rfl
      rw [v1]
      refine q _ p D (same_at s02 hp) hp ((sp.trans sb).free hD) ⟨_, _, 0, 0, 0, ⟨upd_same, rfl, ?_, ?_, ?_, ?_, by rw [upd_ne hDp]; exact e2⟩⟩
      · rw [valV_pos rfl]
      · rw [valV_neg (show ¬ kC = kS by decide), valV_pos rfl]
      · rw [valV_neg (show ¬ kC = kL by decide), valV_neg (show ¬ kS = kL by decide), valV_pos rfl]
      · rw [valV_neg (show ¬ kC = kT by decide), valV_neg (show ¬ kS = kT by decide), valV_neg (show ¬ kL = kT by decide), valV_pos rfl]
def spDraw : Sp := fun vs H Q _ => ∃ f lim cl, vs = [.ref f, .int lim] ∧ Feed H f cl ∧ 0 < lim ∧ lim < 1000 ∧ ∀ H' (k : Int), 0 ≤ k → k < lim → Feed H' f cl → But f H H' → Q (.int k) H'
theorem ok_lawDraw (B : Blt mg lettersS) (F : Fun K "_law_draw" "_law_draw" sLawDraw f fd) : FnOk P w K mg base CX0 1 f fd ["_law_feed_here", "_law_limit"] spDraw := by
  refine F.ok scLawDraw (fun vs H Q E h => ?_) (fun cdv A outer s H vs Q E hr h => ?_)
  · obtain ⟨a, ns, _, rfl, _⟩ := h
    rfl
  · obtain ⟨f, lim, cl, rfl, hf, hl0, hl1, q⟩ := h
    have hu := hu_of hr
    have nd := scLawDraw.nd
    refine ⟨_, pss_cons (ps_dput hu (pv 0) pe_str (pe_op op_add (pe_dget hu (pv 0) pe_str (fun _ _ => rfl)) pe_int) rfl)
      (pss_cons (ps_if (pt_cmpR op_gt (pe_dget hu (pv 0) pe_str (fun _ _ => rfl)) pe_int (nomark _))
        (pss_cons (ps_set (i := 2) nd rfl (Or.inl rfl) (pe_op op_mod (pe_callTy call_int1 (by rfl) B.int (by decide +kernel) (pa_cons (pe_dget hu (pv 0) pe_str (fun _ _ => rfl)) pa_nil)) (pv 1)))
        (pss_cons (ps_dput hu (pv 0) pe_str (pe_op op_fdivN (pe_dget hu (pv 0) pe_str (fun _ _ => rfl)) (pv 1)) rfl) (pss_one (ps_ret (pv 2))))) pss_nil)
      (pss_cons (ps_par (i := 3) (j := 4) (by rfl) nd rfl rfl (by decide) rfl rfl (pa_cons (pe_dget hu (pv 0) pe_str (fun _ _ => rfl)) (pa_cons (pe_dget hu (pv 0) pe_str (fun _ _ => rfl)) pa_nil)) (by rfl))
      (pss_cons (ps_dput hu (pv 0) pe_str (pe_op op_add (pv 3) pe_int) rfl)
      (pss_cons (ps_set (i := 5) nd rfl (Or.inl rfl) (pe_ifExp (pt_cmpR (op_neD hr.units) (pv 4) (pe_lst pa_nil) (nomark _))
        (pe_ix ix_list (pv 4) (pe_op op_mod (pe_callTy call_int1 (by rfl) B.int (by decide +kernel) (pa_cons (pv 3) pa_nil)) (pe_callB call_len_seq (by rfl) B.len PySem.boot_len (pa_cons (pv 4) pa_nil))) (fun _ _ => rfl)) pe_int))
      (pss_cons (ps_if (PW.pt (pw_and (pt_cmpR op_ge (pv 5) (pe_op op_pow pe_int pe_int) (nomark _)) (pw_and1 (pt_cmpR op_lt (pv 3) (pe_callB call_len_seq (by rfl) B.len PySem.boot_len (pa_cons (pv 4) pa_nil)) (nomark _)))))
        (pss_cons (ps_dput hu (pv 0) pe_str (pe_op op_fdivN (pv 5) (pv 1)) rfl)
          (pss_one (ps_ret (pe_op op_mod (pe_callTy call_int1 (by rfl) B.int (by decide +kernel) (pa_cons (pv 5) pa_nil)) (pv 1))))) pss_nil)
      (pss_cons (ps_set (i := 6) nd rfl (Or.inl rfl) (pe_op op_mod (pe_callTy call_int1 (by rfl) B.int (by decide +kernel) (pa_cons
          (pe_op op_add (pe_op op_add (pe_op op_mul (pe_op op_mod (pe_callTy call_int1 (by rfl) B.int (by decide +kernel) (pa_cons (pv 5) pa_nil)) pe_int) pe_int) (pe_op op_mul pe_int (pe_dget hu (pv 0) pe_str (fun _ _ => rfl)))) pe_int) pa_nil)) pe_int))
      (pss_cons (ps_set (i := 6) nd rfl (Or.inl rfl) (pe_op op_mod (pe_callTy call_int1 (by rfl) B.int (by decide +kernel) (pa_cons
          (pe_op op_add (pe_op op_mul (pv 6) (pv 6)) (pe_op op_mul pe_int (pe_dget hu (pv 0) pe_str (fun _ _ => rfl)))) pa_nil)) pe_int))
      (pss_one (ps_ret (pe_op op_mod (pe_callTy call_int1 (by rfl) B.int (by decide +kernel) (pa_cons (pe_op op_fdiv
          (pe_op op_mod (pe_callTy call_int1 (by rfl) B.int (by decide +kernel) (pa_cons (pe_op op_add (pe_op op_mul (pv 6) (pv 6)) (pe_op op_mul pe_int (pv 6))) pa_nil)) pe_int) pe_int) pa_nil)) (pv 1))))))))))), ?_⟩
    obtain ⟨kvs, ns, sp, lf, tn, h0⟩ := hf
    -- turn
    refine ⟨_, rfl, f, _, rfl, h0.dget h0.t, _, _, rfl, rfl, _, rfl, f, _, rfl, h0.dput (k := kT), ?_⟩
    have h1 := h0.putT (tn + 1)
    have b1 : But f H (upd H f (.dK (putK kvs kT (.int (tn + 1))))) := (But.refl f H).upd
    generalize hH1 : upd H f (.dK (putK kvs kT (.int (tn + 1)))) = H1 at *
    generalize hk1 : putK kvs kT (.int (tn + 1)) = kvs1 at *
    generalize ht1 : tn + 1 = tn1 at *
    refine ⟨_, rfl, f, _, rfl, h1.dget h1.l, _, _, rfl, rfl, _, rfl, ?_⟩
    refine ite2 (fun c => ?_) (fun c => ?_)
    · refine ⟨_, rfl, f, _, rfl, h1.dget h1.l, .inl ⟨_, rfl, _, rfl, _, _, rfl, rfl, hl0, ?_⟩⟩
      refine ⟨_, rfl, f, _, rfl, h1.dget h1.l, _, rfl, _, _, rfl, rfl, ⟨by omega, by omega⟩, _, rfl, f, _, rfl, h1.dput (k := kL), ?_⟩
      exact ⟨_, rfl, q _ _ (Int.emod_nonneg _ (by omega)) (Int.emod_lt_of_pos _ hl0) ⟨_, _, _, _, _, h1.putL _⟩ b1.upd⟩
    · refine ⟨_, rfl, f, _, rfl, h1.dget h1.s, _, rfl, f, _, rfl, h1.dget h1.c, _, _, rfl, ?_⟩
      refine ⟨_, rfl, _, _, rfl, rfl, _, rfl, f, _, rfl, h1.dput (k := kS), ?_⟩
      have h2 := h1.putS (sp + 1)
      have b2 : But f H (upd H1 f (.dK (putK kvs1 kS (.int (sp + 1))))) := b1.upd
      generalize hH2 : upd H1 f (.dK (putK kvs1 kS (.int (sp + 1)))) = H2 at *
      generalize hk2 : putK kvs1 kS (.int (sp + 1)) = kvs2 at *
      -- cell
      dsimp only
      refine seq_cell (fun Q' h => ?_) (fun cell H3 s3 => ?_)
      · refine ⟨_, rfl, Nat.zero_le _, fun l hl => ?_⟩
        have sl := same_new (o := .lst []) hl
        refine ⟨.list (ns.map .int), .list [], .lst (sl.seq (.of h2.cl)) (dp_ints ns), .lst (.of upd_same) .nil, PySem.W.ke_shaped_ints ns, rfl, _, rfl, ?_⟩
        refine ite2 (fun c => ?_) (fun c => ?_)
        · have hpos : 0 < ns.length := by
            rcases Nat.eq_zero_or_pos ns.length with e | e
            · rw [List.length_eq_zero_iff.mp e] at c
              cases c
            · exact e
          have h3 := h2.keep sl
          have hL : (0 : Int) < (((ns.map V.int).length : Nat) : Int) := by
            rw [List.length_map]
            omega
          have m0 := Int.emod_nonneg sp (show (((ns.map V.int).length : Nat) : Int) ≠ 0 by omega)
          have m1 := Int.emod_lt_of_pos sp hL
          obtain ⟨v, hv⟩ := atI_some m0 m1
          obtain ⟨n, _, rfl⟩ := List.mem_map.mp hv.2
          refine ⟨_, rfl, _, rfl, .inl ⟨_, rfl, _, rfl, cl, _, rfl, .inl (.of h3.cl), _, _, rfl, rfl, hL, ?_⟩⟩
          exact ⟨cl, _, _, .int n, rfl, rfl, .of h3.cl, hv.1, h _ _ sl⟩
        · exact h _ _ sl
      · have h3 := h2.keep s3
        have b3 : But f H H3 := b2.trans (s3.but f)
        dsimp only [gName]
        refine seq_and (fun Q' g1 g2 => ?_) ?_ ?_
        · refine ⟨_, rfl, _, _, rfl, rfl, ⟨by decide, by decide, by decide⟩, _, _, rfl, rfl, _, rfl, ?_⟩
          refine ite2 (fun c => ?_) (fun c => ?_)
          · refine ⟨_, rfl, _, rfl, cl, _, rfl, .inl (.of h3.cl), _, _, rfl, rfl, _, rfl, ?_⟩
            cases decide (sp < (((ns.map V.int).length : Nat) : Int)) with
            | true => exact g1
            | false => exact g2
          · cases e : decide ((10 : Int) ^ (18 : Int).toNat ≤ cell) with
            | true => exact absurd e c
            | false => exact g2
        · refine ⟨_, rfl, _, rfl, _, _, rfl, rfl, ⟨by omega, by omega⟩, _, rfl, f, _, rfl, h3.dput (k := kL), ?_⟩
          exact ⟨_, rfl, .inl ⟨_, rfl, _, rfl, _, _, rfl, rfl, hl0, q _ _ (Int.emod_nonneg _ (by omega)) (Int.emod_lt_of_pos _ hl0) ⟨_, _, _, _, _, h3.putL _⟩ b3.upd⟩⟩
        · have p1 : (0 : Int) < 1000003631 := by decide
          refine ⟨_, rfl, .inl ⟨_, rfl, _, _, rfl, rfl, p1, _, _, rfl, rfl, .inr ⟨by decide, by decide⟩, _, rfl, f, _, rfl, h3.dget h3.t, _, _, rfl, rfl, .inl ⟨by decide, by decide⟩, _, _, rfl, rfl, _, _, rfl, rfl, .inl ⟨_, rfl, _, _, rfl, rfl, (by decide : (0 : Int) < 2147475281), ?_⟩⟩⟩
          generalize hx : (cell % 1000003631 * 3 + 71209 * tn1 + 6323) % 2147475281 = x
          have x0 : 0 ≤ x := by rw [← hx]; exact Int.emod_nonneg _ (by decide)
          have x1 : x < 2147475281 := by rw [← hx]; exact Int.emod_lt_of_pos _ (by decide)
          refine ⟨_, rfl, _, rfl, _, _, rfl, rfl, .inl ⟨by omega, by omega⟩, _, rfl, f, _, rfl, h3.dget h3.t, _, _, rfl, rfl, .inl ⟨by decide, by decide⟩, _, _, rfl, rfl, .inl ⟨_, rfl, _, _, rfl, rfl, (by decide : (0 : Int) < 2147475163), ?_⟩⟩
          generalize hy : (x * x + 5381 * tn1) % 2147475163 = y
          have y0 : 0 ≤ y := by rw [← hy]; exact Int.emod_nonneg _ (by decide)
          have y1 : y < 2147475163 := by rw [← hy]; exact Int.emod_lt_of_pos _ (by decide)
          refine ⟨_, rfl, _, rfl, _, _, rfl, rfl, .inl ⟨by omega, by omega⟩, _, rfl, _, _, rfl, rfl, .inl ⟨by decide, by decide⟩, _, _, rfl, rfl, .inl ⟨_, rfl, _, _, rfl, rfl, (by decide : (0 : Int) < 2147475047), ?_⟩⟩
          exact ⟨_, _, rfl, rfl, ⟨by decide, by decide⟩, .inl ⟨_, rfl, _, rfl, _, _, rfl, rfl, hl0, q _ _ (Int.emod_nonneg _ (by omega)) (Int.emod_lt_of_pos _ hl0) ⟨_, _, _, _, _, h3⟩ b3⟩⟩
end
end Kp
/-! The law's picks and crowds. -/
namespace Kp
open PySem PySem.Spec PyProof.Rows L2

theorem seqIx {k : Int} {n : Nat} (h0 : 0 ≤ k) (hn : k < n) : seqIndex? k n = some k.toNat := by
  unfold seqIndex?
  simp only [if_neg (show ¬ k < 0 by omega)]
  simp [h0, hn]
theorem But.new {f : Addr} {H H1 : Hp} {p : Addr} {o : HO} (s : But f H H1) (h : H p = none) : But f H (L2.upd H1 p o) := fun b x n e => by
  rw [upd_ne (ne_of_none e h)]
  exact s b x n e
/-- what is new in the later heap was new in the earlier one -/
theorem But.free {f : Addr} {H H1 : Hp} {p : Addr} (s : But f H H1) (hf : H1 f ≠ none) (h : H1 p = none) : H p = none := by
  cases e : H p with
  | none => rfl
  | some o =>
    have n : p ≠ f := fun z => by
      rw [z] at h
      exact hf h
    rw [s p o n e] at h
    cases h
theorem Feed.here {H : Hp} {f cl : Addr} (h : Feed H f cl) : ∃ kvs, H f = some (.dK kvs) := let ⟨kvs, _, _, _, _, h⟩ := h; ⟨kvs, h.at0⟩
theorem Feed.some {H : Hp} {f cl : Addr} (h : Feed H f cl) : H f ≠ none := let ⟨_, q⟩ := h.here; fun z => by rw [q] at z; cases z
theorem Feed.someC {H : Hp} {f cl : Addr} (h : Feed H f cl) : H cl ≠ none := let ⟨_, _, _, _, _, q⟩ := h; fun z => by rw [q.cl] at z; cases z
theorem Feed.upd {H : Hp} {f cl p : Addr} {o : HO} (h : Feed H f cl) (hp : H p = none) : Feed (L2.upd H p o) f cl := h.keep (same_new hp)
/-- a store to a list leaves the feed, if the list is not the feed's own -/
theorem Feed.set {H : Hp} {f cl p : Addr} {o : HO} (h : Feed H f cl) (hf : p ≠ f) (hc : p ≠ cl) : Feed (L2.upd H p o) f cl := by
  obtain ⟨a, c, d, e, g, h⟩ := h
  exact ⟨a, c, d, e, g, by rw [upd_ne hf.symm]; exact h.at0, h.len, h.c, h.s, h.l, h.t, by rw [upd_ne hc.symm]; exact h.cl⟩

section
variable {P : Program} {w : World} {K : PySem.W.Frag} {mg : Str → Option Value} {base : Heap} {f : Addr} {fd : FuncData}
abbrev hDraw (P : Program) (w : World) (K : PySem.W.Frag) (mg : Str → Option Value) (base : Heap) : Prop := Has P w K mg base "_law_draw" 1 ["_law_feed_here", "_law_limit"] spDraw
def spPick (K : PySem.W.Frag) : Sp := fun vs H Q _ => ∃ f cl a xs, vs = [.ref f, .ref a] ∧ Feed H f cl ∧ SqL K H a xs ∧ xs ≠ [] ∧ xs.length < 1000 ∧ ∀ H' x, x ∈ xs → Feed H' f cl → But f H H' → Q x H'
theorem ok_lawPick (B : Blt mg lettersS) (h1 : hDraw P w K mg base) (F : Fun K "_law_pick" "_law_pick" sLawPick f fd) : FnOk P w K mg base CX0 2 f fd ["_law_feed_here", "_law_some"] (spPick K) := by
  refine F.ok scLawPick (fun vs H Q E h => ?_) (fun cdv A outer s H vs Q E hr h => ?_)
  · obtain ⟨a, ns, _, _, rfl, _⟩ := h
    rfl
  · obtain ⟨f, cl, a, xs, rfl, hf, ha, ne, hl, q⟩ := h
    refine ⟨_, pss_one (ps_ret (pe_ix ix_list (pv 1) (pe_has h1 hr (pa_cons (pv 0) (pa_cons (pe_callB call_len_seq (by rfl) B.len PySem.boot_len (pa_cons (pv 1) pa_nil)) pa_nil))) (fun _ _ => rfl))), ?_⟩
    have hp := List.length_pos_iff.mpr ne
    refine ⟨_, rfl, _, rfl, _, rfl, a, _, rfl, .inl ha, f, _, cl, rfl, hf, by omega, by omega, fun H1 k k0 k1 hF hB => ?_⟩
    obtain ⟨kvs, hk⟩ := hf.here
    obtain ⟨v, e1, e2⟩ := atI_some k0 k1
    exact ⟨a, _, _, v, rfl, rfl, hB.seq hk ha, e1, q _ _ e2 hF hB⟩
abbrev hPick (P : Program) (w : World) (K : PySem.W.Frag) (mg : Str → Option Value) (base : Heap) : Prop := Has P w K mg base "_law_pick" 2 ["_law_feed_here", "_law_some"] (spPick K)
end

/-! ### tuples that are known to the object: their methods are found -/
def FrT (H : Hp) (t : Addr) (xs : List V) : Prop := ∃ ob : Obj, H t = some (.frz ob (.tup xs)) ∧ ob.dict = none
theorem FrT.tp {K : PySem.W.Frag} {H : Hp} {t : Addr} {xs : List V} (h : FrT H t xs) : SqT K H t xs := let ⟨ob, h, _⟩ := h; .inl (.inr ⟨ob, h⟩)
theorem FrT.keep {H H' : Hp} {t : Addr} {xs : List V} (h : FrT H t xs) (s : Same H H') : FrT H' t xs := let ⟨ob, h, d⟩ := h; ⟨ob, s _ _ h, d⟩
theorem FrT.but {H H' : Hp} {f cl t : Addr} {xs : List V} (h : FrT H t xs) (hf : Feed H f cl) (s : But f H H') : FrT H' t xs := by
  obtain ⟨ob, h, d⟩ := h
  obtain ⟨kvs, hk⟩ := hf.here
  exact ⟨ob, s.at hk h (fun _ z => by cases z), d⟩
section
variable {X : Cx}
theorem call_tupleF : CallR X (.type "tuple") (fun xs H Q => ∃ p ys, xs = [.ref p] ∧ SqL X.K H p ys ∧ ∀ (l : Addr) (ob : Obj), H l = none → ob.dict = none → Q (.ref l) (upd H l (.frz ob (.tup ys)))) := by
  intro pins s σ H xs us Q I r h
  obtain ⟨p, ys, rfl, hq, q⟩ := h
  obtain ⟨u, rfl, rx⟩ := vals1 r
  cases rx
  obtain ⟨its, r', pl, hz⟩ := I.list hq
  have hlen := r'.length
  refine call_tuple_list pl.isList (fun h' kp => ?_) (by simp only [List.size_toArray] <;> omega)
  have I1 : L2.Inv X pins σ H { s with heap := h' } := I.kept (t' := s.toks) kp
  have I2 : L2.Inv X pins σ (upd H h'.objs.size (.frz { cls := .type "tuple", data := .seq its.toArray } (.tup ys))) { s with heap := h'.push { cls := .type "tuple", data := .seq its.toArray } } :=
    I1.laid (t' := s.toks) (fun b o e => Heap.get?_push_of_some _ e) (Nat.le_refl _) ⟨Heap.get?_push_size _ rfl, hz, its, r', IsTup.new _ _⟩
  exact ⟨.ref h'.objs.size, _, I2, rfl, q _ _ (I1.hok.fresh (Nat.le_refl _)) rfl⟩
def tBMT (r : V → List V → Hp → VK → Prop) (to : TE) (t : TA) : TE := fun σ H Q => to σ H fun x H1 => (∃ p xs, x = .ref p ∧ FrT H1 p xs) ∧ t σ H1 fun ws H2 => r x ws H2 Q
variable {o e : Expr} {es : List Expr} {to : TE} {t : TA} {name : Str} {apos cpos : Pos} {id : String} {r : V → List V → Hp → VK → Prop}
theorem pe_bmT (pa : PlainAttrs "tuple") (slot : Slot "tuple" name id) (hty : typeOf (.builtin id) = pure (.type "method_descriptor")) (hm : MtR X id r) (ho : PE X o to) (ha : PA X (e :: es) t)
    (hbase : attributeBase o name X.env (eval o X.env) = eval o X.env := by rfl)
    (hfew : ((backTo cpos (starEach (e :: es) X.env)).all (fun x => !x.1) && (backToKw cpos (keywordEach [] X.env)).all (fun x => x.1.isSome)
      && decide ((e :: es).length + ([] : List Keyword).length + (if ([] : List Keyword).isEmpty then 0 else 1) < 30)) = true := by rfl)
    (hline : (apos.endLine == cpos.line) = true := by rfl) (hs : starEach (e :: es) X.env = (false, eval e X.env) :: starEach es X.env := by rfl) (hplain : (backTo cpos (starEach es X.env)).any (·.1) = false := by rfl) :
    PE X (.Call (.Attribute o name apos) (e :: es) [] cpos) (tBMT r to t) := by
  refine ⟨fun pins s σ H Q I h => ?_⟩
  refine wpAny_Call_method_late hbase hfew hline rfl (thn (ho.run pins s σ H _ I h) fun v s1 ⟨x, H1, I1, r1, ty, q1⟩ => ?_)
  obtain ⟨p, xs, rfl, ob, hp, hd⟩ := ty
  cases r1
  obtain ⟨g1, _, its, _, o2, g2, hc, _⟩ := (show ObjOk X.prog X.w H1 s1.heap p (.frz ob (.tup xs)) from I1.hok p _ hp)
  rw [g1] at g2
  cases g2
  refine ⟨"tuple", id, pa, slot, hty, ⟨ob, g1, hc⟩, (fun a e2 => by cases e2; exact ⟨ob, g1, hd⟩), ?_⟩
  have hA := ha.run cpos pins s1 σ H1 _ I1 q1
  rw [hs] at hA ⊢
  refine Calls.callWith_builtin (by show (false || (backTo cpos (starEach es X.env)).any (·.1)) = false; rw [hplain] <;> rfl) (Calls.evalArgs_plain ?_)
  exact thn hA fun us s2 ⟨vs, H2, I2, r2, q2⟩ => hm pins s2 σ H2 (.ref p) vs (.ref p) us Q I2 rfl r2 q2
end
/-! ### the pools -/
structure PoolOk (ps : List Str) : Prop where
  len : ps.length = 5
  nd : ps.Nodup
  nm : ∀ s ∈ ps, NameOk s
def pool1 : List Str := ["a", "b", "c", "d", "e"]
def pool2 : List Str := ["chest", "gate", "seal", "x", "zzzzzzzz"]
def pool3 : List Str := ["b", "bb", "ba", "z", "q"]
theorem pool_mk {ps : List Str} (h1 : ps.length = 5) (h2 : ps.Nodup) (h3 : ∀ s ∈ ps, 0 < s.cps.size ∧ s.cps.size < 9 ∧ ∀ c ∈ s.cps.toList, c ∈ lettersS.cps.toList) : PoolOk ps :=
  ⟨h1, h2, fun s hs => ⟨(h3 s hs).1, (h3 s hs).2.1, (h3 s hs).2.2⟩⟩
theorem pool1_ok : PoolOk pool1 := pool_mk rfl (by decide +kernel) (by decide +kernel)
theorem pool2_ok : PoolOk pool2 := pool_mk rfl (by decide +kernel) (by decide +kernel)
theorem pool3_ok : PoolOk pool3 := pool_mk rfl (by decide +kernel) (by decide +kernel)
theorem ltCps_eq : ∀ x y : List Nat, ltCps x y = decide (x < y)
  | [], [] => by simp [ltCps]
  | [], _ :: _ => by simp [ltCps]
  | _ :: _, [] => by simp [ltCps]
  | a :: r, b :: t => by
    show (decide (a < b) || (a == b && ltCps r t)) = _
    rw [ltCps_eq r t]
    simp only [List.cons_lt_cons_iff, Bool.decide_or, Bool.decide_and]
    rfl
theorem risingS_all : ∀ (r : List Str) (p : Str), risingS p r = true → (∀ x ∈ r, ¬ x.cps.toList < p.cps.toList) ∧ r.Pairwise fun a b => ¬ b.cps.toList < a.cps.toList
  | [], p, _ => ⟨(fun _ z => by cases z), .nil⟩
  | y :: r, p, h => by
    have h' : (!ltCps y.cps.toList p.cps.toList && risingS y r) = true := h
    rw [Bool.and_eq_true, ltCps_eq] at h'
    have h1 : ¬ y.cps.toList < p.cps.toList := by simpa using h'.1
    obtain ⟨h2, h3⟩ := risingS_all r y h'.2
    refine ⟨fun x hx => ?_, .cons (fun x hx => h2 x hx) h3⟩
    rcases List.mem_cons.mp hx with rfl | hx
    · exact h1
    · intro z
      have a1 : y.cps.toList ≤ x.cps.toList := List.not_lt.mp (h2 x hx)
      have a2 : p.cps.toList ≤ y.cps.toList := List.not_lt.mp h1
      exact (List.not_lt.mpr (List.le_trans a2 a1)) z
theorem asc_of_sorted {ys : List Str} (h : sortedS ys = true) (nd : ys.Nodup) : AscS ys := by
  have p : ys.Pairwise fun a b => ¬ b.cps.toList < a.cps.toList := by
    cases ys with
    | nil => exact .nil
    | cons y r =>
      have q := risingS_all r y h
      exact .cons q.1 q.2
  refine (p.and nd).imp fun {a b} hab => ?_
  rcases Decidable.em (a.cps.toList < b.cps.toList) with z | z
  · exact z
  · exact absurd (str_inj (List.le_antisymm (List.not_lt.mp hab.1) (List.not_lt.mp z))) hab.2
structure CrowdOk (cs : List Str) : Prop where
  ne : cs ≠ []
  few : cs.length ≤ 5
  asc : AscS cs
  nm : ∀ s ∈ cs, NameOk s
theorem erase_map {α β : Type} (g : α → β) : ∀ (xs : List α) (k : Nat), (xs.map g).eraseIdx k = (xs.eraseIdx k).map g
  | [], _ => rfl
  | _ :: _, 0 => rfl
  | x :: xs, k + 1 => congrArg (g x :: ·) (erase_map g xs k)
theorem eraseIdx_perm {α : Type} : ∀ (xs : List α) (k : Nat) (y : α), xs[k]? = some y → (y :: xs.eraseIdx k).Perm xs
  | [], _, _, h => by simp at h
  | x :: xs, 0, y, h => by
    have e : x = y := Option.some.inj h
    subst e
    exact .refl _
  | x :: xs, k + 1, y, h => (List.Perm.swap x y _).trans ((eraseIdx_perm xs k y h).cons x)
section
variable {P : Program} {w : World} {K : PySem.W.Frag} {mg : Str → Option Value} {base : Heap} {f : Addr} {fd : FuncData}
def spCrowd (K : PySem.W.Frag) : Sp := fun vs H Q _ => ∃ f cl, vs = [.ref f, .int 5] ∧ Feed H f cl ∧ ∀ H' t cs, Feed H' f cl → But f H H' → FrT H' t (cs.map V.str) → CrowdOk cs → Q (.ref t) H'
/-- popping from the list at l to the list at m: what both hold together stays -/
structure Pop (f cl l m : Addr) (H0 : Hp) (ps : List Str) (i : Nat) (H : Hp) (L M : List Str) : Prop where
  hf : Feed H f cl
  but : But f H0 H
  l : H l = some (.lst (L.map V.str))
  m : H m = some (.lst (M.map V.str))
  pm : (M ++ L).Perm ps
  len : M.length = i
structure PopAway (f cl l m : Addr) (H0 : Hp) : Prop where
  l0 : H0 l = none
  m0 : H0 m = none
  lf : l ≠ f
  lc : l ≠ cl
  mf : m ≠ f
  mc : m ≠ cl
  lm : l ≠ m
/-- one figure is drawn -/
theorem Pop.draw {f cl l m : Addr} {H0 H H' : Hp} {ps L M : List Str} {i : Nat} (p : Pop f cl l m H0 ps i H L M) (a : PopAway f cl l m H0) (hf : Feed H' f cl) (b : But f H H') : Pop f cl l m H0 ps i H' L M :=
  ⟨hf, p.but.trans b, b l _ a.lf p.l, b m _ a.mf p.m, p.pm, p.len⟩
/-- one more is popped and put -/
theorem Pop.step {f cl l m : Addr} {H0 H : Hp} {ps L M : List Str} {i k : Nat} {y : Str} (p : Pop f cl l m H0 ps i H L M) (a : PopAway f cl l m H0) (hy : L[k]? = some y) :
    Pop f cl l m H0 ps (i + 1) (upd (upd H l (.lst ((L.eraseIdx k).map V.str))) m (.lst ((M ++ [y]).map V.str))) (L.eraseIdx k) (M ++ [y]) := by
  refine ⟨(p.hf.set a.lf a.lc).set a.mf a.mc, (p.but.new a.l0).new a.m0, ?_, upd_same, ?_, ?_⟩
  · rw [upd_ne a.lm, upd_same]
  · refine List.Perm.trans ?_ p.pm
    rw [List.append_assoc]
    exact (eraseIdx_perm L k y hy).append_left M
  · rw [List.length_append, p.len]
    rfl
theorem Pop.lens {f cl l m : Addr} {H0 H : Hp} {ps L M : List Str} {i : Nat} (p : Pop f cl l m H0 ps i H L M) : i + L.length = ps.length := by
  have := p.pm.length_eq
  rw [List.length_append, p.len] at this
  exact this
theorem ok_lawACrowd (B : Blt mg lettersS) (h1 : hDraw P w K mg base) (h2 : hPick P w K mg base) (F : Fun K "_law_a_crowd" "_law_a_crowd" sLawACrowd f fd) : FnOk P w K mg base CX0 3 f fd ["_law_feed_here", "_law_most"] (spCrowd K) := by
  refine F.ok scLawACrowd (fun vs H Q E h => ?_) (fun cdv A outer s H vs Q E hr h => ?_)
  · obtain ⟨a, _, rfl, _⟩ := h
    rfl
  · obtain ⟨f, cl, rfl, hf, q⟩ := h
    have nd := scLawACrowd.nd
    have hr1 := hr.mono (show 1 ≤ 2 by decide)
    refine ⟨_, pss_cons (ps_set (i := 2) nd rfl (Or.inl rfl) (pe_lst (pa_cons (pe_lst (pa_cons pe_str (pa_cons pe_str (pa_cons pe_str (pa_cons pe_str (pa_cons pe_str pa_nil))))))
        (pa_cons (pe_lst (pa_cons pe_str (pa_cons pe_str (pa_cons pe_str (pa_cons pe_str (pa_cons pe_str pa_nil)))))) pa_nil))))
      (pss_cons (ps_set (i := 2) nd rfl (Or.inl rfl) (pe_op op_cat (pv 2) (pe_lst (pa_cons (pe_lst (pa_cons pe_str (pa_cons pe_str (pa_cons pe_str (pa_cons pe_str (pa_cons pe_str pa_nil)))))) pa_nil))))
      (pss_cons (ps_par (i := 3) (j := 4) (by rfl) nd rfl rfl (by decide) rfl rfl (pa_cons (pe_callTy call_list_of (by rfl) B.list (by decide +kernel) (pa_cons (pe_has h2 hr (pa_cons (pv 0) (pa_cons (pv 2) pa_nil))) pa_nil)) (pa_cons (pe_lst pa_nil) pa_nil)) (by rfl))
      (pss_cons (ps_for PassesOwn.never rfl (pi_range1 (by rfl) B.range (pa_cons (pe_op op_add pe_int (pe_has h1 hr1 (pa_cons (pv 0) (pa_cons (pv 1) pa_nil)))) pa_nil)) (pg_name (i := 5) nd rfl (Or.inl rfl))
        (pss_one (ps_expr (pe_bm PySem.F.plainAttrs_list PySem.F.slot_list_append PySem.F.type_list_append mt_append (pv 4) (pa_cons
          (pe_bm PySem.F.plainAttrs_list PySem.F.slot_list_pop PySem.F.type_list_pop mt_popAt (pv 3) (pa_cons (pe_has h1 hr1 (pa_cons (pv 0) (pa_cons (pe_callB call_len_seq (by rfl) B.len PySem.boot_len (pa_cons (pv 3) pa_nil)) pa_nil))) pa_nil)) pa_nil)))))
      (pss_one (ps_ret (pe_callTy call_tupleF (by rfl) B.tuple (by decide +kernel) (pa_cons (pe_callB cr_sortedS (by rfl) B.sorted (by decide +kernel) (pa_cons (pv 4) pa_nil)) pa_nil))))))), ?_⟩
    have s5 : 5 ≤ sizeLine := by decide
    refine ⟨s5, fun l1 n1 => ⟨s5, fun l2 n2 => ⟨(by show 2 ≤ sizeLine; decide), fun l3 n3 => ?_⟩⟩⟩
    refine ⟨_, rfl, s5, fun l4 n4 => ⟨(by show 1 ≤ sizeLine; decide), fun l5 n5 => ?_⟩⟩
    have t1 := same_new (o := .lst [.str "a", .str "b", .str "c", .str "d", .str "e"]) n1
    have t2 := same_new (o := .lst [.str "chest", .str "gate", .str "seal", .str "x", .str "zzzzzzzz"]) n2
    have t3 := same_new (o := .lst [.ref l1, .ref l2]) n3
    have t4 := same_new (o := .lst [.str "b", .str "bb", .str "ba", .str "z", .str "q"]) n4
    have t5 := same_new (o := .lst [.ref l4]) n5
    refine ⟨l3, l5, _, _, rfl, rfl, (t4.trans t5) _ _ upd_same, upd_same, (by show 3 ≤ sizeLine; decide), fun l6 n6 => ?_⟩
    have t6 := same_new (o := .lst ([.ref l1, .ref l2] ++ [.ref l4])) n6
    have q1 := (t2.trans (t3.trans (t4.trans (t5.trans t6)))) _ _ (upd_same (H := H) (a := l1) (o := .lst [.str "a", .str "b", .str "c", .str "d", .str "e"]))
    have q2 := (t3.trans (t4.trans (t5.trans t6))) l2 _ upd_same
    have q4 := (t5.trans t6) l4 _ upd_same
    have q6 := upd_same (H := upd (upd (upd (upd (upd H l1 (.lst [.str "a", .str "b", .str "c", .str "d", .str "e"])) l2 (.lst [.str "chest", .str "gate", .str "seal", .str "x", .str "zzzzzzzz"])) l3 (.lst [.ref l1, .ref l2])) l4 (.lst [.str "b", .str "bb", .str "ba", .str "z", .str "q"])) l5 (.lst [.ref l4])) (a := l6) (o := .lst ([.ref l1, .ref l2] ++ [.ref l4]))
    have t06 := t1.trans (t2.trans (t3.trans (t4.trans (t5.trans t6))))
    have f6 := hf.keep t06
    generalize upd (upd (upd (upd (upd (upd H l1 (.lst [.str "a", .str "b", .str "c", .str "d", .str "e"])) l2 (.lst [.str "chest", .str "gate", .str "seal", .str "x", .str "zzzzzzzz"])) l3 (.lst [.ref l1, .ref l2])) l4 (.lst [.str "b", .str "bb", .str "ba", .str "z", .str "q"])) l5 (.lst [.ref l4])) l6 (.lst ([.ref l1, .ref l2] ++ [.ref l4])) = H6 at *
    obtain ⟨kvs6, k6⟩ := f6.here
    refine ⟨_, rfl, _, rfl, f, cl, l6, _, rfl, f6, .of q6, by simp, by show 3 < 1000; decide, fun H7 x hx f7 b7 => ?_⟩
    obtain ⟨lp, ps, rfl, hlp, pok⟩ : ∃ lp ps, x = .ref lp ∧ H7 lp = some (.lst (ps.map V.str)) ∧ PoolOk ps := by
      simp only [List.cons_append, List.nil_append, List.mem_cons, List.not_mem_nil, or_false] at hx
      rcases hx with rfl | rfl | rfl
      · exact ⟨l1, pool1, rfl, b7.at k6 q1 (fun _ z => by cases z), pool1_ok⟩
      · exact ⟨l2, pool2, rfl, b7.at k6 q2 (fun _ z => by cases z), pool2_ok⟩
      · exact ⟨l4, pool3, rfl, b7.at k6 q4 (fun _ z => by cases z), pool3_ok⟩
    refine ⟨lp, _, rfl, .inl (.of hlp), fun l nl => ⟨Nat.zero_le _, fun m nm => ?_⟩⟩
    have b07 : But f H H7 := (t06.but f).trans b7
    have e0 : H l = none := b07.free f7.some nl
    have nm' : H7 m = none := (same_new nl).free nm
    have e1 : H m = none := b07.free f7.some nm'
    have aw : PopAway f cl l m H := ⟨e0, e1, fun z => hf.some (z ▸ e0), fun z => hf.someC (z ▸ e0), fun z => hf.some (z ▸ e1), fun z => hf.someC (z ▸ e1), fun z => by rw [← z, upd_same] at nm; cases nm⟩
    have p0 : Pop f cl l m H ps 0 (upd (upd H7 l (.lst (ps.map V.str))) m (.lst [])) ps [] :=
      ⟨(f7.upd nl).upd nm, (b07.new e0).new e1, by rw [upd_ne aw.lm, upd_same], upd_same, .refl _, rfl⟩
    generalize upd (upd H7 l (.lst (ps.map V.str))) m (.lst []) = H8 at *
    refine ⟨_, _, rfl, ?_⟩
    refine ⟨_, rfl, _, rfl, f, 5, cl, rfl, p0.hf, by decide, by decide, fun H9 k k0 k5 f9 b9 => ⟨_, _, rfl, rfl, _, rfl, by omega, by omega, ?_⟩⟩
    have p9 := p0.draw aw f9 b9
    have hn : ((1 + k).toNat) ≤ 5 ∧ 0 < (1 + k).toNat := by omega
    generalize (1 + k).toNat = n at *
    refine for_it (walk_range (lo := 0) (n := n)) (fun i σ Hx => ∃ y5, σ = [some (.ref f), some (.int 5), some (.ref l6), some (.ref l), some (.ref m), y5] ∧ ∃ L M, Pop f cl l m H ps i Hx L M) ⟨none, rfl, _, _, p9⟩ (fun _ _ _ _ _ => trivial) (fun i x σ H1 H2 hi pv y => ?_) (fun σ H1 pv => ?_)
    · obtain ⟨y5, rfl, L, M, p1⟩ := pv
      obtain ⟨rfl, rfl⟩ := y
      have hlen := p1.lens
      rw [pok.len] at hlen
      refine ⟨_, rfl, .inl ⟨rfl, _, .of p1.m⟩, _, rfl, .inl ⟨rfl, _, .of p1.l⟩, _, rfl, _, rfl, l, _, rfl, .inl (.of p1.l), f, _, cl, rfl, p1.hf, ?_, ?_, fun H3 k k0 k1 f3 b3 => ?_⟩
      · rw [List.length_map]
        omega
      · rw [List.length_map]
        omega
      have p3 := p1.draw aw f3 b3
      rw [List.length_map] at k1
      have hk : k.toNat < L.length := by omega
      refine ⟨l, _, k, k.toNat, .str L[k.toNat], rfl, rfl, p3.l, by omega, by omega, seqIx k0 (by rw [List.length_map]; exact k1), by rw [List.getElem?_map, List.getElem?_eq_getElem hk]; rfl, ?_⟩
      have p4 := p3.step aw (List.getElem?_eq_getElem hk)
      refine ⟨m, _, _, rfl, rfl, by rw [upd_ne aw.lm.symm]; exact p3.m, ?_, ?_⟩
      · have := p3.len
        rw [List.length_map]
        exact small1000 (by omega)
      · rw [List.map_append] at p4
        rw [erase_map]
        exact ⟨_, rfl, _, _, p4⟩
    · obtain ⟨y5, rfl, L, M, p1⟩ := pv
      have hlen := p1.lens
      rw [pok.len] at hlen
      have hM := p1.len
      refine ⟨_, rfl, m, M, rfl, .of p1.m, by omega, fun ys p pm so np => ?_⟩
      have ndM : M.Nodup := by
        have := (p1.pm.nodup_iff).mpr pok.nd
        exact (List.nodup_append.mp this).1
      have ndy := pm.nodup_iff.mpr ndM
      refine ⟨p, _, rfl, .of upd_same, fun t ob nt hob => ?_⟩
      have f2 := (p1.hf.upd (o := .lst (ys.map V.str)) np).upd (o := .frz ob (.tup (ys.map V.str))) nt
      have s2 := (same_new (o := .lst (ys.map V.str)) np).trans (same_new (o := .frz ob (.tup (ys.map V.str))) nt)
      refine q _ t ys f2 (p1.but.trans (s2.but f)) ⟨ob, upd_same, hob⟩ ⟨fun z => ?_, ?_, asc_of_sorted so ndy, fun s hs => ?_⟩
      · have := pm.length_eq
        rw [z] at this
        simp at this
        omega
      · rw [pm.length_eq]
        omega
      · exact pok.nm s (p1.pm.mem_iff.mp (List.mem_append_left _ (pm.mem_iff.mp hs)))
abbrev hCrowd (P : Program) (w : World) (K : PySem.W.Frag) (mg : Str → Option Value) (base : Heap) : Prop := Has P w K mg base "_law_a_crowd" 3 ["_law_feed_here", "_law_most"] (spCrowd K)
end
end Kp
/-! The law's seals. -/
namespace Kp
open PySem PySem.Spec PyProof.Rows L2

theorem nodup_len {α : Type} [DecidableEq α] : ∀ (xs ys : List α), xs.Nodup → (∀ x ∈ xs, x ∈ ys) → xs.length ≤ ys.length
  | [], _, _, _ => Nat.zero_le _
  | x :: xs, ys, nd, h => by
    rw [List.nodup_cons] at nd
    have hx := h x (List.mem_cons_self ..)
    have q := nodup_len xs (ys.erase x) nd.2 fun y hy => (List.mem_erase_of_ne (fun e : y = x => nd.1 (by rw [← e]; exact hy))).mpr (h y (List.mem_cons_of_mem _ hy))
    rw [List.length_erase_of_mem hx] at q
    have := List.length_pos_of_mem hx
    rw [List.length_cons]
    omega
theorem nodup_first {cs : List Str} (nd : cs.Nodup) {j : Nat} {s : Str} (h : cs[j]? = some s) : ∀ m, m < j → cs[m]? ≠ some s := by
  intro m hm e
  obtain ⟨hj, ej⟩ := List.getElem?_eq_some_iff.mp h
  have hm' : m < cs.length := Nat.lt_trans hm hj
  have ne := List.pairwise_iff_getElem.mp nd m j hm' hj hm
  rw [List.getElem?_eq_getElem hm'] at e
  exact ne ((Option.some.inj e).trans ej.symm)
/-- the block of the comprehension over the rows -/
abbrev scSealLap : Scope := { kind := .function, names := [(".0", .local), ("_law_lap", .local), ("tuple", .globalImplicit), ("_law_feed_here", .cell), ("_law_limits", .cell)], isGenerator := false, isCoroutine := false }
abbrev rTupOf (K : PySem.W.Frag) : List V → Hp → VK → Prop := fun xs H Q => ∃ p ys, xs = [.ref p] ∧ ((SqL K H p ys ∧ ∀ l, H l = none → Q (.ref l) (upd H l (.tup ys))) ∨ (SqT K H p ys ∧ Q (.ref p) H))
abbrev rTix (K : PySem.W.Frag) : V → List V → Hp → VK → Prop := fun x xs H Q => ∃ p, ∃ ys : List Str, ∃ z j, x = .ref p ∧ xs = [.str z] ∧ SqT K H p (ys.map V.str) ∧ ys[j]? = some z ∧ (∀ m, m < j → ys[m]? ≠ some z) ∧ Q (.int (j : Nat)) H
theorem Pop.same {f cl l m : Addr} {H0 H H' : Hp} {ps L M : List Str} {i : Nat} (p : Pop f cl l m H0 ps i H L M) (s : Same H H') : Pop f cl l m H0 ps i H' L M :=
  ⟨p.hf.keep s, p.but.trans (s.but f), s _ _ p.l, s _ _ p.m, p.pm, p.len⟩
theorem But.tup_at {K : PySem.W.Frag} {f cl a : Addr} {xs : List V} {H H' : Hp} (s : But f H H') (hf : Feed H f cl) (h : SqT K H a xs) : SqT K H' a xs := let ⟨_, hk⟩ := hf.here; s.tp hk h
theorem But.lst_at {f cl a : Addr} {xs : List V} {H H' : Hp} (s : But f H H') (hf : Feed H f cl) (h : H a = some (.lst xs)) : H' a = some (.lst xs) := let ⟨_, hk⟩ := hf.here; s.at hk h (fun _ z => by cases z)
/-- the rows made so far, in the list at D -/
structure RowsIn (K : PySem.W.Frag) (f cl : Addr) (H0 : Hp) (D : Addr) (cs : List Str) (ws : List Int) (lot : List Str) (i : Nat) (H : Hp) (acc : List (Addr × List Int)) : Prop where
  hf : Feed H f cl
  but : But f H0 H
  d : H D = some (.lst (acc.map fun x => V.ref x.1))
  x : ∀ x ∈ acc, SqT K H x.1 (x.2.map V.int)
  len : acc.length = i
  ok : ∀ x ∈ acc, RowOk cs ws lot x.2
/-- the figures of one row made so far, in the list at D -/
structure FigsIn (f cl : Addr) (H0 : Hp) (D : Addr) (cs : List Str) (ws : List Int) (lot : List Str) (j : Nat) (H : Hp) (xs : List Int) : Prop where
  hf : Feed H f cl
  but : But f H0 H
  d : H D = some (.lst (xs.map V.int))
  len : xs.length = j
  ok : ∀ (a : Nat) v, xs[a]? = some v → ∃ s x, lot[a]? = some s ∧ widOf cs ws s = some x ∧ 0 ≤ v ∧ v < x
section
variable {P : Program} {w : World} {K : PySem.W.Frag} {mg : Str → Option Value} {base : Heap} {f : Addr} {fd : FuncData}
def spSeal (K : PySem.W.Frag) : Sp := fun vs H Q _ => ∃ (f cl t1 t2 : Addr) (cs : List Str) (ws : List Int), vs = [.ref f, .ref t1, .ref t2] ∧ Feed H f cl ∧ FrT H t1 (cs.map V.str) ∧ SqT K H t2 (ws.map V.int) ∧ CrowdOk cs ∧ ws.length = cs.length ∧ (∀ x ∈ ws, 0 < x ∧ x ≤ 12) ∧
  ∀ H' q, Feed H' f cl → But f H H' → SealAt K H' q → SealOk cs ws q → Q (.ref q.p) H'
theorem ok_lawASeal (B : Blt mg lettersS) (h1 : hDraw P w K mg base) (F : Fun K "_law_a_seal" "_law_a_seal" sLawASeal f fd) : FnOk P w K mg base CX0 2 f fd ["_law_feed_here", "_law_crowd", "_law_widths"] (spSeal K) := by
  refine F.ok scLawASeal (fun vs H Q E h => ?_) (fun cdv A outer s H vs Q E hr h => ?_)
  · obtain ⟨_, _, _, _, _, _, rfl, _⟩ := h
    rfl
  · obtain ⟨f, cl, t1, t2, cs, ws, rfl, hf, hc, hw, cok, hlen, hws, q⟩ := h
    have nd := scLawASeal.nd
    have hu := hr.units
    refine ⟨_, pss_cons (ps_par (i := 3) (j := 4) (by rfl) nd rfl rfl (by decide) rfl rfl (pa_cons (pe_callTy call_list_of (by rfl) B.list (by decide +kernel) (pa_cons (pv 1) pa_nil)) (pa_cons (pe_lst pa_nil) pa_nil)) (by rfl))
      (pss_cons (ps_for PassesOwn.never rfl (pi_range1 (by rfl) B.range (pa_cons (pe_op op_add pe_int (pe_has h1 hr (pa_cons (pv 0) (pa_cons (pe_callB (cr_min rfl) (by rfl) B.min (by decide +kernel) (pa_cons
            (pe_lst (pa_cons pe_int (pa_cons (pe_callB call_len_seq (by rfl) B.len PySem.boot_len (pa_cons (pv 1) pa_nil)) pa_nil))) pa_nil)) pa_nil)))) pa_nil)) (pg_name (i := 5) nd rfl (Or.inl rfl))
        (pss_one (ps_expr (pe_bm PySem.F.plainAttrs_list PySem.F.slot_list_append PySem.F.type_list_append mt_append (pv 4) (pa_cons
          (pe_bm PySem.F.plainAttrs_list PySem.F.slot_list_pop PySem.F.type_list_pop mt_popAt (pv 3) (pa_cons (pe_has h1 hr (pa_cons (pv 0) (pa_cons (pe_callB call_len_seq (by rfl) B.len PySem.boot_len (pa_cons (pv 3) pa_nil)) pa_nil))) pa_nil)) pa_nil)))))
      (pss_cons (ps_set (i := 4) nd rfl (Or.inl rfl) (pe_callB cr_sortedS (by rfl) B.sorted (by decide +kernel) (pa_cons (pv 4) pa_nil)))
      (pss_cons (ps_set (i := 6) nd rfl (Or.inr rfl) (pe_lc (own := [("_law_one", 8)]) (g := gName 8) (tt := tYes) rfl nd (pi_list (pv 4))
          (blkOk_by (own := [("_law_one", 8)]) (N := ["_law_feed_here", "_law_crowd", "_law_widths", "_law_left", "_law_some", "_law_lap", "_law_limits", "_law_found", "_law_one", "_law_limit"]) (sc := defScope sLawASeal) (by decide +kernel))
          (fun _ _ _ _ _ => pg_name (i := 8) nd rfl (Or.inl rfl)) (fun _ _ _ _ _ => pts_nil)
          (fun _ _ _ _ _ => pe_ix (show IxR _ (rIxT K) from ix_tup) (pv 2) (pe_bmT PySem.F.plainAttrs_tuple PySem.F.slot_tuple_index PySem.F.type_tuple_index (show MtR _ _ (rTix K) from mt_tup_index) (pv 1) (pa_cons (pv 8) pa_nil)) (fun _ _ => rfl))))
      (pss_cons (ps_setLc (i := 7) (own := [("_law_lap", 5)]) (g := gName 5) (tt := tYes) rfl nd rfl rfl (sw_true rfl rfl rfl (by decide +kernel)) (pi_range1 (by rfl) B.range (pa_cons (pe_has h1 hr (pa_cons (pv 0) (pa_cons pe_int pa_nil))) pa_nil))
          (blkOk_by (own := [("_law_lap", 5)]) (N := ["_law_feed_here", "_law_crowd", "_law_widths", "_law_left", "_law_some", "_law_lap", "_law_limits", "_law_found", "_law_one", "_law_limit"]) (sc := defScope sLawASeal) (by decide +kernel))
          (fun _ _ _ _ _ => pg_name (i := 5) nd rfl (Or.inl rfl)) (fun _ _ _ _ _ => pts_nil)
          (fun _ _ _ _ _ => pe_callTy (show CallR _ _ (rTupOf K) from call_tuple_of) (by rfl) B.tuple (by decide +kernel) (pa_cons (pe_lc (own := [("_law_limit", 9)]) (g := gName 9) (tt := tYes) rfl nd (show PI _ _ _ (iList K (tVar 6)) from pi_list (pv 6))
            (blkOk_by (own := [("_law_limit", 9)]) (N := ["_law_feed_here", "_law_crowd", "_law_widths", "_law_left", "_law_some", "_law_lap", "_law_limits", "_law_found", "_law_one", "_law_limit"]) (sc := scSealLap) (by decide +kernel))
            (fun _ _ _ _ _ => pg_name (i := 9) nd rfl (Or.inl rfl)) (fun _ _ _ _ _ => pts_nil) (fun _ _ _ _ _ => pe_has h1 hr (pa_cons (pv 0) (pa_cons (pv 9) pa_nil)))) pa_nil)))
      (pss_one (ps_ret (pe_tup (pa_cons (pe_callTy call_tuple_of (by rfl) B.tuple (by decide +kernel) (pa_cons (pv 4) pa_nil)) (pa_cons
        (pe_callTy call_tuple_of (by rfl) B.tuple (by decide +kernel) (pa_cons (pe_callB (call_sortK (flat_int P w) rfl hu) (by rfl) B.sorted (by decide +kernel)
          (pa_cons (pe_callTy (call_setK (flat_int P w) rfl hu) (by rfl) B.set (by decide +kernel) (pa_cons (pv 7) pa_nil)) pa_nil)) pa_nil)) pa_nil))))))))), ?_⟩
    have hct := hc.tp (K := K)
    refine ⟨_, rfl, t1, _, rfl, .inr hct, fun l nl => ⟨Nat.zero_le _, fun m nm => ?_⟩⟩
    have e1 : H m = none := (same_new nl).free nm
    have aw : PopAway f cl l m H := ⟨nl, e1, fun z => hf.some (z ▸ nl), fun z => hf.someC (z ▸ nl), fun z => hf.some (z ▸ e1), fun z => hf.someC (z ▸ e1), fun z => by rw [← z, upd_same] at nm; cases nm⟩
    have p0 : Pop f cl l m H cs 0 (upd (upd H l (.lst (cs.map V.str))) m (.lst [])) cs [] :=
      ⟨(hf.upd nl).upd nm, ((But.refl f H).new nl).new e1, by rw [upd_ne aw.lm, upd_same], upd_same, .refl _, rfl⟩
    generalize upd (upd H l (.lst (cs.map V.str))) m (.lst []) = H8 at *
    refine ⟨_, _, rfl, ?_⟩
    have hcp := List.length_pos_iff.mpr cok.ne
    have hcf := cok.few
    refine ⟨_, rfl, _, rfl, t1, _, rfl, .inr ((hc.but hf p0.but).tp), (by show 2 ≤ sizeLine; decide), fun l6 n6 => ?_⟩
    have s6 := same_new (o := .lst [.int 3, .int (((cs.map V.str).length : Nat) : Int)]) n6
    refine ⟨l6, [3, (((cs.map V.str).length : Nat) : Int)], rfl, .of upd_same, by show 0 < 2; decide, fun mm hmm hle => ?_⟩
    have m3 : mm ≤ 3 := hle 3 (by simp)
    have mc : mm ≤ (((cs.map V.str).length : Nat) : Int) := hle _ (by simp)
    have m1 : 1 ≤ mm := by
      rw [List.length_map] at hmm
      simp only [List.mem_cons, List.not_mem_nil, or_false] at hmm
      omega
    rw [List.length_map] at mc
    have p6 := p0.same s6
    refine ⟨f, mm, cl, rfl, p6.hf, by omega, by omega, fun H9 k k0 k5 f9 b9 => ⟨_, _, rfl, rfl, _, rfl, by omega, by omega, ?_⟩⟩
    have p9 := p6.draw aw f9 b9
    have hn : (1 + k).toNat ≤ 3 ∧ (1 + k).toNat ≤ cs.length ∧ 0 < (1 + k).toNat := by omega
    generalize (1 + k).toNat = n at *
    refine for_it (walk_range (lo := 0) (n := n)) (fun i σ Hx => ∃ y5, σ = [some (.ref f), some (.ref t1), some (.ref t2), some (.ref l), some (.ref m), y5, none, none, none, none] ∧ ∃ L M, Pop f cl l m H cs i Hx L M) ⟨none, rfl, _, _, p9⟩ (fun _ _ _ _ _ => trivial) (fun i x σ H1 H2 hi pv y => ?_) (fun σ H1 pv => ?_)
    · obtain ⟨y5, rfl, L, M, p1⟩ := pv
      obtain ⟨rfl, rfl⟩ := y
      have hlen1 := p1.lens
      refine ⟨_, rfl, .inl ⟨rfl, _, .of p1.m⟩, _, rfl, .inl ⟨rfl, _, .of p1.l⟩, _, rfl, _, rfl, l, _, rfl, .inl (.of p1.l), f, _, cl, rfl, p1.hf, ?_, ?_, fun H3 k k0 k1 f3 b3 => ?_⟩
      · rw [List.length_map]
        omega
      · rw [List.length_map]
        omega
      have p3 := p1.draw aw f3 b3
      rw [List.length_map] at k1
      have hk : k.toNat < L.length := by omega
      refine ⟨l, _, k, k.toNat, .str L[k.toNat], rfl, rfl, p3.l, by omega, by omega, seqIx k0 (by rw [List.length_map]; exact k1), by rw [List.getElem?_map, List.getElem?_eq_getElem hk]; rfl, ?_⟩
      have p4 := p3.step aw (List.getElem?_eq_getElem hk)
      refine ⟨m, _, _, rfl, rfl, by rw [upd_ne aw.lm.symm]; exact p3.m, ?_, ?_⟩
      · have := p3.len
        rw [List.length_map]
        exact small1000 (by omega)
      · rw [List.map_append] at p4
        rw [erase_map]
        exact ⟨_, rfl, _, _, p4⟩
    obtain ⟨y5, rfl, L, M, p1⟩ := pv
    have hM := p1.len
    refine ⟨_, rfl, m, M, rfl, .of p1.m, by omega, fun ys p pm so np => ?_⟩
    have ndc : cs.Nodup := cok.asc.nodup
    have ndM : M.Nodup := by
      have := (p1.pm.nodup_iff).mpr ndc
      exact (List.nodup_append.mp this).1
    have ndy := pm.nodup_iff.mpr ndM
    have asc := asc_of_sorted so ndy
    have hyl : ys.length = n := by rw [pm.length_eq, hM]
    have sub : ∀ s ∈ ys, s ∈ cs := fun s hs => p1.pm.mem_iff.mp (List.mem_append_left _ (pm.mem_iff.mp hs))
    have f2 := p1.hf.upd (o := .lst (ys.map V.str)) np
    have b2 : But f H (upd H1 p (.lst (ys.map V.str))) := p1.but.trans ((same_new np).but f)
    have hp2 : (upd H1 p (.lst (ys.map V.str))) p = some (.lst (ys.map V.str)) := upd_same
    generalize upd H1 p (.lst (ys.map V.str)) = H2 at *
    -- the limits
    refine ⟨_, rfl, p, rfl, ⟨_, .of hp2⟩, fun D hD => ?_⟩
    have hny : ys.length < sizeLine := small1000 (by omega)
    refine lc_map (walk_list (K := K) (a := p) (xs := ys.map V.str)) (ys.map fun s => V.int ((widOf cs ws s).getD 0)) (by simp) (by rw [List.length_map]; exact hny) hD (fun H3 s3 => .of (s3 _ _ hp2)) (fun i x H3 H4 fin hi s3 y hfin => ?_) (fun H3 s3 e3 => ?_)
    · obtain ⟨rfl, e⟩ := y
      have hi' : i < ys.length := by simpa using hi
      rw [List.getElem?_map, List.getElem?_eq_getElem hi'] at e
      have e' := (Option.some.inj e).symm
      subst e'
      obtain ⟨j, hj, ej⟩ := List.getElem_of_mem (sub _ (List.getElem_mem hi'))
      have ej' : cs[j]? = some ys[i] := by rw [List.getElem?_eq_getElem hj, ej]
      have hjw : j < ws.length := by omega
      have hwid := widOf_at cs ws j _ _ ndc ej' (List.getElem?_eq_getElem hjw)
      have c3 := (hc.but hf b2).keep s3
      have w3 := s3.tp (b2.tup_at hf hw)
      have := hfin _ (Same.refl _)
      rw [List.getElem_map, hwid] at this
      exact ⟨rfl, _, rfl, _, rfl, ⟨t1, _, rfl, c3⟩, _, rfl, t1, cs, ys[i], j, rfl, rfl, c3.tp, ej', nodup_first ndc ej', t2, _, (j : Nat), .int ws[j], rfl, rfl, w3, atI_nat (by rw [List.getElem?_map, List.getElem?_eq_getElem hjw]; rfl), this⟩
    have f3 := f2.keep s3
    have b3 : But f H H3 := b2.trans (s3.but f)
    have hp3 := s3 _ _ hp2
    -- the rows
    refine ⟨_, rfl, f, 5, cl, rfl, f3, by decide, by decide, fun H4 k k0 k5 f4 b4 => ⟨_, rfl, by omega, by omega, fun D2 hD2 => ?_⟩⟩
    have hD2' : H3 D2 = none := b4.free f4.some hD2
    have d2f : D2 ≠ f := fun z => f4.some (z ▸ hD2)
    have d2c : D2 ≠ cl := fun z => f4.someC (z ▸ hD2)
    have hn5 : k.toNat ≤ 4 := by omega
    generalize k.toNat = n2 at *
    refine lc_it (walk_range (lo := 0) (n := n2)) (fun i Hx => ∃ acc, RowsIn K f cl H3 D2 cs ws ys i Hx acc) ⟨[], f4.upd hD2, b4.new hD2', upd_same, by simp, rfl, by simp⟩ (fun _ _ _ _ => trivial) (fun i x Hx Hx' hi pv y => ?_) (fun Hx pv => ?_)
    · obtain ⟨acc, ra⟩ := pv
      obtain ⟨rfl, rfl⟩ := y
      refine ⟨rfl, tYes_if ?_⟩
      refine ⟨_, rfl, D, rfl, ⟨_, .of (ra.but.lst_at f3 e3)⟩, fun D3 hD3 => ?_⟩
      have d3f : D3 ≠ f := fun z => ra.hf.some (z ▸ hD3)
      have d3c : D3 ≠ cl := fun z => ra.hf.someC (z ▸ hD3)
      refine lc_it (walk_list (K := K) (a := D) (xs := ys.map fun s => V.int ((widOf cs ws s).getD 0))) (fun j Hy => ∃ xs, FigsIn f cl Hx' D3 cs ws ys j Hy xs) ⟨[], ra.hf.upd hD3, (But.refl f Hx').new hD3, upd_same, rfl, by simp⟩
        (fun j Hy _ pv => ?_) (fun j x Hy Hy' hj pv y => ?_) (fun Hy pv => ?_)
      · obtain ⟨xs, fg⟩ := pv
        exact .of ((ra.but.trans fg.but).lst_at f3 e3)
      · obtain ⟨xs, fg⟩ := pv
        obtain ⟨rfl, e⟩ := y
        have hj' : j < ys.length := by simpa using hj
        rw [List.getElem?_map, List.getElem?_eq_getElem hj'] at e
        have e' := (Option.some.inj e).symm
        subst e'
        obtain ⟨x, hx, hxw⟩ := widOf_some cs ws ys[j] (sub _ (List.getElem_mem hj')) hlen
        have hx12 := hws x hxw
        refine ⟨rfl, tYes_if ⟨_, rfl, _, rfl, f, x, cl, by dsimp only; rw [hx]; rfl, fg.hf, by omega, by omega, fun Hz v v0 v1 fz bz => ?_⟩⟩
        have hb := fg.but.trans bz
        refine ⟨_, bz.lst_at fg.hf fg.d, ?_, xs ++ [v], fz.set d3f d3c, hb.new hD3, by rw [upd_same, List.map_append]; rfl, by rw [List.length_append, fg.len]; rfl, fun a u hu => ?_⟩
        · rw [List.length_map, fg.len]
          omega
        · rw [List.getElem?_append] at hu
          by_cases ha : a < xs.length
          · rw [if_pos ha] at hu
            exact fg.ok a u hu
          · rw [if_neg ha] at hu
            have ea : a = j := by
              have := (List.getElem?_eq_some_iff.mp hu).1
              have := fg.len
              simp at *
              omega
            subst ea
            rw [fg.len, Nat.sub_self] at hu
            have eu : v = u := Option.some.inj hu
            subst eu
            exact ⟨ys[a], x, List.getElem?_eq_getElem hj', hx, v0, v1⟩
      · obtain ⟨xs, fg⟩ := pv
        rw [List.length_map] at fg
        refine ⟨D3, _, rfl, .inl ⟨.of fg.d, fun t nt => ?_⟩⟩
        have st := same_new (o := .tup (xs.map V.int)) nt
        have hb := fg.but.trans (st.but f)
        have hD2t : (upd Hy t (.tup (xs.map V.int))) D2 = some (.lst (acc.map fun x => V.ref x.1)) := hb.lst_at ra.hf ra.d
        refine ⟨_, hD2t, ?_, acc ++ [(t, xs)], (fg.hf.keep st).set d2f d2c, (ra.but.trans hb).new hD2', by rw [upd_same, List.map_append]; rfl, fun x hx => ?_, by rw [List.length_append, ra.len]; rfl, fun x hx => ?_⟩
        · rw [List.length_map, ra.len]
          exact small1000 (by omega)
        · refine tp_at ?_ hD2t
          rcases List.mem_append.mp hx with h | h
          · exact hb.tup_at ra.hf (ra.x x h)
          · rw [List.mem_singleton.mp h]
            exact .of upd_same
        · rcases List.mem_append.mp hx with h | h
          · exact ra.ok x h
          · rw [List.mem_singleton.mp h]
            refine ⟨fg.len, fun j v s hv hs => ?_⟩
            obtain ⟨s2, x2, g1, g2, g3, g4⟩ := fg.ok j v hv
            have e4 : s2 = s := Option.some.inj (g1.symm.trans hs)
            subst e4
            exact ⟨x2, g2, g3, g4⟩
    obtain ⟨acc, ra⟩ := pv
    -- the seal
    refine ⟨_, rfl, p, _, rfl, .inl ⟨.of (ra.but.lst_at f3 hp3), fun u1 nu1 => ?_⟩⟩
    have su1 := same_new (o := .tup (ys.map V.str)) nu1
    have hal := ra.len
    refine ⟨_, rfl, D2, acc, rfl, .of (su1 _ _ ra.d), fun x hx => su1.tp (ra.x x hx), by omega, fun a S ha hsub hcov hnd => ?_⟩
    have sa := same_new (o := SetHO (PySem.intKind P w) a S) ha
    refine ⟨a, S, rfl, upd_same, fun x hx => sa.tp (su1.tp (ra.x x (hsub x hx))), fun x hx => ?_, fun S0 b pmS hb => ?_⟩
    · intro z
      have := (ra.ok x (hsub x hx)).len
      rw [z] at this
      simp at this
      omega
    refine ⟨b, _, rfl, .inl ⟨.of upd_same, fun u2 nu2 => ?_⟩⟩
    have sb := same_new (o := .lst ((S0.mergeSort (keyLe PyData.int)).map fun q => V.ref q.1)) hb
    have su2 := same_new (o := .tup ((S0.mergeSort (keyLe PyData.int)).map fun q => V.ref q.1)) nu2
    refine ⟨(by show 2 ≤ sizeLine; decide), fun u3 nu3 => ?_⟩
    have su3 := same_new (o := .tup [.ref u1, .ref u2]) nu3
    have sall := su1.trans (sa.trans (sb.trans (su2.trans su3)))
    have pmS2 : (S0.mergeSort (keyLe PyData.int)).Perm S := (List.mergeSort_perm _ _).trans pmS
    refine q _ ⟨u3, u1, u2, ys, S0.mergeSort (keyLe PyData.int)⟩ (ra.hf.keep sall) ((b3.trans ra.but).trans (sall.but f)) ⟨.of upd_same, (sa.trans (sb.trans (su2.trans su3))).tp (.of upd_same), su3.tp (.of upd_same), fun x hx => sall.tp (ra.x x (hsub x (pmS2.mem_iff.mp hx)))⟩
      ⟨fun z => ?_, (show ys.length ≤ 3 by omega), asc, sub, ?_, sort_rows S0 ((pmS.map _).nodup_iff.mpr hnd), fun x hx => ra.ok x (hsub x (pmS2.mem_iff.mp hx))⟩
    · have z' : ys = [] := z
      rw [z'] at hyl
      simp at hyl
      omega
    · have l1 := nodup_len (S.map (·.2)) (acc.map (·.2)) hnd fun x hx => by
        obtain ⟨y, hy, rfl⟩ := List.mem_map.mp hx
        exact List.mem_map_of_mem (hsub y hy)
      rw [List.length_map, List.length_map] at l1
      show (S0.mergeSort (keyLe PyData.int)).length ≤ 64
      rw [pmS2.length_eq]
      omega
abbrev hSeal (P : Program) (w : World) (K : PySem.W.Frag) (mg : Str → Option Value) (base : Heap) : Prop := Has P w K mg base "_law_a_seal" 2 ["_law_feed_here", "_law_crowd", "_law_widths"] (spSeal K)
end
end Kp
/-! The law's halls. -/
namespace Kp
open PySem PySem.Spec PyProof.Rows L2

theorem But.fr_at {f cl t : Addr} {xs : List V} {H H' : Hp} (s : But f H H') (hf : Feed H f cl) (h : FrT H t xs) : FrT H' t xs := h.but hf s
theorem But.seal {K : PySem.W.Frag} {f cl : Addr} {q : SealD} {H H' : Hp} (s : But f H H') (hf : Feed H f cl) (h : SealAt K H q) : SealAt K H' q :=
  ⟨s.tup_at hf h.p, s.tup_at hf h.l, s.tup_at hf h.r, fun x hx => s.tup_at hf (h.x x hx)⟩
theorem sealAt_tp {K : PySem.W.Frag} {H : Hp} {D : Addr} {ys : List V} {o : HO} {q : SealD} (z : SealAt K H q) (h : H D = some (.lst ys)) : SealAt K (upd H D o) q :=
  ⟨tp_at z.p h, tp_at z.l h, tp_at z.r h, fun x hx => tp_at (z.x x hx) h⟩
structure WidsIn (f cl : Addr) (H0 : Hp) (D : Addr) (i : Nat) (H : Hp) (acc : List Int) : Prop where
  hf : Feed H f cl
  but : But f H0 H
  d : H D = some (.lst (acc.map V.int))
  len : acc.length = i
  ok : ∀ x ∈ acc, 0 < x ∧ x ≤ 12
structure SealsIn (K : PySem.W.Frag) (f cl : Addr) (H0 : Hp) (D : Addr) (cs : List Str) (ws : List Int) (i : Nat) (H : Hp) (acc : List SealD) : Prop where
  hf : Feed H f cl
  but : But f H0 H
  d : H D = some (.lst (acc.map fun q => V.ref q.p))
  len : acc.length = i
  at0 : ∀ q ∈ acc, SealAt K H q
  ok : ∀ q ∈ acc, SealOk cs ws q
section
variable {P : Program} {w : World} {K : PySem.W.Frag} {mg : Str → Option Value} {base : Heap} {f : Addr} {fd : FuncData}
def spHall (K : PySem.W.Frag) : Sp := fun vs H Q _ => ∃ f cl, vs = [.ref f, .int 7] ∧ Feed H f cl ∧ ∀ H' p d, Feed H' f cl → But f H H' → HallAt K H' p d → HallOk d → d.qs.length ≤ 7 → Q (.ref p) H'
theorem ok_lawAHall (B : Blt mg lettersS) (h1 : hDraw P w K mg base) (h2 : hPick P w K mg base) (h3 : hCrowd P w K mg base) (h4 : hSeal P w K mg base) (F : Fun K "_law_a_hall" "_law_a_hall" sLawAHall f fd) : FnOk P w K mg base CX0 4 f fd ["_law_feed_here", "_law_most"] (spHall K) := by
  refine F.ok scLawAHall (fun vs H Q E h => ?_) (fun cdv A outer s H vs Q E hr h => ?_)
  · obtain ⟨_, _, rfl, _⟩ := h
    rfl
  · obtain ⟨f, cl, rfl, hf, q⟩ := h
    have nd := scLawAHall.nd
    have hr1 := hr.mono (show 1 ≤ 3 by decide)
    have hr2 := hr.mono (show 2 ≤ 3 by decide)
    refine ⟨_, pss_cons (ps_set (i := 2) nd rfl (Or.inr rfl) (pe_has h3 hr (pa_cons (pv 0) (pa_cons pe_int pa_nil))))
      (pss_cons (ps_set (i := 3) nd rfl (Or.inr rfl) (pe_callTy call_tuple_of (by rfl) B.tuple (by decide +kernel) (pa_cons (pe_lc (own := [("_law_one", 5)]) (g := gName 5) (tt := tYes) rfl nd (pi_tup (pv 2))
          (blkOk_by (own := [("_law_one", 5)]) (N := ["_law_feed_here", "_law_most", "_law_crowd", "_law_widths", "_law_some", "_law_one", "_law_lap"]) (sc := defScope sLawAHall) (by decide +kernel))
          (fun _ _ _ _ _ => pg_name (i := 5) nd rfl (Or.inl rfl)) (fun _ _ _ _ _ => pts_nil)
          (fun _ _ _ _ _ => pe_has h2 hr2 (pa_cons (pv 0) (pa_cons (pe_lst (pa_cons pe_int (pa_cons pe_int (pa_cons pe_int (pa_cons pe_int (pa_cons pe_int (pa_cons pe_int pa_nil))))))) pa_nil)))) pa_nil)))
      (pss_cons (ps_setLc (i := 4) (own := [("_law_lap", 6)]) (g := gName 6) (tt := tYes) rfl nd rfl rfl (sw_true rfl rfl rfl (by decide +kernel)) (pi_range1 (by rfl) B.range (pa_cons (pe_has h1 hr1 (pa_cons (pv 0) (pa_cons (pe_op op_add (pv 1) pe_int) pa_nil))) pa_nil))
          (blkOk_by (own := [("_law_lap", 6)]) (N := ["_law_feed_here", "_law_most", "_law_crowd", "_law_widths", "_law_some", "_law_one", "_law_lap"]) (sc := defScope sLawAHall) (by decide +kernel))
          (fun _ _ _ _ _ => pg_name (i := 6) nd rfl (Or.inl rfl)) (fun _ _ _ _ _ => pts_nil)
          (fun _ _ _ _ _ => pe_has h4 hr2 (pa_cons (pv 0) (pa_cons (pv 2) (pa_cons (pv 3) pa_nil)))))
      (pss_one (ps_ret (pe_tup (pa_cons (pv 2) (pa_cons (pv 3) (pa_cons (pe_callTy call_tuple_of (by rfl) B.tuple (by decide +kernel) (pa_cons (pv 4) pa_nil)) pa_nil)))))))), ?_⟩
    refine ⟨_, rfl, f, cl, rfl, hf, fun H1 t1 cs f1 b1 c1 cok => ?_⟩
    have hcf := cok.few
    refine ⟨_, rfl, t1, rfl, ⟨_, c1.tp⟩, fun D hD => ?_⟩
    have df : D ≠ f := fun z => f1.some (z ▸ hD)
    have dc : D ≠ cl := fun z => f1.someC (z ▸ hD)
    refine lc_it (walk_tup (K := K) (a := t1) (xs := cs.map V.str)) (fun i Hx => ∃ acc, WidsIn f cl H1 D i Hx acc) ⟨[], f1.upd hD, (But.refl f H1).new hD, upd_same, rfl, by simp⟩ (fun i Hx _ pv => ?_) (fun i x Hx Hx' hi pv y => ?_) (fun H2 pv => ?_)
    · obtain ⟨acc, wi⟩ := pv
      exact wi.but.tup_at f1 c1.tp
    · obtain ⟨acc, wi⟩ := pv
      obtain ⟨rfl, _⟩ := y
      rw [List.length_map] at hi
      refine ⟨rfl, tYes_if ⟨_, rfl, (by show 6 ≤ sizeLine; decide), fun l nl => ?_⟩⟩
      have sl := same_new (o := .lst [.int 1, .int 2, .int 2, .int 3, .int 4, .int 12]) nl
      refine ⟨f, cl, l, _, rfl, wi.hf.keep sl, .of upd_same, by simp, by show 6 < 1000; decide, fun Hz x hx fz bz => ?_⟩
      obtain ⟨v, rfl, hv⟩ : ∃ v, x = .int v ∧ 0 < v ∧ v ≤ 12 := by
        simp only [List.mem_cons, List.not_mem_nil, or_false] at hx
        rcases hx with rfl | rfl | rfl | rfl | rfl | rfl <;> exact ⟨_, rfl, by decide, by decide⟩
      have hb := (sl.but f).trans bz
      refine ⟨_, hb.lst_at wi.hf wi.d, ?_, acc ++ [v], fz.set df dc, (wi.but.trans hb).new hD, by rw [upd_same, List.map_append]; rfl, by rw [List.length_append, wi.len]; rfl, fun x hx => ?_⟩
      · rw [List.length_map, wi.len]
        exact small1000 (by omega)
      · rcases List.mem_append.mp hx with h | h
        · exact wi.ok x h
        · rw [List.mem_singleton.mp h]
          exact hv
    obtain ⟨ws, wi⟩ := pv
    have hlen := wi.len
    rw [List.length_map] at hlen
    refine ⟨D, _, rfl, .inl ⟨.of wi.d, fun t2 n2 => ?_⟩⟩
    have s2 := same_new (o := .tup (ws.map V.int)) n2
    have f2 := wi.hf.keep s2
    have b2 : But f H1 (upd H2 t2 (.tup (ws.map V.int))) := wi.but.trans (s2.but f)
    have c2 : FrT (upd H2 t2 (.tup (ws.map V.int))) t1 (cs.map V.str) := b2.fr_at f1 c1
    have w2 : SqT K (upd H2 t2 (.tup (ws.map V.int))) t2 (ws.map V.int) := .of upd_same
    generalize upd H2 t2 (.tup (ws.map V.int)) = H3 at *
    -- the seals
    refine ⟨_, rfl, _, rfl, _, _, rfl, rfl, f, _, cl, rfl, f2, by decide, by decide, fun H4 k k0 k8 f4 b4 => ⟨_, rfl, by omega, by omega, fun D2 hD2 => ?_⟩⟩
    have hD2' : H3 D2 = none := b4.free f4.some hD2
    have d2f : D2 ≠ f := fun z => f4.some (z ▸ hD2)
    have d2c : D2 ≠ cl := fun z => f4.someC (z ▸ hD2)
    have hn : k.toNat ≤ 7 := by omega
    generalize k.toNat = n at *
    refine lc_it (walk_range (lo := 0) (n := n)) (fun i Hx => ∃ acc, SealsIn K f cl H3 D2 cs ws i Hx acc) ⟨[], f4.upd hD2, b4.new hD2', upd_same, rfl, by simp, by simp⟩ (fun _ _ _ _ => trivial) (fun i x Hx Hx' hi pv y => ?_) (fun Hx pv => ?_)
    · obtain ⟨acc, si⟩ := pv
      obtain ⟨rfl, rfl⟩ := y
      refine ⟨rfl, tYes_if ⟨_, rfl, _, rfl, _, rfl, f, cl, t1, t2, cs, ws, rfl, si.hf, si.but.fr_at f2 c2, si.but.tup_at f2 w2, cok, hlen, wi.ok, fun Hz q fz bz qa qo => ?_⟩⟩
      have hd := bz.lst_at si.hf si.d
      refine ⟨_, hd, ?_, acc ++ [q], fz.set d2f d2c, (si.but.trans bz).new hD2', by rw [upd_same, List.map_append]; rfl, by rw [List.length_append, si.len]; rfl, fun x hx => ?_, fun x hx => ?_⟩
      · rw [List.length_map, si.len]
        exact small1000 (by omega)
      · refine sealAt_tp ?_ hd
        rcases List.mem_append.mp hx with h | h
        · exact bz.seal si.hf (si.at0 x h)
        · rw [List.mem_singleton.mp h]
          exact qa
      · rcases List.mem_append.mp hx with h | h
        · exact si.ok x h
        · rw [List.mem_singleton.mp h]
          exact qo
    obtain ⟨acc, si⟩ := pv
    have hal := si.len
    refine ⟨_, rfl, _, rfl, _, rfl, D2, _, rfl, .inl ⟨.of si.d, fun t3 n3 => ⟨(by show 3 ≤ sizeLine; decide), fun tp ntp => ?_⟩⟩⟩
    have s3 := same_new (o := .tup (acc.map fun q => V.ref q.p)) n3
    have s4 := same_new (o := .tup [.ref t1, .ref t2, .ref t3]) ntp
    have sall := s3.trans s4
    refine q _ tp ⟨t1, t2, t3, cs, ws, acc⟩ (si.hf.keep sall) (((b1.trans b2).trans si.but).trans (sall.but f)) ⟨.of upd_same, sall.tp (si.but.tup_at f2 c2.tp), sall.tp (si.but.tup_at f2 w2), s4.tp (.of upd_same), fun q hq => (si.at0 q hq).keep sall⟩
      ⟨cok.ne, cok.few, cok.asc, cok.nm, hlen, fun x hx => (wi.ok x hx).1, fun x hx => (wi.ok x hx).2, (show acc.length ≤ 14 by omega), si.ok⟩ (show acc.length ≤ 7 by omega)
abbrev hHall (P : Program) (w : World) (K : PySem.W.Frag) (mg : Str → Option Value) (base : Heap) : Prop := Has P w K mg base "_law_a_hall" 4 ["_law_feed_here", "_law_most"] (spHall K)
end
end Kp
/-! The data of a hall, their shown text's bounds; _law_same. -/
namespace Kp
open PySem PySem.Spec PyProof.Rows L2

/-! ### data of small size -/
structure Nice (d : PyData) (dep wt : Nat) : Prop where
  lay : d.canLay0 = true
  nod : d.hasDict = false
  sh : d.showable = true
  dep : d.depth ≤ dep
  wt : d.weight ≤ wt
  shi : d.intsShort 13 = true
structure NiceAll (ds : List PyData) (dep wt : Nat) : Prop where
  lay : PyData.canLayAll0 ds = true
  nod : PyData.hasDictAll ds = false
  sh : PyData.showableAll ds = true
  dep : PyData.depthAll ds ≤ dep
  wt : PyData.weightAll ds ≤ wt
  shi : PyData.intsShortAll 13 ds = true
theorem NiceAll.nil (dep wt : Nat) : NiceAll [] dep wt := by
  constructor <;> simp [PyData.canLayAll0, PyData.hasDictAll, PyData.showableAll, PyData.depthAll, PyData.weightAll, PyData.intsShortAll]
theorem NiceAll.cons {d : PyData} {ds : List PyData} {dep w1 w2 : Nat} (h : Nice d dep w1) (t : NiceAll ds dep w2) : NiceAll (d :: ds) dep (w1 + 1 + w2) := by
  obtain ⟨a1, a2, a3, a4, a5, a6⟩ := h
  obtain ⟨b1, b2, b3, b4, b5, b6⟩ := t
  constructor
  · simp [PyData.canLayAll0, a1, b1]
  · simp [PyData.hasDictAll, a2, b2]
  · simp [PyData.showableAll, a3, b3]
  · simp only [PyData.depthAll]
    exact Nat.max_le.mpr ⟨a4, b4⟩
  · simp only [PyData.weightAll]
    omega
  · simp [PyData.intsShortAll, a6, b6]
theorem NiceAll.map {α : Type} (g : α → PyData) (dep wt : Nat) : ∀ (l : List α), (∀ a ∈ l, Nice (g a) dep wt) → NiceAll (l.map g) dep (l.length * (wt + 1))
  | [], _ => .nil _ _
  | a :: l, h => by
    have t := NiceAll.map g dep wt l fun b hb => h b (List.mem_cons_of_mem _ hb)
    have q := NiceAll.cons (h a (List.mem_cons_self ..)) t
    have e : (a :: l).length * (wt + 1) = wt + 1 + l.length * (wt + 1) := by
      rw [List.length_cons, Nat.add_mul, Nat.one_mul, Nat.add_comm]
    rw [e]
    exact q
theorem NiceAll.tup {ds : List PyData} {dep wt : Nat} (h : NiceAll ds dep wt) : Nice (.tuple ds) (dep + 1) wt := by
  obtain ⟨a1, a2, a3, a4, a5, a6⟩ := h
  constructor
  · simpa [PyData.canLay0] using a1
  · simpa [PyData.hasDict] using a2
  · simpa [PyData.showable] using a3
  · simp only [PyData.depth]
    omega
  · simpa [PyData.weight] using a5
  · simpa [PyData.intsShort] using a6
theorem NiceAll.lst {ds : List PyData} {dep wt : Nat} (h : NiceAll ds dep wt) : Nice (.list ds) (dep + 1) wt := by
  obtain ⟨a1, a2, a3, a4, a5, a6⟩ := h
  constructor
  · simpa [PyData.canLay0] using a1
  · simpa [PyData.hasDict] using a2
  · simpa [PyData.showable] using a3
  · simp only [PyData.depth]
    omega
  · simpa [PyData.weight] using a5
  · simpa [PyData.intsShort] using a6
theorem Nice.mono {d : PyData} {dep wt dep' wt' : Nat} (h : Nice d dep wt) (h1 : dep ≤ dep') (h2 : wt ≤ wt') : Nice d dep' wt' :=
  ⟨h.lay, h.nod, h.sh, Nat.le_trans h.dep h1, Nat.le_trans h.wt h2, h.shi⟩
theorem NiceAll.mono {d : List PyData} {dep wt dep' wt' : Nat} (h : NiceAll d dep wt) (h1 : dep ≤ dep') (h2 : wt ≤ wt') : NiceAll d dep' wt' :=
  ⟨h.lay, h.nod, h.sh, Nat.le_trans h.dep h1, Nat.le_trans h.wt h2, h.shi⟩
theorem nice_small : ∀ n : Fin 100, (PyData.showable (.int (n.val : Int)) = true ∧ PyData.weight (.int (n.val : Int)) ≤ 10) ∧ PyData.intsShort 13 (.int (n.val : Int)) = true := by decide +kernel
theorem nice_int {i : Int} (h0 : 0 ≤ i) (h1 : i < 100) : Nice (.int i) 0 10 := by
  obtain ⟨n, rfl⟩ := Int.eq_ofNat_of_zero_le h0
  obtain ⟨⟨a1, a2⟩, a3⟩ := nice_small ⟨n, by omega⟩
  exact ⟨by simp [PyData.canLay0], by simp [PyData.hasDict], a1, by simp [PyData.depth], a2, a3⟩
theorem low_ok : ∀ c ∈ lettersS.cps.toList, c < 0x110000 := by decide +kernel
theorem nice_str {s : Str} (h : NameOk s) : Nice (.str s) 0 8 := by
  refine ⟨?_, by simp [PyData.hasDict], by simp [PyData.showable], by simp [PyData.depth], ?_, by simp [PyData.intsShort]⟩
  · simp only [PyData.canLay0, PyData.strOk, Array.all_eq_true, decide_eq_true_eq]
    intro i hi
    exact low_ok _ (h.low _ (Array.mem_toList_iff.mpr (Array.getElem_mem hi)))
  · have := h.few
    simp only [PyData.weight]
    omega
theorem Nice.shown {d : PyData} {wt : Nat} (h : Nice d 60 wt) (hw : wt ≤ 1000000) : d.shown.length ≤ sizeLine := by
  have e : (2 : Nat) ^ 20 = 1048576 := by decide
  have hl : PyData.layable0 d = true := by
    show (PyData.canLay0 d && decide (PyData.depth d ≤ 64) && decide (PyData.weight d ≤ 2 ^ 20)) = true
    rw [h.lay, decide_eq_true (Nat.le_trans h.dep (by decide)), decide_eq_true (by have := h.wt; omega)]
    rfl
  have := shown_le13 hl h.shi
  rw [sizeLine_eq]
  omega
theorem Nice.shaped {d : PyData} {wt : Nat} (h : Nice d 60 wt) : SeqAt.shaped d = true := by
  show (PyData.canLay0 d && decide (PyData.depth d ≤ 64)) = true
  rw [h.lay, decide_eq_true (Nat.le_trans h.dep (by decide))]
  rfl

/-! ### the data of a hall -/
abbrev dS (cs : List Str) : PyData := .tuple (cs.map .str)
abbrev dI (ws : List Int) : PyData := .tuple (ws.map .int)
def dSeal (q : SealD) : PyData := .tuple [dS q.lot, .tuple (q.rows.map fun x => dI x.2)]
def dHall (d : HallD) : PyData := .tuple [dS d.cs, dI d.ws, .tuple (d.qs.map dSeal)]
section
variable {K : PySem.W.Frag} {H : Hp}
theorem dp_map {α : Type} (v : α → V) (g : α → PyData) : ∀ l : List α, (∀ a ∈ l, Dp K H (v a) (g a)) → DpAll K H (l.map v) (l.map g)
  | [], _ => .nil
  | a :: l, h => .cons (h a (List.mem_cons_self ..)) (dp_map v g l fun b hb => h b (List.mem_cons_of_mem _ hb))
theorem dp_S {a : Addr} {cs : List Str} (h : SqT K H a (cs.map V.str)) : Dp K H (.ref a) (dS cs) := .tup h (dp_map _ _ cs fun s _ => .str s)
theorem dp_I {a : Addr} {ws : List Int} (h : SqT K H a (ws.map V.int)) : Dp K H (.ref a) (dI ws) := .tup h (dp_map _ _ ws fun s _ => .int s)
theorem SealAt.dp {q : SealD} (h : SealAt K H q) : Dp K H (.ref q.p) (dSeal q) :=
  .tup h.p (.cons (dp_S h.l) (.cons (.tup h.r (dp_map _ _ q.rows fun x hx => dp_I (h.x x hx))) .nil))
theorem HallAt.dp {p : Addr} {d : HallD} (h : HallAt K H p d) : Dp K H (.ref p) (dHall d) :=
  .tup h.p (.cons (dp_S h.a) (.cons (dp_I h.b) (.cons (.tup h.c (dp_map _ _ d.qs fun q hq => (h.q q hq).dp)) .nil)))
end
theorem nice_S {cs : List Str} {n : Nat} (hn : cs.length ≤ n) (h : ∀ s ∈ cs, NameOk s) : Nice (dS cs) 1 (n * 9) :=
  ((NiceAll.map PyData.str 0 8 cs fun s hs => nice_str (h s hs)).tup).mono (Nat.le_refl _) (Nat.mul_le_mul_right _ hn)
theorem nice_I {ws : List Int} {n : Nat} (hn : ws.length ≤ n) (h : ∀ w ∈ ws, 0 ≤ w ∧ w < 100) : Nice (dI ws) 1 (n * 11) :=
  ((NiceAll.map PyData.int 0 10 ws fun w hw => nice_int (h w hw).1 (h w hw).2).tup).mono (Nat.le_refl _) (Nat.mul_le_mul_right _ hn)
theorem RowOk.small {cs : List Str} {ws : List Int} {lot : List Str} {x : List Int} (h : RowOk cs ws lot x) (hl : ws.length = cs.length) (sub : ∀ s ∈ lot, s ∈ cs) (ht : ∀ w ∈ ws, w ≤ 12) : ∀ v ∈ x, 0 ≤ v ∧ v < 100 := by
  intro v hv
  obtain ⟨j, hj, rfl⟩ := List.getElem_of_mem hv
  have hj2 : j < lot.length := by rw [← h.len]; exact hj
  obtain ⟨w, h1, h2, h3⟩ := h.fit j _ _ (List.getElem?_eq_getElem hj) (List.getElem?_eq_getElem hj2)
  obtain ⟨w2, g1, g2⟩ := widOf_some cs ws _ (sub _ (List.getElem_mem hj2)) hl
  rw [h1] at g1
  cases g1
  have := ht _ g2
  exact ⟨h2, by omega⟩
theorem nice_seal {d : HallD} (ok : HallOk d) {q : SealD} (hq : q ∈ d.qs) : Nice (dSeal q) 3 3000 := by
  have so := ok.q q hq
  have a := nice_S so.few fun s hs => ok.nm s (so.sub s hs)
  have b : Nice (.tuple (q.rows.map fun x => dI x.2)) 2 (64 * 34) :=
    ((NiceAll.map (fun x : Addr × List Int => dI x.2) 1 33 q.rows fun x hx => nice_I (n := 3) (by rw [(so.row x hx).len]; exact so.few) ((so.row x hx).small ok.len so.sub ok.top)).tup).mono (Nat.le_refl _) (Nat.mul_le_mul_right _ so.rfew)
  exact ((NiceAll.cons (a.mono (by decide) (Nat.le_refl _)) (.cons b (.nil 2 0))).tup).mono (by decide) (by decide)
theorem nice_hall {d : HallD} (ok : HallOk d) : Nice (dHall d) 60 1000000 := by
  have a := nice_S ok.few ok.nm
  have b := nice_I (n := 5) (by rw [ok.len]; exact ok.few) fun w hw => ⟨Int.le_of_lt (ok.pos w hw), by have := ok.top w hw; omega⟩
  have c : Nice (.tuple (d.qs.map dSeal)) 4 (14 * 3001) := ((NiceAll.map dSeal 3 3000 d.qs fun q hq => nice_seal ok hq).tup).mono (Nat.le_refl _) (Nat.mul_le_mul_right _ ok.qfew)
  exact ((NiceAll.cons (a.mono (dep' := 4) (by decide) (Nat.le_refl _)) (.cons (b.mono (dep' := 4) (by decide) (Nat.le_refl _)) (.cons c (.nil 4 0)))).tup).mono (by decide) (by decide)

/-! ### _law_same -/
structure HasG (P : Program) (w : World) (K : PySem.W.Frag) (mg : Str → Option Value) (base : Heap) (x : Str) (k : Nat) (ps : List Str) (sp : Sp) : Prop where
  ex : ∃ (f : Addr) (fd : FuncData), mg x = some (.ref f) ∧ PySem.W.keepIn K (.ref f) = true ∧ Binds K fd ps [] ∧ FnG P w K mg base k f fd ps sp
section
variable {X : Cx} {k : Nat} {ps : List Str} {sp : Sp} {x : Str} {p pos : Pos} {e : Expr} {es : List Expr} {t : TA}
theorem pe_hasG (hgu : X.A.guards = some []) (F : HasG X.prog X.w X.K X.mg X.base x k ps sp) (hr : Room k X.A) (ha : PA X (e :: es) t) (hg : Gl X x := by rfl) (hdb : (x == ("__debug__" : Str)) = false := by decide)
    (he : starEach (e :: es) X.env = (false, eval e X.env) :: starEach es X.env := by rfl) (hpl : (backTo pos (starEach es X.env)).any (·.1) = false := by rfl) : PE X (.Call (.Name x p) (e :: es) [] pos) (tHas sp t) := by
  obtain ⟨f, fd, h1, h2, h3, h4⟩ := F.ex
  exact pe_callG hgu h4 hr hg h1 h2 h3 ha hdb he hpl
end
section
variable {P : Program} {w : World} {K : PySem.W.Frag} {mg : Str → Option Value} {base : Heap} {f : Addr} {fd : FuncData}
def preSame (K : PySem.W.Frag) : List V → Hp → V → Prop := fun vs H r => ∃ a b d, vs = [.ref a, .ref b] ∧ Dp K H (.ref a) d ∧ Dp K H (.ref b) d ∧ Nice d 60 1000000 ∧ r = .bl true
theorem ok_lawSame (B : Blt mg lettersS) (F : Fun K "_law_same" "_law_same" sLawSame f fd) : FnG P w K mg base 1 f fd ["_law_told", "_law_due"] (Pu (preSame K)) := by
  refine okG F scLawSame (fun vs H Q E h => ?_) (fun cdv A outer s H vs Q E hgu hr h => ?_)
  · obtain ⟨_, ⟨_, _, _, rfl, _⟩, _⟩ := h
    rfl
  · obtain ⟨r, ⟨a, b, d, rfl, ha, hb, nc, rfl⟩, q⟩ := h
    refine ⟨_, pss_one (ps_ret (pe_cmpR op_eq (pe_callB (call_repr hgu hr.units) (by rfl) B.repr (by decide +kernel) (pa_cons (pv 0) pa_nil)) (pe_callB (call_repr hgu hr.units) (by rfl) B.repr (by decide +kernel) (pa_cons (pv 1) pa_nil)) (nomark _))), ?_⟩
    refine ⟨_, rfl, a, d, rfl, ha, nc.sh, nc.nod, nc.dep, nc.shown (Nat.le_refl _), ?_⟩
    refine ⟨_, rfl, b, d, rfl, hb, nc.sh, nc.nod, nc.dep, nc.shown (Nat.le_refl _), ?_⟩
    refine ⟨rfl, ?_⟩
    rw [decide_eq_true rfl]
    exact q _ (Same.refl _)
abbrev hSame (P : Program) (w : World) (K : PySem.W.Frag) (mg : Str → Option Value) (base : Heap) : Prop := HasG P w K mg base "_law_same" 1 ["_law_told", "_law_due"] (Pu (preSame K))
end
end Kp
/-! _law_is_right. -/
namespace Kp
open PySem PySem.Spec PyProof.Rows L2

structure HasK (P : Program) (w : World) (K : PySem.W.Frag) (mg : Str → Option Value) (base : Heap) (x : Str) (k : Nat) (ps ks : List Str) (g : List Value → List Value → List Value) (gV : List V → List V → List V) (sp : Sp) : Prop where
  ex : ∃ (f : Addr) (fd : FuncData), mg x = some (.ref f) ∧ PySem.W.keepIn K (.ref f) = true ∧ KBinds K fd ps ks g gV ∧ FnOk P w K mg base CX0 k f fd ps sp
def tHasK (sp : Sp) (gV : List V → List V → List V) (tk : TA) : TE := fun σ H Q => tk σ H fun zs H1 => sp (gV [] zs) H1 Q E0
section
variable {X : Cx} {k : Nat} {ps ks : List Str} {g : List Value → List Value → List Value} {gV : List V → List V → List V} {sp : Sp} {x : Str} {p pos : Pos} {kws : List Keyword} {tk : TA}
theorem pe_hasK (F : HasK X.prog X.w X.K X.mg X.base x k ps ks g gV sp) (hr : Room k X.A) (ha : PK X kws tk) (hg : Gl X x := by rfl) (hall : (backToKw pos (keywordEach kws X.env)).all (·.1.isSome) = true := by rfl)
    (hks : (backToKw pos (keywordEach kws X.env)).filterMap (·.1) = ks := by rfl) (hdb : (x == ("__debug__" : Str)) = false := by decide)
    (hpl : ((backTo pos (starEach [] X.env)).any (·.1) || (backToKw pos (keywordEach kws X.env)).any (·.1.isNone)) = false := by rfl) : PE X (.Call (.Name x p) [] kws pos) (tHasK sp gV tk) := by
  obtain ⟨f, fd, h1, h2, h3, h4⟩ := F.ex
  exact pe_callKw (E := E0) h4 hr hg h1 h2 h3 pass0 ha hall hks hdb hpl
end
abbrev g2 {α : Type} (us ws : List α) : List α := us ++ ws.reverse
abbrev g1 {α : Type} (us ws : List α) : List α := us ++ ws
section
variable {K : PySem.W.Frag} {x qual : Str} {st : Stmt} {f : Addr} {fd : FuncData}
theorem vals_rev : ∀ {vs : List V} {us : List Value}, Vals vs us → Vals vs.reverse us.reverse
  | _, _, .nil => .nil
  | _, _, .cons h t => by
    rw [List.reverse_cons, List.reverse_cons]
    exact (vals_rev t).append (.cons h .nil)
theorem split2 {α : Type} : ∀ (us ws : List α), us.length + ws.length = 2 → (∃ a b, us = [] ∧ ws = [a, b]) ∨ (∃ a b, us = [a] ∧ ws = [b]) ∨ ∃ a b, us = [a, b] ∧ ws = []
  | [], [a, b], _ => .inl ⟨a, b, rfl, rfl⟩
  | [a], [b], _ => .inr (.inl ⟨a, b, rfl, rfl⟩)
  | [a, b], [], _ => .inr (.inr ⟨a, b, rfl, rfl⟩)
  | [], [], h => by simp at h
  | [], [_], h => by simp at h
  | [], _ :: _ :: _ :: _, h => by
    simp only [List.length_nil, List.length_cons] at h
    omega
  | [_], [], h => by simp at h
  | [_], _ :: _ :: _, h => by
    simp only [List.length_nil, List.length_cons] at h
    omega
  | [_, _], _ :: _, h => by
    simp only [List.length_nil, List.length_cons] at h
    omega
  | _ :: _ :: _ :: _, _, h => by
    simp only [List.length_nil, List.length_cons] at h
    omega
theorem split1 {α : Type} : ∀ (us ws : List α), us.length + ws.length = 1 → (∃ a, us = [] ∧ ws = [a]) ∨ ∃ a, us = [a] ∧ ws = []
  | [], [a], _ => .inl ⟨a, rfl, rfl⟩
  | [a], [], _ => .inr ⟨a, rfl, rfl⟩
  | [], [], h => by simp at h
  | [], _ :: _ :: _, h => by
    simp only [List.length_nil, List.length_cons] at h
    omega
  | [_], _ :: _, h => by
    simp only [List.length_nil, List.length_cons] at h
    omega
  | _ :: _ :: _, _, h => by
    simp only [List.length_nil, List.length_cons] at h
    omega
theorem kb2 (F : Fun K x qual st f fd) {p1 p2 : Str}
    (h : ∀ (kV doc pm : Value) (an : Option Addr) (cdv ct a b : Value), bindArgs (PySem.W.fnOf x qual (defArgs st) (defBody st) (defScope st) .none kV doc pm an cdv ct) ⟨[], [(p2, a), (p1, b)]⟩ = pure [(p1, b), (p2, a)] ∧
      bindArgs (PySem.W.fnOf x qual (defArgs st) (defBody st) (defScope st) .none kV doc pm an cdv ct) ⟨[a], [(p2, b)]⟩ = pure [(p1, a), (p2, b)] ∧ bindArgs (PySem.W.fnOf x qual (defArgs st) (defBody st) (defScope st) .none kV doc pm an cdv ct) ⟨[a, b], []⟩ = pure [(p1, a), (p2, b)]) : KBinds K fd [p1, p2] [p2, p1] g2 g2 := by
  obtain ⟨oc, od, kV, doc, pm, an, cdv, ct, osl, rfl, lk, hcd⟩ := F.ex
  refine ⟨fun s us ws _ hl => .of_eq ?_, fun r1 r2 => r1.append (vals_rev r2)⟩
  rw [List.length_append, List.length_reverse] at hl
  rcases split2 us ws hl with ⟨a, b, rfl, rfl⟩ | ⟨a, b, rfl, rfl⟩ | ⟨a, b, rfl, rfl⟩
  · exact (h kV doc pm an cdv ct a b).1
  · exact (h kV doc pm an cdv ct a b).2.1
  · exact (h kV doc pm an cdv ct a b).2.2
theorem kb1 (F : Fun K x qual st f fd) {p1 : Str}
    (h : ∀ (kV doc pm : Value) (an : Option Addr) (cdv ct a : Value), bindArgs (PySem.W.fnOf x qual (defArgs st) (defBody st) (defScope st) .none kV doc pm an cdv ct) ⟨[], [(p1, a)]⟩ = pure [(p1, a)] ∧
      bindArgs (PySem.W.fnOf x qual (defArgs st) (defBody st) (defScope st) .none kV doc pm an cdv ct) ⟨[a], []⟩ = pure [(p1, a)]) : KBinds K fd [p1] [p1] g1 g1 := by
  obtain ⟨oc, od, kV, doc, pm, an, cdv, ct, osl, rfl, lk, hcd⟩ := F.ex
  refine ⟨fun s us ws _ hl => .of_eq ?_, fun r1 r2 => r1.append r2⟩
  rw [List.length_append] at hl
  rcases split1 us ws hl with ⟨a, rfl, rfl⟩ | ⟨a, rfl, rfl⟩
  · exact (h kV doc pm an cdv ct a).1
  · exact (h kV doc pm an cdv ct a).2
end
theorem PairsIn.add {K : PySem.W.Frag} {H1 H : Hp} {D t : Addr} {n : Nat} {E : List (List Str)} {a b : Str} {xs : List V} (h : PairsIn K H1 D n E H) (hD : H1 D = none) (ht : H t = none) (hx : H D = some (.lst xs)) :
    PairsIn K H1 D (n + 1) (E ++ [[a, b]]) (upd (upd H t (.tup [.str a, .str b])) D (.lst (xs ++ [.ref t]))) := by
  obtain ⟨s6, acc, a1, a2, a3, a4⟩ := h
  rw [hx] at a1
  have e : xs = acc.map fun x => V.ref x.1 := by
    cases a1
    rfl
  subst e
  have sT : Same H (upd H t (.tup [.str a, .str b])) := same_new ht
  refine ⟨same_at (s6.trans sT) hD, acc ++ [(t, [a, b])], by rw [upd_same, List.map_append]; rfl, fun x hx2 => ?_, by rw [List.map_append, a3]; rfl, by rw [List.length_append]; exact Nat.succ_le_succ a4⟩
  refine tp_at ?_ (sT _ _ hx)
  rcases List.mem_append.mp hx2 with h | h
  · exact sT.tp (a2 x h)
  · rw [List.mem_singleton.mp h]
    exact .of upd_same
def bothK (d : HallD) (one other : Str) (k : Nat) : Bool := (d.qs[k]?).any fun q => decide (one ∈ q.lot) && decide (other ∈ q.lot)
theorem both_iff (d : HallD) (one other : Str) : ((List.range d.qs.length).filter (bothK d one other)).isEmpty = !both d one other := by
  cases h : both d one other with
  | true =>
    unfold both at h
    obtain ⟨q, hq, hb⟩ := List.any_eq_true.mp h
    obtain ⟨k, hk, e⟩ := List.getElem_of_mem hq
    have hm : k ∈ (List.range d.qs.length).filter (bothK d one other) := by
      refine List.mem_filter.mpr ⟨List.mem_range.mpr hk, ?_⟩
      unfold bothK
      rw [List.getElem?_eq_getElem hk, e]
      exact hb
    cases e2 : (List.range d.qs.length).filter (bothK d one other) with
    | nil =>
      rw [e2] at hm
      cases hm
    | cons _ _ => rfl
  | false =>
    rw [List.filter_eq_nil_iff.mpr fun k hk hb => ?_]
    · rfl
    · unfold bothK at hb
      rw [List.getElem?_eq_getElem (List.mem_range.mp hk)] at hb
      have : both d one other = true := List.any_eq_true.mpr ⟨_, List.getElem_mem (List.mem_range.mp hk), hb⟩
      rw [h] at this
      cases this
theorem eqv_nil (ds : List PyData) : PyData.eqv (.list ds) (.list []) = ds.isEmpty := by
  cases ds <;> simp [PyData.eqv, PyData.eqvAll]
theorem inV_int (v : Int) : ∀ l : List Int, inV (.int v) (l.map V.int) = decide (v ∈ l)
  | [] => by simp [inV]
  | c :: l => by
    have e : inV (.int v) ((c :: l).map V.int) = (eqV (.int c) (.int v) || inV (.int v) (l.map V.int)) := rfl
    rw [e, inV_int v l]
    show ((c == v) || decide (v ∈ l)) = _
    by_cases h : c = v
    · subst h
      simp
    · have h2 : (c == v) = false := by simp [h]
      have h3 : (v ∈ c :: l) ↔ v ∈ l := by
        rw [List.mem_cons]
        exact ⟨fun z => z.resolve_left fun q => h q.symm, Or.inr⟩
      rw [h2, Bool.false_or]
      exact (decide_eq_decide.mpr h3).symm
theorem flat_ints (l : List Int) : (l.map V.int).all flatV = true := by
  simp [List.all_map, flatV]
theorem flatMap_len {α β : Type} (g : α → List β) (m : Nat) : ∀ l : List α, (∀ a, (g a).length ≤ m) → (l.flatMap g).length ≤ l.length * m
  | [], _ => by simp
  | a :: l, h => by
    have h1 := flatMap_len g m l h
    have h2 := h a
    rw [List.flatMap_cons, List.length_append, List.length_cons, Nat.add_mul, Nat.one_mul]
    omega
theorem nice_gates {d : HallD} (ok : HallOk d) : Nice (.list [.tuple ((gatesL d).map dS), .tuple ((gatesL d).map dS)]) 60 1000000 := by
  have hl : (gatesL d).length ≤ 25 := by
    have h1 := flatMap_len (fun one => (d.cs.filter fun other => ltS one other && both d one other).map fun other => [one, other]) 5 d.cs fun a => by
      rw [List.length_map]
      exact Nat.le_trans (List.length_filter_le _ _) ok.few
    have h2 := ok.few
    have h3 : (gatesL d).length ≤ d.cs.length * 5 := h1
    omega
  have a : Nice (.tuple ((gatesL d).map dS)) 2 (25 * 19) := ((NiceAll.map dS 1 18 (gatesL d) fun x hx => by
    obtain ⟨y, z, hy, hz, _, _, rfl⟩ := mem_gatesL.mp hx
    refine nice_S (n := 2) (Nat.le_refl _) fun s hs => ?_
    simp only [List.mem_cons, List.not_mem_nil, or_false] at hs
    rcases hs with rfl | rfl
    · exact ok.nm _ hy
    · exact ok.nm _ hz).tup).mono (Nat.le_refl _) (Nat.mul_le_mul_right _ hl)
  exact ((NiceAll.cons a (.cons a (.nil 2 0))).lst).mono (by decide) (by decide)
/-- two names of a gate stand in one seal -/
theorem gate_seal {d : HallD} {a b : Str} (h : ∃ q ∈ d.qs, a ∈ q.lot ∧ b ∈ q.lot) : ∃ v, v ∈ sealsL d a ∧ v ∈ sealsL d b := by
  obtain ⟨q, hq, h1, h2⟩ := h
  obtain ⟨k, hk, e⟩ := List.getElem_of_mem hq
  have key : ∀ s, s ∈ q.lot → ((k : Nat) : Int) ∈ sealsL d s := fun s hs => by
    unfold sealsL
    refine List.mem_map.mpr ⟨k, List.mem_filter.mpr ⟨List.mem_range.mpr hk, ?_⟩, rfl⟩
    unfold sealsK
    rw [List.getElem?_eq_getElem hk, e]
    exact decide_eq_true hs
  exact ⟨_, key a h1, key b h2⟩
theorem sealsL_small {d : HallD} (s : Str) (h : d.qs.length ≤ 14) : (sealsL d s).length ≤ 14 ∧ ∀ v ∈ sealsL d s, 0 ≤ v ∧ v < 100 := by
  unfold sealsL
  refine ⟨?_, fun v hv => ?_⟩
  · have a := List.length_filter_le (sealsK d s) (List.range d.qs.length)
    rw [List.length_range] at a
    rw [List.length_map]
    omega
  · obtain ⟨k, hk, rfl⟩ := List.mem_map.mp hv
    have := List.mem_range.mp (List.mem_filter.mp hk).1
    omega
theorem nice_told {d : HallD} (ok : HallOk d) (s : Str) {x : Int} (h0 : 0 ≤ x) (h1 : x < 100) : Nice (.list [.int x, .int x, dI (sealsL d s), dI (sealsL d s)]) 60 1000000 := by
  have a := (nice_int h0 h1).mono (dep' := 1) (by decide) (Nat.le_refl _)
  have b := nice_I (sealsL_small s ok.qfew).1 (sealsL_small s ok.qfew).2
  exact ((NiceAll.cons a (.cons a (.cons b (.cons b (.nil 1 0))))).lst).mono (by decide) (by decide)
section
variable {P : Program} {w : World} {K : PySem.W.Frag} {mg : Str → Option Value} {base : Heap} {f : Addr} {fd : FuncData}
abbrev hSizeOf (P : Program) (w : World) (K : PySem.W.Frag) (mg : Str → Option Value) (base : Heap) : Prop := Has P w K mg base "size_of" 8 ["hall", "chest"] (Pu (preSize K))
abbrev hSizeOfK (P : Program) (w : World) (K : PySem.W.Frag) (mg : Str → Option Value) (base : Heap) : Prop := HasK P w K mg base "size_of" 8 ["hall", "chest"] ["chest", "hall"] g2 g2 (Pu (preSize K))
abbrev hSealsOf (P : Program) (w : World) (K : PySem.W.Frag) (mg : Str → Option Value) (base : Heap) : Prop := Has P w K mg base "seals_of" 8 ["hall", "chest"] (spSeals K)
abbrev hSealsOfK (P : Program) (w : World) (K : PySem.W.Frag) (mg : Str → Option Value) (base : Heap) : Prop := HasK P w K mg base "seals_of" 8 ["hall", "chest"] ["chest", "hall"] g2 g2 (spSeals K)
abbrev hGatesOf (P : Program) (w : World) (K : PySem.W.Frag) (mg : Str → Option Value) (base : Heap) : Prop := Has P w K mg base "gates_of" 8 ["hall"] (spGates K)
abbrev hGatesOfK (P : Program) (w : World) (K : PySem.W.Frag) (mg : Str → Option Value) (base : Heap) : Prop := HasK P w K mg base "gates_of" 8 ["hall"] ["hall"] g1 g1 (spGates K)
abbrev namesR : List Str := ["_law_den", "_law_crowd", "_law_widths", "_law_some", "_law_k", "_law_one", "_law_own", "_law_told", "_law_found", "_law_other", "_law_both", "_law_j", "_law_late"]
theorem ok_lawIsRight (B : Blt mg lettersS) (hSz : hSizeOf P w K mg base) (hSzK : hSizeOfK P w K mg base) (hSl : hSealsOf P w K mg base) (hSlK : hSealsOfK P w K mg base) (hGt : hGatesOf P w K mg base) (hGtK : hGatesOfK P w K mg base) (hSm : hSame P w K mg base)
    (F : Fun K "_law_is_right" "_law_is_right" sLawIsRight f fd) : FnG P w K mg base 9 f fd ["_law_den"] (Pu fun vs H r => ∃ p d, vs = [.ref p] ∧ HallAt K H p d ∧ HallOk d ∧ r = .bl true) := by
  refine okG F scLawIsRight (fun vs H Q E h => ?_) (fun cdv A outer s H vs Q E hgu hr h => ?_)
  · obtain ⟨_, ⟨_, _, rfl, _⟩, _⟩ := h
    rfl
  · obtain ⟨r, ⟨p, d, rfl, hp, ok, rfl⟩, q⟩ := h
    have nd := scLawIsRight.nd
    have hr1 := hr.mono (show 1 ≤ 8 by decide)
    refine ⟨_, pss_cons (ps_asg (pv 0) (pg_tup rfl (pgs_cons (pg_name (i := 1) nd rfl (Or.inl rfl)) (pgs_cons (pg_name (i := 2) nd rfl (Or.inl rfl)) (pgs_cons (pg_name (i := 3) nd rfl (Or.inr rfl)) pgs_nil)))))
      (pss_cons (ps_for PassesOwn.never rfl (pi_enumT (by rfl) B.enumerate (pa_cons (pv 1) pa_nil)) (pg_tup rfl (pgs_cons (pg_name (i := 4) nd rfl (Or.inl rfl)) (pgs_cons (pg_name (i := 5) nd rfl (Or.inr rfl)) pgs_nil)))
        (pss_cons (ps_set (i := 6) nd rfl (Or.inl rfl) (pe_callTy call_tuple_of (by rfl) B.tuple (by decide +kernel) (pa_cons (pe_lc (own := [("_law_j", 11)]) (g := gName 11) rfl nd
            (pi_range1 (by rfl) B.range (pa_cons (pe_callB call_len_seq (by rfl) B.len PySem.boot_len (pa_cons (pv 3) pa_nil)) pa_nil)) (blkOk_by (own := [("_law_j", 11)]) (N := namesR) (sc := defScope sLawIsRight) (by decide +kernel))
            (fun _ _ _ _ _ => pg_name (i := 11) nd rfl (Or.inl rfl))
            (fun _ _ _ _ _ => pts_one (pt_cmpR (show OpR _ _ (rIn K false) from op_in_seq) (pv 5) (pe_ix (show IxR _ (rIxT K) from ix_tup) (pe_ix (show IxR _ (rIxT K) from ix_tup) (pv 3) (pv 11) (fun _ _ => rfl)) pe_int (fun _ _ => rfl)) (by rfl)))
            (fun _ _ _ _ _ => pv 11)) pa_nil)))
        (pss_cons (ps_set (i := 7) nd rfl (Or.inl rfl) (pe_lst (pa_cons (pe_has hSz hr (pa_cons (pv 0) (pa_cons (pv 5) pa_nil))) (pa_cons (pe_hasK hSzK hr (pk_cons (pv 5) (pk_cons (pv 0) pk_nil))) (pa_cons (pe_has hSl hr (pa_cons (pv 0) (pa_cons (pv 5) pa_nil))) pa_nil)))))
        (pss_cons (ps_set (i := 7) nd rfl (Or.inl rfl) (pe_op op_cat (pv 7) (pe_lst (pa_cons (pe_hasK hSlK hr (pk_cons (pv 5) (pk_cons (pv 0) pk_nil))) pa_nil))))
        (pss_one (ps_if (pt_not (pt_val (pe_hasG hgu hSm hr1 (pa_cons (pv 7) (pa_cons (pe_lst (pa_cons (pe_ix ix_tup (pv 2) (pv 4) (fun _ _ => rfl)) (pa_cons (pe_ix ix_tup (pv 2) (pv 4) (fun _ _ => rfl)) (pa_cons (pv 6) (pa_cons (pv 6) pa_nil))))) pa_nil))))) (pss_one ps_never) pss_nil))))))
      (pss_cons (ps_set (i := 8) nd rfl (Or.inl rfl) (pe_lst pa_nil))
      (pss_cons (ps_for PassesOwn.never rfl (pi_tup (pv 1)) (pg_name (i := 5) nd rfl (Or.inr rfl)) (pss_one (ps_for PassesOwn.never rfl (pi_tup (pv 1)) (pg_name (i := 9) nd rfl (Or.inr rfl))
        (pss_cons (ps_setLc (i := 10) (own := [("_law_late", 12)]) (g := gName 12) rfl nd rfl rfl (sw_true rfl rfl rfl (by decide +kernel)) (pi_tup (pv 3)) (blkOk_by (own := [("_law_late", 12)]) (N := namesR) (sc := defScope sLawIsRight) (by decide +kernel))
            (fun _ _ _ _ _ => pg_name (i := 12) nd rfl (Or.inl rfl))
            (fun _ _ _ _ _ => pts_one (PW.pt (pw_and (pt_cmpR (show OpR _ _ (rIn K false) from op_in_seq) (pv 5) (pe_ix (show IxR _ (rIxT K) from ix_tup) (pv 12) pe_int (fun _ _ => rfl)) (by rfl))
              (pw_and1 (pt_cmpR (show OpR _ _ (rIn K false) from op_in_seq) (pv 9) (pe_ix (show IxR _ (rIxT K) from ix_tup) (pv 12) pe_int (fun _ _ => rfl)) (by rfl))))))
            (fun _ _ _ _ _ => pv 12))
        (pss_one (ps_if (PW.pt (pw_and (pt_cmpR op_lt_str (pv 5) (pv 9) (nomark _)) (pw_and1 (pt_cmpR (op_neD hr.units) (pv 10) (pe_lst pa_nil) (nomark _)))))
          (pss_one (ps_expr (pe_bm PySem.F.plainAttrs_list PySem.F.slot_list_append PySem.F.type_list_append mt_append (pv 8) (pa_cons (pe_tup (pa_cons (pv 5) (pa_cons (pv 9) pa_nil))) pa_nil)))) pss_nil))))))
      (pss_cons (ps_set (i := 7) nd rfl (Or.inl rfl) (pe_lst (pa_cons (pe_has hGt hr (pa_cons (pv 0) pa_nil)) (pa_cons (pe_hasK hGtK hr (pk_cons (pv 0) pk_nil)) pa_nil))))
      (pss_cons (ps_if (pt_not (pt_val (pe_hasG hgu hSm hr1 (pa_cons (pv 7) (pa_cons (pe_lst (pa_cons (pe_callTy call_tuple_of (by rfl) B.tuple (by decide +kernel) (pa_cons (pv 8) pa_nil)) (pa_cons (pe_callTy call_tuple_of (by rfl) B.tuple (by decide +kernel) (pa_cons (pv 8) pa_nil)) pa_nil))) pa_nil))))) (pss_one ps_never) pss_nil)
      (pss_cons (ps_for PassesOwn.never rfl (pi_list (pv 8)) (pg_tup rfl (pgs_cons (pg_name (i := 5) nd rfl (Or.inr rfl)) (pgs_cons (pg_name (i := 9) nd rfl (Or.inr rfl)) pgs_nil)))
        (pss_one (ps_if (pt_cmpR (op_eqD hr.units) (pe_lc (own := [("_law_j", 11)]) (g := gName 11) rfl nd (pi_tup (pe_has hSl hr (pa_cons (pv 0) (pa_cons (pv 5) pa_nil)))) (blkOk_by (own := [("_law_j", 11)]) (N := namesR) (sc := defScope sLawIsRight) (by decide +kernel))
            (fun _ _ _ _ _ => pg_name (i := 11) nd rfl (Or.inl rfl)) (fun _ _ _ _ _ => pts_one (pt_cmpR (show OpR _ _ (rIn K false) from op_in_seq) (pv 11) (pe_has hSl hr (pa_cons (pv 0) (pa_cons (pv 9) pa_nil))) (by rfl))) (fun _ _ _ _ _ => pv 11)) (pe_lst pa_nil) (nomark _)) (pss_one ps_never) pss_nil)))
      (pss_one (ps_ret pe_bl)))))))), ?_⟩
    refine ⟨_, rfl, p, _, rfl, hp.p, rfl, _, _, rfl, _, _, rfl, _, [], rfl, rfl, ?_⟩
    have hq14 := ok.qfew
    have hqs : d.qs.length < sizeLine := small1000 (by omega)
    refine ⟨_, rfl, d.a, _, rfl, hp.a, for_it (walk_enT (K := K) (a := d.a) (xs := d.cs.map V.str)) (fun i σ Hx => ∃ y4 y5 y6 y7, σ = [some (.ref p), some (.ref d.a), some (.ref d.b), some (.ref d.c), y4, y5, y6, y7, none, none, none, none, none] ∧ Same H Hx)
      ⟨none, none, none, none, rfl, Same.refl _⟩ (fun i σ Hx _ pv => ?_) (fun i x σ Hx Hx' hi pv y => ?_) (fun σ Hx pv => ?_)⟩
    · obtain ⟨_, _, _, _, _, pv⟩ := pv
      exact pv.tp hp.a
    · obtain ⟨y4, y5, y6, y7, rfl, s1⟩ := pv
      obtain ⟨T, x1, x2, rfl, hT, rfl, e1, e2⟩ := y
      dsimp only at e1 e2
      have hi' : i < d.cs.length := by simpa using hi
      rw [List.getElem?_map, List.getElem?_eq_getElem hi'] at e2
      have e1' := (Option.some.inj e1).symm
      have e2' := (Option.some.inj e2).symm
      subst e1' e2'
      have hmem := List.getElem_mem hi'
      have hiw : i < d.ws.length := by rw [ok.len]; exact hi'
      have hwid := widOf_at d.cs d.ws i _ _ ok.asc.nodup (List.getElem?_eq_getElem hi') (List.getElem?_eq_getElem hiw)
      have hwp := ok.pos _ (List.getElem_mem hiw)
      have hwt := ok.top _ (List.getElem_mem hiw)
      have sT := s1.trans (same_new (o := .tup [V.int (i : Nat), V.str d.cs[i]]) hT)
      have aT := hp.keep sT
      refine ⟨T, _, rfl, .of upd_same, rfl, _, _, rfl, _, [], rfl, rfl, ?_⟩
      generalize upd Hx T (.tup [V.int (i : Nat), V.str d.cs[i]]) = H2 at *
      generalize hs : d.cs[i] = s at *
      generalize hw : d.ws[i] = x at *
      -- own
      have hq62 : -(2 ^ 62) ≤ (((d.qs.map fun q => V.ref q.p).length : Nat) : Int) ∧ (((d.qs.map fun q => V.ref q.p).length : Nat) : Int) < 2 ^ 62 := by
        rw [List.length_map]
        omega
      refine ⟨_, rfl, d.c, _, rfl, .inr aT.c, _, rfl, hq62.1, hq62.2, fun D hD => ?_⟩
      have en : (((d.qs.map fun q => V.ref q.p).length : Nat) : Int).toNat = d.qs.length := by rw [Int.toNat_natCast, List.length_map]
      rw [en]
      refine lc_filt (walk_range (lo := 0) (n := d.qs.length)) (sealsK d s) (fun k => V.int (k : Nat)) hqs hD (fun _ _ => trivial) (fun j x H3 H4 fin skip hj s3 y hf hk => ?_) (fun H3 s3 e3 => ?_)
      · obtain ⟨rfl, hx⟩ := y
        dsimp only at hx
        rw [Int.zero_add] at hx
        subst hx
        have at3 := (aT.keep s3).q _ (List.getElem_mem hj)
        refine ⟨rfl, _, rfl, _, rfl, _, rfl, d.c, _, (j : Nat), .ref d.qs[j].p, rfl, rfl, (aT.keep s3).c, atI_nat (by rw [List.getElem?_map, List.getElem?_eq_getElem hj]; rfl), d.qs[j].p, _, 0, .ref d.qs[j].l, rfl, rfl, at3.p, atI_nat (j := 0) rfl, d.qs[j].l, _, rfl, .inr at3.l, rfl, flat_strs _, _, rfl, ?_⟩
        show if inV (.str s) (d.qs[j].lot.map V.str) = true then _ else _
        have ek : sealsK d s j = decide (s ∈ d.qs[j].lot) := by
          unfold sealsK
          rw [List.getElem?_eq_getElem hj]
          rfl
        rw [inV_str]
        refine ite2 (fun h => ?_) (fun h => ?_)
        · exact ⟨_, rfl, hf _ (Same.refl _) (by rw [ek]; exact h)⟩
        · exact hk _ (Same.refl _) (by rw [ek]; exact Bool.eq_false_iff.mpr h)
      refine ⟨D, _, rfl, .inl ⟨.of e3, fun t ht => ?_⟩⟩
      have s4 := sT.trans (s3.trans (same_new (o := .tup (((List.range d.qs.length).filter (sealsK d s)).map fun k => V.int (k : Nat))) ht))
      have own4 : SqT K (upd H3 t (.tup (((List.range d.qs.length).filter (sealsK d s)).map fun k => V.int (k : Nat)))) t ((sealsL d s).map V.int) := by
        refine .of ?_
        rw [upd_same]
        unfold sealsL
        rw [List.map_map]
        rfl
      generalize upd H3 t (.tup (((List.range d.qs.length).filter (sealsK d s)).map fun k => V.int (k : Nat))) = H4 at *
      -- told
      refine ⟨_, rfl, _, rfl, _, ⟨p, d, s, x, rfl, hp.keep s4, ok, hmem, hwid, rfl⟩, fun H5 s5 => ?_⟩
      have s05 := s4.trans s5
      refine ⟨_, rfl, _, rfl, _, ⟨p, d, s, x, rfl, hp.keep s05, ok, hmem, hwid, rfl⟩, fun H6 s6 => ?_⟩
      have s06 := s05.trans s6
      refine ⟨_, rfl, _, rfl, p, d, s, rfl, hp.keep s06, ok, hmem, fun H7 t7 s7 ht7 => ⟨(by show 3 ≤ sizeLine; decide), fun l nl => ?_⟩⟩
      have s07 := s06.trans s7
      have sl := same_new (o := .lst [.int x, .int x, .ref t7]) nl
      have s08 := s07.trans sl
      refine ⟨_, rfl, _, rfl, _, rfl, p, d, s, rfl, hp.keep s08, ok, hmem, fun H9 t9 s9 ht9 => ⟨(by show 1 ≤ sizeLine; decide), fun l2 nl2 => ?_⟩⟩
      have sl2 := same_new (o := .lst [.ref t9]) nl2
      have hl9 := (s9.trans sl2) l _ upd_same
      have s010 := s08.trans (s9.trans sl2)
      refine ⟨l, l2, _, _, rfl, rfl, hl9, upd_same, (by show 4 ≤ sizeLine; decide), fun l3 nl3 => ?_⟩
      have sl3 := same_new (o := .lst ([.int x, .int x, .ref t7] ++ [.ref t9])) nl3
      have s011 := s010.trans sl3
      have a11 := hp.keep s011
      have eiw : atI (d.ws.map V.int) ((i : Nat) : Int) = some (.int x) := atI_nat (by rw [List.getElem?_map, List.getElem?_eq_getElem hiw, hw]; rfl)
      refine ⟨_, rfl, _, rfl, _, rfl, d.b, _, (i : Nat), .int x, rfl, rfl, a11.b, eiw, _, rfl, _, rfl, d.b, _, (i : Nat), .int x, rfl, rfl, a11.b, eiw, _, rfl, _, rfl, (by show 4 ≤ sizeLine; decide), fun l4 nl4 => ?_⟩
      have sl4 := same_new (o := .lst [.int x, .int x, .ref t, .ref t]) nl4
      have own12 := ((((((s5.trans s6).trans s7).trans sl).trans (s9.trans sl2)).trans sl3).trans sl4).tp own4
      have t712 := (((sl.trans (s9.trans sl2)).trans sl3).trans sl4).tp ht7
      have t912 := ((sl2.trans sl3).trans sl4).tp ht9
      refine ⟨_, ⟨l3, l4, _, rfl, .lst (.of (sl4 _ _ upd_same)) (.cons (.int x) (.cons (.int x) (.cons (dp_I t712) (.cons (dp_I t912) .nil)))), .lst (.of upd_same) (.cons (.int x) (.cons (.int x) (.cons (dp_I own12) (.cons (dp_I own12) .nil)))), nice_told ok s (Int.le_of_lt hwp) (by omega), rfl⟩, fun H13 s13 => ⟨true, rfl, iteF ?_⟩⟩
      exact ⟨_, _, _, _, rfl, s011.trans (sl4.trans s13)⟩
    obtain ⟨y4, y5, y6, y7, rfl, s1⟩ := pv
    refine ⟨Nat.zero_le _, fun F0 nF0 => ?_⟩
    have nF : H F0 = none := s1.free nF0
    have sF : Same H (upd Hx F0 (.lst [])) := s1.trans (same_new nF0)
    have pF : PairsIn K H F0 0 [] (upd Hx F0 (.lst [])) := ⟨sF, [], upd_same, by simp, rfl, Nat.le_refl _⟩
    generalize upd Hx F0 (.lst []) = HF at *
    have hc5 := ok.few
    refine ⟨_, rfl, d.a, rfl, ⟨_, (hp.keep sF).a⟩, for_it (walk_tup (K := K) (a := d.a) (xs := d.cs.map V.str)) (fun i σ Hx => ∃ y4 y5 y6 y7 y9 y10, σ = [some (.ref p), some (.ref d.a), some (.ref d.b), some (.ref d.c), y4, y5, y6, y7, some (.ref F0), y9, y10, none, none] ∧
        PairsIn K H F0 (5 * i) ((d.cs.take i).flatMap fun one => (d.cs.filter fun other => ltS one other && both d one other).map fun other => [one, other]) Hx)
      ⟨_, _, _, _, _, _, rfl, pF.cast (Nat.le_refl _) (by simp)⟩ (fun i σ Hx _ pv => ?_) (fun i x σ Hx Hx' hi pv y => ?_) (fun σ Hx pv => ?_)⟩
    · obtain ⟨_, _, _, _, _, _, _, pv⟩ := pv
      exact pv.1.tp hp.a
    · obtain ⟨y4, y5, y6, y7, y9, y10, rfl, pv⟩ := pv
      obtain ⟨rfl, e⟩ := y
      have hi' : i < d.cs.length := by simpa using hi
      rw [List.getElem?_map, List.getElem?_eq_getElem hi'] at e
      have e' := (Option.some.inj e).symm
      subst e'
      refine ⟨_, rfl, d.a, rfl, ⟨_, pv.1.tp hp.a⟩, for_it (walk_tup (K := K) (a := d.a) (xs := d.cs.map V.str)) (fun j σ Hx => ∃ y9 y10, σ = [some (.ref p), some (.ref d.a), some (.ref d.b), some (.ref d.c), y4, some (.str d.cs[i]), y6, y7, some (.ref F0), y9, y10, none, none] ∧
          PairsIn K H F0 (5 * i + j) (((d.cs.take i).flatMap fun one => (d.cs.filter fun other => ltS one other && both d one other).map fun other => [one, other]) ++ ((d.cs.take j).filter fun other => ltS d.cs[i] other && both d d.cs[i] other).map fun other => [d.cs[i], other]) Hx)
        ⟨_, _, rfl, pv.cast (by omega) (by simp)⟩ (fun j σ Hx _ pv => ?_) (fun j x σ Hx Hx' hj pv y => ?_) (fun σ Hx pv => ?_)⟩
      · obtain ⟨_, _, _, pv⟩ := pv
        exact pv.1.tp hp.a
      · obtain ⟨y9, y10, rfl, pv⟩ := pv
        obtain ⟨rfl, e⟩ := y
        have hj' : j < d.cs.length := by simpa using hj
        rw [List.getElem?_map, List.getElem?_eq_getElem hj'] at e
        have e' := (Option.some.inj e).symm
        subst e'
        have ej : d.cs.take (j + 1) = d.cs.take j ++ [d.cs[j]] := by
          rw [List.take_add_one, List.getElem?_eq_getElem hj']
          rfl
        rw [ej, List.filter_append, List.map_append, ← List.append_assoc]
        generalize d.cs[i] = one at *
        generalize d.cs[j] = other at *
        generalize ((d.cs.take i).flatMap fun one => (d.cs.filter fun other => ltS one other && both d one other).map fun other => [one, other]) ++ ((d.cs.take j).filter fun other => ltS one other && both d one other).map (fun other => [one, other]) = E at *
        have a1 := hp.keep pv.1
        refine ⟨_, rfl, d.c, rfl, ⟨_, a1.c⟩, fun D hD => ?_⟩
        refine lc_filt (walk_tup (K := K) (a := d.c) (xs := d.qs.map fun q => V.ref q.p)) (bothK d one other) (fun k => ((d.qs[k]?).map fun q => V.ref q.p).getD .non) (by rw [List.length_map]; exact hqs) hD (fun H2 s2 => s2.tp a1.c) (fun k x H2 H3 fin skip hk s2 y hf hsk => ?_) (fun H2 s2 e2 => ?_)
        · obtain ⟨rfl, e⟩ := y
          have hk' : k < d.qs.length := by simpa using hk
          rw [List.getElem?_map, List.getElem?_eq_getElem hk'] at e
          have e' := (Option.some.inj e).symm
          subst e'
          have at3 := (a1.keep s2).q _ (List.getElem_mem hk')
          have hff := hf _ (Same.refl _)
          have hss := hsk _ (Same.refl _)
          rw [List.getElem?_eq_getElem hk'] at hff
          have ek : bothK d one other k = (decide (one ∈ d.qs[k].lot) && decide (other ∈ d.qs[k].lot)) := by
            unfold bothK
            rw [List.getElem?_eq_getElem hk']
            rfl
          rw [ek] at hff hss
          generalize d.qs[k] = qq at *
          refine ⟨rfl, _, rfl, _, rfl, qq.p, _, 0, .ref qq.l, rfl, rfl, at3.p, atI_nat (j := 0) rfl, qq.l, _, rfl, .inr at3.l, rfl, flat_strs _, _, rfl, ?_⟩
          show if inV (.str one) (qq.lot.map V.str) = true then _ else _
          rw [inV_str]
          refine ite2 (fun c => ?_) (fun c => ?_)
          · refine ⟨_, rfl, _, rfl, qq.p, _, 0, .ref qq.l, rfl, rfl, at3.p, atI_nat (j := 0) rfl, qq.l, _, rfl, .inr at3.l, rfl, flat_strs _, _, rfl, ?_⟩
            show if inV (.str other) (qq.lot.map V.str) = true then _ else _
            rw [inV_str]
            refine ite2 (fun c2 => ?_) (fun c2 => ?_)
            · exact ⟨_, rfl, hff (by rw [c, c2]; rfl)⟩
            · exact hss (by rw [Bool.eq_false_iff.mpr c2, Bool.and_false])
          · exact iteF (hss (by rw [Bool.eq_false_iff.mpr c, Bool.false_and]))
        have pv2 := pv.keep s2
        refine ⟨_, rfl, _, rfl, _, _, rfl, rfl, _, rfl, ?_⟩
        show if ltS one other = true then _ else _
        refine ite2 (fun c => ?_) (fun c => ?_)
        · refine ⟨_, rfl, Nat.zero_le _, fun l nl => ?_⟩
          have sl := same_new (o := .lst []) nl
          have pv3 := pv2.keep sl
          have a3 := hp.keep pv3.1
          rw [List.length_map] at e2
          have key : ∀ k ∈ (List.range d.qs.length).filter (bothK d one other), ∃ q ∈ d.qs, d.qs[k]? = some q := fun k hk => by
            have hk2 := List.mem_range.mp (List.mem_filter.mp hk).1
            exact ⟨_, List.getElem_mem hk2, List.getElem?_eq_getElem hk2⟩
          refine ⟨.list (((List.range d.qs.length).filter (bothK d one other)).map fun k => ((d.qs[k]?).map dSeal).getD .none), .list [], .lst (.of (sl _ _ e2)) (dp_map _ _ _ fun k hk => ?_), .lst (.of upd_same) .nil, ?_, rfl, _, rfl, ?_⟩
          · obtain ⟨q, hq, e⟩ := key k hk
            rw [e]
            exact (a3.q q hq).dp
          · have nc : NiceAll (((List.range d.qs.length).filter (bothK d one other)).map fun k => ((d.qs[k]?).map dSeal).getD .none) 3 _ := NiceAll.map _ 3 3000 _ fun k hk => by
              obtain ⟨q, hq, e⟩ := key k hk
              rw [e]
              exact nice_seal ok hq
            exact (nc.lst.mono (dep' := 60) (by decide) (Nat.le_refl _)).shaped
          · rw [eqv_nil, List.isEmpty_map, both_iff]
            rw [Bool.not_not]
            refine ite2 (fun c2 => ?_) (fun c2 => ?_)
            · obtain ⟨s6, acc, b1, b2, b3, b4⟩ := id pv3
              refine ⟨_, rfl, .inl ⟨rfl, _, .of b1⟩, _, rfl, _, rfl, (by show 2 ≤ sizeLine; decide), fun t nt => ⟨F0, _, _, rfl, rfl, (same_new nt) _ _ b1, ?_, ?_⟩⟩
              · rw [List.length_map]
                exact small1000 (by omega)
              · have := pv3.add (a := one) (b := other) nF nt b1
                refine ⟨_, _, rfl, this.cast (by omega) ?_⟩
                simp [c, c2]
            · refine ⟨_, _, rfl, pv3.cast (by omega) ?_⟩
              simp [c, c2]
        · refine iteF ⟨_, _, rfl, pv2.cast (by omega) ?_⟩
          simp [c]
      · obtain ⟨y9, y10, rfl, pv⟩ := pv
        refine ⟨_, _, _, _, _, _, rfl, pv.cast (by rw [List.length_map]; omega) ?_⟩
        rw [List.length_map, List.take_length, List.take_add_one, List.getElem?_eq_getElem hi', List.flatMap_append]
        simp
    obtain ⟨y4, y5, y6, y7, y9, y10, rfl, pv⟩ := pv
    rw [List.length_map, List.take_length] at pv
    obtain ⟨sG, acc, b1, b2, b3, b4⟩ := pv
    have b3' : acc.map (·.2) = gatesL d := b3
    -- told
    refine ⟨_, rfl, p, d, rfl, hp.keep sG, ok, fun H1 t1 ks1 s1' ht1 hk1 ek1 => ?_⟩
    have sG1 := sG.trans s1'
    refine ⟨_, rfl, p, d, rfl, hp.keep sG1, ok, fun H2 t2 ks2 s2 ht2 hk2 ek2 => ⟨(by show 2 ≤ sizeLine; decide), fun l nl => ?_⟩⟩
    have sl := same_new (o := .lst [.ref t1, .ref t2]) nl
    have sG2 := (sG1.trans s2).trans sl
    have sb2 := (s1'.trans s2).trans sl
    refine ⟨_, rfl, _, rfl, F0, _, rfl, .inl ⟨.of (sb2 _ _ b1), fun t3 n3 => ?_⟩⟩
    have st3 := same_new (o := .tup (acc.map fun x => V.ref x.1)) n3
    refine ⟨_, rfl, F0, _, rfl, .inl ⟨.of ((sb2.trans st3) _ _ b1), fun t4 n4 => ⟨(by show 2 ≤ sizeLine; decide), fun l2 nl2 => ?_⟩⟩⟩
    have st4 := same_new (o := .tup (acc.map fun x => V.ref x.1)) n4
    have sl2 := same_new (o := .lst [.ref t3, .ref t4]) nl2
    have sall := (st3.trans st4).trans sl2
    have dpk : ∀ {Hz : Hp} (ks : List (Addr × List Str)) (t : Addr), SqT K Hz t (ks.map fun x => V.ref x.1) → (∀ x ∈ ks, SqT K Hz x.1 (x.2.map V.str)) → ks.map (·.2) = gatesL d → Dp K Hz (.ref t) (.tuple ((gatesL d).map dS)) := fun ks t h1 h2 e => by
      rw [← e, List.map_map]
      exact .tup h1 (dp_map (fun x : Addr × List Str => V.ref x.1) (fun x => dS x.2) ks fun x hx => dp_S (h2 x hx))
    have u1 := dpk ks1 t1 (((s2.trans sl).trans sall).tp ht1) (fun x hx => ((s2.trans sl).trans sall).tp (hk1 x hx)) ek1
    have u2 := dpk ks2 t2 ((sl.trans sall).tp ht2) (fun x hx => (sl.trans sall).tp (hk2 x hx)) ek2
    have u3 := dpk acc t3 ((st4.trans sl2).tp (.of upd_same)) (fun x hx => (sb2.trans sall).tp (b2 x hx)) b3'
    have u4 := dpk acc t4 (sl2.tp (.of upd_same)) (fun x hx => (sb2.trans sall).tp (b2 x hx)) b3'
    refine ⟨_, ⟨l, l2, _, rfl, .lst (.of (sall _ _ upd_same)) (.cons u1 (.cons u2 .nil)), .lst (.of upd_same) (.cons u3 (.cons u4 .nil)), nice_gates ok, rfl⟩, fun H9 s9 => ⟨true, rfl, iteF ?_⟩⟩
    have sG9 := (sG2.trans sall).trans s9
    have b9 := (sb2.trans (sall.trans s9)) _ _ b1
    have bx : ∀ x ∈ acc, SqT K H9 x.1 (x.2.map V.str) := fun x hx => (sb2.trans (sall.trans s9)).tp (b2 x hx)
    -- every gate stands in a seal
    refine ⟨_, rfl, F0, rfl, ⟨_, .of b9⟩, for_it (walk_list (K := K) (a := F0) (xs := acc.map fun x => V.ref x.1)) (fun i σ Hx => ∃ y5 y9, σ = [some (.ref p), some (.ref d.a), some (.ref d.b), some (.ref d.c), y4, y5, y6, some (.ref l), some (.ref F0), y9, y10, none, none] ∧ Same H9 Hx)
      ⟨_, _, rfl, Same.refl _⟩ (fun i σ Hx _ pv => ?_) (fun i x σ Hx Hx' hi pv y => ?_) (fun σ Hx pv => ?_)⟩
    · obtain ⟨_, _, _, pv⟩ := pv
      exact .of (pv _ _ b9)
    · obtain ⟨y5, y9, rfl, pv⟩ := pv
      obtain ⟨rfl, e⟩ := y
      have hi' : i < acc.length := by simpa using hi
      rw [List.getElem?_map, List.getElem?_eq_getElem hi'] at e
      have e' := (Option.some.inj e).symm
      subst e'
      have hm := List.getElem_mem hi'
      have hg : acc[i].2 ∈ gatesL d := by
        rw [← b3']
        exact List.mem_map_of_mem hm
      obtain ⟨na, nb, hna, hnb, hab, hq, eab⟩ := mem_gatesL.mp hg
      have tp1 := pv.tp (bx _ hm)
      rw [eab] at tp1
      refine ⟨acc[i].1, _, rfl, tp1, rfl, _, _, rfl, _, [], rfl, rfl, ?_⟩
      have ax := hp.keep (sG9.trans pv)
      refine ⟨_, rfl, _, rfl, p, d, na, rfl, ax, ok, hna, fun H10 t10 s10 ht10 => ?_⟩
      refine ⟨t10, rfl, ⟨_, ht10⟩, fun D hD => ?_⟩
      have small := sealsL_small na hq14
      refine lc_filt (walk_tup (K := K) (a := t10) (xs := (sealsL d na).map V.int)) (fun k => ((sealsL d na)[k]?).any fun v => decide (v ∈ sealsL d nb)) (fun k => V.int (((sealsL d na)[k]?).getD 0)) (by rw [List.length_map]; exact small1000 (by omega)) hD (fun H11 s11 => s11.tp ht10) (fun k x H11 H12 fin skip hk s11 y hf hsk => ?_) (fun H11 s11 e11 => ?_)
      · obtain ⟨rfl, e⟩ := y
        have hk' : k < (sealsL d na).length := by simpa using hk
        rw [List.getElem?_map, List.getElem?_eq_getElem hk'] at e
        have e' := (Option.some.inj e).symm
        subst e'
        refine ⟨rfl, _, rfl, _, rfl, _, rfl, p, d, nb, rfl, ax.keep (s10.trans s11), ok, hnb, fun H13 t13 s13 ht13 => ?_⟩
        have hff := hf H13 s13
        have hss := hsk H13 s13
        rw [List.getElem?_eq_getElem hk'] at hff hss
        refine ⟨t13, _, rfl, .inr ht13, rfl, flat_ints _, _, rfl, ?_⟩
        show if inV (.int (sealsL d na)[k]) ((sealsL d nb).map V.int) = true then _ else _
        rw [inV_int]
        refine ite2 (fun c => ?_) (fun c => ?_)
        · exact ⟨_, rfl, hff c⟩
        · exact hss (Bool.eq_false_iff.mpr c)
      refine ⟨Nat.zero_le _, fun l3 nl3 => ?_⟩
      have sl3 := same_new (o := .lst []) nl3
      rw [List.length_map] at e11
      obtain ⟨v, hv1, hv2⟩ := gate_seal hq
      obtain ⟨k, hk, ek⟩ := List.getElem_of_mem hv1
      have hmem : k ∈ (List.range (sealsL d na).length).filter fun k => ((sealsL d na)[k]?).any fun v => decide (v ∈ sealsL d nb) := by
        refine List.mem_filter.mpr ⟨List.mem_range.mpr hk, ?_⟩
        rw [List.getElem?_eq_getElem hk, ek]
        exact decide_eq_true hv2
      generalize hL : ((List.range (sealsL d na).length).filter fun k => ((sealsL d na)[k]?).any fun v => decide (v ∈ sealsL d nb)) = L at *
      have eL : (L.map fun k => V.int (((sealsL d na)[k]?).getD 0)) = (L.map fun k => ((sealsL d na)[k]?).getD 0).map V.int := by
        rw [List.map_map]
        rfl
      rw [eL] at e11
      refine ⟨.list ((L.map fun k => ((sealsL d na)[k]?).getD 0).map PyData.int), .list [], .lst (.of (sl3 _ _ e11)) (dp_ints _), .lst (.of upd_same) .nil, PySem.W.ke_shaped_ints _, rfl, _, rfl, ?_⟩
      rw [eqv_nil, List.isEmpty_map, List.isEmpty_map]
      have ne : L.isEmpty = false := by
        cases L with
        | nil => cases hmem
        | cons _ _ => rfl
      rw [ne]
      exact iteF ⟨_, _, rfl, pv.trans (s10.trans (s11.trans sl3))⟩
    obtain ⟨y5, y9, rfl, pv⟩ := pv
    exact q _ (sG9.trans pv)
abbrev hRight (P : Program) (w : World) (K : PySem.W.Frag) (mg : Str → Option Value) (base : Heap) : Prop := HasG P w K mg base "_law_is_right" 9 ["_law_den"] (Pu fun vs H r => ∃ p d, vs = [.ref p] ∧ HallAt K H p d ∧ HallOk d ∧ r = .bl true)
end
end Kp
/-! The law. -/
namespace Kp
open PySem PySem.Spec PyProof.Rows L2

section
variable {P : Program} {w : World} {K : PySem.W.Frag} {mg : Str → Option Value} {base : Heap} {f : Addr} {fd : FuncData}
abbrev hFeed (P : Program) (w : World) (K : PySem.W.Frag) (mg : Str → Option Value) (base : Heap) : Prop := Has P w K mg base "_law_feed" 1 ["_law_script"] (spFeed K)
def spLaw (K : PySem.W.Frag) : Sp := fun vs H Q _ => ∃ (a : Addr) (ns : List Int), vs = [.ref a] ∧ SqL K H a (ns.map V.int) ∧ ∀ H', Q (.bl true) H'
theorem twice_ok {d : HallD} (ok : HallOk d) (h7 : d.qs.length ≤ 7) (c : Addr) : HallOk { d with c := c, qs := d.qs ++ d.qs } := by
  refine ⟨ok.ne, ok.few, ok.asc, ok.nm, ok.len, ok.pos, ok.top, ?_, fun q hq => ?_⟩
  · show (d.qs ++ d.qs).length ≤ 14
    rw [List.length_append]
    omega
  · rcases List.mem_append.mp hq with h | h <;> exact ok.q q h
theorem ok_law (B : Blt mg lettersS) (hF : hFeed P w K mg base) (hH : hHall P w K mg base) (hR : hRight P w K mg base) (F : Fun K "law" "law" sLaw f fd) : FnG P w K mg base 10 f fd ["_law_script"] (spLaw K) := by
  refine okG F scLaw (fun vs H Q E h => ?_) (fun cdv A outer s H vs Q E hgu hr h => ?_)
  · obtain ⟨_, _, rfl, _⟩ := h
    rfl
  · obtain ⟨a, ns, rfl, ha, q⟩ := h
    have nd := scLaw.nd
    have hr1 := hr.mono (show 1 ≤ 9 by decide)
    have hr4 := hr.mono (show 4 ≤ 9 by decide)
    refine ⟨_, pss_cons (ps_set (i := 1) nd rfl (Or.inl rfl) (pe_has hF hr1 (pa_cons (pv 0) pa_nil)))
      (pss_cons (ps_for PassesOwn.never rfl (pi_range1 (by rfl) B.range (pa_cons pe_int pa_nil)) (pg_name (i := 2) nd rfl (Or.inl rfl))
        (pss_cons (ps_set (i := 3) nd rfl (Or.inl rfl) (pe_has hH hr4 (pa_cons (pv 1) (pa_cons pe_int pa_nil))))
        (pss_cons (ps_set (i := 4) nd rfl (Or.inl rfl) (pe_callB (call_repr hgu hr.units) (by rfl) B.repr (by decide +kernel) (pa_cons (pv 3) pa_nil)))
        (pss_cons (ps_if (PW.pt (pw_or (pt_not (pt_val (pe_hasG hgu hR hr (pa_cons (pv 3) pa_nil)))) (pw_or1 (pt_cmpR op_ne (pe_callB (call_repr hgu hr.units) (by rfl) B.repr (by decide +kernel) (pa_cons (pv 3) pa_nil)) (pv 4) (nomark _))))) (pss_one ps_never) pss_nil)
        (pss_cons (ps_set (i := 5) nd rfl (Or.inl rfl) (pe_tup (pa_cons (pe_ix ix_tup (pv 3) pe_int (fun _ _ => rfl)) (pa_cons (pe_ix ix_tup (pv 3) pe_int (fun _ _ => rfl))
            (pa_cons (pe_op op_catA (pe_ix ix_tup (pv 3) pe_int (fun _ _ => rfl)) (pe_ix ix_tup (pv 3) pe_int (fun _ _ => rfl))) pa_nil)))))
        (pss_one (ps_if (pt_not (pt_val (pe_hasG hgu hR hr (pa_cons (pv 5) pa_nil)))) (pss_one ps_never) pss_nil)))))))
      (pss_one (ps_ret pe_bl))), ?_⟩
    refine ⟨_, rfl, a, ns, rfl, ha, fun H1 f cl s1 _ _ f1 => ?_⟩
    refine ⟨5, rfl, by decide, by decide, for_it (walk_range (lo := 0) (n := 5)) (fun i σ Hx => ∃ y2 y3 y4 y5, σ = [some (.ref a), some (.ref f), y2, y3, y4, y5] ∧ Feed Hx f cl) ⟨none, none, none, none, rfl, f1⟩ (fun _ _ _ _ _ => trivial) (fun i x σ Hx Hx' hi pv y => ?_) (fun σ Hx _ => q _)⟩
    obtain ⟨y2, y3, y4, y5, rfl, fx⟩ := pv
    obtain ⟨rfl, rfl⟩ := y
    refine ⟨_, rfl, f, cl, rfl, fx, fun H2 p d f2 _ at2 ok h7 => ?_⟩
    have nc := nice_hall ok
    refine ⟨_, rfl, p, dHall d, rfl, at2.dp, nc.sh, nc.nod, nc.dep, nc.shown (Nat.le_refl _), ?_⟩
    refine ⟨_, rfl, _, ⟨p, d, rfl, at2, ok, rfl⟩, fun H3 s3 => ⟨true, rfl, iteF ?_⟩⟩
    have at3 := at2.keep s3
    refine ⟨_, rfl, p, dHall d, rfl, at3.dp, nc.sh, nc.nod, nc.dep, nc.shown (Nat.le_refl _), _, rfl, rfl, _, rfl, iteNS rfl ?_⟩
    refine ⟨_, rfl, p, _, 0, .ref d.a, rfl, rfl, at3.p, atI_nat (j := 0) rfl, _, rfl, p, _, 1, .ref d.b, rfl, rfl, at3.p, atI_nat (j := 1) rfl, _, rfl, p, _, 2, .ref d.c, rfl, rfl, at3.p, atI_nat (j := 2) rfl, _, rfl, p, _, 2, .ref d.c, rfl, rfl, at3.p, atI_nat (j := 2) rfl, ?_⟩
    have fin : ∀ (c : Addr) (H4 : Hp), Same H3 H4 → SqT K H4 c ((d.qs ++ d.qs).map fun q => V.ref q.p) → ∀ t, H4 t = none → HallAt K (upd H4 t (.tup [.ref d.a, .ref d.b, .ref c])) t { d with c := c, qs := d.qs ++ d.qs } ∧ Feed (upd H4 t (.tup [.ref d.a, .ref d.b, .ref c])) f cl := fun c H4 s4 hc t nt => by
      have st := same_new (o := .tup [.ref d.a, .ref d.b, .ref c]) nt
      have at5 := (at3.keep s4).keep st
      refine ⟨⟨.of upd_same, at5.a, at5.b, st.tp hc, fun q hq => ?_⟩, (f2.keep s3).keep (s4.trans st)⟩
      rcases List.mem_append.mp hq with h | h <;> exact at5.q q h
    refine ⟨d.c, d.c, _, _, rfl, rfl, at3.c, at3.c, ?_, fun e => ?_, fun e e2 => absurd e2 e, fun e _ c nc2 => ?_⟩
    · rw [List.length_map]
      exact Nat.le_of_lt (small1000 (by omega))
    · have e' : d.qs = [] := List.map_eq_nil_iff.mp e
      refine ⟨(by show 3 ≤ sizeLine; decide), fun t nt => ?_⟩
      obtain ⟨g1, g2⟩ := fin d.c H3 (Same.refl _) (by have z := at3.c; rw [e'] at z; rw [e', List.append_nil]; exact z) t nt
      exact ⟨_, rfl, _, ⟨t, _, rfl, g1, twice_ok ok h7 _, rfl⟩, fun H6 s6 => ⟨true, rfl, iteF ⟨_, _, _, _, rfl, g2.keep s6⟩⟩⟩
    · refine ⟨(by show 3 ≤ sizeLine; decide), fun t nt => ?_⟩
      obtain ⟨g1, g2⟩ := fin c _ (same_new nc2) (.of (by rw [upd_same, List.map_append])) t nt
      exact ⟨_, rfl, _, ⟨t, _, rfl, g1, twice_ok ok h7 _, rfl⟩, fun H6 s6 => ⟨true, rfl, iteF ⟨_, _, _, _, rfl, g2.keep s6⟩⟩⟩
end
end Kp
/-! The end: the law's promise, told at the caller, where no display stands open. -/
namespace Kp
open PySem PySem.Spec PyProof.Rows L2

section
variable {P : Program} {w : World} {K : PySem.W.Frag} {mg mb : Str → Option Value} {k : Nat} {fa a : Addr} {fd : FuncData} {x : Str} {sp : Sp} {s0 : Shared} {vs : List Value} {ns : List Int}
/-- what the caller is told of the law's answer -/
def Told (s0 : Shared) (r : Result) (t : Shared) : Prop := r = .ok (.ret (.bool true)) ∧ OldK s0.heap t.heap ∧ t.os = s0.os ∧ AllBare t.gens
/-- H holds the script at most -/
structure Scr (P : Program) (w : World) (K : PySem.W.Frag) (s0 : Shared) (a : Addr) (ns : List Int) (H : Hp) : Prop where
  seq : SqL K H a (ns.map V.int)
  ok : HOk P w H s0.heap
  one : ∀ b, H b ≠ none → b = a ∧ ∃ o ys, H b = some (.frz o (.lst ys))
  notK : H a ≠ none → K.lookup a = none
theorem scr_tell (kIn : K.In s0.heap) (hMain : s0.heap.Ns mainGlobals mg) (hBlt : s0.heap.Ns builtinsNs mb) (hBoot : ∀ y : Str, y ≠ "__name__" → mb y = bootBuiltins y) (noLim : s0.heap.NoLimit) (gens0 : s0.gens = #[])
    (atA : s0.heap.get? a = some { cls := .type "list", data := .seq vs.toArray }) (room : Room k callerA) (G : ∀ b0 : Heap, K.In b0 → b0.Ns mainGlobals mg → FnG P w K mg b0 k fa fd [x] sp) (bind1 : ∀ (s : Shared) (u : Value), BindsTo s fd ⟨[u], []⟩ [(x, u)])
    (prom : ∀ H : Hp, SqL K H a (ns.map V.int) → sp [.ref a] H (fun v _ => v = .bl true) fun _ _ _ => False) {H : Hp} (sc : Scr P w K s0 a ns H) : codeAny (model P w) callerA (.call (.ref fa) ⟨[.ref a], []⟩) (Told s0) s0 := by
  have free : ∀ b, H b ≠ none → s0.heap.get? b = some { cls := .type "list", data := .seq vs.toArray } := fun b h => by rw [(sc.one b h).1]; exact atA
  have ofDict : ∀ {b : Addr} {o : Obj} {es : Array DictEntry} {ep : Nat}, s0.heap.get? b = some o → o.data = .dict es ep → H b = none := fun {b o es ep} e1 e2 => by
    refine Classical.byContradiction fun h => ?_
    rw [free b h] at e1
    cases e1
    cases e2
  have nsHid : ∀ {b : Addr} {m : Str → Option Value}, s0.heap.Ns b m → (hidT s0.heap H).Ns b m := by
    rintro b m ⟨o, es, ep, e1, e2, e3⟩
    exact ⟨o, es, ep, hidT_get e1 (ofDict e1 e2), e2, e3⟩
  have kHid : K.In (hidT s0.heap H) := fun b o e => hidT_get (kIn b o e) (Classical.byContradiction fun h => by
    have hb := (sc.one b h).1
    subst hb
    rw [sc.notK h] at e
    cases e)
  have modH : Mod K mg (hidT s0.heap H) := by
    obtain ⟨mc, l1, l2⟩ := noLim
    exact ⟨kHid, nsHid hMain, ⟨mb, nsHid hBlt, hBoot⟩, ⟨mc, nsHid l1, l2⟩⟩
  have env : Env0 P w K mg (hidT s0.heap H) callerA [] s0 H :=
    { frames := rfl, mod := modH, bs := (fun b o e => of_hidT e), bsz := Nat.le_of_eq (hidT_size _ _), funs := trivial, frf := (fun b hb => nomatch hb), hok := sc.ok, bare := .of_eq gens0 }
  refine codeAny_mono ((G _ kHid (nsHid hMain)).run callerA [] s0 H ⟨[.ref a], []⟩ [.ref a] [.ref a] _ _ rfl room env (bind1 s0 (.ref a)) (.cons rfl .nil) (prom H sc.seq)) fun r t h => ?_
  match r, h with
  | .ok (.ret u), h =>
    obtain ⟨v, H', os, bare, un, ok', rv, hv⟩ := h
    have hv' : v = .bl true := hv
    subst hv'
    cases (show u = Value.bool true from rv)
    refine ⟨rfl, OldK.of_keep fun b o e => ?_, os, bare⟩
    cases hH : H b with
    | none => exact un.keep b o e hH (fun z => absurd (show b ∈ ([] : List Addr) from z) (by simp)) (by simp)
    | some u =>
      obtain ⟨hb, ob, ys, hz⟩ := sc.one b (by rw [hH]; simp)
      have p3 : s0.heap.get? b = some ob := (sc.ok b _ hz).1
      have p2 : t.heap.get? b = some ob := (ok' b _ (un.frzs b ob _ hz)).1
      rw [p2, ← p3, e]
  | .ok .next, h => exact False.elim h
  | .ok .brk, h => exact False.elim h
  | .ok .cont, h => exact False.elim h
  | .error e, h => exact False.elim h
theorem told_all (kIn : K.In s0.heap) (hMain : s0.heap.Ns mainGlobals mg) (hBlt : s0.heap.Ns builtinsNs mb) (hBoot : ∀ y : Str, y ≠ "__name__" → mb y = bootBuiltins y) (noLim : s0.heap.NoLimit) (gens0 : s0.gens = #[])
    (atA : s0.heap.get? a = some { cls := .type "list", data := .seq vs.toArray }) (hInts : IntsAre vs ns) (few : ns.length ≤ sizeLine) (room : Room k callerA) (G : ∀ b0 : Heap, K.In b0 → b0.Ns mainGlobals mg → FnG P w K mg b0 k fa fd [x] sp)
    (bind1 : ∀ (s : Shared) (u : Value), BindsTo s fd ⟨[u], []⟩ [(x, u)]) (prom : ∀ H : Hp, SqL K H a (ns.map V.int) → sp [.ref a] H (fun v _ => v = .bl true) fun _ _ _ => False) : codeAny (model P w) callerA (.call (.ref fa) ⟨[.ref a], []⟩) (Told s0) s0 := by
  have rel := vals_ints hInts
  have size := hInts.length
  cases hk : K.lookup a with
  | some o =>
    have e := kIn a o hk
    rw [atA] at e
    cases e
    refine scr_tell kIn hMain hBlt hBoot noLim gens0 atA room G bind1 prom (H := fun _ => none) ⟨.inr ⟨_, vs.toArray, _, hk, rfl, rfl, rfl, ?_, by simpa using rel⟩, (fun b u z => nomatch z), (fun b z => absurd rfl z), fun z => absurd rfl z⟩
    rw [List.size_toArray, size]
    exact few
  | none =>
    have at1 : (upd (fun _ => none) a (.frz { cls := .type "list", data := .seq vs.toArray } (.lst (ns.map V.int))) : Hp) a = some (.frz { cls := .type "list", data := .seq vs.toArray } (.lst (ns.map V.int))) := upd_same
    have only : ∀ b u, (upd (fun _ => none) a (.frz { cls := .type "list", data := .seq vs.toArray } (.lst (ns.map V.int))) : Hp) b = some u → b = a := fun b u h => by
      refine Classical.byContradiction fun n => ?_
      rw [upd_ne n] at h
      cases h
    refine scr_tell kIn hMain hBlt hBoot noLim gens0 atA room G bind1 prom (H := upd (fun _ => none) a (.frz { cls := .type "list", data := .seq vs.toArray } (.lst (ns.map V.int)))) ⟨.inl (.inr ⟨_, at1⟩), fun b u h => ?_, fun b h => ?_, fun _ => hk⟩
    · have hb := only b u h
      subst hb
      rw [at1] at h
      cases h
      exact ⟨atA, by rw [List.length_map]; exact few, vs, _, rel, atA⟩
    · cases hz : (upd (fun _ => none) a (.frz { cls := .type "list", data := .seq vs.toArray } (.lst (ns.map V.int))) : Hp) b with
      | none => exact absurd hz h
      | some u =>
        have hb := only b u hz
        subst hb
        rw [at1] at hz
        cases hz
        exact ⟨rfl, _, _, rfl⟩
end
/-- the goal behind k_head, from the law's promise -/
theorem walk_ofG {l : PySem.W.OpenLaw} {n k : Nat} {q : Program} {loose : List Str} {XP : (Str → Option Value) → Heap → Prop} {YP : World → Heap → Prop} {d : DefRec} {K : Params → PySem.W.Frag} {sp : World → Sp} {x : Str} (hm : l.most = some n) (hn : n ≤ sizeLine) (hd : d.params.defaults = []) (room : Room k callerA)
    (hY : ∀ (w : World) (h : Heap), YP w h → (K w.params).In h)
    (G : ∀ (w : World) (mg : Str → Option Value) (fa : Addr) (h : Heap), (K w.params).In h → h.Ns mainGlobals mg → mg d.name = some (.ref fa) → ∃ fd : FuncData, (∀ (s : Shared) (u : Value), BindsTo s fd ⟨[u], []⟩ [(x, u)]) ∧ ∀ b0 : Heap, (K w.params).In b0 → b0.Ns mainGlobals mg → FnG l.prog w (K w.params) mg b0 k fa fd [x] (sp w))
    (prom : ∀ (w : World) (H : Hp) (a : Addr) (ns : List Int), ns.length ≤ n → SqL (K w.params) H a (ns.map V.int) → sp w [.ref a] H (fun v _ => v = .bl true) fun _ _ _ => False) :
    PySem.W.WalkO q loose XP YP l.row.toRowW d [] (fun f vs => PySem.call f vs) := by
  refine Att.attach_call hm hd fun w t0 s0 mg mb fa o pm cd doc a vs ns Gr Y ho hfd hcd hmg hobj hints hlen hg => ?_
  obtain ⟨fd, hb, hF⟩ := G w mg fa _ (hY w _ Y) Gr.T.g hmg
  exact told_all (hY w _ Y) Gr.T.g Gr.T.b Gr.T.builtins Gr.T.nolimit hg hobj hints (Nat.le_trans hlen hn) room hF hb fun H hS => prom w H a ns hlen hS
end Kp
/-! All defs as they stand behind the top, and the law's theorem. -/
namespace Kp
open PySem PySem.Spec PyProof.Rows L2

structure DefS (K : PySem.W.Frag) (x : Str) (st : Stmt) : Prop where
  ex : ∃ (f : Addr) (fd : FuncData), PySem.W.nsIn K mainGlobals x = some (some (.ref f)) ∧ Fun K x x st f fd
theorem def_mk {K : PySem.W.Frag} {x : Str} {st : Stmt} {f : Addr} {oc : Value} {od an : Option Addr} {osl : Array (Option Value)} {kV doc pm cdv ct : Value} (a : PySem.W.nsIn K mainGlobals x = some (some (.ref f)))
    (l : K.lookup f = some ⟨oc, od, .func (PySem.W.fnOf x x (defArgs st) (defBody st) (defScope st) .none kV doc pm an cdv ct), osl⟩) (c : PySem.W.codeIn K cdv x = true) (k : PySem.W.keepIn K (.ref f) = true) : DefS K x st := ⟨f, _, a, fun_mk l c k⟩
structure WantS (K : PySem.W.Frag) : Prop where
  ex : ∃ (f : Addr) (fd : FuncData), PySem.W.nsIn K mainGlobals "want" = some (some (.ref f)) ∧ FunD K "want" "want" (defArgs sWant) (defBody sWant) (defScope sWant) [V.int (-1)] [] f fd
theorem want_mk {K : PySem.W.Frag} {f T : Addr} {oc tc : Value} {od an td : Option Addr} {osl tsl : Array (Option Value)} {kV doc pm cdv ct u : Value} {n : Nat} (a : PySem.W.nsIn K mainGlobals "want" = some (some (.ref f)))
    (l : K.lookup f = some ⟨oc, od, .func (PySem.W.fnOf "want" "want" (defArgs sWant) (defBody sWant) (defScope sWant) (.ref T) kV doc pm an cdv ct), osl⟩) (c : PySem.W.codeIn K cdv "want" = true) (k : PySem.W.keepIn K (.ref f) = true)
    (lT : K.lookup T = some ⟨tc, td, .seq #[u] n, tsl⟩) (hu : RelV (.int (-1)) u) : WantS K :=
  ⟨f, _, a, ⟨oc, od, _, kV, doc, pm, an, cdv, ct, osl, rfl, l, c, .inr ⟨by simp, T, _, [u], n, rfl, lT, rfl, .cons hu .nil⟩, .inl rfl⟩, k⟩
theorem DefS.at {K : PySem.W.Frag} {h : Heap} {mg : Str → Option Value} {x : Str} {st : Stmt} (D : DefS K x st) (X : K.In h) (G : h.Ns mainGlobals mg) : ∃ (f : Addr) (fd : FuncData), mg x = some (.ref f) ∧ Fun K x x st f fd := by
  obtain ⟨f, fd, a, F⟩ := D.ex
  exact ⟨f, fd, PySem.W.mg_of X G a, F⟩

theorem all_mk {l : PySem.W.OpenLaw} {w : World} {K : PySem.W.Frag} {h : Heap} {mg : Str → Option Value} {fa : Addr} {L : Str} {tL : _} (X : K.In h) (G : h.Ns mainGlobals mg) (hfa : mg "law" = some (.ref fa))
    (d_is_integer : DefS K "is_integer" sIsInteger) (d_is_number : DefS K "is_number" sIsNumber) (d_is_index : DefS K "is_index" sIsIndex) (d_is_name : DefS K "is_name" sIsName) (d_is_tuple_of : DefS K "is_tuple_of" sIsTupleOf) (d_are_ascending : DefS K "are_ascending" sAreAscending) (d_are_names : DefS K "are_names" sAreNames) (d_is_chests : DefS K "is_chests" sIsChests) (d_chests_fault : DefS K "chests_fault" sChestsFault) (d_sizes_fault : DefS K "sizes_fault" sSizesFault) (d_is_lot_by : DefS K "is_lot_by" sIsLotBy) (d_is_row_by : DefS K "is_row_by" sIsRowBy) (d_seal_fault : DefS K "seal_fault" sSealFault) (d_sizes_by : DefS K "sizes_by" sSizesBy) (d_hall_fault : DefS K "hall_fault" sHallFault) (d_seals_with : DefS K "seals_with" sSealsWith) (d_gates_in : DefS K "gates_in" sGatesIn) (d_want_hall : DefS K "want_hall" sWantHall) (d_want_chest : DefS K "want_chest" sWantChest) (d_size_of : DefS K "size_of" sSizeOf) (d_seals_of : DefS K "seals_of" sSealsOf) (d_gates_of : DefS K "gates_of" sGatesOf) (d__law_feed : DefS K "_law_feed" sLawFeed) (d__law_draw : DefS K "_law_draw" sLawDraw) (d__law_pick : DefS K "_law_pick" sLawPick) (d__law_same : DefS K "_law_same" sLawSame) (d__law_a_crowd : DefS K "_law_a_crowd" sLawACrowd) (d__law_a_seal : DefS K "_law_a_seal" sLawASeal) (d__law_a_hall : DefS K "_law_a_hall" sLawAHall) (d__law_is_right : DefS K "_law_is_right" sLawIsRight) (d_law : DefS K "law" sLaw) (d_want : WantS K) (z_isi : PySem.W.nsIn K mainGlobals "isinstance" = some none) (z_int : PySem.W.nsIn K mainGlobals "int" = some none) (z_bool : PySem.W.nsIn K mainGlobals "bool" = some none) (z_str : PySem.W.nsIn K mainGlobals "str" = some none) (z_tuple : PySem.W.nsIn K mainGlobals "tuple" = some none) (z_len : PySem.W.nsIn K mainGlobals "len" = some none) (z_all : PySem.W.nsIn K mainGlobals "all" = some none) (z_zip : PySem.W.nsIn K mainGlobals "zip" = some none) (z_enumerate : PySem.W.nsIn K mainGlobals "enumerate" = some none) (z_max : PySem.W.nsIn K mainGlobals "max" = some none) (z_min : PySem.W.nsIn K mainGlobals "min" = some none) (z_dict : PySem.W.nsIn K mainGlobals "dict" = some none) (z_list : PySem.W.nsIn K mainGlobals "list" = some none) (z_set : PySem.W.nsIn K mainGlobals "set" = some none) (z_sorted : PySem.W.nsIn K mainGlobals "sorted" = some none) (z_range : PySem.W.nsIn K mainGlobals "range" = some none) (z_repr : PySem.W.nsIn K mainGlobals "repr" = some none)
    (zL : PySem.W.nsIn K mainGlobals "LETTERS" = some (some (.str L tL))) (hL : L = lettersS) :
    ∃ fd : FuncData, (∀ (s : Shared) (u : Value), BindsTo s fd ⟨[u], []⟩ [("_law_script", u)]) ∧ ∀ b0 : Heap, K.In b0 → b0.Ns mainGlobals mg → FnG l.prog w K mg b0 10 fa fd ["_law_script"] (spLaw K) := by
  subst hL
  have B : Blt mg lettersS := ⟨PySem.W.mg_none_of X G z_isi, PySem.W.mg_none_of X G z_int, PySem.W.mg_none_of X G z_bool, PySem.W.mg_none_of X G z_str, PySem.W.mg_none_of X G z_tuple, PySem.W.mg_none_of X G z_len, PySem.W.mg_none_of X G z_all, PySem.W.mg_none_of X G z_zip, PySem.W.mg_none_of X G z_enumerate, PySem.W.mg_none_of X G z_max, PySem.W.mg_none_of X G z_min, PySem.W.mg_none_of X G z_dict, PySem.W.mg_none_of X G z_list, PySem.W.mg_none_of X G z_set, PySem.W.mg_none_of X G z_sorted, PySem.W.mg_none_of X G z_range, PySem.W.mg_none_of X G z_repr, ⟨tL, PySem.W.mg_of X G zL⟩⟩
  obtain ⟨f_is_integer, fd_is_integer, g_is_integer, F_is_integer⟩ := d_is_integer.at X G
  have b_is_integer := F_is_integer.binds (ps := ["thing"]) fun _ _ _ _ _ _ us hl => match us, hl with | [_], _ => rfl
  obtain ⟨f_is_number, fd_is_number, g_is_number, F_is_number⟩ := d_is_number.at X G
  have b_is_number := F_is_number.binds (ps := ["thing"]) fun _ _ _ _ _ _ us hl => match us, hl with | [_], _ => rfl
  obtain ⟨f_is_index, fd_is_index, g_is_index, F_is_index⟩ := d_is_index.at X G
  have b_is_index := F_is_index.binds (ps := ["thing", "size"]) fun _ _ _ _ _ _ us hl => match us, hl with | [_, _], _ => rfl
  obtain ⟨f_is_name, fd_is_name, g_is_name, F_is_name⟩ := d_is_name.at X G
  have b_is_name := F_is_name.binds (ps := ["thing"]) fun _ _ _ _ _ _ us hl => match us, hl with | [_], _ => rfl
  obtain ⟨f_is_tuple_of, fd_is_tuple_of, g_is_tuple_of, F_is_tuple_of⟩ := d_is_tuple_of.at X G
  have b_is_tuple_of := F_is_tuple_of.binds (ps := ["thing", "size"]) fun _ _ _ _ _ _ us hl => match us, hl with | [_, _], _ => rfl
  obtain ⟨f_are_ascending, fd_are_ascending, g_are_ascending, F_are_ascending⟩ := d_are_ascending.at X G
  have b_are_ascending := F_are_ascending.binds (ps := ["things"]) fun _ _ _ _ _ _ us hl => match us, hl with | [_], _ => rfl
  obtain ⟨f_are_names, fd_are_names, g_are_names, F_are_names⟩ := d_are_names.at X G
  have b_are_names := F_are_names.binds (ps := ["thing"]) fun _ _ _ _ _ _ us hl => match us, hl with | [_], _ => rfl
  obtain ⟨f_is_chests, fd_is_chests, g_is_chests, F_is_chests⟩ := d_is_chests.at X G
  have b_is_chests := F_is_chests.binds (ps := ["thing"]) fun _ _ _ _ _ _ us hl => match us, hl with | [_], _ => rfl
  obtain ⟨f_chests_fault, fd_chests_fault, g_chests_fault, F_chests_fault⟩ := d_chests_fault.at X G
  have b_chests_fault := F_chests_fault.binds (ps := ["chests"]) fun _ _ _ _ _ _ us hl => match us, hl with | [_], _ => rfl
  obtain ⟨f_sizes_fault, fd_sizes_fault, g_sizes_fault, F_sizes_fault⟩ := d_sizes_fault.at X G
  have b_sizes_fault := F_sizes_fault.binds (ps := ["chests", "sizes"]) fun _ _ _ _ _ _ us hl => match us, hl with | [_, _], _ => rfl
  obtain ⟨f_is_lot_by, fd_is_lot_by, g_is_lot_by, F_is_lot_by⟩ := d_is_lot_by.at X G
  have b_is_lot_by := F_is_lot_by.binds (ps := ["sizes", "thing"]) fun _ _ _ _ _ _ us hl => match us, hl with | [_, _], _ => rfl
  obtain ⟨f_is_row_by, fd_is_row_by, g_is_row_by, F_is_row_by⟩ := d_is_row_by.at X G
  have b_is_row_by := F_is_row_by.binds (ps := ["sizes", "lot", "thing"]) fun _ _ _ _ _ _ us hl => match us, hl with | [_, _, _], _ => rfl
  obtain ⟨f_seal_fault, fd_seal_fault, g_seal_fault, F_seal_fault⟩ := d_seal_fault.at X G
  have b_seal_fault := F_seal_fault.binds (ps := ["sizes", "thing", "k"]) fun _ _ _ _ _ _ us hl => match us, hl with | [_, _, _], _ => rfl
  obtain ⟨f_sizes_by, fd_sizes_by, g_sizes_by, F_sizes_by⟩ := d_sizes_by.at X G
  have b_sizes_by := F_sizes_by.binds (ps := ["hall"]) fun _ _ _ _ _ _ us hl => match us, hl with | [_], _ => rfl
  obtain ⟨f_hall_fault, fd_hall_fault, g_hall_fault, F_hall_fault⟩ := d_hall_fault.at X G
  have b_hall_fault := F_hall_fault.binds (ps := ["thing"]) fun _ _ _ _ _ _ us hl => match us, hl with | [_], _ => rfl
  obtain ⟨f_seals_with, fd_seals_with, g_seals_with, F_seals_with⟩ := d_seals_with.at X G
  have b_seals_with := F_seals_with.binds (ps := ["hall", "chest"]) fun _ _ _ _ _ _ us hl => match us, hl with | [_, _], _ => rfl
  obtain ⟨f_gates_in, fd_gates_in, g_gates_in, F_gates_in⟩ := d_gates_in.at X G
  have b_gates_in := F_gates_in.binds (ps := ["hall"]) fun _ _ _ _ _ _ us hl => match us, hl with | [_], _ => rfl
  obtain ⟨f_want_hall, fd_want_hall, g_want_hall, F_want_hall⟩ := d_want_hall.at X G
  have b_want_hall := F_want_hall.binds (ps := ["hall"]) fun _ _ _ _ _ _ us hl => match us, hl with | [_], _ => rfl
  obtain ⟨f_want_chest, fd_want_chest, g_want_chest, F_want_chest⟩ := d_want_chest.at X G
  have b_want_chest := F_want_chest.binds (ps := ["hall", "chest"]) fun _ _ _ _ _ _ us hl => match us, hl with | [_, _], _ => rfl
  obtain ⟨f_size_of, fd_size_of, g_size_of, F_size_of⟩ := d_size_of.at X G
  have b_size_of := F_size_of.binds (ps := ["hall", "chest"]) fun _ _ _ _ _ _ us hl => match us, hl with | [_, _], _ => rfl
  obtain ⟨f_seals_of, fd_seals_of, g_seals_of, F_seals_of⟩ := d_seals_of.at X G
  have b_seals_of := F_seals_of.binds (ps := ["hall", "chest"]) fun _ _ _ _ _ _ us hl => match us, hl with | [_, _], _ => rfl
  obtain ⟨f_gates_of, fd_gates_of, g_gates_of, F_gates_of⟩ := d_gates_of.at X G
  have b_gates_of := F_gates_of.binds (ps := ["hall"]) fun _ _ _ _ _ _ us hl => match us, hl with | [_], _ => rfl
  obtain ⟨f__law_feed, fd__law_feed, g__law_feed, F__law_feed⟩ := d__law_feed.at X G
  have b__law_feed := F__law_feed.binds (ps := ["_law_script"]) fun _ _ _ _ _ _ us hl => match us, hl with | [_], _ => rfl
  obtain ⟨f__law_draw, fd__law_draw, g__law_draw, F__law_draw⟩ := d__law_draw.at X G
  have b__law_draw := F__law_draw.binds (ps := ["_law_feed_here", "_law_limit"]) fun _ _ _ _ _ _ us hl => match us, hl with | [_, _], _ => rfl
  obtain ⟨f__law_pick, fd__law_pick, g__law_pick, F__law_pick⟩ := d__law_pick.at X G
  have b__law_pick := F__law_pick.binds (ps := ["_law_feed_here", "_law_some"]) fun _ _ _ _ _ _ us hl => match us, hl with | [_, _], _ => rfl
  obtain ⟨f__law_same, fd__law_same, g__law_same, F__law_same⟩ := d__law_same.at X G
  have b__law_same := F__law_same.binds (ps := ["_law_told", "_law_due"]) fun _ _ _ _ _ _ us hl => match us, hl with | [_, _], _ => rfl
  obtain ⟨f__law_a_crowd, fd__law_a_crowd, g__law_a_crowd, F__law_a_crowd⟩ := d__law_a_crowd.at X G
  have b__law_a_crowd := F__law_a_crowd.binds (ps := ["_law_feed_here", "_law_most"]) fun _ _ _ _ _ _ us hl => match us, hl with | [_, _], _ => rfl
  obtain ⟨f__law_a_seal, fd__law_a_seal, g__law_a_seal, F__law_a_seal⟩ := d__law_a_seal.at X G
  have b__law_a_seal := F__law_a_seal.binds (ps := ["_law_feed_here", "_law_crowd", "_law_widths"]) fun _ _ _ _ _ _ us hl => match us, hl with | [_, _, _], _ => rfl
  obtain ⟨f__law_a_hall, fd__law_a_hall, g__law_a_hall, F__law_a_hall⟩ := d__law_a_hall.at X G
  have b__law_a_hall := F__law_a_hall.binds (ps := ["_law_feed_here", "_law_most"]) fun _ _ _ _ _ _ us hl => match us, hl with | [_, _], _ => rfl
  obtain ⟨f__law_is_right, fd__law_is_right, g__law_is_right, F__law_is_right⟩ := d__law_is_right.at X G
  have b__law_is_right := F__law_is_right.binds (ps := ["_law_den"]) fun _ _ _ _ _ _ us hl => match us, hl with | [_], _ => rfl
  obtain ⟨f_law, fd_law, g_law, F_law⟩ := d_law.at X G
  have e := hfa.symm.trans g_law
  cases e
  obtain ⟨f_want, fd_want, a_want, F_want⟩ := d_want.ex
  have g_want := PySem.W.mg_of X G a_want
  obtain ⟨oc, od, kV, doc, pm, an, cdv, ct, osl, efd, _, _⟩ := F_law.ex
  refine ⟨fd_law, fun s u => .of_eq (by subst efd; rfl), fun b0 _ _ => ?_⟩
  have hInteger := Has.mk (P := l.prog) (w := w) (K := K) (mg := mg) (base := b0) (x := "is_integer") ⟨f_is_integer, fd_is_integer, g_is_integer, F_is_integer.kp, b_is_integer, ok_isInteger B F_is_integer⟩
  have hNumber := Has.mk (P := l.prog) (w := w) (K := K) (mg := mg) (base := b0) (x := "is_number") ⟨f_is_number, fd_is_number, g_is_number, F_is_number.kp, b_is_number, ok_isNumber hInteger F_is_number⟩
  have hIndex := Has.mk (P := l.prog) (w := w) (K := K) (mg := mg) (base := b0) (x := "is_index") ⟨f_is_index, fd_is_index, g_is_index, F_is_index.kp, b_is_index, ok_isIndex hNumber F_is_index⟩
  have hNm := Has.mk (P := l.prog) (w := w) (K := K) (mg := mg) (base := b0) (x := "is_name") ⟨f_is_name, fd_is_name, g_is_name, F_is_name.kp, b_is_name, ok_isName B F_is_name⟩
  have hTo := Has.mk (P := l.prog) (w := w) (K := K) (mg := mg) (base := b0) (x := "is_tuple_of") ⟨f_is_tuple_of, fd_is_tuple_of, g_is_tuple_of, F_is_tuple_of.kp, b_is_tuple_of, ok_isTupleOf B F_is_tuple_of⟩
  have hAs := Has.mk (P := l.prog) (w := w) (K := K) (mg := mg) (base := b0) (x := "are_ascending") ⟨f_are_ascending, fd_are_ascending, g_are_ascending, F_are_ascending.kp, b_are_ascending, ok_ascS B F_are_ascending⟩
  have hAt := Has.mk (P := l.prog) (w := w) (K := K) (mg := mg) (base := b0) (x := "are_ascending") ⟨f_are_ascending, fd_are_ascending, g_are_ascending, F_are_ascending.kp, b_are_ascending, ok_ascT B F_are_ascending⟩
  have hNms := Has.mk (P := l.prog) (w := w) (K := K) (mg := mg) (base := b0) (x := "are_names") ⟨f_are_names, fd_are_names, g_are_names, F_are_names.kp, b_are_names, ok_areNames B hAs hNm F_are_names⟩
  have hCh := Has.mk (P := l.prog) (w := w) (K := K) (mg := mg) (base := b0) (x := "is_chests") ⟨f_is_chests, fd_is_chests, g_is_chests, F_is_chests.kp, b_is_chests, ok_isChests B hNms F_is_chests⟩
  have hCfa := Has.mk (P := l.prog) (w := w) (K := K) (mg := mg) (base := b0) (x := "chests_fault") ⟨f_chests_fault, fd_chests_fault, g_chests_fault, F_chests_fault.kp, b_chests_fault, ok_chestsFault B hNm hAs F_chests_fault⟩
  have hSfa := Has.mk (P := l.prog) (w := w) (K := K) (mg := mg) (base := b0) (x := "sizes_fault") ⟨f_sizes_fault, fd_sizes_fault, g_sizes_fault, F_sizes_fault.kp, b_sizes_fault, ok_sizesFault B hNumber F_sizes_fault⟩
  have hLt := Has.mk (P := l.prog) (w := w) (K := K) (mg := mg) (base := b0) (x := "is_lot_by") ⟨f_is_lot_by, fd_is_lot_by, g_is_lot_by, F_is_lot_by.kp, b_is_lot_by, ok_isLotBy B hCh F_is_lot_by⟩
  have hRw := Has.mk (P := l.prog) (w := w) (K := K) (mg := mg) (base := b0) (x := "is_row_by") ⟨f_is_row_by, fd_is_row_by, g_is_row_by, F_is_row_by.kp, b_is_row_by, ok_isRowBy B hTo hIndex F_is_row_by⟩
  have hSlf := Has.mk (P := l.prog) (w := w) (K := K) (mg := mg) (base := b0) (x := "seal_fault") ⟨f_seal_fault, fd_seal_fault, g_seal_fault, F_seal_fault.kp, b_seal_fault, ok_sealFault B hTo hLt hRw hAt F_seal_fault⟩
  have hSb := Has.mk (P := l.prog) (w := w) (K := K) (mg := mg) (base := b0) (x := "sizes_by") ⟨f_sizes_by, fd_sizes_by, g_sizes_by, F_sizes_by.kp, b_sizes_by, ok_sizesBy B F_sizes_by⟩
  have hHf := Has.mk (P := l.prog) (w := w) (K := K) (mg := mg) (base := b0) (x := "hall_fault") ⟨f_hall_fault, fd_hall_fault, g_hall_fault, F_hall_fault.kp, b_hall_fault, ok_hallFault B hTo hCfa hSfa hSb hSlf F_hall_fault⟩
  have hW2 : hWant2 l.prog w K mg b0 := want2 g_want F_want
  have hW3 : hWant3 l.prog w K mg b0 := want3 g_want F_want
  have hWh := Has.mk (P := l.prog) (w := w) (K := K) (mg := mg) (base := b0) (x := "want_hall") ⟨f_want_hall, fd_want_hall, g_want_hall, F_want_hall.kp, b_want_hall, ok_wantHall hHf hW2 F_want_hall⟩
  have hWc := Has.mk (P := l.prog) (w := w) (K := K) (mg := mg) (base := b0) (x := "want_chest") ⟨f_want_chest, fd_want_chest, g_want_chest, F_want_chest.kp, b_want_chest, ok_wantChest hNm hW3 F_want_chest⟩
  have hSzO := Has.mk (P := l.prog) (w := w) (K := K) (mg := mg) (base := b0) (x := "size_of") ⟨f_size_of, fd_size_of, g_size_of, F_size_of.kp, b_size_of, ok_sizeOf hWh hWc hSb F_size_of⟩
  have hSw := Has.mk (P := l.prog) (w := w) (K := K) (mg := mg) (base := b0) (x := "seals_with") ⟨f_seals_with, fd_seals_with, g_seals_with, F_seals_with.kp, b_seals_with, ok_sealsWith B F_seals_with⟩
  have hSlO := Has.mk (P := l.prog) (w := w) (K := K) (mg := mg) (base := b0) (x := "seals_of") ⟨f_seals_of, fd_seals_of, g_seals_of, F_seals_of.kp, b_seals_of, ok_sealsOf hWh hWc hSw F_seals_of⟩
  have hGi := Has.mk (P := l.prog) (w := w) (K := K) (mg := mg) (base := b0) (x := "gates_in") ⟨f_gates_in, fd_gates_in, g_gates_in, F_gates_in.kp, b_gates_in, ok_gatesIn B F_gates_in⟩
  have hGtO := Has.mk (P := l.prog) (w := w) (K := K) (mg := mg) (base := b0) (x := "gates_of") ⟨f_gates_of, fd_gates_of, g_gates_of, F_gates_of.kp, b_gates_of, ok_gatesOf hWh hGi F_gates_of⟩
  have k_size_of := kb2 (p1 := "hall") (p2 := "chest") F_size_of fun _ _ _ _ _ _ _ _ => ⟨rfl, rfl, rfl⟩
  have k_seals_of := kb2 (p1 := "hall") (p2 := "chest") F_seals_of fun _ _ _ _ _ _ _ _ => ⟨rfl, rfl, rfl⟩
  have k_gates_of := kb1 (p1 := "hall") F_gates_of fun _ _ _ _ _ _ _ => ⟨rfl, rfl⟩
  have hSzK : hSizeOfK l.prog w K mg b0 := ⟨f_size_of, fd_size_of, g_size_of, F_size_of.kp, k_size_of, ok_sizeOf hWh hWc hSb F_size_of⟩
  have hSlK : hSealsOfK l.prog w K mg b0 := ⟨f_seals_of, fd_seals_of, g_seals_of, F_seals_of.kp, k_seals_of, ok_sealsOf hWh hWc hSw F_seals_of⟩
  have hGtK : hGatesOfK l.prog w K mg b0 := ⟨f_gates_of, fd_gates_of, g_gates_of, F_gates_of.kp, k_gates_of, ok_gatesOf hWh hGi F_gates_of⟩
  have hFd := Has.mk (P := l.prog) (w := w) (K := K) (mg := mg) (base := b0) (x := "_law_feed") ⟨f__law_feed, fd__law_feed, g__law_feed, F__law_feed.kp, b__law_feed, ok_lawFeed B F__law_feed⟩
  have hDr := Has.mk (P := l.prog) (w := w) (K := K) (mg := mg) (base := b0) (x := "_law_draw") ⟨f__law_draw, fd__law_draw, g__law_draw, F__law_draw.kp, b__law_draw, ok_lawDraw B F__law_draw⟩
  have hPk := Has.mk (P := l.prog) (w := w) (K := K) (mg := mg) (base := b0) (x := "_law_pick") ⟨f__law_pick, fd__law_pick, g__law_pick, F__law_pick.kp, b__law_pick, ok_lawPick B hDr F__law_pick⟩
  have hSm := HasG.mk (P := l.prog) (w := w) (K := K) (mg := mg) (base := b0) (x := "_law_same") ⟨f__law_same, fd__law_same, g__law_same, F__law_same.kp, b__law_same, ok_lawSame B F__law_same⟩
  have hCr := Has.mk (P := l.prog) (w := w) (K := K) (mg := mg) (base := b0) (x := "_law_a_crowd") ⟨f__law_a_crowd, fd__law_a_crowd, g__law_a_crowd, F__law_a_crowd.kp, b__law_a_crowd, ok_lawACrowd B hDr hPk F__law_a_crowd⟩
  have hSe := Has.mk (P := l.prog) (w := w) (K := K) (mg := mg) (base := b0) (x := "_law_a_seal") ⟨f__law_a_seal, fd__law_a_seal, g__law_a_seal, F__law_a_seal.kp, b__law_a_seal, ok_lawASeal B hDr F__law_a_seal⟩
  have hHa := Has.mk (P := l.prog) (w := w) (K := K) (mg := mg) (base := b0) (x := "_law_a_hall") ⟨f__law_a_hall, fd__law_a_hall, g__law_a_hall, F__law_a_hall.kp, b__law_a_hall, ok_lawAHall B hDr hPk hCr hSe F__law_a_hall⟩
  have hRi := HasG.mk (P := l.prog) (w := w) (K := K) (mg := mg) (base := b0) (x := "_law_is_right") ⟨f__law_is_right, fd__law_is_right, g__law_is_right, F__law_is_right.kp, b__law_is_right, ok_lawIsRight B hSzO hSzK hSlO hSlK hGtO hGtK hSm F__law_is_right⟩
  exact ok_law B hFd hHa hRi F_law
end Kp
open PySem PySem.W PyProof.Rows
set_option maxHeartbeats 0 in
theorem PySem.Challenge.cw_keptopen_k02_whole_parts_of_halls_holds : PySem.Challenge.rw_keptopen_k02_whole_parts_of_halls.Holds := by
  w_on; o_law; k_head; (case hw => w_witness2)
  k_fill
  refine Kp.walk_ofG (l := PySem.Challenge.rw_keptopen_k02_whole_parts_of_halls) (n := 63) (k := 10) (x := "_law_script") (sp := fun w => Kp.spLaw _) rfl (by decide) rfl ⟨rfl, by decide, by decide⟩ (fun w h Y => PySem.W.kIn_of Y) ?F (fun _ _ a ns _ hS => ⟨a, ns, rfl, hS, fun _ => rfl⟩)
  case F =>
    intro w mg fa h KX G hmg
    refine' Kp.all_mk KX G hmg ?d_is_integer ?d_is_number ?d_is_index ?d_is_name ?d_is_tuple_of ?d_are_ascending ?d_are_names ?d_is_chests ?d_chests_fault ?d_sizes_fault ?d_is_lot_by ?d_is_row_by ?d_seal_fault ?d_sizes_by ?d_hall_fault ?d_seals_with ?d_gates_in ?d_want_hall ?d_want_chest ?d_size_of ?d_seals_of ?d_gates_of ?d__law_feed ?d__law_draw ?d__law_pick ?d__law_same ?d__law_a_crowd ?d__law_a_seal ?d__law_a_hall ?d__law_is_right ?d_law ?d_want ?z_isi ?z_int ?z_bool ?z_str ?z_tuple ?z_len ?z_all ?z_zip ?z_enumerate ?z_max ?z_min ?z_dict ?z_list ?z_set ?z_sorted ?z_range ?z_repr ?zL ?hL
    (case d_is_integer => (refine' Kp.def_mk ?a ?l ?c ?k); (case a => k_is); (case l => k_is); (case c => k_is); (case k => k_is))
    (case d_is_number => (refine' Kp.def_mk ?a ?l ?c ?k); (case a => k_is); (case l => k_is); (case c => k_is); (case k => k_is))
    (case d_is_index => (refine' Kp.def_mk ?a ?l ?c ?k); (case a => k_is); (case l => k_is); (case c => k_is); (case k => k_is))
    (case d_is_name => (refine' Kp.def_mk ?a ?l ?c ?k); (case a => k_is); (case l => k_is); (case c => k_is); (case k => k_is))
    (case d_is_tuple_of => (refine' Kp.def_mk ?a ?l ?c ?k); (case a => k_is); (case l => k_is); (case c => k_is); (case k => k_is))
    (case d_are_ascending => (refine' Kp.def_mk ?a ?l ?c ?k); (case a => k_is); (case l => k_is); (case c => k_is); (case k => k_is))
    (case d_are_names => (refine' Kp.def_mk ?a ?l ?c ?k); (case a => k_is); (case l => k_is); (case c => k_is); (case k => k_is))
    (case d_is_chests => (refine' Kp.def_mk ?a ?l ?c ?k); (case a => k_is); (case l => k_is); (case c => k_is); (case k => k_is))
    (case d_chests_fault => (refine' Kp.def_mk ?a ?l ?c ?k); (case a => k_is); (case l => k_is); (case c => k_is); (case k => k_is))
    (case d_sizes_fault => (refine' Kp.def_mk ?a ?l ?c ?k); (case a => k_is); (case l => k_is); (case c => k_is); (case k => k_is))
    (case d_is_lot_by => (refine' Kp.def_mk ?a ?l ?c ?k); (case a => k_is); (case l => k_is); (case c => k_is); (case k => k_is))
    (case d_is_row_by => (refine' Kp.def_mk ?a ?l ?c ?k); (case a => k_is); (case l => k_is); (case c => k_is); (case k => k_is))
    (case d_seal_fault => (refine' Kp.def_mk ?a ?l ?c ?k); (case a => k_is); (case l => k_is); (case c => k_is); (case k => k_is))
    (case d_sizes_by => (refine' Kp.def_mk ?a ?l ?c ?k); (case a => k_is); (case l => k_is); (case c => k_is); (case k => k_is))
    (case d_hall_fault => (refine' Kp.def_mk ?a ?l ?c ?k); (case a => k_is); (case l => k_is); (case c => k_is); (case k => k_is))
    (case d_seals_with => (refine' Kp.def_mk ?a ?l ?c ?k); (case a => k_is); (case l => k_is); (case c => k_is); (case k => k_is))
    (case d_gates_in => (refine' Kp.def_mk ?a ?l ?c ?k); (case a => k_is); (case l => k_is); (case c => k_is); (case k => k_is))
    (case d_want_hall => (refine' Kp.def_mk ?a ?l ?c ?k); (case a => k_is); (case l => k_is); (case c => k_is); (case k => k_is))
    (case d_want_chest => (refine' Kp.def_mk ?a ?l ?c ?k); (case a => k_is); (case l => k_is); (case c => k_is); (case k => k_is))
    (case d_size_of => (refine' Kp.def_mk ?a ?l ?c ?k); (case a => k_is); (case l => k_is); (case c => k_is); (case k => k_is))
    (case d_seals_of => (refine' Kp.def_mk ?a ?l ?c ?k); (case a => k_is); (case l => k_is); (case c => k_is); (case k => k_is))
    (case d_gates_of => (refine' Kp.def_mk ?a ?l ?c ?k); (case a => k_is); (case l => k_is); (case c => k_is); (case k => k_is))
    (case d__law_feed => (refine' Kp.def_mk ?a ?l ?c ?k); (case a => k_is); (case l => k_is); (case c => k_is); (case k => k_is))
    (case d__law_draw => (refine' Kp.def_mk ?a ?l ?c ?k); (case a => k_is); (case l => k_is); (case c => k_is); (case k => k_is))
    (case d__law_pick => (refine' Kp.def_mk ?a ?l ?c ?k); (case a => k_is); (case l => k_is); (case c => k_is); (case k => k_is))
    (case d__law_same => (refine' Kp.def_mk ?a ?l ?c ?k); (case a => k_is); (case l => k_is); (case c => k_is); (case k => k_is))
    (case d__law_a_crowd => (refine' Kp.def_mk ?a ?l ?c ?k); (case a => k_is); (case l => k_is); (case c => k_is); (case k => k_is))
    (case d__law_a_seal => (refine' Kp.def_mk ?a ?l ?c ?k); (case a => k_is); (case l => k_is); (case c => k_is); (case k => k_is))
    (case d__law_a_hall => (refine' Kp.def_mk ?a ?l ?c ?k); (case a => k_is); (case l => k_is); (case c => k_is); (case k => k_is))
    (case d__law_is_right => (refine' Kp.def_mk ?a ?l ?c ?k); (case a => k_is); (case l => k_is); (case c => k_is); (case k => k_is))
    (case d_law => (refine' Kp.def_mk ?a ?l ?c ?k); (case a => k_is); (case l => k_is); (case c => k_is); (case k => k_is))
    (case d_want => (refine' Kp.want_mk ?a ?l ?c ?k ?lT ?hu); (case a => k_is); (case l => k_is); (case c => k_is); (case k => k_is); (case lT => k_is); (case hu => exact ⟨_, rfl⟩))
    (case z_isi => k_is)
    (case z_int => k_is)
    (case z_bool => k_is)
    (case z_str => k_is)
    (case z_tuple => k_is)
    (case z_len => k_is)
    (case z_all => k_is)
    (case z_zip => k_is)
    (case z_enumerate => k_is)
    (case z_max => k_is)
    (case z_min => k_is)
    (case z_dict => k_is)
    (case z_list => k_is)
    (case z_set => k_is)
    (case z_sorted => k_is)
    (case z_range => k_is)
    (case z_repr => k_is)
    (case zL => k_is)
    (case hL => decide +kernel)
