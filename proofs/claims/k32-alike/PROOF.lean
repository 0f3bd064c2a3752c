import PyProof.Rows.All
import Wide.All
import OpenK.AllK
import Wide.FinOn
import KE.KStateDown
import HandS.ForMost
import HandS.Conv
import HandS.Style
import HandS.Zip
import HandS.Property
import HandS.IsInst
import HandS.Defaults
import HandS.MakeKwOnly
import HandS.Exc
import HandS.More
import HandS.HeadEnd
import HandS.HeadHook1
import HandS.HeadHook2
import HandS.Head0
import HandS.Head1
import HandS.Head2
import PySem.Challenge.RW_fieldberth_k32_whole_conventions_agree
set_option Elab.async false
set_option linter.all false
set_option maxRecDepth 100000
set_option maxHeartbeats 0
/-! P1: the text by places, what the head tells, a def found by its name, small rules of my own. -/
namespace K32
open PySem PySem.Spec PyProof.Rows L2

/-! ### the text -/
def top (i : Nat) : Stmt := PySem.Challenge.pw_fieldberth_k32_whole_conventions_agree.main.body.getD i (.Pass ⟨0, 0, 0, 0⟩)

/-! ### heap extension -/
def Ex (H H' : Hp) : Prop := ∀ a o, H a = some o → H' a = some o
theorem Ex.refl (H : Hp) : Ex H H := fun _ _ h => h
theorem Ex.trans {H H1 H2 : Hp} (a : Ex H H1) (b : Ex H1 H2) : Ex H H2 := fun x o h => b x o (a x o h)
theorem Ex.new {H : Hp} {p : Addr} {o : HO} (h : H p = none) : Ex H (upd H p o) := fun a u e => (upd_ne (ne_of_none e h)).trans e
/-- an object that H does not know may change -/
theorem Ex.mut {H H' : Hp} {p : Addr} {o : HO} (e : Ex H H') (h : H p = none) : Ex H (upd H' p o) := fun a u ha => (upd_ne (ne_of_none ha h)).trans (e a u ha)
theorem Ex.back {H H' : Hp} {p : Addr} (e : Ex H H') (h : H' p = none) : H p = none := by
  cases h1 : H p with
  | none => rfl
  | some o => exact absurd ((e p o h1).symm.trans h) (fun z => nomatch z)
theorem Ex.rd {H H' : Hp} {a : Addr} {u : HO} (e : Ex H H') (h : Rd H a u) : Rd H' a u := h.elim (fun h => .inl (e a _ h)) fun ⟨o, h⟩ => .inr ⟨o, e a _ h⟩
theorem Ex.sqt {K : PySem.W.Frag} {H H' : Hp} {a : Addr} {xs : List V} (e : Ex H H') (h : SqT K H a xs) : SqT K H' a xs := h.elim (fun h => .inl (e.rd h)) .inr
theorem Ex.sql {K : PySem.W.Frag} {H H' : Hp} {a : Addr} {xs : List V} (e : Ex H H') (h : SqL K H a xs) : SqL K H' a xs := h.elim (fun h => .inl (e.rd h)) .inr

/-! ### a def by its name, with its promise -/
structure HasDef (K : PySem.W.Frag) (mg : Str → Option Value) (x : Str) (st : Stmt) : Prop where
  ex : ∃ (f : Addr) (fd : FuncData), FunD K x x (defArgs st) (defBody st) (defScope st) [] [] f fd ∧ mg x = some (.ref f)
structure Df (P : Program) (w : World) (K : PySem.W.Frag) (mg : Str → Option Value) (base : Heap) (x : Str) (k : Nat) (ps : List Str) (sp : Sp) : Prop where
  ex : ∃ (f : Addr) (fd : FuncData), FnOk P w K mg base CX0 k f fd ps sp ∧ mg x = some (.ref f) ∧ PySem.W.keepIn K (.ref f) = true ∧ Binds K fd ps []
abbrev BindsBy (x : Str) (st : Stmt) (ps : List Str) : Prop := ∀ (kV doc pm : Value) (an : Option Addr) (cdv ct : Value) (us : List Value), us.length = ps.length →
  bindArgs (PySem.W.fnOf x x (defArgs st) (defBody st) (defScope st) .none kV doc pm an cdv ct) ⟨us, []⟩ = pure (ps.zip us)
section
variable {P : Program} {w : World} {K : PySem.W.Frag} {mg : Str → Option Value} {base : Heap}
theorem Df.of {x : Str} {st : Stmt} {N ps : List Str} {k : Nat} {sp : Sp} (F : HasDef K mg x st) (S : FnScope N ps (defScope st)) (b : BindsBy x st ps) (len : ∀ vs H Q E, sp vs H Q E → vs.length = ps.length)
    (hbody : ∀ (f : Addr) (cdv : Value) (A : Around) (outer : List Env) (s : Shared) (H : Hp) (vs : List V) (Q : VK) (E : XK), Room k (A.deeper (envOfC x (defScope st) s.heap.objs.size f cdv)) → sp vs H Q E →
      ∃ t, PSs (cxOf CX0 P w K mg base N x (defScope st) f cdv A outer s H E).nox (defBody st) t ∧ t { nx := fun _ H' => Q .non H', rt := Q } (start N vs) H) : Df P w K mg base x (k + 1) ps sp := by
  obtain ⟨f, fd, F, hm⟩ := F.ex
  refine ⟨f, fd, F.ok S len (fun cdv A outer s H vs Q E hr hsp => ?_), hm, F.kp, F.bindsN b⟩
  obtain ⟨t, h, q⟩ := hbody f cdv A outer s H vs Q E hr hsp
  exact ⟨t, h.nox, q⟩
/-- nothing is promised: of a call that no way reaches -/
theorem Df.no {x : Str} {st : Stmt} {ps : List Str} {k : Nat} {sp : Sp} (F : HasDef K mg x st) (b : BindsBy x st ps) (h : ∀ vs H Q E, ¬ sp vs H Q E) : Df P w K mg base x k ps sp := by
  obtain ⟨f, fd, F, hm⟩ := F.ex
  exact ⟨f, fd, ⟨fun vs H Q E q => (h _ _ _ _ q).elim, fun A outer s H args us vs Q E hr e0 hb r hsp => (h _ _ _ _ hsp).elim⟩, hm, F.kp, F.bindsN b⟩
theorem Df.imp {x : Str} {ps : List Str} {k : Nat} {sp sp' : Sp} (D : Df P w K mg base x k ps sp) (h : ∀ vs H Q E, sp' vs H Q E → sp vs H Q E) : Df P w K mg base x k ps sp' :=
  let ⟨f, fd, F, r⟩ := D.ex
  ⟨f, fd, F.imp h, r⟩
theorem Df.mono {x : Str} {ps : List Str} {j k : Nat} {sp : Sp} (D : Df P w K mg base x j ps sp) (h : j ≤ k) : Df P w K mg base x k ps sp :=
  let ⟨f, fd, F, r⟩ := D.ex
  ⟨f, fd, F.mono h, r⟩
end
section
variable {X : Cx} {k : Nat} {x : Str} {ps : List Str} {sp : Sp} {p pos : Pos} {e : Expr} {es : List Expr} {t : TA}
theorem pe_df (D : Df X.prog X.w X.K X.mg X.base x k ps sp) (hr : Room k X.A) (hg : Gl X x) (ha : PA X (e :: es) t) (hdb : (x == ("__debug__" : Str)) = false := by decide)
    (he : starEach (e :: es) X.env = (false, eval e X.env) :: starEach es X.env := by rfl) (hpl : (backTo pos (starEach es X.env)).any (·.1) = false := by rfl) : PE X (.Call (.Name x p) (e :: es) [] pos) (tCall sp [] E0 t) := by
  obtain ⟨f, fd, F, hm, hk, hb⟩ := D.ex
  exact pe_call F hr hg hm hk hb .nil pass0 ha hdb he hpl
/-- an expression, a test that no way reaches -/
def tNevE : TE := fun _ _ _ => False
theorem pe_nev {e : Expr} : PE X e tNevE := ⟨fun _ _ _ _ _ _ h => h.elim⟩
/-- a word between an expression, a test and what follows: shown once from R -/
def tCutE (t : TE) : TE := fun σ H Q => ∃ R : V → Hp → Prop, t σ H R ∧ ∀ v H', R v H' → Q v H'
theorem pe_cut {e : Expr} {t : TE} (h : PE X e t) : PE X e (tCutE t) := ⟨fun pins s σ H Q I ⟨R, h1, h2⟩ => thn (h.run pins s σ H R I h1) fun u s' ⟨v, H', I', r, q⟩ => ⟨v, H', I', r, h2 v H' q⟩⟩
def tCutT (t : TT) : TT := fun σ H Q => ∃ R : Bool → Hp → Prop, t σ H R ∧ ∀ b H', R b H' → Q b H'
theorem pt_cut {e : Expr} {t : TT} (h : PT X e t) : PT X e (tCutT t) := ⟨fun pins s σ H Q I ⟨R, h1, h2⟩ => thn (h.run pins s σ H R I h1) fun b s' ⟨H', I', q⟩ => ⟨H', I', h2 b H' q⟩⟩
def tCutS (t u : TS) : TS := fun D σ H => ∃ M : L2.St → Hp → Prop, t { D with nx := M } σ H ∧ ∀ σ' H', M σ' H' → u D σ' H'
theorem pss_cutS {st : Stmt} {rest : List Stmt} {t u : TS} (h1 : PS X st t) (h2 : PSs X rest u) : PSs X (st :: rest) (tCutS t u) := by
  refine ⟨fun pins s σ H D I ⟨M, hm, hu⟩ => ?_⟩
  refine wpAny_execs_cons (thn (h1.run pins s σ H { D with nx := M } I hm) fun f s1 q => ?_)
  cases f with
  | next =>
    obtain ⟨σ1, H1, I1, q⟩ := q
    exact h2.run pins s1 σ1 H1 D I1 (hu σ1 H1 q)
  | ret v => exact q
  | brk => exact q
  | cont => exact q
/-- a text that the module's name holds -/
theorem pe_globS {z : Str} {pos : Pos} (hm : ∃ t, X.mg x = some (.str z t)) (hg : Gl X x) (hd : (x == ("__debug__" : Str)) = false := by decide) : PE X (.Name x pos) (tC (.str z)) := by
  obtain ⟨t, hm⟩ := hm
  exact pe_glob hg hm ⟨t, rfl⟩ hd
/-- d.update(e), both dicts tracked -/
def rUpd : V → List V → Hp → VK → Prop := fun x vs H Q => ∃ (a b : Addr) (kvs more : List (Key × V)), x = .ref a ∧ vs = [.ref b] ∧ H a = some (.dK kvs) ∧ H b = some (.dK more) ∧ a ≠ b ∧ kvs.length + more.length ≤ sizeLine ∧
  Q .non (upd H a (.dK (mergeK kvs more)))
theorem mt_update : MtR X "dict.update" rUpd := by
  intro pins s σ H x vs v us Q I rx rv h
  obtain ⟨a, b, kvs, more, rfl, rfl, ha, hb, hab, hz, q⟩ := h
  cases rx
  obtain ⟨u, rfl, ru⟩ := rv.one
  cases ru
  obtain ⟨za, sa, va, ra, da⟩ := dk_of I.hok ha
  obtain ⟨zb, sb, vb, rb, db⟩ := dk_of I.hok hb
  refine call_meetsIn PySem.F.slot_dict_update da.typeIs PySem.F.entry_dict_update (PySem.F.args_dict_update_2 _ _) (meets_dict_update (mixKind X.prog X.w) a b hab sb) ⟨va, vb, da, db, by rw [← ra.length, ← rb.length]; exact hz, fun h' d1 d2 sm => ?_⟩
  have he : ∃ q, h'.get? a = some q := let ⟨q, _, _, hq, _⟩ := d1; ⟨q, hq⟩
  exact ⟨.non, _, d_write (t' := s.toks) I (by rw [ha]; exact True.intro) sm he (dk_new (Nat.le_trans (length_mergeK more kvs) hz) sa (rb.merge ra) d1), rfl, q⟩
end
end K32
namespace K32
open PySem PySem.Spec PyProof.Rows L2
/-! ### the data of the defs that are called -/
def d_is_integer : He.DefD := ⟨("is_integer", none), "is_integer", "is_integer", defArgs (top 12), defBody (top 12), defScope (top 12), [], []⟩
def d_is_row : He.DefD := ⟨("is_row", none), "is_row", "is_row", defArgs (top 13), defBody (top 13), defScope (top 13), [], []⟩
def d_is_number_of : He.DefD := ⟨("is_number_of", none), "is_number_of", "is_number_of", defArgs (top 14), defBody (top 14), defScope (top 14), [], []⟩
def d_is_integer_kind : He.DefD := ⟨("is_integer_kind", none), "is_integer_kind", "is_integer_kind", defArgs (top 15), defBody (top 15), defScope (top 15), [], []⟩
def d_is_array_kind : He.DefD := ⟨("is_array_kind", none), "is_array_kind", "is_array_kind", defArgs (top 16), defBody (top 16), defScope (top 16), [], []⟩
def d_checked_kind : He.DefD := ⟨("checked_kind", none), "checked_kind", "checked_kind", defArgs (top 17), defBody (top 17), defScope (top 17), [], []⟩
def d_size_of : He.DefD := ⟨("size_of", none), "size_of", "size_of", defArgs (top 18), defBody (top 18), defScope (top 18), [], []⟩
def d_alignment_of : He.DefD := ⟨("alignment_of", none), "alignment_of", "alignment_of", defArgs (top 19), defBody (top 19), defScope (top 19), [], []⟩
def d_is_word_of : He.DefD := ⟨("is_word_of", none), "is_word_of", "is_word_of", defArgs (top 27), defBody (top 27), defScope (top 27), [], []⟩
def d_checked_options : He.DefD := ⟨("checked_options", none), "checked_options", "checked_options", defArgs (top 28), defBody (top 28), defScope (top 28), [], []⟩
def d_is_name : He.DefD := ⟨("is_name", none), "is_name", "is_name", defArgs (top 29), defBody (top 29), defScope (top 29), [], []⟩
def d_checked_member : He.DefD := ⟨("checked_member", none), "checked_member", "checked_member", defArgs (top 30), defBody (top 30), defScope (top 30), [], []⟩
def d_checked_members : He.DefD := ⟨("checked_members", none), "checked_members", "checked_members", defArgs (top 31), defBody (top 31), defScope (top 31), [], []⟩
def d_checked_names : He.DefD := ⟨("checked_names", none), "checked_names", "checked_names", defArgs (top 32), defBody (top 32), defScope (top 32), [], []⟩
def d_names_of : He.DefD := ⟨("names_of", none), "names_of", "names_of", defArgs (top 33), defBody (top 33), defScope (top 33), [], []⟩
def d_up : He.DefD := ⟨("up", none), "up", "up", defArgs (top 35), defBody (top 35), defScope (top 35), [], []⟩
def d_step_of : He.DefD := ⟨("step_of", none), "step_of", "step_of", defArgs (top 36), defBody (top 36), defScope (top 36), [], []⟩
def d_msvc_structure : He.DefD := ⟨("msvc_structure", none), "msvc_structure", "msvc_structure", defArgs (top 38), defBody (top 38), defScope (top 38), [], []⟩
def d_msvc_union : He.DefD := ⟨("msvc_union", none), "msvc_union", "msvc_union", defArgs (top 39), defBody (top 39), defScope (top 39), [], []⟩
def d_row_named : He.DefD := ⟨("row_named", none), "row_named", "row_named", defArgs (top 41), defBody (top 41), defScope (top 41), [], []⟩
def d_step_from : He.DefD := ⟨("step_from", none), "step_from", "step_from", defArgs (top 42), defBody (top 42), defScope (top 42), [], []⟩
def d_lead : He.DefD := ⟨("lead", none), "lead", "lead", defArgs (top 43), defBody (top 43), defScope (top 43), [], []⟩
def d_spot_of : He.DefD := ⟨("spot_of", none), "spot_of", "spot_of", defArgs (top 44), defBody (top 44), defScope (top 44), [], []⟩
def d_is_number_kind : He.DefD := ⟨("is_number_kind", none), "is_number_kind", "is_number_kind", defArgs (top 45), defBody (top 45), defScope (top 45), [], []⟩
def d_bit_at : He.DefD := ⟨("bit_at", none), "bit_at", "bit_at", defArgs (top 46), defBody (top 46), defScope (top 46), [], []⟩
def d_bits_at : He.DefD := ⟨("bits_at", none), "bits_at", "bits_at", defArgs (top 47), defBody (top 47), defScope (top 47), [], []⟩
def d_all_paths : He.DefD := ⟨("all_paths", none), "all_paths", "all_paths", defArgs (top 48), defBody (top 48), defScope (top 48), [], []⟩
def d_is_moved : He.DefD := ⟨("is_moved", none), "is_moved", "is_moved", defArgs (top 50), defBody (top 50), defScope (top 50), [], []⟩
def d_counts : He.DefD := ⟨("counts", none), "counts", "counts", defArgs (top 51), defBody (top 51), defScope (top 51), [], []⟩
def d_sysv_structure : He.DefD := ⟨("sysv_structure", none), "sysv_structure", "sysv_structure", defArgs (top 52), defBody (top 52), defScope (top 52), [], []⟩
def d_sysv_union : He.DefD := ⟨("sysv_union", none), "sysv_union", "sysv_union", defArgs (top 53), defBody (top 53), defScope (top 53), [], []⟩
def d_layout_of : He.DefD := ⟨("layout_of", none), "layout_of", "layout_of", defArgs (top 56), defBody (top 56), defScope (top 56), [], []⟩
def d_law_draw : He.DefD := ⟨("_law_draw", none), "_law_draw", "_law_draw", defArgs (top 60), defBody (top 60), defScope (top 60), [], []⟩
def d_law_pick : He.DefD := ⟨("_law_pick", none), "_law_pick", "_law_pick", defArgs (top 61), defBody (top 61), defScope (top 61), [], []⟩
def d_law_same : He.DefD := ⟨("_law_same", none), "_law_same", "_law_same", defArgs (top 62), defBody (top 62), defScope (top 62), [], []⟩
def d_law_number_kind : He.DefD := ⟨("_law_number_kind", none), "_law_number_kind", "_law_number_kind", defArgs (top 63), defBody (top 63), defScope (top 63), [], []⟩
def d_law_member : He.DefD := ⟨("_law_member", none), "_law_member", "_law_member", defArgs (top 65), defBody (top 65), defScope (top 65), [], []⟩
def d_law_plan : He.DefD := ⟨("_law_plan", none), "_law_plan", "_law_plan", defArgs (top 66), defBody (top 66), defScope (top 66), [], []⟩
def d_law_fits : He.DefD := ⟨("_law_fits", none), "_law_fits", "_law_fits", defArgs (top 67), defBody (top 67), defScope (top 67), [], []⟩
def d_law_next : He.DefD := ⟨("_law_next", none), "_law_next", "_law_next", defArgs (top 68), defBody (top 68), defScope (top 68), [], []⟩
def d_law_size : He.DefD := ⟨("_law_size", none), "_law_size", "_law_size", defArgs (top 69), defBody (top 69), defScope (top 69), [], []⟩
def d_law_step : He.DefD := ⟨("_law_step", none), "_law_step", "_law_step", defArgs (top 70), defBody (top 70), defScope (top 70), [], []⟩
def d_law_sysv : He.DefD := ⟨("_law_sysv", none), "_law_sysv", "_law_sysv", defArgs (top 71), defBody (top 71), defScope (top 71), [], []⟩
def d_law_laid : He.DefD := ⟨("_law_laid", none), "_law_laid", "_law_laid", defArgs (top 74), defBody (top 74), defScope (top 74), [], []⟩
def d_law_bits : He.DefD := ⟨("_law_bits", none), "_law_bits", "_law_bits", defArgs (top 75), defBody (top 75), defScope (top 75), [], []⟩
def d_law_berths : He.DefD := ⟨("_law_berths", none), "_law_berths", "_law_berths", defArgs (top 76), defBody (top 76), defScope (top 76), [], []⟩
def d_law_kind_of : He.DefD := ⟨("_law_kind_of", none), "_law_kind_of", "_law_kind_of", defArgs (top 77), defBody (top 77), defScope (top 77), [], []⟩
def d_law_layout : He.DefD := ⟨("_law_layout", none), "_law_layout", "_law_layout", defArgs (top 78), defBody (top 78), defScope (top 78), [], []⟩
def d_law_with : He.DefD := ⟨("_law_with", none), "_law_with", "_law_with", defArgs (top 79), defBody (top 79), defScope (top 79), [], []⟩
def d_law_are_alike : He.DefD := ⟨("_law_are_alike", none), "_law_are_alike", "_law_are_alike", defArgs (top 80), defBody (top 80), defScope (top 80), [], []⟩
def d_law : He.DefD := ⟨("law", none), "law", "law", defArgs (top 81), defBody (top 81), defScope (top 81), [], []⟩
def d_struct : He.DefD := ⟨("struct", none), "struct", "struct", defArgs (top 57), defBody (top 57), defScope (top 57), [], [("convention", .str "sysv"), ("pack", .non), ("align", .non), ("ends", .str "little")]⟩
def d_union : He.DefD := ⟨("union", none), "union", "union", defArgs (top 58), defBody (top 58), defScope (top 58), [], [("convention", .str "sysv"), ("pack", .non), ("align", .non), ("ends", .str "little")]⟩
def d_L_init : He.DefD := ⟨("Layout", some "__init__"), "__init__", "Layout.__init__", defArgs (inClass (top 55) 0), defBody (inClass (top 55) 0), defScope (inClass (top 55) 0), [], []⟩
def d_L_paths : He.DefD := ⟨("Layout", some "paths"), "paths", "Layout.paths", defArgs (inClass (top 55) 5), defBody (inClass (top 55) 5), defScope (inClass (top 55) 5), [], []⟩
def d_L_checked_spot : He.DefD := ⟨("Layout", some "checked_spot"), "checked_spot", "Layout.checked_spot", defArgs (inClass (top 55) 6), defBody (inClass (top 55) 6), defScope (inClass (top 55) 6), [], []⟩
def d_L_berth : He.DefD := ⟨("Layout", some "berth"), "berth", "Layout.berth", defArgs (inClass (top 55) 7), defBody (inClass (top 55) 7), defScope (inClass (top 55) 7), [], []⟩
def d_L_octet_at : He.DefD := ⟨("Layout", some "octet_at"), "octet_at", "Layout.octet_at", defArgs (inClass (top 55) 8), defBody (inClass (top 55) 8), defScope (inClass (top 55) 8), [], []⟩
def d_L_size : He.DefD := ⟨("Layout", some "size"), "size", "Layout.size", defArgs (inClass (top 55) 1), defBody (inClass (top 55) 1), defScope (inClass (top 55) 1), [], []⟩
def d_L_alignment : He.DefD := ⟨("Layout", some "alignment"), "alignment", "Layout.alignment", defArgs (inClass (top 55) 2), defBody (inClass (top 55) 2), defScope (inClass (top 55) 2), [], []⟩
def d_L_ends : He.DefD := ⟨("Layout", some "ends"), "ends", "Layout.ends", defArgs (inClass (top 55) 4), defBody (inClass (top 55) 4), defScope (inClass (top 55) 4), [], []⟩
def fns : List He.DefD := [d_is_integer, d_is_row, d_is_number_of, d_is_integer_kind, d_is_array_kind, d_checked_kind, d_size_of, d_alignment_of, d_is_word_of, d_checked_options, d_is_name, d_checked_member, d_checked_members, d_checked_names, d_names_of, d_up, d_step_of, d_msvc_structure, d_msvc_union, d_row_named, d_step_from, d_lead, d_spot_of, d_is_number_kind, d_bit_at, d_bits_at, d_all_paths, d_is_moved, d_counts, d_sysv_structure, d_sysv_union, d_layout_of, d_law_draw, d_law_pick, d_law_same, d_law_number_kind, d_law_member, d_law_plan, d_law_fits, d_law_next, d_law_size, d_law_step, d_law_sysv, d_law_laid, d_law_bits, d_law_berths, d_law_kind_of, d_law_layout, d_law_with, d_law_are_alike, d_law, d_struct, d_union, d_L_init, d_L_paths, d_L_checked_spot, d_L_berth, d_L_octet_at]
def fas : List He.Fa := [.free "len", .free "isinstance", .free "max", .free "min", .free "all", .free "any", .free "int", .free "tuple", .free "list", .free "dict", .free "str", .free "bool", .free "range", .free "zip", .free "enumerate", .glo "is_integer", .glo "is_row", .glo "is_number_of", .glo "is_integer_kind", .glo "is_array_kind", .glo "checked_kind", .glo "size_of", .glo "alignment_of", .glo "is_word_of", .glo "checked_options", .glo "is_name", .glo "checked_member", .glo "checked_members", .glo "checked_names", .glo "names_of", .glo "up", .glo "step_of", .glo "msvc_structure", .glo "msvc_union", .glo "row_named", .glo "step_from", .glo "lead", .glo "spot_of", .glo "is_number_kind", .glo "bit_at", .glo "bits_at", .glo "all_paths", .glo "is_moved", .glo "counts", .glo "sysv_structure", .glo "sysv_union", .glo "layout_of", .glo "_law_draw", .glo "_law_pick", .glo "_law_same", .glo "_law_number_kind", .glo "_law_member", .glo "_law_plan", .glo "_law_fits", .glo "_law_next", .glo "_law_size", .glo "_law_step", .glo "_law_sysv", .glo "_law_laid", .glo "_law_bits", .glo "_law_berths", .glo "_law_kind_of", .glo "_law_layout", .glo "_law_with", .glo "_law_are_alike", .glo "law", .glo "struct", .glo "union", .glo "SIZES", .glo "CONVENTIONS", .glo "PACKS", .glo "ALIGNS", .glo "ENDS", .glo "Shape", .glo "Layout", .str "LETTERS" "abcdefghijklmnopqrstuvwxyzABCDEFGHIJKLMNOPQRSTUVWXYZ_", .str "DIGITS" "0123456789", .cls "Layout", .noat "Layout" "rows", .noat "Layout" "positions", .noat "Layout" "step", .noat "Layout" "extent", .noat "Layout" "rule", .noat "Layout" "order", .meth "Layout" "paths", .meth "Layout" "checked_spot", .meth "Layout" "berth", .meth "Layout" "octet_at", .mkr "Layout"]
/-! ### what else is asked: tables, properties, classes -/
abbrev cL (K : PySem.W.Frag) : Addr := He.ga K "Layout"
abbrev cS (K : PySem.W.Frag) : Addr := He.ga K "Shape"
/-- the getter of a property of Layout -/
def gAd (K : PySem.W.Frag) (f : Str) : Addr := match PySem.W.recIn K (He.ma K (cL K) f) "property" with
  | some (.ref g :: _) => g
  | _ => 0
def propB (K : PySem.W.Frag) (f : Str) : Bool := He.eqO (PySem.W.findIn K (.ref (cL K)) f) (some (some (.ref (He.ma K (cL K) f)))) && (He.eqO (PySem.W.specialIn K (.ref (He.ma K (cL K) f)) "__get__") (some (some (.builtin "property.__get__"))) &&
  (decide (PySem.W.takesIn K (.ref (He.ma K (cL K) f)) = some true) && (match PySem.W.recIn K (He.ma K (cL K) f) "property" with
    | some (.ref _ :: _) => true
    | _ => false)))
def getB (K : PySem.W.Frag) (d : He.DefD) : Bool := PySem.W.keepIn K (.ref (gAd K d.name)) && (match K.lookup (gAd K d.name) with
  | some ⟨_, _, .func fd, _⟩ => PySem.W.codeIn K fd.code d.qual && (He.dflB K fd.defaults [] && He.kwdB K fd.kwdefaults [])
  | _ => false)
def getW (K : PySem.W.Frag) (d : He.DefD) : He.FnW := match K.lookup (gAd K d.name) with
  | some ⟨_, _, .func fd, _⟩ => some (fd.name, fd.qualname, fd.params, fd.body, fd.scope, fd.globals, fd.closure, fd.builtins)
  | _ => none
def gets : List He.DefD := [d_L_size, d_L_alignment, d_L_ends]
def tabB (K : PySem.W.Frag) : Bool := He.tupB K "SIZES" [.int 1, .int 2, .int 4, .int 8] && (He.tupB K "CONVENTIONS" [.str "sysv", .str "msvc"] && (He.tupB K "PACKS" [.int 1, .int 2, .int 4, .int 8, .int 16] && (He.tupB K "ALIGNS" [.int 1, .int 2, .int 4, .int 8, .int 16, .int 32] && (He.tupB K "ENDS" [.str "little", .str "big"]))))
/-- isinstance against Shape -/
def clsB (K : PySem.W.Frag) : Bool := decide (PySem.W.kitOne K (.type "tuple") (.ref (cS K)) = some false) && (decide (PySem.W.kitOne K (.ref (cL K)) (.ref (cS K)) = some true) &&
  (He.eqO (PySem.W.findIn K (.ref (cL K)) "__class__") (some (some (.builtin "object.__class__"))) && (He.eqO (PySem.W.specialIn K (.builtin "object.__class__") "__get__") (some (some (.builtin "getset_descriptor.__get__"))) &&
    (decide (PySem.W.takesIn K (.builtin "object.__class__") = some true) && decide (PySem.W.mroIn K (cL K) (.type "object") = some true)))))
def exB (K : PySem.W.Frag) : Bool := tabB K && (clsB K && ((gets.all fun d => propB K d.name) && gets.all fun d => getB K d))
/-! ### the Hook -/
abbrev AlM : Type := He.AlD × Bool × List He.FnW
def obsM (K : PySem.W.Frag) : AlM := (He.obsD fas fns K, exB K, gets.map fun d => getW K d)
def valM : AlM := (He.valD fns, true, gets.map He.DefD.val)
/-- what an object names, of what is looked at -/
def refsM (o : Obj) : List Addr := match o.data with
  | .func fd => He.refV fd.code ++ (He.refV fd.defaults ++ He.refV fd.kwdefaults)
  | .cls cd => [cd.ns]
  | .dict es _ => es.toList.flatMap fun e => He.refV e.val
  | .fields vs => (match o.cls with
    | .type c => (match c == "property" with
      | true => vs.toList.flatMap He.refV
      | false => [])
    | _ => [])
  | _ => []
def nextM (g : Addr → Option Obj) (as : List Addr) : List Addr := as.flatMap fun a => match g a with
  | some o => refsM o
  | none => []
/-- the module's names, and on from there, layer by layer -/
def asM (g : Addr → Option Obj) : Nat → List Addr → List Addr
  | 0, as => as
  | n + 1, as => as ++ asM g n (nextM g as)
def obsMG (n : Nat) (g : Addr → Option Obj) : AlM := obsM (He.frG g (asM g n [mainGlobals]))
def hookM (n : Nat) : PySem.W.Hook where
  α := AlM
  obs := fun s => obsMG n s.heap.get?
  val := fun _ => valM
  says := fun _ h => ∃ K : PySem.W.Frag, K.In h ∧ obsM K = valM
  of := fun _ _ e => ⟨_, He.frG_in, e⟩
  keeps := fun _ _ _ ⟨K, hK, z⟩ k => ⟨K, hK.keeps k, z⟩
abbrev R : PySem.W.OpenRow := PySem.W.OpenLaw.row PySem.Challenge.rw_fieldberth_k32_whole_conventions_agree
abbrev hk : PySem.W.Hook := hookM 5
def ob (s : PySem.W.SharedT) : AlM := obsMG 5 (HandSHeadRun.getT s)
theorem ob_eq (s : PySem.W.SharedT) : ob s = hk.obs s.abs := by
  have e : HandSHeadRun.getT s = s.abs.heap.get? := funext fun a => HandSHeadRun.getT_eq s a
  show obsMG 5 (HandSHeadRun.getT s) = obsMG 5 s.abs.heap.get?
  rw [e]
def loose : List PySem.Str := (["_wall", "BerthError", "BadKind", "BadOption", "BadMember", "BadBits", "BadName", "BadPath", "SIZES", "Shape", "is_integer", "is_row", "is_number_of", "is_integer_kind", "is_array_kind", "checked_kind", "size_of", "alignment_of", "CONVENTIONS", "PACKS"] : List PySem.Str) ++ (["ALIGNS", "ENDS", "LETTERS", "DIGITS", "is_word_of", "checked_options", "is_name", "checked_member", "checked_members", "checked_names", "names_of", "up", "step_of", "msvc_structure", "msvc_union", "row_named", "step_from", "lead", "spot_of", "is_number_kind"] : List PySem.Str) ++ (["bit_at", "bits_at", "all_paths", "is_moved", "counts", "sysv_structure", "sysv_union", "Layout", "layout_of", "struct", "union", "_law_draw", "_law_pick", "_law_same", "_law_number_kind", "_law_field", "_law_member", "_law_plan", "_law_fits", "_law_next"] : List PySem.Str) ++ (["_law_size", "_law_step", "_law_sysv", "_law_msvc", "_law_taken_of_union", "_law_laid", "_law_bits", "_law_berths", "_law_kind_of", "_law_layout", "_law_with", "_law_are_alike"] : List PySem.Str)
end K32
namespace K32
open PySem PySem.Spec PyProof.Rows L2
/-! ### what the head tells, by name -/
structure Ctx (K : PySem.W.Frag) (mg : Str → Option Value) : Prop where
  mem : ∃ h : Heap, K.In h ∧ h.Ns mainGlobals mg
  says : obsM K = valM
section
variable {K : PySem.W.Frag} {mg : Str → Option Value}
theorem Ctx.d (c : Ctx K mg) : He.SaysD fas fns K := congrArg (fun z : AlM => z.1) c.says
theorem Ctx.x (c : Ctx K mg) : exB K = true := congrArg (fun z : AlM => z.2.1) c.says
theorem Ctx.tab (c : Ctx K mg) : tabB K = true := (He.ba c.x).1
theorem Ctx.cls (c : Ctx K mg) : clsB K = true := (He.ba (He.ba c.x).2).1
theorem Ctx.glo (c : Ctx K mg) {x : Str} (i : Nat) (h : fas[i]? = some (.glo x)) : mg x = some (.ref (He.ga K x)) :=
  let ⟨_, X, G⟩ := c.mem
  He.glo_ok X G (c.d.fact i h)
theorem Ctx.free (c : Ctx K mg) {x : Str} (i : Nat) (h : fas[i]? = some (.free x)) : mg x = none :=
  let ⟨_, X, G⟩ := c.mem
  He.free_ok X G (c.d.fact i h)
theorem Ctx.txt (c : Ctx K mg) {x z : Str} (i : Nat) (h : fas[i]? = some (.str x z)) : ∃ t, mg x = some (.str z t) :=
  let ⟨_, X, G⟩ := c.mem
  He.str_ok X G (c.d.fact i h)
theorem Ctx.no_len (c : Ctx K mg) : mg "len" = none := c.free 0 rfl
theorem Ctx.no_isinstance (c : Ctx K mg) : mg "isinstance" = none := c.free 1 rfl
theorem Ctx.no_max (c : Ctx K mg) : mg "max" = none := c.free 2 rfl
theorem Ctx.no_min (c : Ctx K mg) : mg "min" = none := c.free 3 rfl
theorem Ctx.no_all (c : Ctx K mg) : mg "all" = none := c.free 4 rfl
theorem Ctx.no_any (c : Ctx K mg) : mg "any" = none := c.free 5 rfl
theorem Ctx.no_int (c : Ctx K mg) : mg "int" = none := c.free 6 rfl
theorem Ctx.no_tuple (c : Ctx K mg) : mg "tuple" = none := c.free 7 rfl
theorem Ctx.no_list (c : Ctx K mg) : mg "list" = none := c.free 8 rfl
theorem Ctx.no_dict (c : Ctx K mg) : mg "dict" = none := c.free 9 rfl
theorem Ctx.no_str (c : Ctx K mg) : mg "str" = none := c.free 10 rfl
theorem Ctx.no_bool (c : Ctx K mg) : mg "bool" = none := c.free 11 rfl
theorem Ctx.no_range (c : Ctx K mg) : mg "range" = none := c.free 12 rfl
theorem Ctx.no_zip (c : Ctx K mg) : mg "zip" = none := c.free 13 rfl
theorem Ctx.no_enumerate (c : Ctx K mg) : mg "enumerate" = none := c.free 14 rfl
theorem Ctx.mg_is_integer (c : Ctx K mg) : mg "is_integer" = some (.ref (He.ga K "is_integer")) := c.glo 15 rfl
theorem Ctx.mg_is_row (c : Ctx K mg) : mg "is_row" = some (.ref (He.ga K "is_row")) := c.glo 16 rfl
theorem Ctx.mg_is_number_of (c : Ctx K mg) : mg "is_number_of" = some (.ref (He.ga K "is_number_of")) := c.glo 17 rfl
theorem Ctx.mg_is_integer_kind (c : Ctx K mg) : mg "is_integer_kind" = some (.ref (He.ga K "is_integer_kind")) := c.glo 18 rfl
theorem Ctx.mg_is_array_kind (c : Ctx K mg) : mg "is_array_kind" = some (.ref (He.ga K "is_array_kind")) := c.glo 19 rfl
theorem Ctx.mg_checked_kind (c : Ctx K mg) : mg "checked_kind" = some (.ref (He.ga K "checked_kind")) := c.glo 20 rfl
theorem Ctx.mg_size_of (c : Ctx K mg) : mg "size_of" = some (.ref (He.ga K "size_of")) := c.glo 21 rfl
theorem Ctx.mg_alignment_of (c : Ctx K mg) : mg "alignment_of" = some (.ref (He.ga K "alignment_of")) := c.glo 22 rfl
theorem Ctx.mg_is_word_of (c : Ctx K mg) : mg "is_word_of" = some (.ref (He.ga K "is_word_of")) := c.glo 23 rfl
theorem Ctx.mg_checked_options (c : Ctx K mg) : mg "checked_options" = some (.ref (He.ga K "checked_options")) := c.glo 24 rfl
theorem Ctx.mg_is_name (c : Ctx K mg) : mg "is_name" = some (.ref (He.ga K "is_name")) := c.glo 25 rfl
theorem Ctx.mg_checked_member (c : Ctx K mg) : mg "checked_member" = some (.ref (He.ga K "checked_member")) := c.glo 26 rfl
theorem Ctx.mg_checked_members (c : Ctx K mg) : mg "checked_members" = some (.ref (He.ga K "checked_members")) := c.glo 27 rfl
theorem Ctx.mg_checked_names (c : Ctx K mg) : mg "checked_names" = some (.ref (He.ga K "checked_names")) := c.glo 28 rfl
theorem Ctx.mg_names_of (c : Ctx K mg) : mg "names_of" = some (.ref (He.ga K "names_of")) := c.glo 29 rfl
theorem Ctx.mg_up (c : Ctx K mg) : mg "up" = some (.ref (He.ga K "up")) := c.glo 30 rfl
theorem Ctx.mg_step_of (c : Ctx K mg) : mg "step_of" = some (.ref (He.ga K "step_of")) := c.glo 31 rfl
theorem Ctx.mg_msvc_structure (c : Ctx K mg) : mg "msvc_structure" = some (.ref (He.ga K "msvc_structure")) := c.glo 32 rfl
theorem Ctx.mg_msvc_union (c : Ctx K mg) : mg "msvc_union" = some (.ref (He.ga K "msvc_union")) := c.glo 33 rfl
theorem Ctx.mg_row_named (c : Ctx K mg) : mg "row_named" = some (.ref (He.ga K "row_named")) := c.glo 34 rfl
theorem Ctx.mg_step_from (c : Ctx K mg) : mg "step_from" = some (.ref (He.ga K "step_from")) := c.glo 35 rfl
theorem Ctx.mg_lead (c : Ctx K mg) : mg "lead" = some (.ref (He.ga K "lead")) := c.glo 36 rfl
theorem Ctx.mg_spot_of (c : Ctx K mg) : mg "spot_of" = some (.ref (He.ga K "spot_of")) := c.glo 37 rfl
theorem Ctx.mg_is_number_kind (c : Ctx K mg) : mg "is_number_kind" = some (.ref (He.ga K "is_number_kind")) := c.glo 38 rfl
theorem Ctx.mg_bit_at (c : Ctx K mg) : mg "bit_at" = some (.ref (He.ga K "bit_at")) := c.glo 39 rfl
theorem Ctx.mg_bits_at (c : Ctx K mg) : mg "bits_at" = some (.ref (He.ga K "bits_at")) := c.glo 40 rfl
theorem Ctx.mg_all_paths (c : Ctx K mg) : mg "all_paths" = some (.ref (He.ga K "all_paths")) := c.glo 41 rfl
theorem Ctx.mg_is_moved (c : Ctx K mg) : mg "is_moved" = some (.ref (He.ga K "is_moved")) := c.glo 42 rfl
theorem Ctx.mg_counts (c : Ctx K mg) : mg "counts" = some (.ref (He.ga K "counts")) := c.glo 43 rfl
theorem Ctx.mg_sysv_structure (c : Ctx K mg) : mg "sysv_structure" = some (.ref (He.ga K "sysv_structure")) := c.glo 44 rfl
theorem Ctx.mg_sysv_union (c : Ctx K mg) : mg "sysv_union" = some (.ref (He.ga K "sysv_union")) := c.glo 45 rfl
theorem Ctx.mg_layout_of (c : Ctx K mg) : mg "layout_of" = some (.ref (He.ga K "layout_of")) := c.glo 46 rfl
theorem Ctx.mg_law_draw (c : Ctx K mg) : mg "_law_draw" = some (.ref (He.ga K "_law_draw")) := c.glo 47 rfl
theorem Ctx.mg_law_pick (c : Ctx K mg) : mg "_law_pick" = some (.ref (He.ga K "_law_pick")) := c.glo 48 rfl
theorem Ctx.mg_law_same (c : Ctx K mg) : mg "_law_same" = some (.ref (He.ga K "_law_same")) := c.glo 49 rfl
theorem Ctx.mg_law_number_kind (c : Ctx K mg) : mg "_law_number_kind" = some (.ref (He.ga K "_law_number_kind")) := c.glo 50 rfl
theorem Ctx.mg_law_member (c : Ctx K mg) : mg "_law_member" = some (.ref (He.ga K "_law_member")) := c.glo 51 rfl
theorem Ctx.mg_law_plan (c : Ctx K mg) : mg "_law_plan" = some (.ref (He.ga K "_law_plan")) := c.glo 52 rfl
theorem Ctx.mg_law_fits (c : Ctx K mg) : mg "_law_fits" = some (.ref (He.ga K "_law_fits")) := c.glo 53 rfl
theorem Ctx.mg_law_next (c : Ctx K mg) : mg "_law_next" = some (.ref (He.ga K "_law_next")) := c.glo 54 rfl
theorem Ctx.mg_law_size (c : Ctx K mg) : mg "_law_size" = some (.ref (He.ga K "_law_size")) := c.glo 55 rfl
theorem Ctx.mg_law_step (c : Ctx K mg) : mg "_law_step" = some (.ref (He.ga K "_law_step")) := c.glo 56 rfl
theorem Ctx.mg_law_sysv (c : Ctx K mg) : mg "_law_sysv" = some (.ref (He.ga K "_law_sysv")) := c.glo 57 rfl
theorem Ctx.mg_law_laid (c : Ctx K mg) : mg "_law_laid" = some (.ref (He.ga K "_law_laid")) := c.glo 58 rfl
theorem Ctx.mg_law_bits (c : Ctx K mg) : mg "_law_bits" = some (.ref (He.ga K "_law_bits")) := c.glo 59 rfl
theorem Ctx.mg_law_berths (c : Ctx K mg) : mg "_law_berths" = some (.ref (He.ga K "_law_berths")) := c.glo 60 rfl
theorem Ctx.mg_law_kind_of (c : Ctx K mg) : mg "_law_kind_of" = some (.ref (He.ga K "_law_kind_of")) := c.glo 61 rfl
theorem Ctx.mg_law_layout (c : Ctx K mg) : mg "_law_layout" = some (.ref (He.ga K "_law_layout")) := c.glo 62 rfl
theorem Ctx.mg_law_with (c : Ctx K mg) : mg "_law_with" = some (.ref (He.ga K "_law_with")) := c.glo 63 rfl
theorem Ctx.mg_law_are_alike (c : Ctx K mg) : mg "_law_are_alike" = some (.ref (He.ga K "_law_are_alike")) := c.glo 64 rfl
theorem Ctx.mg_law (c : Ctx K mg) : mg "law" = some (.ref (He.ga K "law")) := c.glo 65 rfl
theorem Ctx.mg_struct (c : Ctx K mg) : mg "struct" = some (.ref (He.ga K "struct")) := c.glo 66 rfl
theorem Ctx.mg_union (c : Ctx K mg) : mg "union" = some (.ref (He.ga K "union")) := c.glo 67 rfl
theorem Ctx.mg_SIZES (c : Ctx K mg) : mg "SIZES" = some (.ref (He.ga K "SIZES")) := c.glo 68 rfl
theorem Ctx.mg_CONVENTIONS (c : Ctx K mg) : mg "CONVENTIONS" = some (.ref (He.ga K "CONVENTIONS")) := c.glo 69 rfl
theorem Ctx.mg_PACKS (c : Ctx K mg) : mg "PACKS" = some (.ref (He.ga K "PACKS")) := c.glo 70 rfl
theorem Ctx.mg_ALIGNS (c : Ctx K mg) : mg "ALIGNS" = some (.ref (He.ga K "ALIGNS")) := c.glo 71 rfl
theorem Ctx.mg_ENDS (c : Ctx K mg) : mg "ENDS" = some (.ref (He.ga K "ENDS")) := c.glo 72 rfl
theorem Ctx.mg_Shape (c : Ctx K mg) : mg "Shape" = some (.ref (He.ga K "Shape")) := c.glo 73 rfl
theorem Ctx.mg_Layout (c : Ctx K mg) : mg "Layout" = some (.ref (He.ga K "Layout")) := c.glo 74 rfl
theorem Ctx.mg_LETTERS (c : Ctx K mg) : ∃ t, mg "LETTERS" = some (.str "abcdefghijklmnopqrstuvwxyzABCDEFGHIJKLMNOPQRSTUVWXYZ_" t) := c.txt 75 rfl
theorem Ctx.mg_DIGITS (c : Ctx K mg) : ∃ t, mg "DIGITS" = some (.str "0123456789" t) := c.txt 76 rfl
theorem Ctx.cl (c : Ctx K mg) : Cls K (cL K) := He.cls_ok (x := "Layout") (c.d.fact 77 rfl)
theorem Ctx.na_rows (c : Ctx K mg) : NoAttr K (cL K) "rows" := He.noat_ok (x := "Layout") (c.d.fact 78 rfl)
theorem Ctx.na_positions (c : Ctx K mg) : NoAttr K (cL K) "positions" := He.noat_ok (x := "Layout") (c.d.fact 79 rfl)
theorem Ctx.na_step (c : Ctx K mg) : NoAttr K (cL K) "step" := He.noat_ok (x := "Layout") (c.d.fact 80 rfl)
theorem Ctx.na_extent (c : Ctx K mg) : NoAttr K (cL K) "extent" := He.noat_ok (x := "Layout") (c.d.fact 81 rfl)
theorem Ctx.na_rule (c : Ctx K mg) : NoAttr K (cL K) "rule" := He.noat_ok (x := "Layout") (c.d.fact 82 rfl)
theorem Ctx.na_order (c : Ctx K mg) : NoAttr K (cL K) "order" := He.noat_ok (x := "Layout") (c.d.fact 83 rfl)
theorem Ctx.m_paths (c : Ctx K mg) : Meth K (cL K) "paths" (He.ma K (cL K) "paths") := He.meth_ok (x := "Layout") (c.d.fact 84 rfl)
theorem Ctx.m_checked_spot (c : Ctx K mg) : Meth K (cL K) "checked_spot" (He.ma K (cL K) "checked_spot") := He.meth_ok (x := "Layout") (c.d.fact 85 rfl)
theorem Ctx.m_berth (c : Ctx K mg) : Meth K (cL K) "berth" (He.ma K (cL K) "berth") := He.meth_ok (x := "Layout") (c.d.fact 86 rfl)
theorem Ctx.m_octet_at (c : Ctx K mg) : Meth K (cL K) "octet_at" (He.ma K (cL K) "octet_at") := He.meth_ok (x := "Layout") (c.d.fact 87 rfl)
theorem Ctx.mkL (c : Ctx K mg) : Mk K (cL K) (He.ma K (cL K) "__init__") := He.mkr_ok (x := "Layout") (c.d.fact 88 rfl)
theorem Ctx.t_SIZES (c : Ctx K mg) (H : Hp) : SqT K H (He.ga K "SIZES") [V.int 1, V.int 2, V.int 4, V.int 8] := He.tupB_ok (He.ba c.tab).1 H
theorem Ctx.t_CONVENTIONS (c : Ctx K mg) (H : Hp) : SqT K H (He.ga K "CONVENTIONS") [V.str "sysv", V.str "msvc"] := He.tupB_ok (He.ba (He.ba c.tab).2).1 H
theorem Ctx.t_PACKS (c : Ctx K mg) (H : Hp) : SqT K H (He.ga K "PACKS") [V.int 1, V.int 2, V.int 4, V.int 8, V.int 16] := He.tupB_ok (He.ba (He.ba (He.ba c.tab).2).2).1 H
theorem Ctx.t_ALIGNS (c : Ctx K mg) (H : Hp) : SqT K H (He.ga K "ALIGNS") [V.int 1, V.int 2, V.int 4, V.int 8, V.int 16, V.int 32] := He.tupB_ok (He.ba (He.ba (He.ba (He.ba c.tab).2).2).2).1 H
theorem Ctx.t_ENDS (c : Ctx K mg) (H : Hp) : SqT K H (He.ga K "ENDS") [V.str "little", V.str "big"] := He.tupB_ok (He.ba (He.ba (He.ba (He.ba c.tab).2).2).2).2 H
theorem Ctx.tupS (c : Ctx K mg) : PySem.W.kitOne K (.type "tuple") (.ref (cS K)) = some false := of_decide_eq_true (He.ba c.cls).1
theorem Ctx.layS (c : Ctx K mg) : PySem.W.kitOne K (.ref (cL K)) (.ref (cS K)) = some true := of_decide_eq_true (He.ba (He.ba c.cls).2).1
theorem Ctx.tyL (c : Ctx K mg) {H : Hp} {a dx : Addr} {fs : List (Str × V)} (e : H a = some (.ins (cL K) dx fs)) : TyX K H (.ref a) (.ref (cL K)) := by
  obtain ⟨_, h⟩ := He.ba c.cls
  obtain ⟨_, h⟩ := He.ba h
  obtain ⟨h1, h⟩ := He.ba h
  obtain ⟨h2, h⟩ := He.ba h
  obtain ⟨h3, h4⟩ := He.ba h
  exact .base (.ins e c.cl (He.eqO_ok h1) (He.eqO_ok h2) (of_decide_eq_true h3) (of_decide_eq_true h4))
theorem Ctx.prop (c : Ctx K mg) {d : He.DefD} (hd : d ∈ gets) : PropOf K (cL K) d.name (He.ma K (cL K) d.name) (gAd K d.name) := by
  have h := List.all_eq_true.mp (He.ba (He.ba (He.ba c.x).2).2).1 d hd
  obtain ⟨h1, h⟩ := He.ba h
  obtain ⟨h2, h⟩ := He.ba h
  obtain ⟨h3, h4⟩ := He.ba h
  refine ⟨He.eqO_ok h1, He.eqO_ok h2, of_decide_eq_true h3, ?_⟩
  unfold gAd
  split at h4
  · rename_i g rest e
    exact ⟨rest, by rw [e]⟩
  · cases h4
theorem Ctx.getter (c : Ctx K mg) (i : Nat) {d : He.DefD} (hd : gets[i]? = some d) (h0 : d.dfl = [] := by rfl) (h1 : d.kwd = [] := by rfl) : ∃ fd, FunD K d.name d.qual d.params d.body d.scope [] [] (gAd K d.name) fd := by
  have g := List.all_eq_true.mp (He.ba (He.ba (He.ba c.x).2).2).2 d (List.mem_of_getElem? hd)
  have e : gets.map (fun d => getW K d) = gets.map He.DefD.val := congrArg (fun z : AlM => z.2.2) c.says
  have e2 : getW K d = d.val := by
    have e3 : (gets.map (fun d => getW K d))[i]? = (gets.map He.DefD.val)[i]? := by rw [e]
    rw [List.getElem?_map, List.getElem?_map, hd] at e3
    exact Option.some.inj e3
  unfold getB at g
  unfold getW at e2
  obtain ⟨kp, g⟩ := He.ba g
  cases q : K.lookup (gAd K d.name) with
  | none => exact absurd g (by rw [q]; exact Bool.false_ne_true)
  | some o =>
    obtain ⟨oc, od, dt, osl⟩ := o
    rw [q] at g e2
    cases dt with
    | func fd =>
      obtain ⟨n1, n2, n3, n4, n5, n6, n7, n8, n9, n10, n11, n12, n13, n14, n15⟩ := fd
      obtain ⟨k1, g⟩ := He.ba (show (PySem.W.codeIn K n13 d.qual && (He.dflB K n8 [] && He.kwdB K n9 [])) = true from g)
      obtain ⟨k2, k3⟩ := He.ba g
      have e4 : (some (n1, n2, n3, n4, n5, n6, n7, n15) : He.FnW) = some (d.name, d.qual, d.params, .stmts d.body, d.scope, mainGlobals, [], builtinsNs) := e2
      simp only [Option.some.injEq, Prod.mk.injEq] at e4
      obtain ⟨h1, h2, h3, h4, h5, h6, h7, h8⟩ := e4
      subst h1 h2 h3 h4 h5 h6 h7 h8
      exact ⟨_, ⟨oc, od, n8, n9, n10, n11, n12, n13, n14, osl, rfl, q, k1, He.dflB_ok k2, He.kwdB_ok k3⟩, kp⟩
    | _ => cases g
theorem Ctx.has (c : Ctx K mg) (i : Nat) {d : He.DefD} {x : Str} {st : Stmt} (h : fns[i]? = some d) (hd : d = ⟨(x, none), x, x, defArgs st, defBody st, defScope st, [], []⟩) (hm : mg x = some (.ref (He.ga K x))) : HasDef K mg x st := by
  obtain ⟨fd, F⟩ := c.d.def_ i h
  subst hd
  exact ⟨_, fd, F, hm⟩
theorem Ctx.h_is_integer (c : Ctx K mg) : HasDef K mg "is_integer" (top 12) := c.has 0 rfl rfl c.mg_is_integer
theorem Ctx.h_is_row (c : Ctx K mg) : HasDef K mg "is_row" (top 13) := c.has 1 rfl rfl c.mg_is_row
theorem Ctx.h_is_number_of (c : Ctx K mg) : HasDef K mg "is_number_of" (top 14) := c.has 2 rfl rfl c.mg_is_number_of
theorem Ctx.h_is_integer_kind (c : Ctx K mg) : HasDef K mg "is_integer_kind" (top 15) := c.has 3 rfl rfl c.mg_is_integer_kind
theorem Ctx.h_is_array_kind (c : Ctx K mg) : HasDef K mg "is_array_kind" (top 16) := c.has 4 rfl rfl c.mg_is_array_kind
theorem Ctx.h_checked_kind (c : Ctx K mg) : HasDef K mg "checked_kind" (top 17) := c.has 5 rfl rfl c.mg_checked_kind
theorem Ctx.h_size_of (c : Ctx K mg) : HasDef K mg "size_of" (top 18) := c.has 6 rfl rfl c.mg_size_of
theorem Ctx.h_alignment_of (c : Ctx K mg) : HasDef K mg "alignment_of" (top 19) := c.has 7 rfl rfl c.mg_alignment_of
theorem Ctx.h_is_word_of (c : Ctx K mg) : HasDef K mg "is_word_of" (top 27) := c.has 8 rfl rfl c.mg_is_word_of
theorem Ctx.h_checked_options (c : Ctx K mg) : HasDef K mg "checked_options" (top 28) := c.has 9 rfl rfl c.mg_checked_options
theorem Ctx.h_is_name (c : Ctx K mg) : HasDef K mg "is_name" (top 29) := c.has 10 rfl rfl c.mg_is_name
theorem Ctx.h_checked_member (c : Ctx K mg) : HasDef K mg "checked_member" (top 30) := c.has 11 rfl rfl c.mg_checked_member
theorem Ctx.h_checked_members (c : Ctx K mg) : HasDef K mg "checked_members" (top 31) := c.has 12 rfl rfl c.mg_checked_members
theorem Ctx.h_checked_names (c : Ctx K mg) : HasDef K mg "checked_names" (top 32) := c.has 13 rfl rfl c.mg_checked_names
theorem Ctx.h_names_of (c : Ctx K mg) : HasDef K mg "names_of" (top 33) := c.has 14 rfl rfl c.mg_names_of
theorem Ctx.h_up (c : Ctx K mg) : HasDef K mg "up" (top 35) := c.has 15 rfl rfl c.mg_up
theorem Ctx.h_step_of (c : Ctx K mg) : HasDef K mg "step_of" (top 36) := c.has 16 rfl rfl c.mg_step_of
theorem Ctx.h_msvc_structure (c : Ctx K mg) : HasDef K mg "msvc_structure" (top 38) := c.has 17 rfl rfl c.mg_msvc_structure
theorem Ctx.h_msvc_union (c : Ctx K mg) : HasDef K mg "msvc_union" (top 39) := c.has 18 rfl rfl c.mg_msvc_union
theorem Ctx.h_row_named (c : Ctx K mg) : HasDef K mg "row_named" (top 41) := c.has 19 rfl rfl c.mg_row_named
theorem Ctx.h_step_from (c : Ctx K mg) : HasDef K mg "step_from" (top 42) := c.has 20 rfl rfl c.mg_step_from
theorem Ctx.h_lead (c : Ctx K mg) : HasDef K mg "lead" (top 43) := c.has 21 rfl rfl c.mg_lead
theorem Ctx.h_spot_of (c : Ctx K mg) : HasDef K mg "spot_of" (top 44) := c.has 22 rfl rfl c.mg_spot_of
theorem Ctx.h_is_number_kind (c : Ctx K mg) : HasDef K mg "is_number_kind" (top 45) := c.has 23 rfl rfl c.mg_is_number_kind
theorem Ctx.h_bit_at (c : Ctx K mg) : HasDef K mg "bit_at" (top 46) := c.has 24 rfl rfl c.mg_bit_at
theorem Ctx.h_bits_at (c : Ctx K mg) : HasDef K mg "bits_at" (top 47) := c.has 25 rfl rfl c.mg_bits_at
theorem Ctx.h_all_paths (c : Ctx K mg) : HasDef K mg "all_paths" (top 48) := c.has 26 rfl rfl c.mg_all_paths
theorem Ctx.h_is_moved (c : Ctx K mg) : HasDef K mg "is_moved" (top 50) := c.has 27 rfl rfl c.mg_is_moved
theorem Ctx.h_counts (c : Ctx K mg) : HasDef K mg "counts" (top 51) := c.has 28 rfl rfl c.mg_counts
theorem Ctx.h_sysv_structure (c : Ctx K mg) : HasDef K mg "sysv_structure" (top 52) := c.has 29 rfl rfl c.mg_sysv_structure
theorem Ctx.h_sysv_union (c : Ctx K mg) : HasDef K mg "sysv_union" (top 53) := c.has 30 rfl rfl c.mg_sysv_union
theorem Ctx.h_layout_of (c : Ctx K mg) : HasDef K mg "layout_of" (top 56) := c.has 31 rfl rfl c.mg_layout_of
theorem Ctx.h_law_draw (c : Ctx K mg) : HasDef K mg "_law_draw" (top 60) := c.has 32 rfl rfl c.mg_law_draw
theorem Ctx.h_law_pick (c : Ctx K mg) : HasDef K mg "_law_pick" (top 61) := c.has 33 rfl rfl c.mg_law_pick
theorem Ctx.h_law_same (c : Ctx K mg) : HasDef K mg "_law_same" (top 62) := c.has 34 rfl rfl c.mg_law_same
theorem Ctx.h_law_number_kind (c : Ctx K mg) : HasDef K mg "_law_number_kind" (top 63) := c.has 35 rfl rfl c.mg_law_number_kind
theorem Ctx.h_law_member (c : Ctx K mg) : HasDef K mg "_law_member" (top 65) := c.has 36 rfl rfl c.mg_law_member
theorem Ctx.h_law_plan (c : Ctx K mg) : HasDef K mg "_law_plan" (top 66) := c.has 37 rfl rfl c.mg_law_plan
theorem Ctx.h_law_fits (c : Ctx K mg) : HasDef K mg "_law_fits" (top 67) := c.has 38 rfl rfl c.mg_law_fits
theorem Ctx.h_law_next (c : Ctx K mg) : HasDef K mg "_law_next" (top 68) := c.has 39 rfl rfl c.mg_law_next
theorem Ctx.h_law_size (c : Ctx K mg) : HasDef K mg "_law_size" (top 69) := c.has 40 rfl rfl c.mg_law_size
theorem Ctx.h_law_step (c : Ctx K mg) : HasDef K mg "_law_step" (top 70) := c.has 41 rfl rfl c.mg_law_step
theorem Ctx.h_law_sysv (c : Ctx K mg) : HasDef K mg "_law_sysv" (top 71) := c.has 42 rfl rfl c.mg_law_sysv
theorem Ctx.h_law_laid (c : Ctx K mg) : HasDef K mg "_law_laid" (top 74) := c.has 43 rfl rfl c.mg_law_laid
theorem Ctx.h_law_bits (c : Ctx K mg) : HasDef K mg "_law_bits" (top 75) := c.has 44 rfl rfl c.mg_law_bits
theorem Ctx.h_law_berths (c : Ctx K mg) : HasDef K mg "_law_berths" (top 76) := c.has 45 rfl rfl c.mg_law_berths
theorem Ctx.h_law_kind_of (c : Ctx K mg) : HasDef K mg "_law_kind_of" (top 77) := c.has 46 rfl rfl c.mg_law_kind_of
theorem Ctx.h_law_layout (c : Ctx K mg) : HasDef K mg "_law_layout" (top 78) := c.has 47 rfl rfl c.mg_law_layout
theorem Ctx.h_law_with (c : Ctx K mg) : HasDef K mg "_law_with" (top 79) := c.has 48 rfl rfl c.mg_law_with
theorem Ctx.h_law_are_alike (c : Ctx K mg) : HasDef K mg "_law_are_alike" (top 80) := c.has 49 rfl rfl c.mg_law_are_alike
theorem Ctx.h_law (c : Ctx K mg) : HasDef K mg "law" (top 81) := c.has 50 rfl rfl c.mg_law
end
end K32
/-! D1: kinds: what a kind is in the heap; the small defs of fieldberth.kinds. -/
namespace K32
open PySem PySem.Spec PyProof.Rows L2

/-! ### kinds -/
inductive Kd where
  | int (n : Int) (s : Bool)
  | arr (k : Kd) (m : Nat)
def okN (n : Int) : Prop := n = 1 ∨ n = 2 ∨ n = 4 ∨ n = 8
def Kd.ok : Nat → Kd → Prop
  | 0, _ => False
  | _ + 1, .int n _ => okN n
  | d + 1, .arr k m => k.ok d ∧ m ≤ 3
def Kd.size : Kd → Int
  | .int n _ => n
  | .arr k m => (m : Int) * k.size
def Kd.step : Kd → Int
  | .int n _ => n
  | .arr k _ => k.step
def KdAt (H : Hp) (v : V) : Kd → Prop
  | .int n s => ∃ a, v = .ref a ∧ H a = some (.tup [.str "int", .int n, .bl s])
  | .arr k m => ∃ a u, v = .ref a ∧ H a = some (.tup [.str "array", u, .int m]) ∧ KdAt H u k
theorem KdAt.mono {H H' : Hp} (e : Ex H H') : ∀ {k : Kd} {v : V}, KdAt H v k → KdAt H' v k
  | .int _ _, _, ⟨a, h1, h2⟩ => ⟨a, h1, e _ _ h2⟩
  | .arr _ _, _, ⟨a, u, h1, h2, h3⟩ => ⟨a, u, h1, e _ _ h2, KdAt.mono e h3⟩
/-- a kind is a tuple of three -/
theorem KdAt.tup {H : Hp} {k : Kd} {v : V} (h : KdAt H v k) : ∃ a x y z, v = .ref a ∧ H a = some (.tup [.str x, y, z]) := by
  cases k with
  | int n s => obtain ⟨a, h1, h2⟩ := h; exact ⟨a, _, _, _, h1, h2⟩
  | arr k m => obtain ⟨a, u, h1, h2, _⟩ := h; exact ⟨a, _, _, _, h1, h2⟩
theorem Kd.ok.step_pos : ∀ {d : Nat} {k : Kd}, k.ok d → 0 < k.step ∧ k.step ≤ 8
  | 0, _, h => h.elim
  | _ + 1, .int n _, h => by
    show 0 < n ∧ n ≤ 8
    have h : okN n := h
    unfold okN at h
    omega
  | d + 1, .arr k m, h => Kd.ok.step_pos (d := d) (k := k) h.1
theorem Kd.ok.size_pos : ∀ {d : Nat} {k : Kd}, k.ok d → 0 ≤ k.size ∧ k.size ≤ 8 * 3 ^ d
  | 0, _, h => h.elim
  | d + 1, .int n _, h => by
    have h : okN n := h
    have p : (1 : Int) ≤ 3 ^ (d + 1) := Int.pow_pos (by decide)
    show 0 ≤ n ∧ n ≤ 8 * 3 ^ (d + 1)
    unfold okN at h
    omega
  | d + 1, .arr k m, h => by
    obtain ⟨h1, h2⟩ := (show k.ok d ∧ m ≤ 3 from h)
    obtain ⟨p, q⟩ := Kd.ok.size_pos (d := d) (k := k) h1
    have hm : (m : Int) ≤ 3 := by omega
    have h0 : (0 : Int) ≤ m := by omega
    have e : (3 : Int) ^ (d + 1) = 3 * 3 ^ d := by rw [Int.pow_succ]; omega
    show 0 ≤ (m : Int) * k.size ∧ (m : Int) * k.size ≤ 8 * 3 ^ (d + 1)
    refine ⟨Int.mul_nonneg h0 p, ?_⟩
    rw [e]
    have h3 := Int.mul_le_mul hm q p (by decide : (0 : Int) ≤ 3)
    omega
theorem Kd.ok.up : ∀ {d : Nat} {k : Kd}, k.ok d → k.ok (d + 1)
  | 0, _, h => h.elim
  | _ + 1, .int _ _, h => h
  | d + 1, .arr k _, h => ⟨Kd.ok.up (d := d) (k := k) h.1, h.2⟩

/-- None or an int -/
def oV : Option Int → V
  | none => .non
  | some i => .int i
theorem oV_n : oV none = .non := rfl
theorem oV_s {i : Int} : oV (some i) = .int i := rfl
/-! ### readings -/
theorem cast_lit (n : Nat) : ((no_index (OfNat.ofNat n) : Nat) : Int) = (OfNat.ofNat n : Int) := rfl
theorem sc_ii {a b : Int} : scal (.int a) (.int b) = true := rfl
theorem sc_ss {a b : Str} : scal (.str a) (.str b) = true := rfl
theorem sc_ni {a : Int} : scal .non (.int a) = true := rfl
theorem sc_in {a : Int} : scal (.int a) .non = true := rfl
theorem sc_sn {a : Str} : scal (.str a) .non = true := rfl
theorem sc_ns {a : Str} : scal .non (.str a) = true := rfl
theorem sc_bb {a b : Bool} : scal (.bl a) (.bl b) = true := rfl
theorem ne_ia : ¬ (("int" : Str) = "array") := by decide +kernel
theorem ne_ai : ¬ (("array" : Str) = "int") := by decide +kernel
theorem ne_ia' : (("int" : Str) = "array") = False := eq_false ne_ia
theorem ne_ai' : (("array" : Str) = "int") = False := eq_false ne_ai
theorem cxK {CX : CXT} {P : Program} {w : World} {K : PySem.W.Frag} {mg : Str → Option Value} {base : Heap} {N : List Str} {q : Str} {sc : Scope} {f : Addr} {cd : Value} {A : Around} {o : List Env} {s : Shared} {H : Hp} {E : XK} : (cxOf CX P w K mg base N q sc f cd A o s H E).K = K := rfl
theorem isi_ty {K : PySem.W.Frag} {H : Hp} {Q : VK} {x : V} {t n : String} {b : Bool} (ty : TyX K H x (.type t)) (h : kitB t n = some b) (q : Q (.bl b) H) : rIsi K [x, .ty n] H Q :=
  ⟨x, .ty n, .type t, .type n, b, rfl, .ty n, ty, kit_ty h, q⟩
theorem isi_shapeT {K : PySem.W.Frag} {mg : Str → Option Value} (c : Ctx K mg) {H : Hp} {Q : VK} {a : Addr} {xs : List V} (h : H a = some (.tup xs)) (q : Q (.bl false) H) : rIsi K [.ref a, .ref (cS K)] H Q :=
  ⟨_, _, _, _, false, rfl, .own _, .base (.tup h), c.tupS, q⟩
theorem isi_shapeL {K : PySem.W.Frag} {mg : Str → Option Value} (c : Ctx K mg) {H : Hp} {Q : VK} {a dx : Addr} {fs : List (Str × V)} (h : H a = some (.ins (cL K) dx fs)) (q : Q (.bl true) H) : rIsi K [.ref a, .ref (cS K)] H Q :=
  ⟨_, _, _, _, true, rfl, .own _, c.tyL h, c.layS, q⟩
theorem ix_t {K : PySem.W.Frag} {H : Hp} {Q : VK} {a : Addr} {xs : List V} {j : Nat} {v : V} (h : SqT K H a xs) (hv : xs[j]? = some v) (q : Q v H) : rIxT K (.ref a) (.int (j : Int)) H Q := ⟨a, xs, j, v, rfl, rfl, h, atI_nat hv, q⟩
theorem ix_0 {K : PySem.W.Frag} {H : Hp} {Q : VK} {a : Addr} {x : V} {xs : List V} (h : H a = some (.tup (x :: xs))) (q : Q x H) : rIxT K (.ref a) (.int 0) H Q := ix_t (j := 0) (SqT.of h) rfl q
theorem ix_1 {K : PySem.W.Frag} {H : Hp} {Q : VK} {a : Addr} {x y : V} {xs : List V} (h : H a = some (.tup (x :: y :: xs))) (q : Q y H) : rIxT K (.ref a) (.int 1) H Q := ix_t (j := 1) (SqT.of h) rfl q
theorem ix_2 {K : PySem.W.Frag} {H : Hp} {Q : VK} {a : Addr} {x y z : V} {xs : List V} (h : H a = some (.tup (x :: y :: z :: xs))) (q : Q z H) : rIxT K (.ref a) (.int 2) H Q := ix_t (j := 2) (SqT.of h) rfl q
theorem ix_3 {K : PySem.W.Frag} {H : Hp} {Q : VK} {a : Addr} {x y z u : V} {xs : List V} (h : H a = some (.tup (x :: y :: z :: u :: xs))) (q : Q u H) : rIxT K (.ref a) (.int 3) H Q := ix_t (j := 3) (SqT.of h) rfl q

/-! one look: what stands written is read -/
local macro_rules | `(tactic| lk) => `(tactic| try simp only [tCB, tCons, tNil, tC, tVar, tOp, tUn, tTest, tB, tNot, tAndV, tOrV, tNotV, tAnd, tOr, tRet, tSeq, tAsg, gName, tDrop, tNext, tIfS, tIf, tCall, tCmp, rI0, rI, rEq, rNe, tPar, tPar3, tTup, tLst,
  tDGet, tSl, tPart, tNoPart, sDPut, tDisp, tPairs, tLstRg, tRg2, tCallN, tRevL, sFld, tFld, tMeth, tProp, tMake, tBM, tBM0, tNevE, tNever, tRetN, tBreak, tCont, gCons, gNil, gSub, tAug, ipI, wipe, iList, iTup, iRng1, iRng2, iStr, iEnum, RZ.iZipA, rU,
  L2.start, List.map_cons, List.map_nil, List.length_cons, List.length_nil, Nat.reduceAdd, Nat.reduceSub, List.replicate_succ, List.replicate_zero, List.cons_append, List.nil_append, List.append_nil,
  List.getElem?_cons_zero, List.getElem?_cons_succ, List.set_cons_zero, List.set_cons_succ, List.cons.injEq, Option.some.injEq, V.int.injEq, V.bl.injEq, V.str.injEq, V.ref.injEq, exists_eq_left', exists_eq_left, exists_eq', exists_and_left, and_assoc, true_and, and_true,
  if_true, Bool.false_eq_true, if_false, sc_ii, sc_ss, sc_ni, sc_in, sc_sn, sc_ns, sc_bb, eq_self, decide_eq_true_eq, Bool.not_eq_true', decide_eq_false_iff_not, ite_not, ne_ia', ne_ai', Int.reduceEq, Int.reduceLT, Int.reduceLE, reduceCtorEq, decide_true, decide_false, Bool.not_true, Bool.not_false, cxK, oV_n, oV_s, cast_lit])
section
variable {P : Program} {w : World} {K : PySem.W.Frag} {mg : Str → Option Value} {base : Heap}
abbrev spIs : Sp := fun vs H Q _ => ∃ i : Int, vs = [.int i] ∧ Q (.bl true) H
abbrev s_is_integer : Stmt := top 12
abbrev N_is_integer : List Str := ["thing"]
abbrev P_is_integer : List Str := ["thing"]
theorem sc_is_integer : FnScope N_is_integer P_is_integer (defScope s_is_integer) := ⟨rfl, rfl, rfl, by decide +kernel, rfl, by decide +kernel, by decide +kernel⟩
theorem bb_is_integer : BindsBy "is_integer" s_is_integer P_is_integer := fun _ _ _ _ _ _ us hl => match us, hl with | [_], _ => rfl
theorem ok_is_integer (c : Ctx K mg) : Df P w K mg base "is_integer" 1 P_is_integer spIs := by
  refine Df.of c.h_is_integer sc_is_integer bb_is_integer (fun vs H Q E h => ?_) (fun f cdv A outer s H vs Q E hr h => ?_)
  · obtain ⟨i, rfl, _⟩ := h
    rfl
  · obtain ⟨i, rfl, k⟩ := h
    -- 0 thing
    refine ⟨_, (pss_one (ps_ret (pe_and (pe_callB call_isi (by rfl) c.no_isinstance (by decide +kernel) (pa_cons (pv 0) (pa_cons (pe_bltn (v := .ty "int") (by rfl) c.no_int (by decide +kernel) rfl) pa_nil))) (pe_one (pe_not (pe_callB call_isi (by rfl) c.no_isinstance (by decide +kernel) (pa_cons (pv 0) (pa_cons (pe_bltn (v := .ty "bool") (by rfl) c.no_bool (by decide +kernel) rfl) pa_nil)))))))), ?_⟩
    lk
    refine isi_ty (.base (.int _)) (b := true) (by decide +kernel) ?_
    lk
    refine isi_ty (.base (.int _)) (b := false) (by decide +kernel) ?_
    lk
    exact k
/-- a tuple, told as one: the heap grows -/
abbrev spRow : Sp := fun vs H Q _ => ∃ a xs, vs = [.ref a] ∧ H a = some (.tup xs) ∧ ∀ H', Ex H H' → Q (.bl true) H'
abbrev s_is_row : Stmt := top 13
abbrev N_is_row : List Str := ["thing"]
abbrev P_is_row : List Str := ["thing"]
theorem sc_is_row : FnScope N_is_row P_is_row (defScope s_is_row) := ⟨rfl, rfl, rfl, by decide +kernel, rfl, by decide +kernel, by decide +kernel⟩
theorem bb_is_row : BindsBy "is_row" s_is_row P_is_row := fun _ _ _ _ _ _ us hl => match us, hl with | [_], _ => rfl
theorem ok_is_row (c : Ctx K mg) : Df P w K mg base "is_row" 1 P_is_row spRow := by
  refine Df.of c.h_is_row sc_is_row bb_is_row (fun vs H Q E h => ?_) (fun f cdv A outer s H vs Q E hr h => ?_)
  · obtain ⟨a, xs, rfl, _⟩ := h
    rfl
  · obtain ⟨a, xs, rfl, ha, k⟩ := h
    -- 0 thing
    refine ⟨_, (pss_one (ps_ret (pe_callB call_isiT (by rfl) c.no_isinstance (by decide +kernel) (pa_cons (pv 0) (pa_cons (pe_tup (pa_cons (pe_bltn (v := .ty "list") (by rfl) c.no_list (by decide +kernel) rfl) (pa_cons (pe_bltn (v := .ty "tuple") (by rfl) c.no_tuple (by decide +kernel) rfl) pa_nil))) pa_nil))))), ?_⟩
    lk
    refine ⟨by decide, fun p hp => ?_⟩
    refine ⟨_, p, _, .type "tuple", [.type "list", .type "tuple"], true, rfl, upd_same, .cons (.ty _) (.cons (.ty _) .nil), .base (.tup (Ex.new hp a _ ha)), ?_, k _ (Ex.new hp)⟩
    exact kitAny_cons (b := false) (kit_ty (by decide +kernel)) (fun _ => kitAny_cons (b := true) (kit_ty (by decide +kernel)) (fun z => nomatch z) fun _ => rfl) (fun z => nomatch z)
abbrev spNum : PySem.W.Frag → Sp := fun K vs H Q _ => ∃ (i : Int) (a : Addr) (xs : List V), vs = [.int i, .ref a] ∧ (∀ H, SqT K H a xs) ∧ xs.all flatV = true ∧ inV (.int i) xs = true ∧ Q (.bl true) H
abbrev s_is_number_of : Stmt := top 14
abbrev N_is_number_of : List Str := ["thing", "some"]
abbrev P_is_number_of : List Str := ["thing", "some"]
theorem sc_is_number_of : FnScope N_is_number_of P_is_number_of (defScope s_is_number_of) := ⟨rfl, rfl, rfl, by decide +kernel, rfl, by decide +kernel, by decide +kernel⟩
theorem bb_is_number_of : BindsBy "is_number_of" s_is_number_of P_is_number_of := fun _ _ _ _ _ _ us hl => match us, hl with | [_, _], _ => rfl
theorem ok_is_number_of (c : Ctx K mg) : Df P w K mg base "is_number_of" 2 P_is_number_of (spNum K) := by
  have D_is_integer := ok_is_integer (P := P) (w := w) (base := base) c
  refine Df.of c.h_is_number_of sc_is_number_of bb_is_number_of (fun vs H Q E h => ?_) (fun f cdv A outer s H vs Q E hr h => ?_)
  · obtain ⟨i, a, xs, rfl, _⟩ := h
    rfl
  · obtain ⟨i, a, xs, rfl, hs, hf, hi, k⟩ := h
    -- 0 thing, 1 some
    refine ⟨_, (pss_one (ps_ret (pe_and (pe_df D_is_integer (hr.mono (by omega)) (by rfl) (pa_cons (pv 0) pa_nil)) (pe_one (pe_cmpR op_in_seq (pv 0) (pv 1) rfl))))), ?_⟩
    lk
    refine ⟨i, rfl, ?_⟩
    lk
    refine ⟨a, xs, rfl, .inr (hs _), rfl, hf, ?_⟩
    show Q (.bl (inV (.int i) xs)) H
    rw [hi]
    exact k
/-! ### kinds looked at -/
def Kd.isI : Kd → Bool
  | .int _ _ => true
  | _ => false
theorem inV_sizes {n : Int} (h : okN n) : inV (.int n) [.int 1, .int 2, .int 4, .int 8] = true := by
  rcases h with rfl | rfl | rfl | rfl <;> decide
abbrev spIK : Sp := fun vs H Q _ => ∃ v kd d, vs = [v] ∧ KdAt H v kd ∧ kd.ok d ∧ ∀ H', Ex H H' → Q (.bl kd.isI) H'
abbrev s_is_integer_kind : Stmt := top 15
abbrev N_is_integer_kind : List Str := ["kind"]
abbrev P_is_integer_kind : List Str := ["kind"]
theorem sc_is_integer_kind : FnScope N_is_integer_kind P_is_integer_kind (defScope s_is_integer_kind) := ⟨rfl, rfl, rfl, by decide +kernel, rfl, by decide +kernel, by decide +kernel⟩
theorem bb_is_integer_kind : BindsBy "is_integer_kind" s_is_integer_kind P_is_integer_kind := fun _ _ _ _ _ _ us hl => match us, hl with | [_], _ => rfl
theorem ok_is_integer_kind (c : Ctx K mg) : Df P w K mg base "is_integer_kind" 3 P_is_integer_kind spIK := by
  have D_is_row := ok_is_row (P := P) (w := w) (base := base) c
  have D_is_number_of := ok_is_number_of (P := P) (w := w) (base := base) c
  refine Df.of c.h_is_integer_kind sc_is_integer_kind bb_is_integer_kind (fun vs H Q E h => ?_) (fun f cdv A outer s H vs Q E hr h => ?_)
  · obtain ⟨v, kd, d, rfl, _⟩ := h
    rfl
  · obtain ⟨v, kd, d, rfl, hv, hk, k⟩ := h
    -- 0 kind
    refine ⟨_, (pss_cons (ps_if (PW.pt (pw_or (pt_not (pt_val (pe_df D_is_row (hr.mono (by omega)) (by rfl) (pa_cons (pv 0) pa_nil)))) (pw_or (pt_cmpR op_ne (pe_callB call_len_seq (by rfl) c.no_len PySem.boot_len (pa_cons (pv 0) pa_nil)) pe_int (nomark _)) (pw_or (pt_not (pt_val (pe_callB call_isi (by rfl) c.no_isinstance (by decide +kernel) (pa_cons (pe_ix ix_tup (pv 0) pe_int (fun _ _ => rfl)) (pa_cons (pe_bltn (v := .ty "str") (by rfl) c.no_str (by decide +kernel) rfl) pa_nil))))) (pw_or1 (pt_cmpR op_ne (pe_ix ix_tup (pv 0) pe_int (fun _ _ => rfl)) pe_str (nomark _))))))) (pss_one (ps_ret pe_bl)) pss_nil)
        (pss_one (ps_ret (pe_and (pe_df D_is_number_of (hr.mono (by omega)) (by rfl) (pa_cons (pe_ix ix_tup (pv 0) pe_int (fun _ _ => rfl)) (pa_cons (pe_glob (v := .ref _) rfl c.mg_SIZES rfl) pa_nil))) (pe_one (pe_callB call_isi (by rfl) c.no_isinstance (by decide +kernel) (pa_cons (pe_ix ix_tup (pv 0) pe_int (fun _ _ => rfl)) (pa_cons (pe_bltn (v := .ty "bool") (by rfl) c.no_bool (by decide +kernel) rfl) pa_nil)))))))), ?_⟩
    cases kd with
    | int n z =>
      obtain ⟨a, rfl, ha⟩ := hv
      lk
      refine ⟨a, _, rfl, ha, fun H1 e1 => ?_⟩
      have h1 := e1 _ _ ha
      lk
      refine ⟨_, .inr (SqT.of h1), ?_⟩
      lk
      refine ix_0 h1 ?_
      lk
      refine isi_ty (.base (.str _)) (b := true) (by decide +kernel) ?_
      lk
      refine ix_0 h1 ?_
      lk
      refine ix_1 h1 ?_
      lk
      refine ⟨n, _, _, rfl, c.t_SIZES, by decide, inV_sizes (by cases d <;> first | exact hk.elim | exact hk), ?_⟩
      lk
      refine ix_2 h1 ?_
      lk
      exact isi_ty (.base (.bl _)) (b := true) (by decide +kernel) (k H1 e1)
    | arr kd m =>
      obtain ⟨a, u, rfl, ha, _⟩ := hv
      lk
      refine ⟨a, _, rfl, ha, fun H1 e1 => ?_⟩
      have h1 := e1 _ _ ha
      lk
      refine ⟨_, .inr (SqT.of h1), ?_⟩
      lk
      refine ix_0 h1 ?_
      lk
      refine isi_ty (.base (.str _)) (b := true) (by decide +kernel) ?_
      lk
      refine ix_0 h1 ?_
      lk
      exact k H1 e1
abbrev spAK : Sp := fun vs H Q _ => ∃ v kd m, vs = [v] ∧ KdAt H v (.arr kd m) ∧ ∀ H', Ex H H' → Q (.bl true) H'
abbrev s_is_array_kind : Stmt := top 16
abbrev N_is_array_kind : List Str := ["kind"]
abbrev P_is_array_kind : List Str := ["kind"]
theorem sc_is_array_kind : FnScope N_is_array_kind P_is_array_kind (defScope s_is_array_kind) := ⟨rfl, rfl, rfl, by decide +kernel, rfl, by decide +kernel, by decide +kernel⟩
theorem bb_is_array_kind : BindsBy "is_array_kind" s_is_array_kind P_is_array_kind := fun _ _ _ _ _ _ us hl => match us, hl with | [_], _ => rfl
theorem ok_is_array_kind (c : Ctx K mg) : Df P w K mg base "is_array_kind" 2 P_is_array_kind spAK := by
  have D_is_row := ok_is_row (P := P) (w := w) (base := base) c
  have D_is_integer := ok_is_integer (P := P) (w := w) (base := base) c
  refine Df.of c.h_is_array_kind sc_is_array_kind bb_is_array_kind (fun vs H Q E h => ?_) (fun f cdv A outer s H vs Q E hr h => ?_)
  · obtain ⟨v, kd, m, rfl, _⟩ := h
    rfl
  · obtain ⟨v, kd, m, rfl, hv, k⟩ := h
    -- 0 kind
    refine ⟨_, (pss_cons (ps_if (PW.pt (pw_or (pt_not (pt_val (pe_df D_is_row (hr.mono (by omega)) (by rfl) (pa_cons (pv 0) pa_nil)))) (pw_or (pt_cmpR op_ne (pe_callB call_len_seq (by rfl) c.no_len PySem.boot_len (pa_cons (pv 0) pa_nil)) pe_int (nomark _)) (pw_or (pt_not (pt_val (pe_callB call_isi (by rfl) c.no_isinstance (by decide +kernel) (pa_cons (pe_ix ix_tup (pv 0) pe_int (fun _ _ => rfl)) (pa_cons (pe_bltn (v := .ty "str") (by rfl) c.no_str (by decide +kernel) rfl) pa_nil))))) (pw_or1 (pt_cmpR op_ne (pe_ix ix_tup (pv 0) pe_int (fun _ _ => rfl)) pe_str (nomark _))))))) (pss_one (ps_ret pe_bl)) pss_nil)
        (pss_one (ps_ret (pe_and (pe_df D_is_integer (hr.mono (by omega)) (by rfl) (pa_cons (pe_ix ix_tup (pv 0) pe_int (fun _ _ => rfl)) pa_nil)) (pe_one (pe_cmpR op_ge (pe_ix ix_tup (pv 0) pe_int (fun _ _ => rfl)) pe_int (nomark _))))))), ?_⟩
    obtain ⟨a, u, rfl, ha, _⟩ := hv
    lk
    refine ⟨a, _, rfl, ha, fun H1 e1 => ?_⟩
    have h1 := e1 _ _ ha
    lk
    refine ⟨_, .inr (SqT.of h1), ?_⟩
    lk
    refine ix_0 h1 ?_
    lk
    refine isi_ty (.base (.str _)) (b := true) (by decide +kernel) ?_
    lk
    refine ix_0 h1 ?_
    lk
    refine ix_2 h1 ?_
    lk
    refine ⟨_, rfl, ?_⟩
    lk
    refine ix_2 h1 ?_
    lk
    rw [decide_eq_true (by omega)]
    exact k H1 e1
abbrev spCK (d : Nat) : Sp := fun vs H Q _ => ∃ v kd, vs = [v] ∧ KdAt H v kd ∧ kd.ok d ∧ ∀ v' H', Ex H H' → KdAt H' v' kd → Q v' H'
abbrev s_checked_kind : Stmt := top 17
abbrev N_checked_kind : List Str := ["kind"]
abbrev P_checked_kind : List Str := ["kind"]
theorem sc_checked_kind : FnScope N_checked_kind P_checked_kind (defScope s_checked_kind) := ⟨rfl, rfl, rfl, by decide +kernel, rfl, by decide +kernel, by decide +kernel⟩
theorem bb_checked_kind : BindsBy "checked_kind" s_checked_kind P_checked_kind := fun _ _ _ _ _ _ us hl => match us, hl with | [_], _ => rfl
theorem ok_checked_kind (c : Ctx K mg) : ∀ d, Df P w K mg base "checked_kind" (d + 3) P_checked_kind (spCK d) := by
  intro d
  induction d with
  | zero => exact Df.no c.h_checked_kind bb_checked_kind fun vs H Q E ⟨_, _, _, _, h, _⟩ => h
  | succ d ih =>
    have D_is_integer_kind := ok_is_integer_kind (P := P) (w := w) (base := base) c
    have D_is_array_kind := ok_is_array_kind (P := P) (w := w) (base := base) c
    have D_checked_kind := ih
    refine Df.of (k := d + 3) c.h_checked_kind sc_checked_kind bb_checked_kind (fun vs H Q E h => ?_) (fun f cdv A outer s H vs Q E hr h => ?_)
    · obtain ⟨v, kd, rfl, _⟩ := h
      rfl
    · obtain ⟨v, kd, rfl, hv, hk, k⟩ := h
      -- 0 kind
      refine ⟨_, (pss_cons (ps_if (pt_val (pe_callB call_isi (by rfl) c.no_isinstance (by decide +kernel) (pa_cons (pv 0) (pa_cons (pe_glob (v := .ref _) rfl c.mg_Shape rfl) pa_nil)))) (pss_one (ps_ret (pv 0))) pss_nil)
          (pss_cons (ps_if (pt_val (pe_df D_is_integer_kind (hr.mono (by omega)) (by rfl) (pa_cons (pv 0) pa_nil))) (pss_one (ps_ret (pe_callTy call_tuple_of (by rfl) c.no_tuple (by decide +kernel) (pa_cons (pv 0) pa_nil)))) pss_nil)
          (pss_cons (ps_if (pt_val (pe_df D_is_array_kind (hr.mono (by omega)) (by rfl) (pa_cons (pv 0) pa_nil))) (pss_one (ps_ret (pe_tup (pa_cons pe_str (pa_cons (pe_df D_checked_kind (hr.mono (by omega)) (by rfl) (pa_cons (pe_ix ix_tup (pv 0) pe_int (fun _ _ => rfl)) pa_nil)) (pa_cons (pe_ix ix_tup (pv 0) pe_int (fun _ _ => rfl)) pa_nil)))))) pss_nil)
          (pss_one ps_never)))), ?_⟩
      cases kd with
      | int n z =>
        obtain ⟨a, rfl, ha⟩ := id hv
        lk
        refine isi_shapeT c ha ?_
        lk
        refine ⟨_, _, d + 1, rfl, hv, hk, fun H1 e1 => ?_⟩
        lk
        simp only [Kd.isI]
        lk
        exact ⟨_, .inr ⟨SqT.of (e1 _ _ ha), k _ _ e1 (hv.mono e1)⟩⟩
      | arr kd m =>
        obtain ⟨a, u, rfl, ha, hu⟩ := id hv
        lk
        refine isi_shapeT c ha ?_
        lk
        refine ⟨_, _, d + 1, rfl, hv, hk, fun H1 e1 => ?_⟩
        simp only [Kd.isI]
        lk
        refine ⟨_, _, _, rfl, hv.mono e1, fun H2 e2 => ?_⟩
        have h2 := e2 _ _ (e1 _ _ ha)
        lk
        refine ix_1 h2 ?_
        lk
        refine ⟨_, _, rfl, (hu.mono e1).mono e2, hk.1, fun v' H3 e3 h3 => ?_⟩
        lk
        refine ix_2 (e3 _ _ h2) ?_
        lk
        refine ⟨by decide, fun p hp => ?_⟩
        refine k _ _ (((e1.trans e2).trans e3).trans (Ex.new hp)) ⟨p, v', rfl, upd_same, h3.mono (Ex.new hp)⟩
/-! ### sizes and alignments -/
abbrev spSz (d : Nat) : Sp := fun vs H Q _ => ∃ v kd, vs = [v] ∧ KdAt H v kd ∧ kd.ok d ∧ Q (.int kd.size) H
abbrev s_size_of : Stmt := top 18
abbrev N_size_of : List Str := ["kind"]
abbrev P_size_of : List Str := ["kind"]
theorem sc_size_of : FnScope N_size_of P_size_of (defScope s_size_of) := ⟨rfl, rfl, rfl, by decide +kernel, rfl, by decide +kernel, by decide +kernel⟩
theorem bb_size_of : BindsBy "size_of" s_size_of P_size_of := fun _ _ _ _ _ _ us hl => match us, hl with | [_], _ => rfl
theorem ok_size_of (c : Ctx K mg) : ∀ d, Df P w K mg base "size_of" d P_size_of (spSz d) := by
  intro d
  induction d with
  | zero => exact Df.no c.h_size_of bb_size_of fun vs H Q E ⟨_, _, _, _, h, _⟩ => h
  | succ d ih =>
    have D_size_of := ih
    refine Df.of (k := d) c.h_size_of sc_size_of bb_size_of (fun vs H Q E h => ?_) (fun f cdv A outer s H vs Q E hr h => ?_)
    · obtain ⟨v, kd, rfl, _⟩ := h
      rfl
    · obtain ⟨v, kd, rfl, hv, hk, k⟩ := h
      -- 0 kind
      refine ⟨_, (pss_cons (ps_if (pt_val (pe_callB call_isi (by rfl) c.no_isinstance (by decide +kernel) (pa_cons (pv 0) (pa_cons (pe_glob (v := .ref _) rfl c.mg_Shape rfl) pa_nil)))) (pss_one ps_never) pss_nil)
          (pss_one (ps_ret (pe_ifExp (pt_cmpR op_eq (pe_ix ix_tup (pv 0) pe_int (fun _ _ => rfl)) pe_str (nomark _)) (pe_ix ix_tup (pv 0) pe_int (fun _ _ => rfl)) (pe_op op_mul (pe_ix ix_tup (pv 0) pe_int (fun _ _ => rfl)) (pe_df D_size_of (hr.mono (by omega)) (by rfl) (pa_cons (pe_ix ix_tup (pv 0) pe_int (fun _ _ => rfl)) pa_nil))))))), ?_⟩
      cases kd with
      | int n z =>
        obtain ⟨a, rfl, ha⟩ := id hv
        lk
        refine isi_shapeT c ha ?_
        lk
        refine ix_0 ha ?_
        lk
        exact ix_1 ha k
      | arr kd m =>
        obtain ⟨a, u, rfl, ha, hu⟩ := id hv
        lk
        refine isi_shapeT c ha ?_
        lk
        refine ix_0 ha ?_
        lk
        refine ix_2 ha ?_
        lk
        refine ix_1 ha ?_
        lk
        refine ⟨_, _, rfl, hu, hk.1, ?_⟩
        lk
        have hm : m ≤ 3 := hk.2
        exact ⟨.inl ⟨by omega, by omega⟩, k⟩
abbrev spSt (d : Nat) : Sp := fun vs H Q _ => ∃ v kd, vs = [v] ∧ KdAt H v kd ∧ kd.ok d ∧ Q (.int kd.step) H
abbrev s_alignment_of : Stmt := top 19
abbrev N_alignment_of : List Str := ["kind"]
abbrev P_alignment_of : List Str := ["kind"]
theorem sc_alignment_of : FnScope N_alignment_of P_alignment_of (defScope s_alignment_of) := ⟨rfl, rfl, rfl, by decide +kernel, rfl, by decide +kernel, by decide +kernel⟩
theorem bb_alignment_of : BindsBy "alignment_of" s_alignment_of P_alignment_of := fun _ _ _ _ _ _ us hl => match us, hl with | [_], _ => rfl
theorem ok_alignment_of (c : Ctx K mg) : ∀ d, Df P w K mg base "alignment_of" d P_alignment_of (spSt d) := by
  intro d
  induction d with
  | zero => exact Df.no c.h_alignment_of bb_alignment_of fun vs H Q E ⟨_, _, _, _, h, _⟩ => h
  | succ d ih =>
    have D_alignment_of := ih
    refine Df.of (k := d) c.h_alignment_of sc_alignment_of bb_alignment_of (fun vs H Q E h => ?_) (fun f cdv A outer s H vs Q E hr h => ?_)
    · obtain ⟨v, kd, rfl, _⟩ := h
      rfl
    · obtain ⟨v, kd, rfl, hv, hk, k⟩ := h
      -- 0 kind
      refine ⟨_, (pss_cons (ps_if (pt_val (pe_callB call_isi (by rfl) c.no_isinstance (by decide +kernel) (pa_cons (pv 0) (pa_cons (pe_glob (v := .ref _) rfl c.mg_Shape rfl) pa_nil)))) (pss_one ps_never) pss_nil)
          (pss_one (ps_ret (pe_ifExp (pt_cmpR op_eq (pe_ix ix_tup (pv 0) pe_int (fun _ _ => rfl)) pe_str (nomark _)) (pe_ix ix_tup (pv 0) pe_int (fun _ _ => rfl)) (pe_df D_alignment_of (hr.mono (by omega)) (by rfl) (pa_cons (pe_ix ix_tup (pv 0) pe_int (fun _ _ => rfl)) pa_nil)))))), ?_⟩
      cases kd with
      | int n z =>
        obtain ⟨a, rfl, ha⟩ := id hv
        lk
        refine isi_shapeT c ha ?_
        lk
        refine ix_0 ha ?_
        lk
        exact ix_1 ha k
      | arr kd m =>
        obtain ⟨a, u, rfl, ha, hu⟩ := id hv
        lk
        refine isi_shapeT c ha ?_
        lk
        refine ix_0 ha ?_
        lk
        refine ix_1 ha ?_
        lk
        exact ⟨_, _, rfl, hu, hk.1, k⟩
end
end K32
/-! D2: loops and comprehensions by what an iterator tells; small defs. -/
namespace K32
open PySem PySem.Spec PyProof.Rows L2
/-! ### a for over any iterator -/
def ForOk (J : It) (g : TG) (tb : TS) (D : Ends) (σ : L2.St) (H1 : Hp) : Prop := ∃ W : Nat → Nat → L2.St → Hp → Prop, (∃ m, W 0 m σ H1) ∧ ∀ i m σ H, W i m σ H →
  (J.stop i H ∧ D.nx σ H) ∨ (J.go i H ∧ ∃ N : L2.St → Hp → Prop, (∀ σ' H', N σ' H' → ∃ m', m' < m ∧ W (i + 1) m' σ' H') ∧ ∀ x H', J.yld i H x H' → g x σ H' fun σ2 H2 => tb { D with nx := N, ct := N, bk := D.nx } σ2 H2)
theorem for_ok {wi : TI} {g : TG} {tb : TS} {D : Ends} {σ : L2.St} {H : Hp} (h : wi σ H fun J H1 => ForOk J g tb D σ H1) : tFor wi g tb D σ H := h
theorem ForOk.inv {J : It} {g : TG} {tb : TS} {D : Ends} {σ : L2.St} {H : Hp} (n : Nat) (Pv : Nat → L2.St → Hp → Prop) (h0 : Pv 0 σ H) (hgo : ∀ i σ H, i < n → Pv i σ H → J.go i H) (hstop : ∀ σ H, Pv n σ H → J.stop n H)
    (hs : ∀ i σ H x H', i < n → Pv i σ H → J.yld i H x H' → g x σ H' fun σ2 H2 => tb { D with nx := Pv (i + 1), ct := Pv (i + 1), bk := D.nx } σ2 H2) (hd : ∀ σ H, Pv n σ H → D.nx σ H) : ForOk J g tb D σ H := by
  refine ⟨fun i m σ H => m = n - i ∧ i ≤ n ∧ Pv i σ H, ⟨n, rfl, Nat.zero_le _, h0⟩, ?_⟩
  rintro i m σ H ⟨rfl, hi, p⟩
  by_cases hlt : i < n
  · exact .inr ⟨hgo i σ H hlt p, Pv (i + 1), fun σ' H' p' => ⟨n - (i + 1), by omega, rfl, hlt, p'⟩, fun x H' y => hs i σ H x H' hlt p y⟩
  · obtain rfl : i = n := by omega
    exact .inl ⟨hstop σ H p, hd σ H p⟩
theorem ForOk.list {K : PySem.W.Frag} {a : Addr} {g : TG} {tb : TS} {D : Ends} {σ : L2.St} {H : Hp} (xs : List V) (Pv : Nat → L2.St → Hp → Prop) (h0 : Pv 0 σ H) (hl : ∀ i σ H, Pv i σ H → SqL K H a xs)
    (hs : ∀ i σ H x, xs[i]? = some x → Pv i σ H → g x σ H fun σ2 H2 => tb { D with nx := Pv (i + 1), ct := Pv (i + 1), bk := D.nx } σ2 H2) (hd : ∀ σ H, Pv xs.length σ H → D.nx σ H) : ForOk (Itl K a) g tb D σ H :=
  .inv xs.length Pv h0 (fun i σ H hi p => ⟨xs, xs[i], hl i σ H p, List.getElem?_eq_getElem hi⟩) (fun σ H p => ⟨xs, hl _ σ H p, Nat.le_refl _⟩)
    (fun i σ H x H' hi p ⟨e, y⟩ => by subst e; exact hs i σ _ x (y xs (hl i σ _ p)) p) hd
theorem ForOk.tup {K : PySem.W.Frag} {a : Addr} {g : TG} {tb : TS} {D : Ends} {σ : L2.St} {H : Hp} (xs : List V) (Pv : Nat → L2.St → Hp → Prop) (h0 : Pv 0 σ H) (hl : ∀ i σ H, Pv i σ H → SqT K H a xs)
    (hs : ∀ i σ H x, xs[i]? = some x → Pv i σ H → g x σ H fun σ2 H2 => tb { D with nx := Pv (i + 1), ct := Pv (i + 1), bk := D.nx } σ2 H2) (hd : ∀ σ H, Pv xs.length σ H → D.nx σ H) : ForOk (Itt K a) g tb D σ H :=
  .inv xs.length Pv h0 (fun i σ H hi p => ⟨xs, xs[i], hl i σ H p, List.getElem?_eq_getElem hi⟩) (fun σ H p => ⟨xs, hl _ σ H p, Nat.le_refl _⟩)
    (fun i σ H x H' hi p ⟨e, y⟩ => by subst e; exact hs i σ _ x (y xs (hl i σ _ p)) p) hd
theorem ForOk.range {lo : Int} {n : Nat} {g : TG} {tb : TS} {D : Ends} {σ : L2.St} {H : Hp} (Pv : Nat → L2.St → Hp → Prop) (h0 : Pv 0 σ H)
    (hs : ∀ i σ H, i < n → Pv i σ H → g (.int (lo + i)) σ H fun σ2 H2 => tb { D with nx := Pv (i + 1), ct := Pv (i + 1), bk := D.nx } σ2 H2) (hd : ∀ σ H, Pv n σ H → D.nx σ H) : ForOk (Itr lo n) g tb D σ H :=
  .inv n Pv h0 (fun i σ H hi p => hi) (fun σ H p => Nat.le_refl _) (fun i σ H x H' hi p ⟨e, y⟩ => by subst e y; exact hs i σ _ hi p) hd
/-! ### a comprehension over any iterator -/
def LcOk (J : It) (g : TG) (te : TE) (vs : List Nat) (σ : L2.St) (H1 : Hp) (Q : VK) : Prop := ∀ D, H1 D = none → ∃ W : Nat → Nat → Hp → Prop, (∃ m, W 0 m (upd H1 D (.lst []))) ∧ ∀ i m H, W i m H →
  (J.stop i H ∧ Q (.ref D) H) ∨ (J.go i H ∧ ∃ Nx : Hp → Prop, (∀ H', Nx H' → ∃ m', m' < m ∧ W (i + 1) m' H') ∧ ∀ x H', J.yld i H x H' → g x (wipe σ vs) H' fun σ2 H2 => wipe σ2 vs = wipe σ vs ∧ tYes σ2 H2 fun b H3 =>
    if b = true then te σ2 H3 fun y H4 => ∃ acc, H4 D = some (.lst acc) ∧ acc.length < sizeLine ∧ Nx (upd H4 D (.lst (acc ++ [y]))) else Nx H3)
theorem lc_ok {wi : TI} {g : TG} {te : TE} {vs : List Nat} {σ : L2.St} {H : Hp} {Q : VK} (h : wi σ H fun J H1 => LcOk J g te vs σ H1 Q) : tLc wi g tYes te vs σ H Q := h
/-- all but lists stay -/
def ExT (H H' : Hp) : Prop := ∀ a o, H a = some o → (∀ xs, o ≠ .lst xs) → H' a = some o
theorem Ex.t {H H' : Hp} (e : Ex H H') : ExT H H' := fun a o h _ => e a o h
theorem ExT.lst {H : Hp} {D : Addr} {xs ys : List V} (h : H D = some (.lst xs)) : ExT H (upd H D (.lst ys)) := fun a o ha hn => (upd_ne (fun e => by
  subst e
  exact hn xs (Option.some.inj (ha.symm.trans h)))).trans ha
theorem ExT.trans {H H1 H2 : Hp} (a : ExT H H1) (b : ExT H1 H2) : ExT H H2 := fun x o h n => b x o (a x o h n) n
theorem ExT.tup {H H' : Hp} {a : Addr} {xs : List V} (e : ExT H H') (h : H a = some (.tup xs)) : H' a = some (.tup xs) := e a _ h fun _ z => nomatch z
theorem KdAt.monoT {H H' : Hp} (e : ExT H H') : ∀ {k : Kd} {v : V}, KdAt H v k → KdAt H' v k
  | .int _ _, _, ⟨a, h1, h2⟩ => ⟨a, h1, e.tup h2⟩
  | .arr _ _, _, ⟨a, u, h1, h2, h3⟩ => ⟨a, u, h1, e.tup h2, KdAt.monoT e h3⟩
theorem LcOk.ex {J : It} {g : TG} {te : TE} {vs : List Nat} {σ : L2.St} {H1 : Hp} {Q : VK} (n : Nat) (hn : n ≤ 100000) (R : Nat → V → Hp → Prop) (mono : ∀ i y H H', ExT H H' → R i y H → R i y H')
    (hgo : ∀ i H, i < n → Ex H1 H → J.go i H) (hstop : ∀ H, Ex H1 H → J.stop n H) (hy : ∀ i H x H', i < n → Ex H1 H → J.yld i H x H' → Ex H H')
    (hs : ∀ (N : VK) i H x H', i < n → Ex H1 H → J.yld i H x H' → Ex H1 H' → (∀ y H4, Ex H' H4 → R i y H4 → N y H4) → g x (wipe σ vs) H' fun σ2 H2 => wipe σ2 vs = wipe σ vs ∧ te σ2 H2 N)
    (hQ : ∀ D ys H', H1 D = none → Ex H1 H' → H' D = some (.lst ys) → ys.length = n → (∀ i y, ys[i]? = some y → R i y H') → Q (.ref D) H') : LcOk J g te vs σ H1 Q := by
  intro D hD
  refine ⟨fun i m H => m = n - i ∧ i ≤ n ∧ Ex H1 H ∧ ∃ ys, H D = some (.lst ys) ∧ ys.length = i ∧ ∀ j y, ys[j]? = some y → R j y H, ⟨n, rfl, Nat.zero_le _, Ex.new hD, [], upd_same, rfl, fun j y h => by simp at h⟩, ?_⟩
  rintro i m H ⟨rfl, hi, e, ys, hys, hl, hr⟩
  by_cases hlt : i < n
  · refine .inr ⟨hgo i H hlt e, fun H' => i < n ∧ Ex H1 H' ∧ ∃ ys, H' D = some (.lst ys) ∧ ys.length = i + 1 ∧ ∀ j y, ys[j]? = some y → R j y H', fun H' ⟨_, e', z⟩ => ⟨n - (i + 1), by omega, rfl, hlt, e', z⟩, fun x H' y => ?_⟩
    have e' := hy i H x H' hlt e y
    refine hs _ i H x H' hlt e y (e.trans e') fun v H4 e4 r4 => ?_
    have hD4 : H4 D = some (.lst ys) := e4 _ _ (e' _ _ hys)
    have e5 : Ex H1 (upd H4 D (.lst (ys ++ [v]))) := Ex.mut ((e.trans e').trans e4) hD
    refine ⟨ys, hD4, Nat.lt_of_lt_of_le (by omega : ys.length < 100000) (by decide), hlt, e5, ys ++ [v], upd_same, by rw [List.length_append, hl] <;> rfl, fun j z hz => ?_⟩
    -- what was told of the items stays, though the list at D has grown
    have st : ∀ k u, R k u H4 → R k u (upd H4 D (.lst (ys ++ [v]))) := fun k u h => mono k u _ _ (ExT.lst hD4) h
    rcases Nat.lt_or_ge j ys.length with hj | hj
    · rw [List.getElem?_append_left hj] at hz
      exact st _ _ (mono _ _ _ _ (e'.trans e4).t (hr j z hz))
    · rw [List.getElem?_append_right hj] at hz
      have hj2 : j = ys.length := by
        rcases Nat.lt_or_ge (j - ys.length) 1 with h | h
        · omega
        · rw [List.getElem?_eq_none (by simpa using h)] at hz
          cases hz
      subst hj2
      rw [Nat.sub_self] at hz
      obtain rfl : v = z := Option.some.inj hz
      rw [hl]
      exact st _ _ r4
  · obtain rfl : i = n := by omega
    exact .inl ⟨hstop H e, hQ D ys H hD e hys hl hr⟩
end K32
/-! D3: the small defs: rules, options, names, bits. -/
namespace K32
open PySem PySem.Spec PyProof.Rows L2
/-! one look: what stands written is read -/
local macro_rules | `(tactic| lk) => `(tactic| try simp only [tCB, tCons, tNil, tC, tVar, tOp, tUn, tTest, tB, tNot, tAndV, tOrV, tNotV, tAnd, tOr, tRet, tSeq, tAsg, gName, tDrop, tNext, tIfS, tIf, tCall, tCmp, rI0, rI, rEq, rNe, tPar, tPar3, tTup, tLst,
  tDGet, tSl, tPart, tNoPart, sDPut, tDisp, tPairs, tLstRg, tRg2, tCallN, tRevL, sFld, tFld, tMeth, tProp, tMake, tBM, tBM0, tNevE, tNever, tRetN, tBreak, tCont, gCons, gNil, gSub, tAug, ipI, wipe, iList, iTup, iRng1, iRng2, iStr, iEnum, RZ.iZipA, rU,
  L2.start, List.map_cons, List.map_nil, List.length_cons, List.length_nil, Nat.reduceAdd, Nat.reduceSub, List.replicate_succ, List.replicate_zero, List.cons_append, List.nil_append, List.append_nil,
  List.getElem?_cons_zero, List.getElem?_cons_succ, List.set_cons_zero, List.set_cons_succ, List.cons.injEq, Option.some.injEq, V.int.injEq, V.bl.injEq, V.str.injEq, V.ref.injEq, exists_eq_left', exists_eq_left, exists_eq', exists_and_left, and_assoc, true_and, and_true,
  if_true, Bool.false_eq_true, if_false, sc_ii, sc_ss, sc_ni, sc_in, sc_sn, sc_ns, sc_bb, eq_self, decide_eq_true_eq, Bool.not_eq_true', decide_eq_false_iff_not, ite_not, ne_ia', ne_ai', Int.reduceEq, Int.reduceLT, Int.reduceLE, reduceCtorEq, decide_true, decide_false, Bool.not_true, Bool.not_false, cxK, oV_n, oV_s, cast_lit])
def up (x m : Int) : Int := (x + m - 1) / m * m
def stepOf (k : Kd) : Option Int → Int
  | none => k.step
  | some p => if p < k.step then p else k.step
def bitAt (p : Int) (e : Str) : Int := if e = "little" then p else p + 7 - 2 * (p % 8)
def moved (p : Int) (k : Kd) (b : Int) (pk : Option Int) : Bool := decide (b = 0) || (pk.isNone && !decide (p / (8 * k.size) = (p + b - 1) / (8 * k.size)))
theorem oV_isN {o : Option Int} : (decide (oV o = .non)) = o.isNone := by
  cases o <;> rfl
section
variable {P : Program} {w : World} {K : PySem.W.Frag} {mg : Str → Option Value} {base : Heap}
abbrev spUp : Sp := fun vs H Q _ => ∃ x m : Int, vs = [.int x, .int m] ∧ 0 < m ∧ m < 2 ^ 20 ∧ Q (.int (up x m)) H
abbrev s_up : Stmt := top 35
abbrev N_up : List Str := ["number", "step"]
abbrev P_up : List Str := ["number", "step"]
theorem sc_up : FnScope N_up P_up (defScope s_up) := ⟨rfl, rfl, rfl, by decide +kernel, rfl, by decide +kernel, by decide +kernel⟩
theorem bb_up : BindsBy "up" s_up P_up := fun _ _ _ _ _ _ us hl => match us, hl with | [_, _], _ => rfl
theorem ok_up (c : Ctx K mg) : Df P w K mg base "up" 1 P_up spUp := by
  refine Df.of c.h_up sc_up bb_up (fun vs H Q E h => ?_) (fun f cdv A outer s H vs Q E hr h => ?_)
  · obtain ⟨x, m, rfl, _⟩ := h
    rfl
  · obtain ⟨x, m, rfl, h0, h1, k⟩ := h
    -- 0 number, 1 step
    refine ⟨_, (pss_one (ps_ret (pe_op op_mul (pe_op op_fdiv (pe_op op_sub (pe_op op_add (pv 0) (pv 1)) pe_int) (pv 1)) (pv 1)))), ?_⟩
    lk
    exact ⟨⟨h0, by omega⟩, .inr ⟨by omega, by omega⟩, k⟩
abbrev spStep : Sp := fun vs H Q _ => ∃ v kd pk, vs = [v, oV pk] ∧ KdAt H v kd ∧ kd.ok 3 ∧ Q (.int (stepOf kd pk)) H
abbrev s_step_of : Stmt := top 36
abbrev N_step_of : List Str := ["kind", "pack"]
abbrev P_step_of : List Str := ["kind", "pack"]
theorem sc_step_of : FnScope N_step_of P_step_of (defScope s_step_of) := ⟨rfl, rfl, rfl, by decide +kernel, rfl, by decide +kernel, by decide +kernel⟩
theorem bb_step_of : BindsBy "step_of" s_step_of P_step_of := fun _ _ _ _ _ _ us hl => match us, hl with | [_, _], _ => rfl
theorem ok_step_of (c : Ctx K mg) : Df P w K mg base "step_of" 4 P_step_of spStep := by
  have D_alignment_of := ok_alignment_of (P := P) (w := w) (base := base) c 3
  refine Df.of c.h_step_of sc_step_of bb_step_of (fun vs H Q E h => ?_) (fun f cdv A outer s H vs Q E hr h => ?_)
  · obtain ⟨v, kd, pk, rfl, _⟩ := h
    rfl
  · obtain ⟨v, kd, pk, rfl, hv, hk, k⟩ := h
    -- 0 kind, 1 pack
    refine ⟨_, (pss_one (ps_ret (pe_ifExp (pt_cmpR op_isN (pv 1) pe_non (nomark _)) (pe_df D_alignment_of (hr.mono (by omega)) (by rfl) (pa_cons (pv 0) pa_nil)) (pe_callB (call_min2 rfl) (by rfl) c.no_min (by decide +kernel) (pa_cons (pe_df D_alignment_of (hr.mono (by omega)) (by rfl) (pa_cons (pv 0) pa_nil)) (pa_cons (pv 1) pa_nil)))))), ?_⟩
    cases pk with
    | none =>
      lk
      exact ⟨v, kd, rfl, hv, hk, k⟩
    | some p =>
      lk
      refine ⟨v, kd, rfl, hv, hk, ?_⟩
      lk
      exact k
abbrev spWord (K : PySem.W.Frag) : Sp := fun vs H Q _ => ∃ (z : Str) (a : Addr) (xs : List V), vs = [.str z, .ref a] ∧ (∀ H, SqT K H a xs) ∧ xs.all flatV = true ∧ inV (.str z) xs = true ∧ Q (.bl true) H
abbrev s_is_word_of : Stmt := top 27
abbrev N_is_word_of : List Str := ["thing", "some"]
abbrev P_is_word_of : List Str := ["thing", "some"]
theorem sc_is_word_of : FnScope N_is_word_of P_is_word_of (defScope s_is_word_of) := ⟨rfl, rfl, rfl, by decide +kernel, rfl, by decide +kernel, by decide +kernel⟩
theorem bb_is_word_of : BindsBy "is_word_of" s_is_word_of P_is_word_of := fun _ _ _ _ _ _ us hl => match us, hl with | [_, _], _ => rfl
theorem ok_is_word_of (c : Ctx K mg) : Df P w K mg base "is_word_of" 1 P_is_word_of (spWord K) := by
  refine Df.of c.h_is_word_of sc_is_word_of bb_is_word_of (fun vs H Q E h => ?_) (fun f cdv A outer s H vs Q E hr h => ?_)
  · obtain ⟨i, a, xs, rfl, _⟩ := h
    rfl
  · obtain ⟨i, a, xs, rfl, hs, hf, hi, k⟩ := h
    -- 0 thing, 1 some
    refine ⟨_, (pss_one (ps_ret (pe_and (pe_callB call_isi (by rfl) c.no_isinstance (by decide +kernel) (pa_cons (pv 0) (pa_cons (pe_bltn (v := .ty "str") (by rfl) c.no_str (by decide +kernel) rfl) pa_nil))) (pe_one (pe_cmpR op_in_seq (pv 0) (pv 1) rfl))))), ?_⟩
    lk
    refine isi_ty (.base (.str _)) (b := true) (by decide +kernel) ?_
    lk
    refine ⟨a, xs, rfl, .inr (hs _), rfl, hf, ?_⟩
    show Q (.bl (inV (.str i) xs)) H
    rw [hi]
    exact k
def okConv (z : Str) : Prop := inV (.str z) [.str "sysv", .str "msvc"] = true
def okEnds (z : Str) : Prop := inV (.str z) [.str "little", .str "big"] = true
def okPack : Option Int → Prop
  | none => True
  | some p => inV (.int p) [.int 1, .int 2, .int 4, .int 8, .int 16] = true
def okAlign : Option Int → Prop
  | none => True
  | some p => inV (.int p) [.int 1, .int 2, .int 4, .int 8, .int 16, .int 32] = true
abbrev spOpt : Sp := fun vs H Q _ => ∃ z pk al e, vs = [.str z, oV pk, oV al, .str e] ∧ okConv z ∧ okPack pk ∧ okAlign al ∧ okEnds e ∧ ∀ v H', Ex H H' → Q v H'
abbrev s_checked_options : Stmt := top 28
abbrev N_checked_options : List Str := ["convention", "pack", "align", "ends"]
abbrev P_checked_options : List Str := ["convention", "pack", "align", "ends"]
theorem sc_checked_options : FnScope N_checked_options P_checked_options (defScope s_checked_options) := ⟨rfl, rfl, rfl, by decide +kernel, rfl, by decide +kernel, by decide +kernel⟩
theorem bb_checked_options : BindsBy "checked_options" s_checked_options P_checked_options := fun _ _ _ _ _ _ us hl => match us, hl with | [_, _, _, _], _ => rfl
theorem ok_checked_options (c : Ctx K mg) : Df P w K mg base "checked_options" 3 P_checked_options spOpt := by
  have D_is_word_of := ok_is_word_of (P := P) (w := w) (base := base) c
  have D_is_number_of := ok_is_number_of (P := P) (w := w) (base := base) c
  refine Df.of c.h_checked_options sc_checked_options bb_checked_options (fun vs H Q E h => ?_) (fun f cdv A outer s H vs Q E hr h => ?_)
  · obtain ⟨z, pk, al, e, rfl, _⟩ := h
    rfl
  · obtain ⟨z, pk, al, e, rfl, hz, hp, ha, he, k⟩ := h
    -- 0 convention, 1 pack, 2 align, 3 ends
    refine ⟨_, (pss_cons (ps_if (pt_not (pt_val (pe_df D_is_word_of (hr.mono (by omega)) (by rfl) (pa_cons (pv 0) (pa_cons (pe_glob (v := .ref _) rfl c.mg_CONVENTIONS rfl) pa_nil))))) (pss_one ps_never) pss_nil)
        (pss_cons (ps_if (PW.pt (pw_and (pt_cmpR op_notN (pv 1) pe_non (nomark _)) (pw_and1 (pt_not (pt_val (pe_df D_is_number_of (hr.mono (by omega)) (by rfl) (pa_cons (pv 1) (pa_cons (pe_glob (v := .ref _) rfl c.mg_PACKS rfl) pa_nil)))))))) (pss_one ps_never) pss_nil)
        (pss_cons (ps_if (PW.pt (pw_and (pt_cmpR op_notN (pv 2) pe_non (nomark _)) (pw_and1 (pt_not (pt_val (pe_df D_is_number_of (hr.mono (by omega)) (by rfl) (pa_cons (pv 2) (pa_cons (pe_glob (v := .ref _) rfl c.mg_ALIGNS rfl) pa_nil)))))))) (pss_one ps_never) pss_nil)
        (pss_cons (ps_if (pt_not (pt_val (pe_df D_is_word_of (hr.mono (by omega)) (by rfl) (pa_cons (pv 3) (pa_cons (pe_glob (v := .ref _) rfl c.mg_ENDS rfl) pa_nil))))) (pss_one ps_never) pss_nil)
        (pss_one (ps_ret (pe_tup (pa_cons (pv 0) (pa_cons (pv 1) (pa_cons (pv 2) (pa_cons (pv 3) pa_nil))))))))))), ?_⟩
    have fin : ∀ p, H p = none → Q (.ref p) (upd H p (.tup [.str z, oV pk, oV al, .str e])) := fun p hp => k _ _ (Ex.new hp)
    lk
    refine ⟨z, _, _, rfl, c.t_CONVENTIONS, by decide, hz, ?_⟩
    cases pk with
    | none =>
      lk
      cases al with
      | none =>
        lk
        refine ⟨e, _, _, rfl, c.t_ENDS, by decide, he, ?_⟩
        lk
        exact ⟨by decide, fin⟩
      | some al =>
        lk
        refine ⟨al, _, _, rfl, c.t_ALIGNS, by decide, ha, ?_⟩
        lk
        refine ⟨e, _, _, rfl, c.t_ENDS, by decide, he, ?_⟩
        lk
        exact ⟨by decide, fin⟩
    | some pk =>
      lk
      refine ⟨pk, _, _, rfl, c.t_PACKS, by decide, hp, ?_⟩
      lk
      cases al with
      | none =>
        lk
        refine ⟨e, _, _, rfl, c.t_ENDS, by decide, he, ?_⟩
        lk
        exact ⟨by decide, fin⟩
      | some al =>
        lk
        refine ⟨al, _, _, rfl, c.t_ALIGNS, by decide, ha, ?_⟩
        lk
        refine ⟨e, _, _, rfl, c.t_ENDS, by decide, he, ?_⟩
        lk
        exact ⟨by decide, fin⟩
abbrev spBitAt : Sp := fun vs H Q _ => ∃ p e, vs = [.int p, .str e] ∧ Q (.int (bitAt p e)) H
abbrev s_bit_at : Stmt := top 46
abbrev N_bit_at : List Str := ["position", "ends"]
abbrev P_bit_at : List Str := ["position", "ends"]
theorem sc_bit_at : FnScope N_bit_at P_bit_at (defScope s_bit_at) := ⟨rfl, rfl, rfl, by decide +kernel, rfl, by decide +kernel, by decide +kernel⟩
theorem bb_bit_at : BindsBy "bit_at" s_bit_at P_bit_at := fun _ _ _ _ _ _ us hl => match us, hl with | [_, _], _ => rfl
theorem ok_bit_at (c : Ctx K mg) : Df P w K mg base "bit_at" 1 P_bit_at spBitAt := by
  refine Df.of c.h_bit_at sc_bit_at bb_bit_at (fun vs H Q E h => ?_) (fun f cdv A outer s H vs Q E hr h => ?_)
  · obtain ⟨p, e, rfl, _⟩ := h
    rfl
  · obtain ⟨p, e, rfl, k⟩ := h
    unfold bitAt at k
    -- 0 position, 1 ends
    refine ⟨_, (pss_one (ps_ret (pe_ifExp (pt_cmpR op_eq (pv 1) pe_str (nomark _)) (pv 0) (pe_op op_sub (pe_op op_add (pv 0) pe_int) (pe_op op_mul pe_int (pe_op op_mod (pv 0) pe_int)))))), ?_⟩
    lk
    by_cases he : e = "little"
    · rw [if_pos he] at k ⊢
      exact k
    · rw [if_neg he] at k ⊢
      exact ⟨.inl ⟨by decide, by decide⟩, k⟩
abbrev spCounts : Sp := fun vs H Q _ => ∃ z b, vs = [.str z, oV b] ∧ Q (.bl true) H
abbrev s_counts : Stmt := top 51
abbrev N_counts : List Str := ["name", "bits"]
abbrev P_counts : List Str := ["name", "bits"]
theorem sc_counts : FnScope N_counts P_counts (defScope s_counts) := ⟨rfl, rfl, rfl, by decide +kernel, rfl, by decide +kernel, by decide +kernel⟩
theorem bb_counts : BindsBy "counts" s_counts P_counts := fun _ _ _ _ _ _ us hl => match us, hl with | [_, _], _ => rfl
theorem ok_counts (c : Ctx K mg) : Df P w K mg base "counts" 1 P_counts spCounts := by
  refine Df.of c.h_counts sc_counts bb_counts (fun vs H Q E h => ?_) (fun f cdv A outer s H vs Q E hr h => ?_)
  · obtain ⟨p, e, rfl, _⟩ := h
    rfl
  · obtain ⟨p, e, rfl, k⟩ := h
    -- 0 name, 1 bits
    refine ⟨_, (pss_one (ps_ret (pe_or (pe_cmpR op_isN (pv 1) pe_non (nomark _)) (pe_one (pe_cmpR op_notN (pv 0) pe_non (nomark _)))))), ?_⟩
    cases e with
    | none =>
      lk
      exact k
    | some e =>
      lk
      exact k
abbrev spMoved : Sp := fun vs H Q _ => ∃ p v kd b pk, vs = [.int p, v, .int b, oV pk] ∧ KdAt H v kd ∧ kd.ok 3 ∧ 0 < kd.size ∧ Q (.bl (moved p kd b pk)) H
abbrev s_is_moved : Stmt := top 50
abbrev N_is_moved : List Str := ["position", "kind", "bits", "pack", "unit"]
abbrev P_is_moved : List Str := ["position", "kind", "bits", "pack"]
theorem sc_is_moved : FnScope N_is_moved P_is_moved (defScope s_is_moved) := ⟨rfl, rfl, rfl, by decide +kernel, rfl, by decide +kernel, by decide +kernel⟩
theorem bb_is_moved : BindsBy "is_moved" s_is_moved P_is_moved := fun _ _ _ _ _ _ us hl => match us, hl with | [_, _, _, _], _ => rfl
theorem ok_is_moved (c : Ctx K mg) : Df P w K mg base "is_moved" 4 P_is_moved spMoved := by
  have D_size_of := ok_size_of (P := P) (w := w) (base := base) c 3
  refine Df.of c.h_is_moved sc_is_moved bb_is_moved (fun vs H Q E h => ?_) (fun f cdv A outer s H vs Q E hr h => ?_)
  · obtain ⟨p, v, kd, b, pk, rfl, _⟩ := h
    rfl
  · obtain ⟨p, v, kd, b, pk, rfl, hv, hk, h0, k⟩ := h
    have hz := hk.size_pos.2
    unfold moved at k
    -- 0 position, 1 kind, 2 bits, 3 pack, 4 unit
    refine ⟨_, (pss_cons (ps_set (i := 4) sc_is_moved.nd rfl (Or.inl rfl) (pe_op op_mul pe_int (pe_df D_size_of (hr.mono (by omega)) (by rfl) (pa_cons (pv 1) pa_nil))))
        (pss_one (ps_ret (pe_or (pe_cmpR op_eq (pv 2) pe_int (nomark _)) (pe_one (pe_and (pe_cmpR op_isN (pv 3) pe_non (nomark _)) (pe_one (pe_cmpR op_ne (pe_op op_fdiv (pv 0) (pv 4)) (pe_op op_fdiv (pe_op op_sub (pe_op op_add (pv 0) (pv 2)) pe_int) (pv 4)) (nomark _))))))))), ?_⟩
    lk
    refine ⟨v, kd, rfl, hv, hk, ?_⟩
    lk
    refine ⟨.inl ⟨by decide, by decide⟩, ?_⟩
    have hd : CDiv p (8 * kd.size) := ⟨by omega, by omega⟩
    by_cases hb : b = 0
    · rw [if_pos hb]
      simpa [hb] using k
    · rw [if_neg hb]
      cases pk with
      | none =>
        lk
        refine ⟨hd, hd, ?_⟩
        simpa [hb] using k
      | some q =>
        lk
        simpa [hb] using k
abbrev spNK : Sp := fun vs H Q _ => ∃ a z xs, vs = [.ref a] ∧ H a = some (.tup (.str z :: xs)) ∧ Q (.bl (!decide (z = "array"))) H
abbrev s_is_number_kind : Stmt := top 45
abbrev N_is_number_kind : List Str := ["what"]
abbrev P_is_number_kind : List Str := ["what"]
theorem sc_is_number_kind : FnScope N_is_number_kind P_is_number_kind (defScope s_is_number_kind) := ⟨rfl, rfl, rfl, by decide +kernel, rfl, by decide +kernel, by decide +kernel⟩
theorem bb_is_number_kind : BindsBy "is_number_kind" s_is_number_kind P_is_number_kind := fun _ _ _ _ _ _ us hl => match us, hl with | [_], _ => rfl
theorem ok_is_number_kind (c : Ctx K mg) : Df P w K mg base "is_number_kind" 1 P_is_number_kind spNK := by
  refine Df.of c.h_is_number_kind sc_is_number_kind bb_is_number_kind (fun vs H Q E h => ?_) (fun f cdv A outer s H vs Q E hr h => ?_)
  · obtain ⟨a, z, xs, rfl, _⟩ := h
    rfl
  · obtain ⟨a, z, xs, rfl, ha, k⟩ := h
    -- 0 what
    refine ⟨_, (pss_one (ps_ret (pe_and (pe_not (pe_callB call_isi (by rfl) c.no_isinstance (by decide +kernel) (pa_cons (pv 0) (pa_cons (pe_glob (v := .ref _) rfl c.mg_Shape rfl) pa_nil)))) (pe_one (pe_cmpR op_ne (pe_ix ix_tup (pv 0) pe_int (fun _ _ => rfl)) pe_str (nomark _)))))), ?_⟩
    lk
    refine isi_shapeT c ha ?_
    lk
    refine ix_0 ha ?_
    lk
    exact k
end
end K32
/-! D4: members: names, members checked, names checked. -/
namespace K32
open PySem PySem.Spec PyProof.Rows L2
/-! one look: what stands written is read -/
local macro_rules | `(tactic| lk) => `(tactic| try simp only [tCB, tCons, tNil, tC, tVar, tOp, tUn, tTest, tB, tNot, tAndV, tOrV, tNotV, tAnd, tOr, tRet, tSeq, tAsg, gName, tDrop, tNext, tIfS, tIf, tCall, tCmp, rI0, rI, rEq, rNe, tPar, tPar3, tTup, tLst,
  tDGet, tSl, tPart, tNoPart, sDPut, tDisp, tPairs, tLstRg, tRg2, tCallN, tRevL, sFld, tFld, tMeth, tProp, tMake, tBM, tBM0, tNevE, tNever, tRetN, tBreak, tCont, gCons, gNil, gSub, tAug, ipI, wipe, iList, iTup, iRng1, iRng2, iStr, iEnum, RZ.iZipA, rU,
  L2.start, List.map_cons, List.map_nil, List.length_cons, List.length_nil, Nat.reduceAdd, Nat.reduceSub, List.replicate_succ, List.replicate_zero, List.cons_append, List.nil_append, List.append_nil,
  List.getElem?_cons_zero, List.getElem?_cons_succ, List.set_cons_zero, List.set_cons_succ, List.cons.injEq, Option.some.injEq, V.int.injEq, V.bl.injEq, V.str.injEq, V.ref.injEq, exists_eq_left', exists_eq_left, exists_eq', exists_and_left, and_assoc, true_and, and_true,
  if_true, Bool.false_eq_true, if_false, sc_ii, sc_ss, sc_ni, sc_in, sc_sn, sc_ns, sc_bb, eq_self, decide_eq_true_eq, Bool.not_eq_true', decide_eq_false_iff_not, ite_not, ne_ia', ne_ai', Int.reduceEq, Int.reduceLT, Int.reduceLE, reduceCtorEq, decide_true, decide_false, Bool.not_true, Bool.not_false, cxK, oV_n, oV_s, cast_lit])
structure Mem where
  nm : Str
  kd : Kd
  bt : Option Int
/-- a name of one small letter, a to l -/
def okName (z : Str) : Prop := ∃ i : Nat, 97 ≤ i ∧ i ≤ 108 ∧ z = ⟨#[i]⟩
def Mem.ok (m : Mem) : Prop := okName m.nm ∧ m.kd.ok 3 ∧ ∀ b, m.bt = some b → ∃ n s, m.kd = .int n s ∧ 0 < b ∧ b ≤ 8 * n
/-- a member as it is passed; a row as it is kept -/
def MemAt (H : Hp) (v : V) (m : Mem) : Prop := ∃ a kv, v = .ref a ∧ KdAt H kv m.kd ∧ H a = some (.tup (match m.bt with
  | none => [.str m.nm, kv]
  | some b => [.str m.nm, kv, .int b]))
def RowAt (H : Hp) (v : V) (m : Mem) : Prop := ∃ a kv, v = .ref a ∧ H a = some (.tup [.str m.nm, kv, oV m.bt]) ∧ KdAt H kv m.kd
theorem MemAt.mono {H H' : Hp} (e : Ex H H') {v : V} {m : Mem} (h : MemAt H v m) : MemAt H' v m :=
  let ⟨a, kv, h1, h2, h3⟩ := h
  ⟨a, kv, h1, h2.mono e, e _ _ h3⟩
theorem RowAt.monoT {H H' : Hp} (e : ExT H H') {v : V} {m : Mem} (h : RowAt H v m) : RowAt H' v m :=
  let ⟨a, kv, h1, h2, h3⟩ := h
  ⟨a, kv, h1, e.tup h2, h3.monoT e⟩
theorem RowAt.mono {H H' : Hp} (e : Ex H H') {v : V} {m : Mem} (h : RowAt H v m) : RowAt H' v m := h.monoT e.t
/-- values that stand for things, place by place -/
def Al2 {α : Type} (R : V → α → Prop) (vs : List V) (xs : List α) : Prop := vs.length = xs.length ∧ ∀ (i : Nat) (v : V) (x : α), vs[i]? = some v → xs[i]? = some x → R v x
theorem Al2.imp {α : Type} {R S : V → α → Prop} {vs : List V} {xs : List α} (h : Al2 R vs xs) (k : ∀ v x, R v x → S v x) : Al2 S vs xs := ⟨h.1, fun i v x h1 h2 => k v x (h.2 i v x h1 h2)⟩
theorem Al2.at {α : Type} {R : V → α → Prop} {vs : List V} {xs : List α} (h : Al2 R vs xs) {i : Nat} {v : V} (hv : vs[i]? = some v) : ∃ x, xs[i]? = some x ∧ R v x := by
  have hi : i < xs.length := h.1 ▸ (List.getElem?_eq_some_iff.mp hv).1
  exact ⟨xs[i], List.getElem?_eq_getElem hi, h.2 i v _ hv (List.getElem?_eq_getElem hi)⟩
def MemsAt (H : Hp) (v : V) (ms : List Mem) : Prop := ∃ a vs, v = .ref a ∧ H a = some (.lst vs) ∧ Al2 (MemAt H) vs ms
def RowsAt (H : Hp) (v : V) (ms : List Mem) : Prop := ∃ a vs, v = .ref a ∧ H a = some (.lst vs) ∧ Al2 (RowAt H) vs ms
theorem MemsAt.mono {H H' : Hp} (e : Ex H H') {v : V} {ms : List Mem} (h : MemsAt H v ms) : MemsAt H' v ms :=
  let ⟨a, vs, h1, h2, h3⟩ := h
  ⟨a, vs, h1, e _ _ h2, h3.imp fun _ _ => MemAt.mono e⟩
theorem RowsAt.mono {H H' : Hp} (e : Ex H H') {v : V} {ms : List Mem} (h : RowsAt H v ms) : RowsAt H' v ms :=
  let ⟨a, vs, h1, h2, h3⟩ := h
  ⟨a, vs, h1, e _ _ h2, h3.imp fun _ _ => RowAt.mono e⟩
theorem g_tup {K : PySem.W.Frag} {n : Nat} {t : TGs} {a : Addr} {xs : List V} {σ : L2.St} {H : Hp} {Q : L2.St → Hp → Prop} (h : H a = some (.tup xs)) (hl : xs.length = n) (q : t xs σ H Q) : gTup K n t (.ref a) σ H Q := ⟨a, xs, rfl, SqT.of h, hl, q⟩
theorem inV_strs {z : Str} : ∀ {l : List Str}, inV (.str z) (l.map V.str) = decide (z ∈ l)
  | [] => rfl
  | y :: l => by
    show (eqV (.str y) (.str z) || inV (.str z) (l.map V.str)) = _
    rw [inV_strs (l := l)]
    by_cases h : z = y
    · subst h
      simp [eqV]
    · have h2 : ¬ y = z := fun e => h e.symm
      simp [eqV, h, h2]
theorem flat_strs : ∀ {l : List Str}, (l.map V.str).all flatV = true
  | [] => rfl
  | y :: l => by
    show (flatV (.str y) && (l.map V.str).all flatV) = true
    rw [flat_strs (l := l)]
    rfl
theorem letter_in {i : Nat} (h1 : 97 ≤ i) (h2 : i ≤ 108) : i ∈ ("abcdefghijklmnopqrstuvwxyzABCDEFGHIJKLMNOPQRSTUVWXYZ_" : Str).cps.toList ∧ ¬ i ∈ ("0123456789" : Str).cps.toList := by
  have all : ∀ j : Fin 12, (97 + j.val) ∈ ("abcdefghijklmnopqrstuvwxyzABCDEFGHIJKLMNOPQRSTUVWXYZ_" : Str).cps.toList ∧ ¬ (97 + j.val) ∈ ("0123456789" : Str).cps.toList := by decide +kernel
  have h := all ⟨i - 97, by omega⟩
  have e : 97 + (i - 97) = i := by omega
  simpa [e] using h
theorem ne_empty {i : Nat} : ¬ ((⟨#[i]⟩ : Str) = "") := fun h => by
  have h2 : (#[i] : Array Nat) = ("" : Str).cps := congrArg Str.cps h
  have h3 : (1 : Nat) = 0 := congrArg Array.size h2
  exact absurd h3 (by decide)
section
variable {P : Program} {w : World} {K : PySem.W.Frag} {mg : Str → Option Value} {base : Heap}
abbrev spName : Sp := fun vs H Q _ => ∃ z, vs = [.str z] ∧ okName z ∧ ∀ H', Ex H H' → Q (.bl true) H'
abbrev s_is_name : Stmt := top 29
abbrev N_is_name : List Str := ["thing", "sign"]
abbrev P_is_name : List Str := ["thing"]
theorem sc_is_name : FnScope N_is_name P_is_name (defScope s_is_name) := ⟨rfl, rfl, rfl, by decide +kernel, rfl, by decide +kernel, by decide +kernel⟩
theorem bb_is_name : BindsBy "is_name" s_is_name P_is_name := fun _ _ _ _ _ _ us hl => match us, hl with | [_], _ => rfl
theorem ok_is_name (c : Ctx K mg) : Df P w K mg base "is_name" 1 P_is_name spName := by
  refine Df.of c.h_is_name sc_is_name bb_is_name (fun vs H Q E h => ?_) (fun f cdv A outer s H vs Q E hr h => ?_)
  · obtain ⟨z, rfl, _⟩ := h
    rfl
  · obtain ⟨z, rfl, ⟨i, h1, h2, rfl⟩, k⟩ := h
    obtain ⟨l1, l2⟩ := letter_in h1 h2
    -- 0 thing, 1 sign
    refine ⟨_, (pss_cons (ps_if (PW.pt (pw_or (pt_not (pt_val (pe_callB call_isi (by rfl) c.no_isinstance (by decide +kernel) (pa_cons (pv 0) (pa_cons (pe_bltn (v := .ty "str") (by rfl) c.no_str (by decide +kernel) rfl) pa_nil))))) (pw_or (pt_cmpR op_eq (pv 0) pe_str (nomark _)) (pw_or1 (pt_cmpR op_in_sign (pe_ix ix_str (pv 0) pe_int (fun _ _ => rfl)) (pe_globS c.mg_DIGITS (by rfl)) rfl))))) (pss_one (ps_ret pe_bl)) pss_nil)
        (pss_one (ps_ret (pe_callB (cr_all rfl) (by rfl) c.no_all (by decide +kernel) (pa_cons (pe_lc (own := [("sign", 1)]) (g := gName 1) rfl sc_is_name.nd (pi_str (pv 0)) (blkOk_by (own := [("sign", 1)]) (N := N_is_name) (sc := defScope s_is_name) (by decide +kernel)) (fun _ _ _ _ _ => (pg_name (i := 1) sc_is_name.nd rfl (Or.inl rfl))) (fun _ _ _ _ _ => pts_nil) (fun _ _ _ _ _ => (pe_or (pe_cmpR op_in_sign (pv 1) (pe_globS c.mg_LETTERS (by rfl)) rfl) (pe_one (pe_cmpR op_in_sign (pv 1) (pe_globS c.mg_DIGITS (by rfl)) rfl))))) pa_nil))))), ?_⟩
    lk
    refine isi_ty (.base (.str _)) (b := true) (by decide +kernel) ?_
    lk
    rw [if_neg ne_empty]
    refine ⟨⟨#[i]⟩, 0, i, rfl, rfl, by show 1 ≤ sizeLine; decide, rfl, ?_⟩
    lk
    refine ⟨i, rfl, ?_⟩
    rw [if_neg l2]
    refine lc_ok ?_
    lk
    refine LcOk.ex 1 (by decide) (fun _ y _ => y = .bl true) (fun _ _ _ _ _ h => h) (fun j H hj _ => hj) (fun H _ => Nat.le_refl _) (fun j H x H' hj _ ⟨e, _⟩ => e ▸ Ex.refl _) ?_ ?_
    · rintro N j H1 x H' hj e1 ⟨rfl, ch, hc, rfl⟩ e2 hN
      obtain rfl : j = 0 := by
        have : j < 1 := hj
        omega
      obtain rfl : i = ch := Option.some.inj hc
      lk
      refine ⟨i, rfl, ?_⟩
      lk
      rw [if_pos l1]
      exact hN _ _ (Ex.refl _) rfl
    · intro D ys H' hD e hys hl hy
      lk
      have hys2 : ys = [V.bl true] := by
        match ys, hl with
        | [y], _ => rw [hy 0 y rfl]
      subst hys2
      exact ⟨D, [true], rfl, .inl (.inl hys), k _ e⟩
end
end K32
/-! D5: members checked, names gathered and checked. -/
namespace K32
open PySem PySem.Spec PyProof.Rows L2
/-! one look: what stands written is read -/
local macro_rules | `(tactic| lk) => `(tactic| try simp only [tCB, tCons, tNil, tC, tVar, tOp, tUn, tTest, tB, tNot, tAndV, tOrV, tNotV, tAnd, tOr, tRet, tSeq, tAsg, gName, tDrop, tNext, tIfS, tIf, tCall, tCmp, rI0, rI, rEq, rNe, tPar, tPar3, tTup, tLst,
  tDGet, tSl, tPart, tNoPart, sDPut, tDisp, tPairs, tLstRg, tRg2, tCallN, tRevL, sFld, tFld, tMeth, tProp, tMake, tBM, tBM0, tNevE, tNever, tRetN, tBreak, tCont, gCons, gNil, gSub, tAug, ipI, wipe, iList, iTup, iRng1, iRng2, iStr, iEnum, RZ.iZipA, rU,
  L2.start, List.map_cons, List.map_nil, List.length_cons, List.length_nil, Nat.reduceAdd, Nat.reduceSub, List.replicate_succ, List.replicate_zero, List.cons_append, List.nil_append, List.append_nil,
  List.getElem?_cons_zero, List.getElem?_cons_succ, List.set_cons_zero, List.set_cons_succ, List.cons.injEq, Option.some.injEq, V.int.injEq, V.bl.injEq, V.str.injEq, V.ref.injEq, exists_eq_left', exists_eq_left, exists_eq', exists_and_left, and_assoc, true_and, and_true,
  if_true, Bool.false_eq_true, if_false, sc_ii, sc_ss, sc_ni, sc_in, sc_sn, sc_ns, sc_bb, eq_self, decide_eq_true_eq, Bool.not_eq_true', decide_eq_false_iff_not, ite_not, ne_ia', ne_ai', Int.reduceEq, Int.reduceLT, Int.reduceLE, reduceCtorEq, decide_true, decide_false, Bool.not_true, Bool.not_false, cxK, oV_n, oV_s, cast_lit])
theorem okName.ne {z : Str} (_ : okName z) : True := trivial
section
variable {P : Program} {w : World} {K : PySem.W.Frag} {mg : Str → Option Value} {base : Heap}
abbrev spCM : Sp := fun vs H Q _ => ∃ p v m, vs = [.int p, v] ∧ MemAt H v m ∧ m.ok ∧ ∀ v' H', Ex H H' → RowAt H' v' m → Q v' H'
abbrev s_checked_member : Stmt := top 30
abbrev N_checked_member : List Str := ["place", "member", "bits", "name", "kind"]
abbrev P_checked_member : List Str := ["place", "member"]
theorem sc_checked_member : FnScope N_checked_member P_checked_member (defScope s_checked_member) := ⟨rfl, rfl, rfl, by decide +kernel, rfl, by decide +kernel, by decide +kernel⟩
theorem bb_checked_member : BindsBy "checked_member" s_checked_member P_checked_member := fun _ _ _ _ _ _ us hl => match us, hl with | [_, _], _ => rfl
theorem ok_checked_member (c : Ctx K mg) : Df P w K mg base "checked_member" 7 P_checked_member spCM := by
  have D_is_row := ok_is_row (P := P) (w := w) (base := base) c
  have D_is_name := ok_is_name (P := P) (w := w) (base := base) c
  have D_checked_kind := ok_checked_kind (P := P) (w := w) (base := base) c 3
  have D_is_integer_kind := ok_is_integer_kind (P := P) (w := w) (base := base) c
  have D_is_integer := ok_is_integer (P := P) (w := w) (base := base) c
  refine Df.of c.h_checked_member sc_checked_member bb_checked_member (fun vs H Q E h => ?_) (fun f cdv A outer s H vs Q E hr h => ?_)
  · obtain ⟨p, v, m, rfl, _⟩ := h
    rfl
  · obtain ⟨p, v, ⟨nm, kd, bt⟩, rfl, ⟨a, kv, rfl, hk, ha⟩, ⟨hn, ho, hb⟩, k⟩ := h
    -- 0 place, 1 member, 2 bits, 3 name, 4 kind
    refine ⟨_, (pss_cons (ps_if (PW.pt (pw_or (pt_not (pt_val (pe_df D_is_row (hr.mono (by omega)) (by rfl) (pa_cons (pv 1) pa_nil)))) (pw_or (pt_cmpR op_notIn_seq (pe_callB call_len_seq (by rfl) c.no_len PySem.boot_len (pa_cons (pv 1) pa_nil)) (pe_tup (pa_cons pe_int (pa_cons pe_int pa_nil))) rfl) (pw_or1 (PW.pt (pw_and (pt_cmpR op_notN (pe_ix ix_tup (pv 1) pe_int (fun _ _ => rfl)) pe_non (nomark _)) (pw_and1 (pt_not (pt_val (pe_df D_is_name (hr.mono (by omega)) (by rfl) (pa_cons (pe_ix ix_tup (pv 1) pe_int (fun _ _ => rfl)) pa_nil))))))))))) (pss_one ps_never) pss_nil)
        (pss_cons (ps_par (i := 3) (j := 4) (by rfl) sc_checked_member.nd rfl rfl (by decide) rfl rfl (pa_cons (pe_ix ix_tup (pv 1) pe_int (fun _ _ => rfl)) (pa_cons (pe_df D_checked_kind (hr.mono (by omega)) (by rfl) (pa_cons (pe_ix ix_tup (pv 1) pe_int (fun _ _ => rfl)) pa_nil)) pa_nil)) (by rfl))
        (pss_cons (ps_if (pt_cmpR op_eq (pe_callB call_len_seq (by rfl) c.no_len PySem.boot_len (pa_cons (pv 1) pa_nil)) pe_int (nomark _)) (pss_cons (ps_if (PW.pt (pw_and (pt_cmpR op_isN (pv 3) pe_non (nomark _)) (pw_and1 (pt_not (pt_val (pe_callB call_isi (by rfl) c.no_isinstance (by decide +kernel) (pa_cons (pv 4) (pa_cons (pe_glob (v := .ref _) rfl c.mg_Shape rfl) pa_nil)))))))) (pss_one ps_never) pss_nil)
        (pss_one (ps_ret (pe_tup (pa_cons (pv 3) (pa_cons (pv 4) (pa_cons pe_non pa_nil))))))) pss_nil)
        (pss_cons (ps_if (pt_not (pt_val (pe_df D_is_integer_kind (hr.mono (by omega)) (by rfl) (pa_cons (pv 4) pa_nil)))) (pss_one ps_never) pss_nil)
        (pss_cons (ps_set (i := 2) sc_checked_member.nd rfl (Or.inl rfl) (pe_ix ix_tup (pv 1) pe_int (fun _ _ => rfl)))
        (pss_cons (ps_if (PW.pt (pw_or (pt_not (pt_val (pe_df D_is_integer (hr.mono (by omega)) (by rfl) (pa_cons (pv 2) pa_nil)))) (pw_or (pt_not (pt_chain op_le op_le pe_int (pv 2) (pe_op op_mul pe_int (pe_ix ix_tup (pv 4) pe_int (fun _ _ => rfl))))) (pw_or1 (PW.pt (pw_and (pt_cmpR op_eq (pv 2) pe_int (nomark _)) (pw_and1 (pt_cmpR op_notN (pv 3) pe_non (nomark _))))))))) (pss_one ps_never) pss_nil)
        (pss_one (ps_ret (pe_tup (pa_cons (pv 3) (pa_cons (pv 4) (pa_cons (pv 2) pa_nil)))))))))))), ?_⟩
    cases bt with
    | none =>
      have ha : H a = some (.tup [.str nm, kv]) := ha
      lk
      refine ⟨_, _, rfl, ha, fun H1 e1 => ?_⟩
      have h1 := e1 _ _ ha
      lk
      refine ⟨_, .inr (SqT.of h1), by decide, fun q hq => ?_⟩
      refine ⟨_, _, rfl, .inr (SqT.of upd_same), rfl, by decide, ?_⟩
      have e2 : Ex H1 (upd H1 q (.tup [.int 2, .int 3])) := Ex.new hq
      have h2 := e2 _ _ h1
      refine ⟨_, rfl, ?_⟩
      refine iteF ?_
      refine ix_0 h2 ?_
      lk
      refine ix_0 h2 ?_
      lk
      refine ⟨nm, rfl, hn, fun H3 e3 => ?_⟩
      have h3 := e3 _ _ h2
      lk
      refine ix_0 h3 ?_
      lk
      refine ix_1 h3 ?_
      lk
      refine ⟨kv, kd, rfl, ((hk.mono e1).mono e2).mono e3, ho, fun v' H4 e4 hk4 => ?_⟩
      have h4 := e4 _ _ h3
      lk
      refine ⟨_, .inr (SqT.of h4), ?_⟩
      lk
      refine ⟨by decide, fun r hr4 => ?_⟩
      exact k _ _ ((((e1.trans e2).trans e3).trans e4).trans (Ex.new hr4)) ⟨r, v', rfl, upd_same, hk4.mono (Ex.new hr4)⟩
    | some b =>
      have ha : H a = some (.tup [.str nm, kv, .int b]) := ha
      obtain ⟨n, sg, rfl, hb0, hb8⟩ := hb b rfl
      lk
      refine ⟨_, _, rfl, ha, fun H1 e1 => ?_⟩
      have h1 := e1 _ _ ha
      lk
      refine ⟨_, .inr (SqT.of h1), by decide, fun q hq => ?_⟩
      refine ⟨_, _, rfl, .inr (SqT.of upd_same), rfl, by decide, ?_⟩
      have e2 : Ex H1 (upd H1 q (.tup [.int 2, .int 3])) := Ex.new hq
      have h2 := e2 _ _ h1
      refine ⟨_, rfl, ?_⟩
      refine iteF ?_
      refine ix_0 h2 ?_
      lk
      refine ix_0 h2 ?_
      lk
      refine ⟨nm, rfl, hn, fun H3 e3 => ?_⟩
      have h3 := e3 _ _ h2
      lk
      refine ix_0 h3 ?_
      lk
      refine ix_1 h3 ?_
      lk
      refine ⟨kv, _, rfl, ((hk.mono e1).mono e2).mono e3, ho, fun v' H4 e4 hk4 => ?_⟩
      have h4 := e4 _ _ h3
      lk
      refine ⟨_, .inr (SqT.of h4), ?_⟩
      lk
      refine ⟨_, _, 3, rfl, hk4, ho, fun H5 e5 => ?_⟩
      have h5 := e5 _ _ h4
      simp only [Kd.isI]
      lk
      refine ix_2 h5 ?_
      lk
      refine ⟨b, rfl, ?_⟩
      lk
      obtain ⟨a2, rfl, ha2⟩ := hk4.mono e5
      simp only [tChain]
      lk
      rw [if_pos (show (0 : Int) ≤ b by omega)]
      refine ix_1 ha2 ?_
      lk
      refine ⟨.inl ⟨by decide, by decide⟩, ?_⟩
      rw [if_pos hb8, if_neg (show ¬ b = 0 by omega)]
      refine ⟨by decide, fun r hr5 => ?_⟩
      exact k _ _ (((((e1.trans e2).trans e3).trans e4).trans e5).trans (Ex.new hr5)) ⟨r, _, rfl, upd_same, KdAt.mono (Ex.new hr5) (k := .int n sg) ⟨a2, rfl, ha2⟩⟩
abbrev spCMs : Sp := fun vs H Q _ => ∃ v ms, vs = [v] ∧ MemsAt H v ms ∧ (∀ m ∈ ms, m.ok) ∧ ms.length ≤ 12 ∧ ∀ v' H', Ex H H' → RowsAt H' v' ms → Q v' H'
abbrev s_checked_members : Stmt := top 31
abbrev N_checked_members : List Str := ["members", "place", "member"]
abbrev P_checked_members : List Str := ["members"]
theorem sc_checked_members : FnScope N_checked_members P_checked_members (defScope s_checked_members) := ⟨rfl, rfl, rfl, by decide +kernel, rfl, by decide +kernel, by decide +kernel⟩
theorem bb_checked_members : BindsBy "checked_members" s_checked_members P_checked_members := fun _ _ _ _ _ _ us hl => match us, hl with | [_], _ => rfl
theorem ok_checked_members (c : Ctx K mg) : Df P w K mg base "checked_members" 8 P_checked_members spCMs := by
  have D_checked_member := ok_checked_member (P := P) (w := w) (base := base) c
  refine Df.of c.h_checked_members sc_checked_members bb_checked_members (fun vs H Q E h => ?_) (fun f cdv A outer s H vs Q E hr h => ?_)
  · obtain ⟨v, ms, rfl, _⟩ := h
    rfl
  · obtain ⟨v, ms, rfl, ⟨a, vs, rfl, ha, hm⟩, hok, hlen, k⟩ := h
    -- 0 members, 1 place, 2 member
    refine ⟨_, (pss_one (ps_ret (pe_lc (own := [("place", 1), ("member", 2)]) (g := gTup K 2 (gCons (gName 1) (gCons (gName 2) (gNil)))) rfl sc_checked_members.nd (pi_enum (by rfl) c.no_enumerate (pa_cons (pv 0) pa_nil)) (blkOk_by (own := [("place", 1), ("member", 2)]) (N := N_checked_members) (sc := defScope s_checked_members) (by decide +kernel)) (fun _ _ _ _ _ => (pg_tup rfl (pgs_cons (pg_name (i := 1) sc_checked_members.nd rfl (Or.inl rfl)) (pgs_cons (pg_name (i := 2) sc_checked_members.nd rfl (Or.inl rfl)) pgs_nil)))) (fun _ _ _ _ _ => pts_nil) (fun _ _ _ _ _ => (pe_df D_checked_member (hr.mono (by omega)) (by rfl) (pa_cons (pv 1) (pa_cons (pv 2) pa_nil))))))), ?_⟩
    lk
    refine lc_ok ?_
    lk
    refine ⟨vs, SqL.of ha, ?_⟩
    refine LcOk.ex ms.length (by omega) (fun i y H => ∀ m, ms[i]? = some m → RowAt H y m) (fun i y H1 H2 e h m hi => (h m hi).monoT e) ?_ ?_ ?_ ?_ ?_
    · intro i H1 hi e
      have hi2 : i < vs.length := hm.1.symm ▸ hi
      exact ⟨vs, _, SqL.of (e _ _ ha), List.getElem?_eq_getElem hi2⟩
    · intro H1 e
      exact ⟨vs, SqL.of (e _ _ ha), Nat.le_of_eq hm.1⟩
    · rintro i H1 x H2 hi e ⟨T, y, rfl, hT, rfl, _⟩
      exact Ex.new hT
    · rintro N i H1 x H2 hi e ⟨T, y, rfl, hT, rfl, hy⟩ e2 hN
      have hvi := hy vs (SqL.of (e _ _ ha))
      obtain ⟨m, hmi, hMem⟩ := hm.at hvi
      refine g_tup upd_same rfl ?_
      lk
      refine ⟨i, y, m, rfl, hMem.mono e2, hok m (List.mem_of_getElem? hmi), fun v' H' e' h' => hN _ _ e' fun m' hm' => ?_⟩
      rw [hmi] at hm'
      cases hm'
      exact h'
    · intro D ys H' hD e hys hl hy
      exact k _ _ e ⟨D, ys, rfl, hys, hl, fun i v m hv hm => hy i v hv m hm⟩
abbrev spNames : Sp := fun vs H Q _ => ∃ v ms, vs = [v] ∧ RowsAt H v ms ∧ ms.length ≤ 12 ∧ ∀ p H', H p = none → Ex H H' → H' p = some (.lst (ms.map fun m => V.str m.nm)) → Q (.ref p) H'
abbrev s_names_of : Stmt := top 33
abbrev N_names_of : List Str := ["rows", "found", "name", "kind", "bits"]
abbrev P_names_of : List Str := ["rows"]
theorem sc_names_of : FnScope N_names_of P_names_of (defScope s_names_of) := ⟨rfl, rfl, rfl, by decide +kernel, rfl, by decide +kernel, by decide +kernel⟩
theorem bb_names_of : BindsBy "names_of" s_names_of P_names_of := fun _ _ _ _ _ _ us hl => match us, hl with | [_], _ => rfl
theorem ok_names_of (c : Ctx K mg) : Df P w K mg base "names_of" 1 P_names_of spNames := by
  refine Df.of c.h_names_of sc_names_of bb_names_of (fun vs H Q E h => ?_) (fun f cdv A outer s H vs Q E hr h => ?_)
  · obtain ⟨v, ms, rfl, _⟩ := h
    rfl
  · obtain ⟨v, ms, rfl, ⟨a, vs, rfl, ha, hm⟩, hlen, k⟩ := h
    -- 0 rows, 1 found, 2 name, 3 kind, 4 bits
    refine ⟨_, (pss_cons (ps_set (i := 1) sc_names_of.nd rfl (Or.inl rfl) (pe_lst pa_nil))
        (pss_cons (ps_for PassesOwn.never rfl (pi_list (pv 0)) (pg_tup rfl (pgs_cons (pg_name (i := 2) sc_names_of.nd rfl (Or.inl rfl)) (pgs_cons (pg_name (i := 3) sc_names_of.nd rfl (Or.inl rfl)) (pgs_cons (pg_name (i := 4) sc_names_of.nd rfl (Or.inl rfl)) pgs_nil)))) (pss_one (ps_if (pt_cmpR op_notN (pv 2) pe_non (nomark _)) (pss_one (ps_expr (pe_bm PySem.F.plainAttrs_list PySem.F.slot_list_append PySem.F.type_list_append mt_append (pv 1) (pa_cons (pv 2) pa_nil)))) (pss_one (ps_if (pt_cmpR op_isN (pv 4) pe_non (nomark _)) (pss_one ps_never) pss_nil)))))
        (pss_one (ps_ret (pv 1))))), ?_⟩
    lk
    refine ⟨by decide, fun p hp => ?_⟩
    have e1 : Ex H (upd H p (.lst [])) := Ex.new hp
    refine for_ok ?_
    lk
    refine ⟨⟨vs, SqL.of (e1 _ _ ha)⟩, ?_⟩
    refine ForOk.list vs (fun i σ H' => (∃ x y z, σ = [some (.ref a), some (.ref p), x, y, z]) ∧ Ex H H' ∧ H' p = some (.lst ((ms.take i).map fun m => V.str m.nm)))
      ⟨⟨_, _, _, rfl⟩, e1, upd_same⟩ (fun i σ H' ⟨_, e, _⟩ => SqL.of (e _ _ ha)) ?_ ?_
    · rintro i σ H' x hx ⟨⟨x1, x2, x3, rfl⟩, e, hp'⟩
      obtain ⟨m, hmi, ⟨b, kv, rfl, hb, _⟩⟩ := hm.at hx
      have hi := (List.getElem?_eq_some_iff.mp hmi).1
      refine g_tup (e _ _ hb) rfl ?_
      lk
      refine ⟨.inl ⟨rfl, _, SqL.of hp'⟩, p, _, _, rfl, rfl, hp', ?_, Ex.mut e hp, ?_⟩
      · rw [List.length_map, List.length_take]
        exact Nat.lt_of_le_of_lt (by omega : _ ≤ 12) (by decide)
      · rw [upd_same, List.take_add_one, hmi, List.map_append] <;> rfl
    · rintro σ H' ⟨⟨x1, x2, x3, rfl⟩, e, hp'⟩
      lk
      refine k p H' hp e ?_
      rw [hp', hm.1, List.take_length]
abbrev spCNs : Sp := fun vs H Q _ => ∃ v ms, vs = [v] ∧ RowsAt H v ms ∧ ms.length ≤ 12 ∧ (ms.map (·.nm)).Nodup ∧ ∀ v' H', Ex H H' → Q v' H'
abbrev s_checked_names : Stmt := top 32
abbrev N_checked_names : List Str := ["rows", "seen", "name"]
abbrev P_checked_names : List Str := ["rows"]
theorem sc_checked_names : FnScope N_checked_names P_checked_names (defScope s_checked_names) := ⟨rfl, rfl, rfl, by decide +kernel, rfl, by decide +kernel, by decide +kernel⟩
theorem bb_checked_names : BindsBy "checked_names" s_checked_names P_checked_names := fun _ _ _ _ _ _ us hl => match us, hl with | [_], _ => rfl
theorem ok_checked_names (c : Ctx K mg) : Df P w K mg base "checked_names" 2 P_checked_names spCNs := by
  have D_names_of := ok_names_of (P := P) (w := w) (base := base) c
  refine Df.of c.h_checked_names sc_checked_names bb_checked_names (fun vs H Q E h => ?_) (fun f cdv A outer s H vs Q E hr h => ?_)
  · obtain ⟨v, ms, rfl, _⟩ := h
    rfl
  · obtain ⟨v, ms, rfl, hm, hlen, hnd, k⟩ := h
    -- 0 rows, 1 seen, 2 name
    refine ⟨_, (pss_cons (ps_set (i := 1) sc_checked_names.nd rfl (Or.inl rfl) (pe_lst pa_nil))
        (pss_cons (ps_for PassesOwn.never rfl (pi_list (pe_df D_names_of (hr.mono (by omega)) (by rfl) (pa_cons (pv 0) pa_nil))) (pg_name (i := 2) sc_checked_names.nd rfl (Or.inl rfl)) (pss_cons (ps_if (pt_cmpR op_in_seq (pv 2) (pv 1) rfl) (pss_one ps_never) pss_nil)
        (pss_one (ps_expr (pe_bm PySem.F.plainAttrs_list PySem.F.slot_list_append PySem.F.type_list_append mt_append (pv 1) (pa_cons (pv 2) pa_nil))))))
        (pss_one (ps_ret (pv 1))))), ?_⟩
    lk
    refine ⟨by decide, fun p hp => ?_⟩
    have e1 : Ex H (upd H p (.lst [])) := Ex.new hp
    refine for_ok ?_
    lk
    refine ⟨v, ms, rfl, hm.mono e1, hlen, fun q H2 hq0 e2 hq => ?_⟩
    lk
    have hp2 : H2 p = some (.lst []) := e2 _ _ upd_same
    have hqp : q ≠ p := fun z => by
      subst z
      rw [upd_same] at hq0
      cases hq0
    refine ⟨⟨_, SqL.of hq⟩, ?_⟩
    have e0 : Ex H H2 := e1.trans e2
    have eq : ms.map (fun m => V.str m.nm) = (ms.map (·.nm)).map V.str := by rw [List.map_map] <;> rfl
    rw [eq] at hq
    refine ForOk.list ((ms.map (·.nm)).map V.str) (fun i σ H' => (∃ x, σ = [some v, some (.ref p), x]) ∧ Ex H H' ∧ H' p = some (.lst (((ms.map (·.nm)).take i).map V.str)) ∧ H' q = some (.lst ((ms.map (·.nm)).map V.str)))
      ⟨⟨_, rfl⟩, e0, hp2, hq⟩ (fun i σ H' ⟨_, _, _, h⟩ => SqL.of h) ?_ ?_
    · rintro i σ H' x hx ⟨⟨x1, rfl⟩, e, hp', hq'⟩
      rw [List.getElem?_map] at hx
      obtain ⟨z, hz, rfl⟩ := Option.map_eq_some_iff.mp hx
      have hi := (List.getElem?_eq_some_iff.mp hz).1
      have hnot : ¬ z ∈ (ms.map (·.nm)).take i := fun hmem => by
        obtain ⟨j, hj, ej⟩ := List.mem_take_iff_getElem.mp hmem
        have hj2 : (ms.map (·.nm))[j]? = some z := by
          rw [List.getElem?_eq_getElem (by omega), ej]
        have := nd_ix hnd hj2 hz
        omega
      lk
      refine ⟨p, _, rfl, .inl (SqL.of hp'), rfl, flat_strs, ?_⟩
      lk
      rw [inV_strs, decide_eq_false hnot]
      lk
      refine ⟨.inl ⟨rfl, _, SqL.of hp'⟩, p, _, _, rfl, rfl, hp', ?_, Ex.mut e hp, ?_, ?_⟩
      · rw [List.length_map, List.length_take, List.length_map]
        exact Nat.lt_of_le_of_lt (by omega : _ ≤ 12) (by decide)
      · rw [upd_same, List.take_add_one, hz, List.map_append] <;> rfl
      · rw [upd_ne hqp]
        exact hq'
    · rintro σ H' ⟨⟨x1, rfl⟩, e, _⟩
      lk
      exact k _ _ e
end
end K32
/-! D6: where members lie: the four layers of the two conventions. -/
namespace K32
open PySem PySem.Spec PyProof.Rows L2
/-! one look: what stands written is read -/
local macro_rules | `(tactic| lk) => `(tactic| try simp only [tCB, tCons, tNil, tC, tVar, tOp, tUn, tTest, tB, tNot, tAndV, tOrV, tNotV, tAnd, tOr, tRet, tSeq, tAsg, gName, tDrop, tNext, tIfS, tIf, tCall, tCmp, rI0, rI, rEq, rNe, tPar, tPar3, tTup, tLst,
  tDGet, tSl, tPart, tNoPart, sDPut, tDisp, tPairs, tLstRg, tRg2, tCallN, tRevL, sFld, tFld, tMeth, tProp, tMake, tBM, tBM0, tNevE, tNever, tRetN, tBreak, tCont, gCons, gNil, gSub, tAug, ipI, wipe, iList, iTup, iRng1, iRng2, iStr, iEnum, RZ.iZipA, rU,
  L2.start, List.map_cons, List.map_nil, List.length_cons, List.length_nil, Nat.reduceAdd, Nat.reduceSub, List.replicate_succ, List.replicate_zero, List.cons_append, List.nil_append, List.append_nil,
  List.getElem?_cons_zero, List.getElem?_cons_succ, List.set_cons_zero, List.set_cons_succ, List.cons.injEq, Option.some.injEq, V.int.injEq, V.bl.injEq, V.str.injEq, V.ref.injEq, exists_eq_left', exists_eq_left, exists_eq', exists_and_left, and_assoc, true_and, and_true,
  if_true, Bool.false_eq_true, if_false, sc_ii, sc_ss, sc_ni, sc_in, sc_sn, sc_ns, sc_bb, eq_self, decide_eq_true_eq, Bool.not_eq_true', decide_eq_false_iff_not, ite_not, ne_ia', ne_ai', Int.reduceEq, Int.reduceLT, Int.reduceLE, reduceCtorEq, decide_true, decide_false, Bool.not_true, Bool.not_false, cxK, oV_n, oV_s, cast_lit])
def mxI (a b : Int) : Int := if b > a then b else a
theorem cutE {t : TE} {σ : L2.St} {H : Hp} {Q : VK} (h : t σ H Q) : tCutE t σ H Q := ⟨Q, h, fun _ _ q => q⟩
theorem cutT {t : TT} {σ : L2.St} {H : Hp} {Q : Bool → Hp → Prop} (h : t σ H Q) : tCutT t σ H Q := ⟨Q, h, fun _ _ q => q⟩
theorem cutS {t u : TS} {D : Ends} {σ : L2.St} {H : Hp} (h : t { D with nx := u D } σ H) : tCutS t u D σ H := ⟨u D, h, fun _ _ q => q⟩
theorem stepOf_pos {k : Kd} {pk : Option Int} (h : k.ok 3) (hp : okPack pk) : 0 < stepOf k pk ∧ stepOf k pk ≤ 8 := by
  have hs := h.step_pos
  cases pk with
  | none => exact hs
  | some p =>
    have h0 : 0 < p := by
      have h2 : p = 1 ∨ p = 2 ∨ p = 4 ∨ p = 8 ∨ p = 16 := by
        have h1 : inV (.int p) [.int 1, .int 2, .int 4, .int 8, .int 16] = true := hp
        simp [inV, eqV] at h1
        omega
      omega
    show 0 < (if p < k.step then p else k.step) ∧ (if p < k.step then p else k.step) ≤ 8
    split <;> omega
theorem foldl_next {α β : Type} (f : β → α → β) (b : β) {l : List α} {i : Nat} {x : α} (h : l[i]? = some x) : (l.take (i + 1)).foldl f b = f ((l.take i).foldl f b) x := by
  rw [List.take_add_one, h, List.foldl_append] <;> rfl
/-- what a layer hands back -/
def LaidAt (H : Hp) (v : V) (pos : List Int) (taken least : Int) : Prop := ∃ a p, v = .ref a ∧ H a = some (.tup [.ref p, .int taken, .int least]) ∧ H p = some (.lst (pos.map V.int))
/-! ### MSVC, structures -/
structure MS where
  at_ : Int
  least : Int
  unit : Int
  used : Int
  pos : List Int
def msStep (pk : Option Int) (s : MS) (m : Mem) : MS := match m.bt with
  | none => ⟨up s.at_ (stepOf m.kd pk) + m.kd.size, mxI s.least (stepOf m.kd pk), 0, s.used, s.pos ++ [8 * up s.at_ (stepOf m.kd pk)]⟩
  | some b => if s.unit = m.kd.size ∧ ¬ (8 * m.kd.size < s.used + b) then ⟨s.at_, mxI s.least (stepOf m.kd pk), s.unit, s.used + b, s.pos ++ [8 * (s.at_ - m.kd.size) + s.used]⟩
    else ⟨up s.at_ (stepOf m.kd pk) + m.kd.size, mxI s.least (stepOf m.kd pk), m.kd.size, 0 + b, s.pos ++ [8 * (up s.at_ (stepOf m.kd pk) + m.kd.size - m.kd.size) + 0]⟩
def msFold (pk : Option Int) (ms : List Mem) : MS := ms.foldl (msStep pk) ⟨0, 1, 0, 0, []⟩
theorem msStep_len {pk : Option Int} {s : MS} {m : Mem} : (msStep pk s m).pos.length = s.pos.length + 1 := by
  unfold msStep
  split
  · simp
  · split <;> simp
theorem msFold_len {pk : Option Int} {ms : List Mem} : (msFold pk ms).pos.length = ms.length := by
  have h : ∀ (l : List Mem) (s : MS), (l.foldl (msStep pk) s).pos.length = s.pos.length + l.length := by
    intro l
    induction l with
    | nil => intro s; rfl
    | cons m l ih =>
      intro s
      show ((l.foldl (msStep pk) (msStep pk s m)).pos).length = _
      rw [ih, msStep_len, List.length_cons]
      omega
  have := h ms ⟨0, 1, 0, 0, []⟩
  simpa [msFold] using this
def MsInv (v : V) (pk : Option Int) (p : Addr) (ms : List Mem) (H : Hp) (i : Nat) (σ : L2.St) (H' : Hp) : Prop := ∃ (s : MS) (x1 x2 x3 x4 x5 : Option V), s = msFold pk (ms.take i) ∧
  σ = [some v, some (oV pk), some (.int s.at_), some (.int s.least), some (.ref p), some (.int s.unit), some (.int s.used), x1, x2, x3, x4, x5] ∧ Ex H H' ∧ H' p = some (.lst (s.pos.map V.int))
theorem MsInv.next {v : V} {pk : Option Int} {p : Addr} {ms : List Mem} {H H' : Hp} {i : Nat} {a b c d : Int} {pos : List Int} {x1 x2 x3 x4 x5 : Option V} (h : msFold pk (ms.take (i + 1)) = ⟨a, b, c, d, pos⟩) (e : Ex H H') (hp : H' p = some (.lst (pos.map V.int))) :
    MsInv v pk p ms H (i + 1) [some v, some (oV pk), some (.int a), some (.int b), some (.ref p), some (.int c), some (.int d), x1, x2, x3, x4, x5] H' := ⟨_, x1, x2, x3, x4, x5, rfl, by rw [h], e, by rw [h]; exact hp⟩
section
variable {P : Program} {w : World} {K : PySem.W.Frag} {mg : Str → Option Value} {base : Heap}
abbrev spMs : Sp := fun vs H Q _ => ∃ v pk ms, vs = [v, oV pk] ∧ RowsAt H v ms ∧ ms.length ≤ 12 ∧ (∀ m ∈ ms, m.ok) ∧ okPack pk ∧ ∀ v' H', Ex H H' → LaidAt H' v' (msFold pk ms).pos (msFold pk ms).at_ (msFold pk ms).least → Q v' H'
abbrev s_msvc_structure : Stmt := top 38
abbrev N_msvc_structure : List Str := ["rows", "pack", "at", "least", "positions", "unit", "used", "name", "kind", "bits", "step", "size"]
abbrev P_msvc_structure : List Str := ["rows", "pack"]
theorem sc_msvc_structure : FnScope N_msvc_structure P_msvc_structure (defScope s_msvc_structure) := ⟨rfl, rfl, rfl, by decide +kernel, rfl, by decide +kernel, by decide +kernel⟩
theorem bb_msvc_structure : BindsBy "msvc_structure" s_msvc_structure P_msvc_structure := fun _ _ _ _ _ _ us hl => match us, hl with | [_, _], _ => rfl
theorem ok_msvc_structure (c : Ctx K mg) : Df P w K mg base "msvc_structure" 5 P_msvc_structure spMs := by
  have D_step_of := ok_step_of (P := P) (w := w) (base := base) c
  have D_size_of := ok_size_of (P := P) (w := w) (base := base) c 3
  have D_up := ok_up (P := P) (w := w) (base := base) c
  refine Df.of c.h_msvc_structure sc_msvc_structure bb_msvc_structure (fun vs H Q E h => ?_) (fun f cdv A outer s H vs Q E hr h => ?_)
  · obtain ⟨v, pk, ms, rfl, _⟩ := h
    rfl
  · obtain ⟨v, pk, ms, rfl, ⟨a, vs, rfl, ha, hm⟩, hlen, hok, hp, k⟩ := h
    -- 0 rows, 1 pack, 2 at, 3 least, 4 positions, 5 unit, 6 used, 7 name, 8 kind, 9 bits, 10 step, 11 size
    refine ⟨_, (pss_cons (ps_par3 (i := 2) (j := 3) (l := 4) rfl sc_msvc_structure.nd rfl rfl rfl (by decide) (by decide) (by decide) rfl rfl rfl (pa_cons pe_int (pa_cons pe_int (pa_cons (pe_lst pa_nil) pa_nil))) (by rfl))
        (pss_cons (ps_asg (pe_tup (pa_cons pe_int (pa_cons pe_int pa_nil))) (pg_tup rfl (pgs_cons (pg_name (i := 5) sc_msvc_structure.nd rfl (Or.inl rfl)) (pgs_cons (pg_name (i := 6) sc_msvc_structure.nd rfl (Or.inl rfl)) pgs_nil))))
        (pss_cons (ps_for PassesOwn.never rfl (pi_list (pv 0)) (pg_tup rfl (pgs_cons (pg_name (i := 7) sc_msvc_structure.nd rfl (Or.inl rfl)) (pgs_cons (pg_name (i := 8) sc_msvc_structure.nd rfl (Or.inl rfl)) (pgs_cons (pg_name (i := 9) sc_msvc_structure.nd rfl (Or.inl rfl)) pgs_nil)))) (pss_cons (ps_par (i := 10) (j := 11) (by rfl) sc_msvc_structure.nd rfl rfl (by decide) rfl rfl (pa_cons (pe_df D_step_of (hr.mono (by omega)) (by rfl) (pa_cons (pv 8) (pa_cons (pv 1) pa_nil))) (pa_cons (pe_df D_size_of (hr.mono (by omega)) (by rfl) (pa_cons (pv 8) pa_nil)) pa_nil)) (by rfl))
        (pss_cutS (ps_if (pt_cmpR op_isN (pv 9) pe_non (nomark _)) (pss_cons (ps_set (i := 2) sc_msvc_structure.nd rfl (Or.inl rfl) (pe_df D_up (hr.mono (by omega)) (by rfl) (pa_cons (pv 2) (pa_cons (pv 10) pa_nil))))
        (pss_cons (ps_expr (pe_bm PySem.F.plainAttrs_list PySem.F.slot_list_append PySem.F.type_list_append mt_append (pv 4) (pa_cons (pe_op op_mul pe_int (pv 2)) pa_nil)))
        (pss_one (ps_par (i := 2) (j := 5) (by rfl) sc_msvc_structure.nd rfl rfl (by decide) rfl rfl (pa_cons (pe_op op_add (pv 2) (pv 11)) (pa_cons pe_int pa_nil)) (by rfl))))) (pss_one (ps_if (pt_cmpR op_eq (pv 9) pe_int (nomark _)) (pss_cons (ps_expr (pe_bm PySem.F.plainAttrs_list PySem.F.slot_list_append PySem.F.type_list_append mt_append (pv 4) (pa_cons (pe_op op_mul pe_int (pv 2)) pa_nil)))
        (pss_one (ps_set (i := 5) sc_msvc_structure.nd rfl (Or.inl rfl) pe_int))) (pss_cutS (ps_if (PW.pt (pw_or (pt_cmpR op_ne (pv 5) (pv 11) (nomark _)) (pw_or1 (pt_cmpR op_gt (pe_op op_add (pv 6) (pv 9)) (pe_op op_mul pe_int (pv 11)) (nomark _))))) (pss_one (ps_par3 (i := 2) (j := 5) (l := 6) rfl sc_msvc_structure.nd rfl rfl rfl (by decide) (by decide) (by decide) rfl rfl rfl (pa_cons (pe_op op_add (pe_df D_up (hr.mono (by omega)) (by rfl) (pa_cons (pv 2) (pa_cons (pv 10) pa_nil))) (pv 11)) (pa_cons (pv 11) (pa_cons pe_int pa_nil))) (by rfl))) pss_nil)
        (pss_cons (ps_expr (pe_bm PySem.F.plainAttrs_list PySem.F.slot_list_append PySem.F.type_list_append mt_append (pv 4) (pa_cons (pe_op op_add (pe_op op_mul pe_int (pe_op op_sub (pv 2) (pv 11))) (pv 6)) pa_nil)))
        (pss_one (ps_aug (i := 6) sc_msvc_structure.nd rfl (Or.inl rfl) (pv 9) ip_add)))))))
        (pss_one (ps_set (i := 3) sc_msvc_structure.nd rfl (Or.inl rfl) (pe_cut (pe_ifExp (pt_cmpR op_ne (pv 9) pe_int (nomark _)) (pe_callB (call_max2 rfl) (by rfl) c.no_max (by decide +kernel) (pa_cons (pv 3) (pa_cons (pv 10) pa_nil))) (pv 3))))))))
        (pss_one (ps_ret (pe_tup (pa_cons (pv 4) (pa_cons (pv 2) (pa_cons (pv 3) pa_nil))))))))), ?_⟩
    lk
    refine ⟨by decide, fun p hp0 => ?_⟩
    lk
    refine ⟨by decide, fun q0 hq0 => ?_⟩
    refine g_tup upd_same rfl ?_
    lk
    have e1 : Ex H (upd (upd H p (.lst [])) q0 (.tup [.int 0, .int 0])) := (Ex.new hp0).trans (Ex.new hq0)
    refine for_ok ?_
    lk
    refine ⟨⟨vs, SqL.of (e1 _ _ ha)⟩, ?_⟩
    refine ForOk.list vs (MsInv (.ref a) pk p ms H) ⟨_, _, _, _, _, _, rfl, rfl, e1, (upd_ne (ne_of_none upd_same hq0)).trans upd_same⟩ (fun i σ H' ⟨_, _, _, _, _, _, _, _, e, _⟩ => SqL.of (e _ _ ha)) ?_ ?_
    · rintro i σ H1 x hx ⟨s, x1, x2, x3, x4, x5, hs, rfl, e, hp1⟩
      obtain ⟨m, hmi, ⟨b, kv, rfl, hb, hk⟩⟩ := hm.at hx
      have hmo := hok m (List.mem_of_getElem? hmi)
      have hst := stepOf_pos hmo.2.1 hp
      have hkv : KdAt H1 kv m.kd := hk.mono e
      have hsl : (s.pos.map V.int).length < sizeLine := by
        rw [List.length_map, hs, msFold_len, List.length_take]
        exact Nat.lt_of_le_of_lt (by omega : _ ≤ 12) (by decide)
      have hsz := hmo.2.1.size_pos
      have hs1 : msFold pk (ms.take (i + 1)) = msStep pk s m := by
        rw [hs]
        exact foldl_next _ _ hmi
      refine g_tup (e _ _ hb) rfl ?_
      lk
      refine ⟨kv, m.kd, pk, rfl, hkv, hmo.2.1, ?_⟩
      lk
      refine ⟨kv, m.kd, rfl, hkv, hmo.2.1, ?_⟩
      refine cutS ?_
      cases hbt : m.bt with
      | none =>
        lk
        refine ⟨_, _, rfl, hst.1, by omega, ?_⟩
        lk
        refine ⟨.inl ⟨rfl, _, SqL.of hp1⟩, .inl ⟨by decide, by decide⟩, p, _, _, rfl, rfl, hp1, hsl, ?_⟩
        lk
        refine cutE ?_
        lk
        refine MsInv.next (pos := s.pos ++ [?x1]) (hs1.trans ?h1) (Ex.mut e hp0) ?h2
        case h2 =>
          rw [upd_same, List.map_append]
          rfl
        case h1 =>
          simp only [msStep, hbt]
          rfl
      | some b =>
        obtain ⟨n, sg, hkd, hb0, hb8⟩ := hmo.2.2 b hbt
        have hne : ¬ b = 0 := by omega
        lk
        rw [if_neg hne]
        refine cutS ?_
        lk
        by_cases hu : s.unit = m.kd.size
        · rw [if_pos hu]
          refine ⟨.inl ⟨by decide, by decide⟩, ?_⟩
          by_cases ho : 8 * m.kd.size < s.used + b
          · rw [if_pos ho]
            refine ⟨_, _, rfl, hst.1, by omega, ?_⟩
            lk
            refine ⟨.inl ⟨rfl, _, SqL.of hp1⟩, .inl ⟨by decide, by decide⟩, p, _, _, rfl, rfl, hp1, hsl, ?_⟩
            lk
            refine cutE ?_
            lk
            rw [if_neg hne]
            refine MsInv.next (pos := s.pos ++ [?x2]) (hs1.trans ?h1) (Ex.mut e hp0) ?h2
            case h2 =>
              rw [upd_same, List.map_append]
              rfl
            case h1 =>
              simp only [msStep, hbt, ho, not_true_eq_false, and_false, if_false]
              rfl
          · rw [if_neg ho]
            refine ⟨.inl ⟨rfl, _, SqL.of hp1⟩, .inl ⟨by decide, by decide⟩, p, _, _, rfl, rfl, hp1, hsl, ?_⟩
            lk
            refine cutE ?_
            lk
            rw [if_neg hne]
            refine MsInv.next (pos := s.pos ++ [?x3]) (hs1.trans ?h1) (Ex.mut e hp0) ?h2
            case h2 =>
              rw [upd_same, List.map_append]
              rfl
            case h1 =>
              simp only [msStep, hbt, hu, ho, not_false_eq_true, and_true, if_true]
              rfl
        · rw [if_neg hu]
          refine ⟨_, _, rfl, hst.1, by omega, ?_⟩
          lk
          refine ⟨.inl ⟨rfl, _, SqL.of hp1⟩, .inl ⟨by decide, by decide⟩, p, _, _, rfl, rfl, hp1, hsl, ?_⟩
          lk
          refine cutE ?_
          lk
          rw [if_neg hne]
          refine MsInv.next (pos := s.pos ++ [?x4]) (hs1.trans ?h1) (Ex.mut e hp0) ?h2
          case h2 =>
            rw [upd_same, List.map_append]
            rfl
          case h1 =>
            simp only [msStep, hbt, hu, false_and, if_false]
            rfl
    · rintro σ H1 ⟨s, x1, x2, x3, x4, x5, hs, rfl, e, hp1⟩
      lk
      refine ⟨by decide, fun q hq => ?_⟩
      rw [hm.1, List.take_length] at hs
      subst hs
      exact k _ _ (e.trans (Ex.new hq)) ⟨q, p, rfl, upd_same, (upd_ne (ne_of_none hp1 hq)).trans hp1⟩
end
end K32
/-! D7: the other three layers. -/
namespace K32
open PySem PySem.Spec PyProof.Rows L2
/-! one look: what stands written is read -/
local macro_rules | `(tactic| lk) => `(tactic| try simp only [tCB, tCons, tNil, tC, tVar, tOp, tUn, tTest, tB, tNot, tAndV, tOrV, tNotV, tAnd, tOr, tRet, tSeq, tAsg, gName, tDrop, tNext, tIfS, tIf, tCall, tCmp, rI0, rI, rEq, rNe, tPar, tPar3, tTup, tLst,
  tDGet, tSl, tPart, tNoPart, sDPut, tDisp, tPairs, tLstRg, tRg2, tCallN, tRevL, sFld, tFld, tMeth, tProp, tMake, tBM, tBM0, tNevE, tNever, tRetN, tBreak, tCont, gCons, gNil, gSub, tAug, ipI, wipe, iList, iTup, iRng1, iRng2, iStr, iEnum, RZ.iZipA, rU,
  L2.start, List.map_cons, List.map_nil, List.length_cons, List.length_nil, Nat.reduceAdd, Nat.reduceSub, List.replicate_succ, List.replicate_zero, List.cons_append, List.nil_append, List.append_nil,
  List.getElem?_cons_zero, List.getElem?_cons_succ, List.set_cons_zero, List.set_cons_succ, List.cons.injEq, Option.some.injEq, V.int.injEq, V.bl.injEq, V.str.injEq, V.ref.injEq, exists_eq_left', exists_eq_left, exists_eq', exists_and_left, and_assoc, true_and, and_true,
  if_true, Bool.false_eq_true, if_false, sc_ii, sc_ss, sc_ni, sc_in, sc_sn, sc_ns, sc_bb, eq_self, decide_eq_true_eq, Bool.not_eq_true', decide_eq_false_iff_not, ite_not, ne_ia', ne_ai', Int.reduceEq, Int.reduceLT, Int.reduceLE, reduceCtorEq, decide_true, decide_false, Bool.not_true, Bool.not_false, cxK, oV_n, oV_s, cast_lit])
/-! ### System V, structures -/
structure SS where
  at_ : Int
  least : Int
  pos : List Int
def ssAt (pk : Option Int) (s : SS) (m : Mem) : Int := match m.bt with
  | none => up s.at_ (8 * stepOf m.kd pk)
  | some b => if moved s.at_ m.kd b pk = true then up s.at_ (8 * stepOf m.kd pk) else s.at_
def ssStep (pk : Option Int) (s : SS) (m : Mem) : SS := ⟨ssAt pk s m + (match m.bt with | none => 8 * m.kd.size | some b => b), mxI s.least (stepOf m.kd pk), s.pos ++ [ssAt pk s m]⟩
def ssFold (pk : Option Int) (ms : List Mem) : SS := ms.foldl (ssStep pk) ⟨0, 1, []⟩
theorem ssFold_len {pk : Option Int} {ms : List Mem} : (ssFold pk ms).pos.length = ms.length := by
  have h : ∀ (l : List Mem) (s : SS), (l.foldl (ssStep pk) s).pos.length = s.pos.length + l.length := by
    intro l
    induction l with
    | nil => intro s; rfl
    | cons m l ih =>
      intro s
      show ((l.foldl (ssStep pk) (ssStep pk s m)).pos).length = _
      rw [ih, List.length_cons]
      simp only [ssStep, List.length_append, List.length_singleton]
      omega
  have := h ms ⟨0, 1, []⟩
  simpa [ssFold] using this
def SsInv (v : V) (pk : Option Int) (p : Addr) (ms : List Mem) (H : Hp) (i : Nat) (σ : L2.St) (H' : Hp) : Prop := ∃ (s : SS) (x1 x2 x3 x4 : Option V), s = ssFold pk (ms.take i) ∧
  σ = [some v, some (oV pk), some (.int s.at_), some (.int s.least), some (.ref p), x1, x2, x3, x4] ∧ Ex H H' ∧ H' p = some (.lst (s.pos.map V.int))
theorem SsInv.next {v : V} {pk : Option Int} {p : Addr} {ms : List Mem} {H H' : Hp} {i : Nat} {a b : Int} {pos : List Int} {x1 x2 x3 x4 : Option V} (h : ssFold pk (ms.take (i + 1)) = ⟨a, b, pos⟩) (e : Ex H H') (hp : H' p = some (.lst (pos.map V.int))) :
    SsInv v pk p ms H (i + 1) [some v, some (oV pk), some (.int a), some (.int b), some (.ref p), x1, x2, x3, x4] H' := ⟨_, x1, x2, x3, x4, rfl, by rw [h], e, by rw [h]; exact hp⟩
/-! ### unions -/
structure US where
  taken : Int
  least : Int
def muStep (pk : Option Int) (s : US) (m : Mem) : US := ⟨mxI s.taken m.kd.size, mxI s.least (stepOf m.kd pk)⟩
def muFold (pk : Option Int) (ms : List Mem) : US := ms.foldl (muStep pk) ⟨0, 1⟩
def suStep (pk : Option Int) (s : US) (m : Mem) : US := ⟨mxI s.taken (match m.bt with | none => m.kd.size | some b => up b 8 / 8), mxI s.least (stepOf m.kd pk)⟩
def suFold (pk : Option Int) (ms : List Mem) : US := ms.foldl (suStep pk) ⟨0, 1⟩
/-- of a union: both folds -/
def UsInv (f : US → Mem → US) (v : V) (pk : Option Int) (ms : List Mem) (H : Hp) (i : Nat) (σ : L2.St) (H' : Hp) : Prop := ∃ (s : US) (x1 x2 x3 : Option V), s = (ms.take i).foldl f ⟨0, 1⟩ ∧
  σ = [some v, some (oV pk), some (.int s.taken), some (.int s.least), x1, x2, x3] ∧ Ex H H'
theorem UsInv.next {f : US → Mem → US} {v : V} {pk : Option Int} {ms : List Mem} {H H' : Hp} {i : Nat} {a b : Int} {x1 x2 x3 : Option V} (h : (ms.take (i + 1)).foldl f ⟨0, 1⟩ = ⟨a, b⟩) (e : Ex H H') :
    UsInv f v pk ms H (i + 1) [some v, some (oV pk), some (.int a), some (.int b), x1, x2, x3] H' := ⟨_, x1, x2, x3, rfl, by rw [h], e⟩
theorem zeros (n : Nat) : (List.replicate n [V.int 0]).flatten = (List.replicate n (0 : Int)).map V.int := by
  induction n with
  | zero => rfl
  | succ n ih => rw [List.replicate_succ, List.flatten_cons, ih, List.replicate_succ] <;> rfl
section
variable {P : Program} {w : World} {K : PySem.W.Frag} {mg : Str → Option Value} {base : Heap}
abbrev spSs : Sp := fun vs H Q _ => ∃ v pk ms, vs = [v, oV pk] ∧ RowsAt H v ms ∧ ms.length ≤ 12 ∧ (∀ m ∈ ms, m.ok) ∧ okPack pk ∧ ∀ v' H', Ex H H' → LaidAt H' v' (ssFold pk ms).pos (up (ssFold pk ms).at_ 8 / 8) (ssFold pk ms).least → Q v' H'
abbrev s_sysv_structure : Stmt := top 52
abbrev N_sysv_structure : List Str := ["rows", "pack", "at", "least", "positions", "name", "kind", "bits", "step"]
abbrev P_sysv_structure : List Str := ["rows", "pack"]
theorem sc_sysv_structure : FnScope N_sysv_structure P_sysv_structure (defScope s_sysv_structure) := ⟨rfl, rfl, rfl, by decide +kernel, rfl, by decide +kernel, by decide +kernel⟩
theorem bb_sysv_structure : BindsBy "sysv_structure" s_sysv_structure P_sysv_structure := fun _ _ _ _ _ _ us hl => match us, hl with | [_, _], _ => rfl
theorem ok_sysv_structure (c : Ctx K mg) : Df P w K mg base "sysv_structure" 5 P_sysv_structure spSs := by
  have D_step_of := ok_step_of (P := P) (w := w) (base := base) c
  have D_size_of := ok_size_of (P := P) (w := w) (base := base) c 3
  have D_is_moved := ok_is_moved (P := P) (w := w) (base := base) c
  have D_counts := ok_counts (P := P) (w := w) (base := base) c
  have D_up := ok_up (P := P) (w := w) (base := base) c
  refine Df.of c.h_sysv_structure sc_sysv_structure bb_sysv_structure (fun vs H Q E h => ?_) (fun f cdv A outer s H vs Q E hr h => ?_)
  · obtain ⟨v, pk, ms, rfl, _⟩ := h
    rfl
  · obtain ⟨v, pk, ms, rfl, ⟨a, vs, rfl, ha, hm⟩, hlen, hok, hp, k⟩ := h
    -- 0 rows, 1 pack, 2 at, 3 least, 4 positions, 5 name, 6 kind, 7 bits, 8 step
    refine ⟨_, (pss_cons (ps_par3 (i := 2) (j := 3) (l := 4) rfl sc_sysv_structure.nd rfl rfl rfl (by decide) (by decide) (by decide) rfl rfl rfl (pa_cons pe_int (pa_cons pe_int (pa_cons (pe_lst pa_nil) pa_nil))) (by rfl))
        (pss_cons (ps_for PassesOwn.never rfl (pi_list (pv 0)) (pg_tup rfl (pgs_cons (pg_name (i := 5) sc_sysv_structure.nd rfl (Or.inl rfl)) (pgs_cons (pg_name (i := 6) sc_sysv_structure.nd rfl (Or.inl rfl)) (pgs_cons (pg_name (i := 7) sc_sysv_structure.nd rfl (Or.inl rfl)) pgs_nil)))) (pss_cons (ps_set (i := 8) sc_sysv_structure.nd rfl (Or.inl rfl) (pe_df D_step_of (hr.mono (by omega)) (by rfl) (pa_cons (pv 6) (pa_cons (pv 1) pa_nil))))
        (pss_cutS (ps_if (PW.pt (pw_or (pt_cmpR op_isN (pv 7) pe_non (nomark _)) (pw_or1 (pt_val (pe_df D_is_moved (hr.mono (by omega)) (by rfl) (pa_cons (pv 2) (pa_cons (pv 6) (pa_cons (pv 7) (pa_cons (pv 1) pa_nil))))))))) (pss_one (ps_set (i := 2) sc_sysv_structure.nd rfl (Or.inl rfl) (pe_df D_up (hr.mono (by omega)) (by rfl) (pa_cons (pv 2) (pa_cons (pe_op op_mul pe_int (pv 8)) pa_nil))))) pss_nil)
        (pss_cons (ps_expr (pe_bm PySem.F.plainAttrs_list PySem.F.slot_list_append PySem.F.type_list_append mt_append (pv 4) (pa_cons (pv 2) pa_nil)))
        (pss_cons (ps_aug (i := 2) sc_sysv_structure.nd rfl (Or.inl rfl) (pe_cut (pe_ifExp (pt_cmpR op_isN (pv 7) pe_non (nomark _)) (pe_op op_mul pe_int (pe_df D_size_of (hr.mono (by omega)) (by rfl) (pa_cons (pv 6) pa_nil))) (pv 7))) ip_add)
        (pss_one (ps_set (i := 3) sc_sysv_structure.nd rfl (Or.inl rfl) (pe_cut (pe_ifExp (pt_val (pe_df D_counts (hr.mono (by omega)) (by rfl) (pa_cons (pv 5) (pa_cons (pv 7) pa_nil)))) (pe_callB (call_max2 rfl) (by rfl) c.no_max (by decide +kernel) (pa_cons (pv 3) (pa_cons (pv 8) pa_nil))) (pv 3))))))))))
        (pss_one (ps_ret (pe_tup (pa_cons (pv 4) (pa_cons (pe_op op_fdiv (pe_df D_up (hr.mono (by omega)) (by rfl) (pa_cons (pv 2) (pa_cons pe_int pa_nil))) pe_int) (pa_cons (pv 3) pa_nil)))))))), ?_⟩
    lk
    refine ⟨by decide, fun p hp0 => ?_⟩
    have e1 : Ex H (upd H p (.lst [])) := Ex.new hp0
    refine for_ok ?_
    lk
    refine ⟨⟨vs, SqL.of (e1 _ _ ha)⟩, ?_⟩
    refine ForOk.list vs (SsInv (.ref a) pk p ms H) ⟨_, _, _, _, _, rfl, rfl, e1, upd_same⟩ (fun i σ H' ⟨_, _, _, _, _, _, _, e, _⟩ => SqL.of (e _ _ ha)) ?_ ?_
    · rintro i σ H1 x hx ⟨s, x1, x2, x3, x4, hs, rfl, e, hp1⟩
      obtain ⟨m, hmi, ⟨b, kv, rfl, hb, hk⟩⟩ := hm.at hx
      have hmo := hok m (List.mem_of_getElem? hmi)
      have hst := stepOf_pos hmo.2.1 hp
      have hkv : KdAt H1 kv m.kd := hk.mono e
      have hsl : (s.pos.map V.int).length < sizeLine := by
        rw [List.length_map, hs, ssFold_len, List.length_take]
        exact Nat.lt_of_le_of_lt (by omega : _ ≤ 12) (by decide)
      have hs1 : ssFold pk (ms.take (i + 1)) = ssStep pk s m := by
        rw [hs]
        exact foldl_next _ _ hmi
      refine g_tup (e _ _ hb) rfl ?_
      lk
      refine ⟨kv, m.kd, pk, rfl, hkv, hmo.2.1, ?_⟩
      refine cutS ?_
      cases hbt : m.bt with
      | none =>
        lk
        refine ⟨.inl ⟨by decide, by decide⟩, _, _, rfl, by omega, by omega, ?_⟩
        lk
        refine ⟨.inl ⟨rfl, _, SqL.of hp1⟩, p, _, _, rfl, rfl, hp1, hsl, ?_⟩
        lk
        refine cutE ?_
        lk
        refine ⟨kv, m.kd, rfl, KdAt.monoT (ExT.lst hp1) hkv, hmo.2.1, ?_⟩
        lk
        refine ⟨.inl ⟨by decide, by decide⟩, ?_⟩
        refine cutE ?_
        lk
        refine ⟨m.nm, none, rfl, ?_⟩
        lk
        refine SsInv.next (pos := s.pos ++ [?x1]) (hs1.trans ?h1) (Ex.mut e hp0) ?h2
        case h2 =>
          rw [upd_same, List.map_append]
          rfl
        case h1 =>
          simp only [ssStep, ssAt, hbt]
          rfl
      | some b =>
        obtain ⟨n, sg, hkd, hb0, hb8⟩ := hmo.2.2 b hbt
        have h0 : 0 < m.kd.size := by
          rw [hkd]
          show 0 < n
          omega
        lk
        refine ⟨_, kv, m.kd, b, pk, rfl, hkv, hmo.2.1, h0, ?_⟩
        lk
        by_cases hmv : moved s.at_ m.kd b pk = true
        · rw [if_pos hmv]
          refine ⟨.inl ⟨by decide, by decide⟩, _, _, rfl, by omega, by omega, ?_⟩
          lk
          refine ⟨.inl ⟨rfl, _, SqL.of hp1⟩, p, _, _, rfl, rfl, hp1, hsl, ?_⟩
          lk
          refine cutE ?_
          lk
          refine cutE ?_
          lk
          refine ⟨m.nm, some b, rfl, ?_⟩
          lk
          refine SsInv.next (pos := s.pos ++ [?x2]) (hs1.trans ?h1) (Ex.mut e hp0) ?h2
          case h2 =>
            rw [upd_same, List.map_append]
            rfl
          case h1 =>
            simp only [ssStep, ssAt, hbt, hmv, if_true]
            rfl
        · rw [if_neg hmv]
          refine ⟨.inl ⟨rfl, _, SqL.of hp1⟩, p, _, _, rfl, rfl, hp1, hsl, ?_⟩
          lk
          refine cutE ?_
          lk
          refine cutE ?_
          lk
          refine ⟨m.nm, some b, rfl, ?_⟩
          lk
          refine SsInv.next (pos := s.pos ++ [?x3]) (hs1.trans ?h1) (Ex.mut e hp0) ?h2
          case h2 =>
            rw [upd_same, List.map_append]
            rfl
          case h1 =>
            simp only [ssStep, ssAt, hbt, hmv, if_false]
            rfl
    · rintro σ H1 ⟨s, x1, x2, x3, x4, hs, rfl, e, hp1⟩
      lk
      refine ⟨_, _, rfl, by decide, by decide, ?_⟩
      lk
      refine ⟨⟨by decide, by decide⟩, by decide, fun q hq => ?_⟩
      rw [hm.1, List.take_length] at hs
      subst hs
      exact k _ _ (e.trans (Ex.new hq)) ⟨q, p, rfl, upd_same, (upd_ne (ne_of_none hp1 hq)).trans hp1⟩
abbrev spMu : Sp := fun vs H Q _ => ∃ v pk ms, vs = [v, oV pk] ∧ RowsAt H v ms ∧ ms.length ≤ 12 ∧ (∀ m ∈ ms, m.ok) ∧ okPack pk ∧ ∀ v' H', Ex H H' → LaidAt H' v' (List.replicate ms.length 0) (muFold pk ms).taken (muFold pk ms).least → Q v' H'
abbrev s_msvc_union : Stmt := top 39
abbrev N_msvc_union : List Str := ["rows", "pack", "taken", "least", "name", "kind", "bits"]
abbrev P_msvc_union : List Str := ["rows", "pack"]
theorem sc_msvc_union : FnScope N_msvc_union P_msvc_union (defScope s_msvc_union) := ⟨rfl, rfl, rfl, by decide +kernel, rfl, by decide +kernel, by decide +kernel⟩
theorem bb_msvc_union : BindsBy "msvc_union" s_msvc_union P_msvc_union := fun _ _ _ _ _ _ us hl => match us, hl with | [_, _], _ => rfl
theorem ok_msvc_union (c : Ctx K mg) : Df P w K mg base "msvc_union" 5 P_msvc_union spMu := by
  have D_step_of := ok_step_of (P := P) (w := w) (base := base) c
  have D_size_of := ok_size_of (P := P) (w := w) (base := base) c 3
  refine Df.of c.h_msvc_union sc_msvc_union bb_msvc_union (fun vs H Q E h => ?_) (fun f cdv A outer s H vs Q E hr h => ?_)
  · obtain ⟨v, pk, ms, rfl, _⟩ := h
    rfl
  · obtain ⟨v, pk, ms, rfl, ⟨a, vs, rfl, ha, hm⟩, hlen, hok, hp, k⟩ := h
    -- 0 rows, 1 pack, 2 taken, 3 least, 4 name, 5 kind, 6 bits
    refine ⟨_, (pss_cons (ps_asg (pe_tup (pa_cons pe_int (pa_cons pe_int pa_nil))) (pg_tup rfl (pgs_cons (pg_name (i := 2) sc_msvc_union.nd rfl (Or.inl rfl)) (pgs_cons (pg_name (i := 3) sc_msvc_union.nd rfl (Or.inl rfl)) pgs_nil))))
        (pss_cons (ps_for PassesOwn.never rfl (pi_list (pv 0)) (pg_tup rfl (pgs_cons (pg_name (i := 4) sc_msvc_union.nd rfl (Or.inl rfl)) (pgs_cons (pg_name (i := 5) sc_msvc_union.nd rfl (Or.inl rfl)) (pgs_cons (pg_name (i := 6) sc_msvc_union.nd rfl (Or.inl rfl)) pgs_nil)))) (pss_one (ps_if (pt_cmpR op_ne (pv 6) pe_int (nomark _)) (pss_one (ps_par (i := 2) (j := 3) (by rfl) sc_msvc_union.nd rfl rfl (by decide) rfl rfl (pa_cons (pe_callB (call_max2 rfl) (by rfl) c.no_max (by decide +kernel) (pa_cons (pv 2) (pa_cons (pe_df D_size_of (hr.mono (by omega)) (by rfl) (pa_cons (pv 5) pa_nil)) pa_nil))) (pa_cons (pe_callB (call_max2 rfl) (by rfl) c.no_max (by decide +kernel) (pa_cons (pv 3) (pa_cons (pe_df D_step_of (hr.mono (by omega)) (by rfl) (pa_cons (pv 5) (pa_cons (pv 1) pa_nil))) pa_nil))) pa_nil)) (by rfl))) pss_nil)))
        (pss_one (ps_ret (pe_tup (pa_cons (pe_op op_rep (pe_lst (pa_cons pe_int pa_nil)) (pe_callB call_len_seq (by rfl) c.no_len PySem.boot_len (pa_cons (pv 0) pa_nil))) (pa_cons (pv 2) (pa_cons (pv 3) pa_nil)))))))), ?_⟩
    lk
    refine ⟨by decide, fun q0 hq0 => ?_⟩
    refine g_tup upd_same rfl ?_
    lk
    have e1 : Ex H (upd H q0 (.tup [.int 0, .int 1])) := Ex.new hq0
    refine for_ok ?_
    lk
    refine ⟨⟨vs, SqL.of (e1 _ _ ha)⟩, ?_⟩
    refine ForOk.list vs (UsInv (muStep pk) (.ref a) pk ms H) ⟨_, _, _, _, rfl, rfl, e1⟩ (fun i σ H' ⟨_, _, _, _, _, _, e⟩ => SqL.of (e _ _ ha)) ?_ ?_
    · rintro i σ H1 x hx ⟨s, x1, x2, x3, hs, rfl, e⟩
      obtain ⟨m, hmi, ⟨b, kv, rfl, hb, hk⟩⟩ := hm.at hx
      have hmo := hok m (List.mem_of_getElem? hmi)
      have hkv : KdAt H1 kv m.kd := hk.mono e
      have hs1 : (ms.take (i + 1)).foldl (muStep pk) ⟨0, 1⟩ = muStep pk s m := by
        rw [hs]
        exact foldl_next _ _ hmi
      refine g_tup (e _ _ hb) rfl ?_
      lk
      have hne : ¬ oV m.bt = .int 0 := by
        cases hbt : m.bt with
        | none => exact fun z => nomatch z
        | some b =>
          obtain ⟨n, sg, hkd, hb0, hb8⟩ := hmo.2.2 b hbt
          intro z
          have : b = 0 := V.int.inj z
          omega
      have hsc : scal (oV m.bt) (.int 0) = true := by
        cases m.bt <;> rfl
      refine ⟨hsc, ?_⟩
      rw [if_neg hne]
      refine ⟨kv, m.kd, rfl, hkv, hmo.2.1, ?_⟩
      lk
      refine ⟨kv, m.kd, pk, rfl, hkv, hmo.2.1, ?_⟩
      lk
      exact UsInv.next hs1 e
    · rintro σ H1 ⟨s, x1, x2, x3, hs, rfl, e⟩
      lk
      refine ⟨by decide, fun q hq => ?_⟩
      have e2 := e.trans (Ex.new (o := .lst [.int 0]) hq)
      refine ⟨_, .inl (SqL.of (e2 _ _ ha)), ?_⟩
      have hl : vs.length ≤ 12 := hm.1 ▸ hlen
      refine ⟨q, _, [.int 0], rfl, rfl, upd_same, by omega, by omega, by rw [List.length_singleton]; exact Nat.le_trans (by omega : _ ≤ 12) (by decide), fun r hr2 => ?_⟩
      lk
      have e3 := e2.trans (Ex.new (o := .lst (List.replicate ((vs.length : Int)).toNat [V.int 0]).flatten) hr2)
      refine ⟨by decide, fun t ht => ?_⟩
      rw [hm.1, List.take_length] at hs
      subst hs
      refine k _ _ (e3.trans (Ex.new ht)) ⟨t, r, rfl, upd_same, (upd_ne (ne_of_none upd_same ht)).trans ?_⟩
      rw [upd_same, zeros, hm.1, Int.toNat_natCast]
abbrev spSu : Sp := fun vs H Q _ => ∃ v pk ms, vs = [v, oV pk] ∧ RowsAt H v ms ∧ ms.length ≤ 12 ∧ (∀ m ∈ ms, m.ok) ∧ okPack pk ∧ ∀ v' H', Ex H H' → LaidAt H' v' (List.replicate ms.length 0) (suFold pk ms).taken (suFold pk ms).least → Q v' H'
abbrev s_sysv_union : Stmt := top 53
abbrev N_sysv_union : List Str := ["rows", "pack", "taken", "least", "name", "kind", "bits"]
abbrev P_sysv_union : List Str := ["rows", "pack"]
theorem sc_sysv_union : FnScope N_sysv_union P_sysv_union (defScope s_sysv_union) := ⟨rfl, rfl, rfl, by decide +kernel, rfl, by decide +kernel, by decide +kernel⟩
theorem bb_sysv_union : BindsBy "sysv_union" s_sysv_union P_sysv_union := fun _ _ _ _ _ _ us hl => match us, hl with | [_, _], _ => rfl
theorem ok_sysv_union (c : Ctx K mg) : Df P w K mg base "sysv_union" 5 P_sysv_union spSu := by
  have D_step_of := ok_step_of (P := P) (w := w) (base := base) c
  have D_size_of := ok_size_of (P := P) (w := w) (base := base) c 3
  have D_counts := ok_counts (P := P) (w := w) (base := base) c
  have D_up := ok_up (P := P) (w := w) (base := base) c
  refine Df.of c.h_sysv_union sc_sysv_union bb_sysv_union (fun vs H Q E h => ?_) (fun f cdv A outer s H vs Q E hr h => ?_)
  · obtain ⟨v, pk, ms, rfl, _⟩ := h
    rfl
  · obtain ⟨v, pk, ms, rfl, ⟨a, vs, rfl, ha, hm⟩, hlen, hok, hp, k⟩ := h
    -- 0 rows, 1 pack, 2 taken, 3 least, 4 name, 5 kind, 6 bits
    refine ⟨_, (pss_cons (ps_asg (pe_tup (pa_cons pe_int (pa_cons pe_int pa_nil))) (pg_tup rfl (pgs_cons (pg_name (i := 2) sc_sysv_union.nd rfl (Or.inl rfl)) (pgs_cons (pg_name (i := 3) sc_sysv_union.nd rfl (Or.inl rfl)) pgs_nil))))
        (pss_cons (ps_for PassesOwn.never rfl (pi_list (pv 0)) (pg_tup rfl (pgs_cons (pg_name (i := 4) sc_sysv_union.nd rfl (Or.inl rfl)) (pgs_cons (pg_name (i := 5) sc_sysv_union.nd rfl (Or.inl rfl)) (pgs_cons (pg_name (i := 6) sc_sysv_union.nd rfl (Or.inl rfl)) pgs_nil)))) (pss_cons (ps_set (i := 2) sc_sysv_union.nd rfl (Or.inl rfl) (pe_callB (call_max2 rfl) (by rfl) c.no_max (by decide +kernel) (pa_cons (pv 2) (pa_cons (pe_cut (pe_ifExp (pt_cmpR op_isN (pv 6) pe_non (nomark _)) (pe_df D_size_of (hr.mono (by omega)) (by rfl) (pa_cons (pv 5) pa_nil)) (pe_op op_fdiv (pe_df D_up (hr.mono (by omega)) (by rfl) (pa_cons (pv 6) (pa_cons pe_int pa_nil))) pe_int))) pa_nil))))
        (pss_one (ps_set (i := 3) sc_sysv_union.nd rfl (Or.inl rfl) (pe_cut (pe_ifExp (pt_val (pe_df D_counts (hr.mono (by omega)) (by rfl) (pa_cons (pv 4) (pa_cons (pv 6) pa_nil)))) (pe_callB (call_max2 rfl) (by rfl) c.no_max (by decide +kernel) (pa_cons (pv 3) (pa_cons (pe_df D_step_of (hr.mono (by omega)) (by rfl) (pa_cons (pv 5) (pa_cons (pv 1) pa_nil))) pa_nil))) (pv 3)))))))
        (pss_one (ps_ret (pe_tup (pa_cons (pe_op op_rep (pe_lst (pa_cons pe_int pa_nil)) (pe_callB call_len_seq (by rfl) c.no_len PySem.boot_len (pa_cons (pv 0) pa_nil))) (pa_cons (pv 2) (pa_cons (pv 3) pa_nil)))))))), ?_⟩
    lk
    refine ⟨by decide, fun q0 hq0 => ?_⟩
    refine g_tup upd_same rfl ?_
    lk
    have e1 : Ex H (upd H q0 (.tup [.int 0, .int 1])) := Ex.new hq0
    refine for_ok ?_
    lk
    refine ⟨⟨vs, SqL.of (e1 _ _ ha)⟩, ?_⟩
    refine ForOk.list vs (UsInv (suStep pk) (.ref a) pk ms H) ⟨_, _, _, _, rfl, rfl, e1⟩ (fun i σ H' ⟨_, _, _, _, _, _, e⟩ => SqL.of (e _ _ ha)) ?_ ?_
    · rintro i σ H1 x hx ⟨s, x1, x2, x3, hs, rfl, e⟩
      obtain ⟨m, hmi, ⟨b, kv, rfl, hb, hk⟩⟩ := hm.at hx
      have hmo := hok m (List.mem_of_getElem? hmi)
      have hkv : KdAt H1 kv m.kd := hk.mono e
      have hs1 : (ms.take (i + 1)).foldl (suStep pk) ⟨0, 1⟩ = suStep pk s m := by
        rw [hs]
        exact foldl_next _ _ hmi
      refine g_tup (e _ _ hb) rfl ?_
      lk
      refine cutE ?_
      cases hbt : m.bt with
      | none =>
        lk
        refine ⟨kv, m.kd, rfl, hkv, hmo.2.1, ?_⟩
        lk
        refine cutE ?_
        lk
        refine ⟨m.nm, none, rfl, ?_⟩
        lk
        refine ⟨kv, m.kd, pk, rfl, hkv, hmo.2.1, ?_⟩
        lk
        refine UsInv.next (hs1.trans ?_) e
        simp only [suStep, hbt]
        rfl
      | some b =>
        lk
        refine ⟨_, _, rfl, by decide, by decide, ?_⟩
        lk
        refine ⟨⟨by decide, by decide⟩, ?_⟩
        lk
        refine cutE ?_
        lk
        refine ⟨m.nm, some b, rfl, ?_⟩
        lk
        refine ⟨kv, m.kd, pk, rfl, hkv, hmo.2.1, ?_⟩
        lk
        refine UsInv.next (hs1.trans ?_) e
        simp only [suStep, hbt]
        rfl
    · rintro σ H1 ⟨s, x1, x2, x3, hs, rfl, e⟩
      lk
      refine ⟨by decide, fun q hq => ?_⟩
      have e2 := e.trans (Ex.new (o := .lst [.int 0]) hq)
      refine ⟨_, .inl (SqL.of (e2 _ _ ha)), ?_⟩
      have hl : vs.length ≤ 12 := hm.1 ▸ hlen
      refine ⟨q, _, [.int 0], rfl, rfl, upd_same, by omega, by omega, by rw [List.length_singleton]; exact Nat.le_trans (by omega : _ ≤ 12) (by decide), fun r hr2 => ?_⟩
      lk
      have e3 := e2.trans (Ex.new (o := .lst (List.replicate ((vs.length : Int)).toNat [V.int 0]).flatten) hr2)
      refine ⟨by decide, fun t ht => ?_⟩
      rw [hm.1, List.take_length] at hs
      subst hs
      refine k _ _ (e3.trans (Ex.new ht)) ⟨t, r, rfl, upd_same, (upd_ne (ne_of_none upd_same ht)).trans ?_⟩
      rw [upd_same, zeros, hm.1, Int.toNat_natCast]
end
end K32
/-! D8: the class Layout: its methods as defs, __init__, the properties; layout_of, struct, union. -/
namespace K32
open PySem PySem.Spec PyProof.Rows L2
/-! one look: what stands written is read -/
local macro_rules | `(tactic| lk) => `(tactic| try simp only [tCB, tCons, tNil, tC, tVar, tOp, tUn, tTest, tB, tNot, tAndV, tOrV, tNotV, tAnd, tOr, tRet, tSeq, tAsg, gName, tDrop, tNext, tIfS, tIf, tCall, tCmp, rI0, rI, rEq, rNe, tPar, tPar3, tTup, tLst,
  tDGet, tSl, tPart, tNoPart, sDPut, tDisp, tPairs, tLstRg, tRg2, tCallN, tRevL, sFld, tFld, tMeth, tProp, tMake, tBM, tBM0, tNevE, tNever, tRetN, tBreak, tCont, gCons, gNil, gSub, tAug, ipI, wipe, iList, iTup, iRng1, iRng2, iStr, iEnum, RZ.iZipA, rU,
  L2.start, List.map_cons, List.map_nil, List.length_cons, List.length_nil, Nat.reduceAdd, Nat.reduceSub, List.replicate_succ, List.replicate_zero, List.cons_append, List.nil_append, List.append_nil,
  List.getElem?_cons_zero, List.getElem?_cons_succ, List.set_cons_zero, List.set_cons_succ, List.cons.injEq, Option.some.injEq, V.int.injEq, V.bl.injEq, V.str.injEq, V.ref.injEq, exists_eq_left', exists_eq_left, exists_eq', exists_and_left, and_assoc, true_and, and_true,
  if_true, Bool.false_eq_true, if_false, sc_ii, sc_ss, sc_ni, sc_in, sc_sn, sc_ns, sc_bb, eq_self, decide_eq_true_eq, Bool.not_eq_true', decide_eq_false_iff_not, ite_not, ne_ia', ne_ai', Int.reduceEq, Int.reduceLT, Int.reduceLE, reduceCtorEq, decide_true, decide_false, Bool.not_true, Bool.not_false, cxK, oV_n, oV_s, cast_lit])
/-! ### methods -/
structure HasM (K : PySem.W.Frag) (f : Addr) (x q : Str) (st : Stmt) : Prop where
  ex : ∃ fd : FuncData, FunD K x q (defArgs st) (defBody st) (defScope st) [] [] f fd
structure Mt (P : Program) (w : World) (K : PySem.W.Frag) (mg : Str → Option Value) (base : Heap) (f : Addr) (k : Nat) (ps : List Str) (sp : Sp) : Prop where
  ex : ∃ fd : FuncData, FnOk P w K mg base CX0 k f fd ps sp ∧ Binds K fd ps []
abbrev BindsM (x q : Str) (st : Stmt) (ps : List Str) : Prop := ∀ (kV doc pm : Value) (an : Option Addr) (cdv ct : Value) (us : List Value), us.length = ps.length →
  bindArgs (PySem.W.fnOf x q (defArgs st) (defBody st) (defScope st) .none kV doc pm an cdv ct) ⟨us, []⟩ = pure (ps.zip us)
section
variable {P : Program} {w : World} {K : PySem.W.Frag} {mg : Str → Option Value} {base : Heap}
theorem Mt.of {f : Addr} {x q : Str} {st : Stmt} {N ps : List Str} {k : Nat} {sp : Sp} (F : HasM K f x q st) (S : FnScope N ps (defScope st)) (b : BindsM x q st ps) (len : ∀ vs H Q E, sp vs H Q E → vs.length = ps.length)
    (hbody : ∀ (cdv : Value) (A : Around) (outer : List Env) (s : Shared) (H : Hp) (vs : List V) (Q : VK) (E : XK), Room k (A.deeper (envOfC q (defScope st) s.heap.objs.size f cdv)) → sp vs H Q E →
      ∃ t, PSs (cxOf CX0 P w K mg base N q (defScope st) f cdv A outer s H E).nox (defBody st) t ∧ t { nx := fun _ H' => Q .non H', rt := Q } (start N vs) H) : Mt P w K mg base f (k + 1) ps sp := by
  obtain ⟨fd, F⟩ := F.ex
  refine ⟨fd, F.ok S len (fun cdv A outer s H vs Q E hr hsp => ?_), F.bindsN b⟩
  obtain ⟨t, h, q⟩ := hbody cdv A outer s H vs Q E hr hsp
  exact ⟨t, h.nox, q⟩
theorem Ctx.hasM (c : Ctx K mg) (i : Nat) {d : He.DefD} {m q : Str} {st : Stmt} (h : fns[i]? = some d) (hd : d = ⟨("Layout", some m), m, q, defArgs st, defBody st, defScope st, [], []⟩) : HasM K (He.ma K (cL K) m) m q st := by
  obtain ⟨fd, F⟩ := c.d.def_ i h
  subst hd
  exact ⟨fd, F⟩
theorem Ctx.hasG (c : Ctx K mg) (i : Nat) {d : He.DefD} {m q : Str} {st : Stmt} (h : gets[i]? = some d) (hd : d = ⟨("Layout", some m), m, q, defArgs st, defBody st, defScope st, [], []⟩) : HasM K (gAd K m) m q st := by
  subst hd
  exact ⟨c.getter i h⟩
end
section
variable {X : Cx} {k : Nat} {C f p g : Addr} {m x : Str} {ps : List Str} {sp : Sp} {pos apos pp : Pos} {o e : Expr} {es : List Expr} {ta : TE} {t : TA}
theorem pe_mt {pl : Sem Bool} (he : PE X o ta) (c : Cls X.K C) (hm : Meth X.K C m f) (M : Mt X.prog X.w X.K X.mg X.base f k ps sp) (hr : Room k X.A) (ha : PA X (e :: es) t)
    (hst : starEach (e :: es) X.env = (false, eval e X.env) :: starEach es X.env := by rfl) (hpl : (backTo pos (starEach es X.env)).any (·.1) = false := by rfl)
    (ht : eval (.Call (.Attribute o m apos) (e :: es) [] pos) X.env = (do
      let ov ← eval o X.env
      standAt apos.atName
      let (f, first) ← holding [ov] (getMethod ov m pl)
      callWith pos f first (backTo pos (starEach (e :: es) X.env)) (backToKw pos (keywordEach [] X.env))) := by rfl) : PE X (.Call (.Attribute o m apos) (e :: es) [] pos) (tMeth C m sp [] E0 ta t) :=
  let ⟨_, F, hb⟩ := M.ex
  pe_meth he c hm F hr hb .nil pass0 ha hst hpl ht
theorem pe_mt0 {pl : Sem Bool} (he : PE X o ta) (c : Cls X.K C) (hm : Meth X.K C m f) (M : Mt X.prog X.w X.K X.mg X.base f k ps sp) (hr : Room k X.A)
    (ht : eval (.Call (.Attribute o m apos) [] [] pos) X.env = (do
      let ov ← eval o X.env
      standAt apos.atName
      let (f, first) ← holding [ov] (getMethod ov m pl)
      callWith pos f first (backTo pos (starEach [] X.env)) (backToKw pos (keywordEach [] X.env))) := by rfl) : PE X (.Call (.Attribute o m apos) [] [] pos) (tMeth C m sp [] E0 ta tNil) :=
  let ⟨_, F, hb⟩ := M.ex
  pe_meth0 he c hm F hr hb .nil pass0 ht
theorem pe_pr (he : PE X o ta) (c : Cls X.K C) (hp : PropOf X.K C m p g) (M : Mt X.prog X.w X.K X.mg X.base g k ps sp) (hr : Room (k + 1) X.A) (hab : attributeBase o m X.env (eval o X.env) = eval o X.env) :
    PE X (.Attribute o m pos) (tProp C sp [] E0 ta) :=
  let ⟨_, F, hb⟩ := M.ex
  pe_prop he c hp F hr hb .nil pass0 hab
theorem pe_mk (M : Mk X.K C f) (T : Mt X.prog X.w X.K X.mg X.base f k ps sp) (hr : Room (k + 1) X.A) (hg : Gl X x) (hm : X.mg x = some (.ref C)) (ha : PA X (e :: es) t) (hdb : (x == ("__debug__" : Str)) = false := by decide)
    (he : starEach (e :: es) X.env = (false, eval e X.env) :: starEach es X.env := by rfl) (hpl : (backTo pos (starEach es X.env)).any (·.1) = false := by rfl) : PE X (.Call (.Name x pp) (e :: es) [] pos) (tMake C sp [] E0 t) :=
  let ⟨_, F, hb⟩ := T.ex
  pe_make M F hr hg hm hb .nil pass0 ha hdb he hpl
end
/-! ### what a layout is in the heap -/
def layF (ra pa st ex ru od : V) : List (Str × V) := putF "order" od (putF "rule" ru (putF "extent" ex (putF "step" st (putF "positions" pa (putF "rows" ra [])))))
theorem len_putF (f : Str) (v : V) : ∀ fs : List (Str × V), (putF f v fs).length ≤ fs.length + 1
  | [] => Nat.le_refl _
  | (k, x) :: r => by
    show (if k = f then (k, v) :: r else (k, x) :: putF f v r).length ≤ r.length + 1 + 1
    split
    · exact Nat.le_succ _
    · exact Nat.succ_le_succ (len_putF f v r)
section
variable {ra pa st ex ru od : V}
theorem layF_rows : (layF ra pa st ex ru od).lookup ("rows" : Str) = some ra := by
  unfold layF
  rw [lookup_putF, if_neg (by decide +kernel), lookup_putF, if_neg (by decide +kernel), lookup_putF, if_neg (by decide +kernel), lookup_putF, if_neg (by decide +kernel), lookup_putF, if_neg (by decide +kernel), lookup_putF, if_pos rfl]
theorem layF_positions : (layF ra pa st ex ru od).lookup ("positions" : Str) = some pa := by
  unfold layF
  rw [lookup_putF, if_neg (by decide +kernel), lookup_putF, if_neg (by decide +kernel), lookup_putF, if_neg (by decide +kernel), lookup_putF, if_neg (by decide +kernel), lookup_putF, if_pos rfl]
theorem layF_step : (layF ra pa st ex ru od).lookup ("step" : Str) = some st := by
  unfold layF
  rw [lookup_putF, if_neg (by decide +kernel), lookup_putF, if_neg (by decide +kernel), lookup_putF, if_neg (by decide +kernel), lookup_putF, if_pos rfl]
theorem layF_extent : (layF ra pa st ex ru od).lookup ("extent" : Str) = some ex := by
  unfold layF
  rw [lookup_putF, if_neg (by decide +kernel), lookup_putF, if_neg (by decide +kernel), lookup_putF, if_pos rfl]
theorem layF_order : (layF ra pa st ex ru od).lookup ("order" : Str) = some od := by
  unfold layF
  rw [lookup_putF, if_pos rfl]
theorem layF_no {m : Str} (h1 : ¬ m = "order") (h2 : ¬ m = "rule") (h3 : ¬ m = "extent") (h4 : ¬ m = "step") (h5 : ¬ m = "positions") (h6 : ¬ m = "rows") : (layF ra pa st ex ru od).lookup m = none := by
  unfold layF
  rw [lookup_putF, if_neg h1, lookup_putF, if_neg h2, lookup_putF, if_neg h3, lookup_putF, if_neg h4, lookup_putF, if_neg h5, lookup_putF, if_neg h6]
  rfl
end
structure Lay where
  ms : List Mem
  pos : List Int
  step : Int
  ext : Int
  rule : Str
  order : Str
def LayAt (K : PySem.W.Frag) (H : Hp) (v : V) (L : Lay) : Prop := ∃ a dx ra pa, v = .ref a ∧ H a = some (.ins (cL K) dx (layF (.ref ra) (.ref pa) (.int L.step) (.int L.ext) (.str L.rule) (.str L.order))) ∧ RowsAt H (.ref ra) L.ms ∧ H pa = some (.lst (L.pos.map V.int))
theorem LayAt.mono {K : PySem.W.Frag} {H H' : Hp} (e : Ex H H') {v : V} {L : Lay} (h : LayAt K H v L) : LayAt K H' v L :=
  let ⟨a, dx, ra, pa, h1, h2, h3, h4⟩ := h
  ⟨a, dx, ra, pa, h1, e _ _ h2, h3.mono e, e _ _ h4⟩
def stepAl (least : Int) : Option Int → Int
  | none => least
  | some a => mxI least a
/-! ### the bounds of the alignments -/
theorem mxI_pos {a b : Int} (ha : 0 < a ∧ a ≤ 8) (hb : 0 < b ∧ b ≤ 8) : 0 < mxI a b ∧ mxI a b ≤ 8 := by
  unfold mxI
  split <;> omega
theorem fold_least {σ : Type} (f : σ → Mem → σ) (l : σ → Int) (pk : Option Int) (hf : ∀ s m, l (f s m) = mxI (l s) (stepOf m.kd pk)) (hp : okPack pk) : ∀ (ms : List Mem) (s : σ), (∀ m ∈ ms, m.ok) → 0 < l s ∧ l s ≤ 8 → 0 < l (ms.foldl f s) ∧ l (ms.foldl f s) ≤ 8
  | [], s, _, h => h
  | m :: ms, s, ho, h => fold_least f l pk hf hp ms (f s m) (fun x hx => ho x (List.mem_cons_of_mem _ hx)) (by
    rw [hf]
    exact mxI_pos h (stepOf_pos (ho m List.mem_cons_self).2.1 hp))
theorem msStep_least {pk : Option Int} (s : MS) (m : Mem) : (msStep pk s m).least = mxI s.least (stepOf m.kd pk) := by
  unfold msStep
  split
  · rfl
  · split <;> rfl
def laidOf (conv : Str) (u : Bool) (pk : Option Int) (ms : List Mem) : List Int × Int × Int :=
  if conv = "msvc" then (if u = true then (List.replicate ms.length 0, (muFold pk ms).taken, (muFold pk ms).least) else ((msFold pk ms).pos, (msFold pk ms).at_, (msFold pk ms).least))
  else if u = true then (List.replicate ms.length 0, (suFold pk ms).taken, (suFold pk ms).least) else ((ssFold pk ms).pos, up (ssFold pk ms).at_ 8 / 8, (ssFold pk ms).least)
def layOf (conv : Str) (pk al : Option Int) (ends : Str) (u : Bool) (ms : List Mem) : Lay :=
  ⟨ms, (laidOf conv u pk ms).1, stepAl (laidOf conv u pk ms).2.2 al, up (laidOf conv u pk ms).2.1 (stepAl (laidOf conv u pk ms).2.2 al), conv, ends⟩
theorem laidOf_least {conv : Str} {u : Bool} {pk : Option Int} {ms : List Mem} (ho : ∀ m ∈ ms, m.ok) (hp : okPack pk) : 0 < (laidOf conv u pk ms).2.2 ∧ (laidOf conv u pk ms).2.2 ≤ 8 := by
  have h1 : (0 : Int) < 1 ∧ (1 : Int) ≤ 8 := ⟨by decide, by decide⟩
  unfold laidOf
  split
  · split
    · exact fold_least (muStep pk) US.least pk (fun _ _ => rfl) hp ms ⟨0, 1⟩ ho h1
    · exact fold_least (msStep pk) MS.least pk (fun s m => msStep_least s m) hp ms ⟨0, 1, 0, 0, []⟩ ho h1
  · split
    · exact fold_least (suStep pk) US.least pk (fun _ _ => rfl) hp ms ⟨0, 1⟩ ho h1
    · exact fold_least (ssStep pk) SS.least pk (fun _ _ => rfl) hp ms ⟨0, 1, []⟩ ho h1
theorem stepAl_pos {l : Int} {al : Option Int} (h : 0 < l ∧ l ≤ 8) (ha : okAlign al) : 0 < stepAl l al ∧ stepAl l al ≤ 32 := by
  cases al with
  | none => exact ⟨h.1, by show l ≤ 32; omega⟩
  | some a =>
    have h1 : inV (.int a) [.int 1, .int 2, .int 4, .int 8, .int 16, .int 32] = true := ha
    have h2 : a = 1 ∨ a = 2 ∨ a = 4 ∨ a = 8 ∨ a = 16 ∨ a = 32 := by
      simp [inV, eqV] at h1
      omega
    show 0 < mxI l a ∧ mxI l a ≤ 32
    unfold mxI
    split <;> omega
section
variable {P : Program} {w : World} {K : PySem.W.Frag} {mg : Str → Option Value} {base : Heap}
theorem fld_lt {f : Str} {v : V} {fs : List (Str × V)} {n : Nat} (h : fs.length ≤ n) : (putF f v fs).length ≤ n + 1 := Nat.le_trans (len_putF f v fs) (Nat.succ_le_succ h)
abbrev spInit (K : PySem.W.Frag) : Sp := fun vs H Q _ => ∃ p dx ra z ru al od pos taken least, vs = [.ref p, .ref ra, z, .str ru, oV al, .str od] ∧ H p = some (.ins (cL K) dx []) ∧ LaidAt H z pos taken least ∧ 0 < stepAl least al ∧ stepAl least al < 2 ^ 20 ∧
  ∀ pa H', H pa = some (.lst (pos.map V.int)) → H' p = some (.ins (cL K) dx (layF (.ref ra) (.ref pa) (.int (stepAl least al)) (.int (up taken (stepAl least al))) (.str ru) (.str od))) → (∀ b o, H b = some o → b ≠ p → H' b = some o) → Q .non H'
abbrev s_Layout___init__ : Stmt := inClass (top 55) 0
abbrev N_Layout___init__ : List Str := ["self", "rows", "laid", "convention", "align", "ends", "positions", "taken", "least"]
abbrev P_Layout___init__ : List Str := ["self", "rows", "laid", "convention", "align", "ends"]
theorem sc_Layout___init__ : FnScope N_Layout___init__ P_Layout___init__ (defScope s_Layout___init__) := ⟨rfl, rfl, rfl, by decide +kernel, rfl, by decide +kernel, by decide +kernel⟩
theorem bb_Layout___init__ : BindsM "__init__" "Layout.__init__" s_Layout___init__ P_Layout___init__ := fun _ _ _ _ _ _ us hl => match us, hl with | [_, _, _, _, _, _], _ => rfl
theorem Ctx.hm_init (c : Ctx K mg) : HasM K (He.ma K (cL K) "__init__") "__init__" "Layout.__init__" s_Layout___init__ := c.hasM (d := d_L_init) (fns.length - 5) rfl rfl
theorem ok_init (c : Ctx K mg) : Mt P w K mg base (He.ma K (cL K) "__init__") 2 P_Layout___init__ (spInit K) := by
  have D_up := ok_up (P := P) (w := w) (base := base) c
  refine Mt.of c.hm_init sc_Layout___init__ bb_Layout___init__ (fun vs H Q E h => ?_) (fun cdv A outer s H vs Q E hr h => ?_)
  · obtain ⟨p, dx, ra, z, ru, al, od, pos, taken, least, rfl, _⟩ := h
    rfl
  · obtain ⟨p, dx, ra, z, ru, al, od, pos, taken, least, rfl, hp, ⟨t, pa, rfl, ht, hpa⟩, h0, h1, k⟩ := h
    -- 0 self, 1 rows, 2 laid, 3 convention, 4 align, 5 ends, 6 positions, 7 taken, 8 least
    refine ⟨_, (pss_cons (ps_asg (pv 2) (pg_tup rfl (pgs_cons (pg_name (i := 6) sc_Layout___init__.nd rfl (Or.inl rfl)) (pgs_cons (pg_name (i := 7) sc_Layout___init__.nd rfl (Or.inl rfl)) (pgs_cons (pg_name (i := 8) sc_Layout___init__.nd rfl (Or.inl rfl)) pgs_nil)))))
        (pss_cons (ps_fld (pv 0) (pv 1) rfl)
        (pss_cons (ps_fld (pv 0) (pv 6) rfl)
        (pss_cons (ps_fld (pv 0) (pe_cut (pe_ifExp (pt_cmpR op_isN (pv 4) pe_non (nomark _)) (pv 8) (pe_callB (call_max2 rfl) (by rfl) c.no_max (by decide +kernel) (pa_cons (pv 8) (pa_cons (pv 4) pa_nil))))) rfl)
        (pss_cons (ps_fld (pv 0) (pe_df D_up (hr.mono (by omega)) (by rfl) (pa_cons (pv 7) (pa_cons (pe_fld (pv 0) rfl) pa_nil))) rfl)
        (pss_cons (ps_fld (pv 0) (pv 3) rfl)
        (pss_one (ps_fld (pv 0) (pv 5) rfl)))))))), ?_⟩
    lk
    refine g_tup ht rfl ?_
    lk
    refine ⟨_, dx, _, hp, c.cl, c.na_rows, by decide, ?_⟩
    refine ⟨_, dx, _, upd_same, c.cl, c.na_positions, Nat.lt_of_le_of_lt (fld_lt (n := 0) (Nat.le_refl _)) (by decide), ?_⟩
    refine cutE ?_
    have hne : pa ≠ p := ne_of hpa hp (by intro z; cases z)
    have fin : ∀ H', H' = upd H p (.ins (cL K) dx (layF (.ref ra) (.ref pa) (.int (stepAl least al)) (.int (up taken (stepAl least al))) (.str ru) (.str od))) → Q .non H' := fun H' e => by
      subst e
      exact k pa _ hpa upd_same fun b o hb hbp => (upd_ne hbp).trans hb
    have l2 : (putF "positions" (V.ref pa) (putF "rows" (V.ref ra) [])).length ≤ 2 := fld_lt (fld_lt (Nat.le_refl _))
    cases al with
    | none =>
      lk
      refine ⟨_, dx, _, upd_same, c.cl, c.na_step, Nat.lt_of_le_of_lt l2 (by decide), ?_⟩
      refine ⟨_, dx, _, upd_same, c.cl, c.na_step, _, (lookup_putF _ _ _ _).trans (if_pos rfl), ?_⟩
      refine ⟨_, _, rfl, h0, h1, ?_⟩
      lk
      refine ⟨_, dx, _, upd_same, c.cl, c.na_extent, Nat.lt_of_le_of_lt (fld_lt l2) (by decide), ?_⟩
      refine ⟨_, dx, _, upd_same, c.cl, c.na_rule, Nat.lt_of_le_of_lt (fld_lt (fld_lt l2)) (by decide), ?_⟩
      refine ⟨_, dx, _, upd_same, c.cl, c.na_order, Nat.lt_of_le_of_lt (fld_lt (fld_lt (fld_lt l2))) (by decide), ?_⟩
      refine fin _ ?_
      simp only [upd_upd]
      rfl
    | some al =>
      lk
      refine ⟨_, dx, _, upd_same, c.cl, c.na_step, Nat.lt_of_le_of_lt l2 (by decide), ?_⟩
      refine ⟨_, dx, _, upd_same, c.cl, c.na_step, _, (lookup_putF _ _ _ _).trans (if_pos rfl), ?_⟩
      refine ⟨_, _, rfl, h0, h1, ?_⟩
      lk
      refine ⟨_, dx, _, upd_same, c.cl, c.na_extent, Nat.lt_of_le_of_lt (fld_lt l2) (by decide), ?_⟩
      refine ⟨_, dx, _, upd_same, c.cl, c.na_rule, Nat.lt_of_le_of_lt (fld_lt (fld_lt l2)) (by decide), ?_⟩
      refine ⟨_, dx, _, upd_same, c.cl, c.na_order, Nat.lt_of_le_of_lt (fld_lt (fld_lt (fld_lt l2))) (by decide), ?_⟩
      refine fin _ ?_
      simp only [upd_upd]
      rfl
abbrev spGet (f : Str) : Sp := fun vs H Q _ => ∃ a dx fs v, vs = [.ref a] ∧ H a = some (.ins (cL K) dx fs) ∧ fs.lookup f = some v ∧ Q v H
abbrev s_Layout_size : Stmt := inClass (top 55) 1
abbrev N_Layout_size : List Str := ["self"]
abbrev P_Layout_size : List Str := ["self"]
theorem sc_Layout_size : FnScope N_Layout_size P_Layout_size (defScope s_Layout_size) := ⟨rfl, rfl, rfl, by decide +kernel, rfl, by decide +kernel, by decide +kernel⟩
theorem bb_Layout_size : BindsM "size" "Layout.size" s_Layout_size P_Layout_size := fun _ _ _ _ _ _ us hl => match us, hl with | [_], _ => rfl
theorem ok_size (c : Ctx K mg) : Mt P w K mg base (gAd K "size") 1 P_Layout_size (spGet (K := K) "extent") := by
  refine Mt.of (c.hasG 0 (d := d_L_size) rfl rfl) sc_Layout_size bb_Layout_size (fun vs H Q E h => ?_) (fun cdv A outer s H vs Q E hr h => ?_)
  · obtain ⟨a, dx, fs, v, rfl, _⟩ := h
    rfl
  · obtain ⟨a, dx, fs, v, rfl, ha, hv, k⟩ := h
    -- 0 self
    refine ⟨_, (pss_one (ps_ret (pe_fld (pv 0) rfl))), ?_⟩
    lk
    exact ⟨_, dx, fs, ha, c.cl, c.na_extent, v, hv, k⟩
abbrev s_Layout_alignment : Stmt := inClass (top 55) 2
abbrev N_Layout_alignment : List Str := ["self"]
abbrev P_Layout_alignment : List Str := ["self"]
theorem sc_Layout_alignment : FnScope N_Layout_alignment P_Layout_alignment (defScope s_Layout_alignment) := ⟨rfl, rfl, rfl, by decide +kernel, rfl, by decide +kernel, by decide +kernel⟩
theorem bb_Layout_alignment : BindsM "alignment" "Layout.alignment" s_Layout_alignment P_Layout_alignment := fun _ _ _ _ _ _ us hl => match us, hl with | [_], _ => rfl
theorem ok_alignment (c : Ctx K mg) : Mt P w K mg base (gAd K "alignment") 1 P_Layout_alignment (spGet (K := K) "step") := by
  refine Mt.of (c.hasG 1 (d := d_L_alignment) rfl rfl) sc_Layout_alignment bb_Layout_alignment (fun vs H Q E h => ?_) (fun cdv A outer s H vs Q E hr h => ?_)
  · obtain ⟨a, dx, fs, v, rfl, _⟩ := h
    rfl
  · obtain ⟨a, dx, fs, v, rfl, ha, hv, k⟩ := h
    -- 0 self
    refine ⟨_, (pss_one (ps_ret (pe_fld (pv 0) rfl))), ?_⟩
    lk
    exact ⟨_, dx, fs, ha, c.cl, c.na_step, v, hv, k⟩
abbrev s_Layout_ends : Stmt := inClass (top 55) 4
abbrev N_Layout_ends : List Str := ["self"]
abbrev P_Layout_ends : List Str := ["self"]
theorem sc_Layout_ends : FnScope N_Layout_ends P_Layout_ends (defScope s_Layout_ends) := ⟨rfl, rfl, rfl, by decide +kernel, rfl, by decide +kernel, by decide +kernel⟩
theorem bb_Layout_ends : BindsM "ends" "Layout.ends" s_Layout_ends P_Layout_ends := fun _ _ _ _ _ _ us hl => match us, hl with | [_], _ => rfl
theorem ok_ends (c : Ctx K mg) : Mt P w K mg base (gAd K "ends") 1 P_Layout_ends (spGet (K := K) "order") := by
  refine Mt.of (c.hasG 2 (d := d_L_ends) rfl rfl) sc_Layout_ends bb_Layout_ends (fun vs H Q E h => ?_) (fun cdv A outer s H vs Q E hr h => ?_)
  · obtain ⟨a, dx, fs, v, rfl, _⟩ := h
    rfl
  · obtain ⟨a, dx, fs, v, rfl, ha, hv, k⟩ := h
    -- 0 self
    refine ⟨_, (pss_one (ps_ret (pe_fld (pv 0) rfl))), ?_⟩
    lk
    exact ⟨_, dx, fs, ha, c.cl, c.na_order, v, hv, k⟩
theorem Ctx.p_size (c : Ctx K mg) : PropOf K (cL K) "size" (He.ma K (cL K) "size") (gAd K "size") := c.prop (d := d_L_size) (List.Mem.head _)
theorem Ctx.p_alignment (c : Ctx K mg) : PropOf K (cL K) "alignment" (He.ma K (cL K) "alignment") (gAd K "alignment") := c.prop (d := d_L_alignment) (List.Mem.tail _ (List.Mem.head _))
theorem Ctx.p_ends (c : Ctx K mg) : PropOf K (cL K) "ends" (He.ma K (cL K) "ends") (gAd K "ends") := c.prop (d := d_L_ends) (List.Mem.tail _ (List.Mem.tail _ (List.Mem.head _)))
/-! ### layouts made -/
abbrev spLay (K : PySem.W.Frag) : Sp := fun vs H Q _ => ∃ v z pk al e u ms, vs = [v, .str z, oV pk, oV al, .str e, .bl u] ∧ MemsAt H v ms ∧ ms.length ≤ 12 ∧ (∀ m ∈ ms, m.ok) ∧ (ms.map (·.nm)).Nodup ∧ okConv z ∧ okPack pk ∧ okAlign al ∧ okEnds e ∧
  ∀ v' H', Ex H H' → LayAt K H' v' (layOf z pk al e u ms) → Q v' H'
abbrev s_layout_of : Stmt := top 56
abbrev N_layout_of : List Str := ["members", "convention", "pack", "align", "ends", "is_union", "rows", "laid"]
abbrev P_layout_of : List Str := ["members", "convention", "pack", "align", "ends", "is_union"]
theorem sc_layout_of : FnScope N_layout_of P_layout_of (defScope s_layout_of) := ⟨rfl, rfl, rfl, by decide +kernel, rfl, by decide +kernel, by decide +kernel⟩
theorem bb_layout_of : BindsBy "layout_of" s_layout_of P_layout_of := fun _ _ _ _ _ _ us hl => match us, hl with | [_, _, _, _, _, _], _ => rfl
theorem ok_layout_of (c : Ctx K mg) : Df P w K mg base "layout_of" 9 P_layout_of (spLay K) := by
  have D_checked_options := ok_checked_options (P := P) (w := w) (base := base) c
  have D_checked_members := ok_checked_members (P := P) (w := w) (base := base) c
  have D_checked_names := ok_checked_names (P := P) (w := w) (base := base) c
  have D_msvc_union := ok_msvc_union (P := P) (w := w) (base := base) c
  have D_msvc_structure := ok_msvc_structure (P := P) (w := w) (base := base) c
  have D_sysv_union := ok_sysv_union (P := P) (w := w) (base := base) c
  have D_sysv_structure := ok_sysv_structure (P := P) (w := w) (base := base) c
  have M_init := ok_init (P := P) (w := w) (base := base) c
  refine Df.of c.h_layout_of sc_layout_of bb_layout_of (fun vs H Q E h => ?_) (fun f cdv A outer s H vs Q E hr h => ?_)
  · obtain ⟨v, z, pk, al, e, u, ms, rfl, _⟩ := h
    rfl
  · obtain ⟨v, z, pk, al, e, u, ms, rfl, hm, hlen, hok, hnd, hz, hp, ha, he, k⟩ := h
    -- 0 members, 1 convention, 2 pack, 3 align, 4 ends, 5 is_union, 6 rows, 7 laid
    refine ⟨_, (pss_cons (ps_expr (pe_df D_checked_options (hr.mono (by omega)) (by rfl) (pa_cons (pv 1) (pa_cons (pv 2) (pa_cons (pv 3) (pa_cons (pv 4) pa_nil))))))
        (pss_cons (ps_set (i := 6) sc_layout_of.nd rfl (Or.inl rfl) (pe_df D_checked_members (hr.mono (by omega)) (by rfl) (pa_cons (pv 0) pa_nil)))
        (pss_cons (ps_expr (pe_df D_checked_names (hr.mono (by omega)) (by rfl) (pa_cons (pv 6) pa_nil)))
        (pss_cutS (ps_if (pt_cmpR op_eq (pv 1) pe_str (nomark _)) (pss_one (ps_set (i := 7) sc_layout_of.nd rfl (Or.inl rfl) (pe_cut (pe_ifExp (pt_val (pv 5)) (pe_df D_msvc_union (hr.mono (by omega)) (by rfl) (pa_cons (pv 6) (pa_cons (pv 2) pa_nil))) (pe_df D_msvc_structure (hr.mono (by omega)) (by rfl) (pa_cons (pv 6) (pa_cons (pv 2) pa_nil))))))) (pss_one (ps_set (i := 7) sc_layout_of.nd rfl (Or.inl rfl) (pe_cut (pe_ifExp (pt_val (pv 5)) (pe_df D_sysv_union (hr.mono (by omega)) (by rfl) (pa_cons (pv 6) (pa_cons (pv 2) pa_nil))) (pe_df D_sysv_structure (hr.mono (by omega)) (by rfl) (pa_cons (pv 6) (pa_cons (pv 2) pa_nil))))))))
        (pss_one (ps_ret (pe_mk c.mkL M_init (hr.mono (by omega)) (by rfl) c.mg_Layout (pa_cons (pv 6) (pa_cons (pv 7) (pa_cons (pv 1) (pa_cons (pv 3) (pa_cons (pv 4) pa_nil)))))))))))), ?_⟩
    lk
    refine ⟨z, pk, al, e, rfl, hz, hp, ha, he, fun _ H1 e1 => ?_⟩
    lk
    refine ⟨v, ms, rfl, hm.mono e1, hok, hlen, fun rv H2 e2 hr2 => ?_⟩
    lk
    refine ⟨rv, ms, rfl, hr2, hlen, hnd, fun _ H3 e3 => ?_⟩
    have hr3 := hr2.mono e3
    obtain ⟨ra, rvs, rfl, _⟩ := id hr3
    refine ⟨fun σ H' => ∃ zv, σ = [some v, some (.str z), some (oV pk), some (oV al), some (.str e), some (.bl u), some (.ref ra), some zv] ∧ Ex H3 H' ∧ LaidAt H' zv (laidOf z u pk ms).1 (laidOf z u pk ms).2.1 (laidOf z u pk ms).2.2, ?_, ?_⟩
    · lk
      by_cases hv : z = "msvc"
      · rw [if_pos hv]
        refine cutE ?_
        cases u with
        | true =>
          lk
          refine ⟨_, pk, ms, rfl, hr3, hlen, hok, hp, fun zv H4 e4 h4 => ?_⟩
          lk
          refine ⟨e4, ?_⟩
          unfold laidOf
          rw [if_pos hv, if_pos rfl]
          exact h4
        | false =>
          lk
          refine ⟨_, pk, ms, rfl, hr3, hlen, hok, hp, fun zv H4 e4 h4 => ?_⟩
          lk
          refine ⟨e4, ?_⟩
          unfold laidOf
          rw [if_pos hv, if_neg Bool.false_ne_true]
          exact h4
      · rw [if_neg hv]
        refine cutE ?_
        cases u with
        | true =>
          lk
          refine ⟨_, pk, ms, rfl, hr3, hlen, hok, hp, fun zv H4 e4 h4 => ?_⟩
          lk
          refine ⟨e4, ?_⟩
          unfold laidOf
          rw [if_neg hv, if_pos rfl]
          exact h4
        | false =>
          lk
          refine ⟨_, pk, ms, rfl, hr3, hlen, hok, hp, fun zv H4 e4 h4 => ?_⟩
          lk
          refine ⟨e4, ?_⟩
          unfold laidOf
          rw [if_neg hv, if_neg Bool.false_ne_true]
          exact h4
    · rintro σ H4 ⟨zv, rfl, e4, h4⟩
      lk
      intro x dx hx hdx hne
      have e5 : Ex H4 (upd (upd H4 dx (.own x)) x (.ins (cL K) dx [])) := (Ex.new hdx).trans (Ex.new (upd_ne hne.symm ▸ hx))
      have hl := stepAl_pos (laidOf_least (conv := z) (u := u) hok hp) ha
      have h5 : LaidAt (upd (upd H4 dx (.own x)) x (.ins (cL K) dx [])) zv (laidOf z u pk ms).1 (laidOf z u pk ms).2.1 (laidOf z u pk ms).2.2 := by
        obtain ⟨a1, p1, r1, r2, r3⟩ := h4
        exact ⟨a1, p1, r1, e5 _ _ r2, e5 _ _ r3⟩
      refine ⟨x, dx, ra, zv, z, al, e, _, _, _, rfl, upd_same, h5, hl.1, by omega, fun pa H6 hpa hx6 hk6 => ?_⟩
      have hex : Ex H4 H6 := fun b o hb => hk6 b o (e5 _ _ hb) (ne_of_none hb hx)
      refine ⟨rfl, k _ H6 ((((e1.trans e2).trans e3).trans e4).trans hex) ⟨x, dx, ra, pa, rfl, hx6, (hr3.mono e4).mono hex, hk6 _ _ hpa ?_⟩⟩
      exact ne_of hpa upd_same (by intro z; cases z)
end
end K32
/-! D9: struct and union, called with keywords. -/
namespace K32
open PySem PySem.Spec PyProof.Rows L2
/-! one look: what stands written is read -/
local macro_rules | `(tactic| lk) => `(tactic| try simp only [tCB, tCons, tNil, tC, tVar, tOp, tUn, tTest, tB, tNot, tAndV, tOrV, tNotV, tAnd, tOr, tRet, tSeq, tAsg, gName, tDrop, tNext, tIfS, tIf, tCall, tCmp, rI0, rI, rEq, rNe, tPar, tPar3, tTup, tLst,
  tDGet, tSl, tPart, tNoPart, sDPut, tDisp, tPairs, tLstRg, tRg2, tCallN, tRevL, sFld, tFld, tMeth, tProp, tMake, tBM, tBM0, tNevE, tNever, tRetN, tBreak, tCont, gCons, gNil, gSub, tAug, ipI, wipe, iList, iTup, iRng1, iRng2, iStr, iEnum, RZ.iZipA, rU,
  L2.start, List.map_cons, List.map_nil, List.length_cons, List.length_nil, Nat.reduceAdd, Nat.reduceSub, List.replicate_succ, List.replicate_zero, List.cons_append, List.nil_append, List.append_nil,
  List.getElem?_cons_zero, List.getElem?_cons_succ, List.set_cons_zero, List.set_cons_succ, List.cons.injEq, Option.some.injEq, V.int.injEq, V.bl.injEq, V.str.injEq, V.ref.injEq, exists_eq_left', exists_eq_left, exists_eq', exists_and_left, and_assoc, true_and, and_true,
  if_true, Bool.false_eq_true, if_false, sc_ii, sc_ss, sc_ni, sc_in, sc_sn, sc_ns, sc_bb, eq_self, decide_eq_true_eq, Bool.not_eq_true', decide_eq_false_iff_not, ite_not, ne_ia', ne_ai', Int.reduceEq, Int.reduceLT, Int.reduceLE, reduceCtorEq, decide_true, decide_false, Bool.not_true, Bool.not_false, cxK, oV_n, oV_s, cast_lit])
structure Dk (P : Program) (w : World) (K : PySem.W.Frag) (mg : Str → Option Value) (base : Heap) (x : Str) (k : Nat) (ps : List Str) (sp : Sp) (n : Nat) (ks : List Str) (gV : List V → List V → List V) : Prop where
  ex : ∃ (f : Addr) (fd : FuncData) (g : List Value → List Value → List Value), FnOk P w K mg base CX0 k f fd ps sp ∧ mg x = some (.ref f) ∧ PySem.W.keepIn K (.ref f) = true ∧ KBn K fd ps n ks g gV
section
variable {X : Cx} {k n : Nat} {x : Str} {ps ks : List Str} {sp : Sp} {gV : List V → List V → List V} {p pos : Pos} {e : Expr} {es : List Expr} {kws : List Keyword} {t tk : TA}
theorem pe_dk (D : Dk X.prog X.w X.K X.mg X.base x k ps sp n ks gV) (hr : Room k X.A) (hg : Gl X x) (ha : PA X (e :: es) t) (hkw : PK X kws tk) (hall : (backToKw pos (keywordEach kws X.env)).all (·.1.isSome) = true := by rfl)
    (hks : (backToKw pos (keywordEach kws X.env)).filterMap (·.1) = ks := by rfl) (hdb : (x == ("__debug__" : Str)) = false := by decide) (he : starEach (e :: es) X.env = (false, eval e X.env) :: starEach es X.env := by rfl)
    (hpl : ((backTo pos (starEach (e :: es) X.env)).any (·.1) || (backToKw pos (keywordEach kws X.env)).any (·.1.isNone)) = false := by rfl) : PE X (.Call (.Name x p) (e :: es) kws pos) (tCallN n ks.length sp gV E0 t tk) :=
  let ⟨_, _, _, F, hm, hk, hb⟩ := D.ex
  pe_callN F hr hg hm hk hb pass0 ha hkw hall hks hdb he hpl
end
section
variable {P : Program} {w : World} {K : PySem.W.Frag} {mg : Str → Option Value} {base : Heap}
abbrev spSt5 (K : PySem.W.Frag) (u : Bool) : Sp := fun vs H Q _ => ∃ v z pk al e ms, vs = [v, .str z, oV pk, oV al, .str e] ∧ MemsAt H v ms ∧ ms.length ≤ 12 ∧ (∀ m ∈ ms, m.ok) ∧ (ms.map (·.nm)).Nodup ∧ okConv z ∧ okPack pk ∧ okAlign al ∧ okEnds e ∧
  ∀ v' H', Ex H H' → LayAt K H' v' (layOf z pk al e u ms) → Q v' H'
def kwd4 : List (Str × V) := [("convention", .str "sysv"), ("pack", .non), ("align", .non), ("ends", .str "little")]
structure HasK (K : PySem.W.Frag) (mg : Str → Option Value) (x : Str) (st : Stmt) : Prop where
  ex : ∃ (f : Addr) (fd : FuncData), FunD K x x (defArgs st) (defBody st) (defScope st) [] kwd4 f fd ∧ mg x = some (.ref f)
theorem Ctx.k_struct (c : Ctx K mg) : HasK K mg "struct" (top 57) := by
  obtain ⟨fd, F⟩ := c.d.def_ (fns.length - 7) (d := d_struct) rfl
  exact ⟨_, fd, F, c.mg_struct⟩
theorem Ctx.k_union (c : Ctx K mg) : HasK K mg "union" (top 58) := by
  obtain ⟨fd, F⟩ := c.d.def_ (fns.length - 6) (d := d_union) rfl
  exact ⟨_, fd, F, c.mg_union⟩
def ks4 : List Str := ["convention", "pack", "align", "ends"]
def ks2 : List Str := ["convention", "ends"]
abbrev s_struct : Stmt := top 57
abbrev N_struct : List Str := ["members", "convention", "pack", "align", "ends"]
abbrev P_struct : List Str := ["members", "convention", "pack", "align", "ends"]
theorem sc_struct : FnScope N_struct P_struct (defScope s_struct) := ⟨rfl, rfl, rfl, by decide +kernel, rfl, by decide +kernel, by decide +kernel⟩
abbrev s_union : Stmt := top 58
abbrev N_union : List Str := ["members", "convention", "pack", "align", "ends"]
abbrev P_union : List Str := ["members", "convention", "pack", "align", "ends"]
theorem sc_union : FnScope N_union P_union (defScope s_union) := ⟨rfl, rfl, rfl, by decide +kernel, rfl, by decide +kernel, by decide +kernel⟩
theorem fn_struct (c : Ctx K mg) {f : Addr} {fd : FuncData} (F : FunD K "struct" "struct" (defArgs s_struct) (defBody s_struct) (defScope s_struct) [] kwd4 f fd) : FnOk P w K mg base CX0 10 f fd P_struct (spSt5 K false) := by
  have D_layout_of := ok_layout_of (P := P) (w := w) (base := base) c
  refine F.ok sc_struct (fun vs H Q E h => ?_) (fun cdv A outer s H vs Q E hr h => ?_)
  · obtain ⟨v, z, pk, al, e, ms, rfl, _⟩ := h
    rfl
  · obtain ⟨v, z, pk, al, e, ms, rfl, hm, hlen, hok, hnd, hz, hp, ha, he, k⟩ := h
    suffices hh : ∃ t, PSs (cxOf CX0 P w K mg base N_struct "struct" (defScope s_struct) f cdv A outer s H E).nox (defBody s_struct) t ∧ t { nx := fun _ H' => Q .non H', rt := Q } (L2.start N_struct [v, .str z, oV pk, oV al, .str e]) H from
      let ⟨t, h1, h2⟩ := hh
      ⟨t, h1.nox, h2⟩
    -- 0 members, 1 convention, 2 pack, 3 align, 4 ends
    refine ⟨_, (pss_one (ps_ret (pe_df D_layout_of (hr.mono (by omega)) (by rfl) (pa_cons (pv 0) (pa_cons (pv 1) (pa_cons (pv 2) (pa_cons (pv 3) (pa_cons (pv 4) (pa_cons pe_bl pa_nil))))))))), ?_⟩
    lk
    exact ⟨v, z, pk, al, e, false, ms, rfl, hm, hlen, hok, hnd, hz, hp, ha, he, k⟩
theorem fn_union (c : Ctx K mg) {f : Addr} {fd : FuncData} (F : FunD K "union" "union" (defArgs s_union) (defBody s_union) (defScope s_union) [] kwd4 f fd) : FnOk P w K mg base CX0 10 f fd P_union (spSt5 K true) := by
  have D_layout_of := ok_layout_of (P := P) (w := w) (base := base) c
  refine F.ok sc_union (fun vs H Q E h => ?_) (fun cdv A outer s H vs Q E hr h => ?_)
  · obtain ⟨v, z, pk, al, e, ms, rfl, _⟩ := h
    rfl
  · obtain ⟨v, z, pk, al, e, ms, rfl, hm, hlen, hok, hnd, hz, hp, ha, he, k⟩ := h
    suffices hh : ∃ t, PSs (cxOf CX0 P w K mg base N_union "union" (defScope s_union) f cdv A outer s H E).nox (defBody s_union) t ∧ t { nx := fun _ H' => Q .non H', rt := Q } (L2.start N_union [v, .str z, oV pk, oV al, .str e]) H from
      let ⟨t, h1, h2⟩ := hh
      ⟨t, h1.nox, h2⟩
    -- 0 members, 1 convention, 2 pack, 3 align, 4 ends
    refine ⟨_, (pss_one (ps_ret (pe_df D_layout_of (hr.mono (by omega)) (by rfl) (pa_cons (pv 0) (pa_cons (pv 1) (pa_cons (pv 2) (pa_cons (pv 3) (pa_cons (pv 4) (pa_cons pe_bl pa_nil))))))))), ?_⟩
    lk
    exact ⟨v, z, pk, al, e, true, ms, rfl, hm, hlen, hok, hnd, hz, hp, ha, he, k⟩
theorem kb_all {x : Str} {f : Addr} {fd : FuncData} {args : Arguments} {body : List Stmt} {sc : Scope} (F : FunD K x x args body sc [] kwd4 f fd)
    (h : ∀ (kV doc pm : Value) (an : Option Addr) (cdv ct u a b c d : Value), bindArgs (PySem.W.fnOf x x args body sc .none kV doc pm an cdv ct) ⟨[u], ks4.zip [a, b, c, d]⟩ = pure (P_struct.zip [u, a, b, c, d])) :
    ∃ g, KBn K fd P_struct 1 ks4 g (fun vs zs => vs ++ zs) := by
  obtain ⟨mv, hb⟩ := F.kbinds0 (ps := P_struct) 1 ks4 [] (fun us _ ws => us ++ ws) (fun z => nomatch z) (fun q hq => nomatch hq) (fun h1 _ h3 => h1.append h3)
    (fun D doc pm an cdv ct us mv ws h1 _ h3 => match us, ws, h1, h3 with | [u], [a, b, c, d], _, _ => h (.ref D) doc pm an cdv ct u a b c d)
  exact ⟨_, hb⟩
theorem D_struct_all (c : Ctx K mg) : Dk P w K mg base "struct" 10 P_struct (spSt5 K false) 1 ks4 (fun vs zs => vs ++ zs) := by
  obtain ⟨f, fd, F, hm⟩ := c.k_struct.ex
  obtain ⟨g, hb⟩ := kb_all F (fun _ _ _ _ _ _ _ _ _ _ _ => rfl)
  exact ⟨f, fd, g, fn_struct c F, hm, F.kp, hb⟩
theorem D_union_all (c : Ctx K mg) : Dk P w K mg base "union" 10 P_struct (spSt5 K true) 1 ks4 (fun vs zs => vs ++ zs) := by
  obtain ⟨f, fd, F, hm⟩ := c.k_union.ex
  obtain ⟨g, hb⟩ := kb_all F (fun _ _ _ _ _ _ _ _ _ _ _ => rfl)
  exact ⟨f, fd, g, fn_union c F, hm, F.kp, hb⟩
theorem D_struct_two (c : Ctx K mg) : Dk P w K mg base "struct" 10 P_struct (spSt5 K false) 1 ks2 (fun vs zs => vs ++ (zs.take 1 ++ ([.non, .non] ++ zs.drop 1))) := by
  obtain ⟨f, fd, F, hm⟩ := c.k_struct.ex
  obtain ⟨mv, hb⟩ := F.kbinds0 (ps := P_struct) 1 ks2 [("pack", .non), ("align", .non)] (fun us mv ws => us ++ (ws.take 1 ++ (mv ++ ws.drop 1))) (fun z => nomatch z)
    (fun q hq => by
      rcases List.mem_cons.mp hq with rfl | hq
      · exact .tail _ (.head _)
      · rcases List.mem_cons.mp hq with rfl | hq
        · exact .tail _ (.tail _ (.head _))
        · exact nomatch hq)
    (fun h1 h2 h3 => h1.append ((h3.take 1).append (h2.append (h3.drop 1))))
    (fun D doc pm an cdv ct us mv ws h1 h2 h3 => match us, mv, ws, h1, h2, h3 with
      | [u], [a, b], [y, z], _, _, _ => ⟨_, _, _, _, _, _, rfl, rfl, _, _, _, _, _, _, rfl, rfl, rfl⟩)
  exact ⟨f, fd, _, fn_struct c F, hm, F.kp, hb⟩
end
end K32
/-! E1: paths followed: row_named, step_from, lead, spot_of. -/
namespace K32
open PySem PySem.Spec PyProof.Rows L2
/-! one look: what stands written is read -/
local macro_rules | `(tactic| lk) => `(tactic| try simp only [tCB, tCons, tNil, tC, tVar, tOp, tUn, tTest, tB, tNot, tAndV, tOrV, tNotV, tAnd, tOr, tRet, tSeq, tAsg, gName, tDrop, tNext, tIfS, tIf, tCall, tCmp, rI0, rI, rEq, rNe, tPar, tPar3, tTup, tLst,
  tDGet, tSl, tPart, tNoPart, sDPut, tDisp, tPairs, tLstRg, tRg2, tCallN, tRevL, sFld, tFld, tMeth, tProp, tMake, tBM, tBM0, tNevE, tNever, tRetN, tBreak, tCont, gCons, gNil, gSub, tAug, ipI, wipe, iList, iTup, iRng1, iRng2, iStr, iEnum, RZ.iZipA, rU,
  L2.start, List.map_cons, List.map_nil, List.length_cons, List.length_nil, Nat.reduceAdd, Nat.reduceSub, List.replicate_succ, List.replicate_zero, List.cons_append, List.nil_append, List.append_nil,
  List.getElem?_cons_zero, List.getElem?_cons_succ, List.set_cons_zero, List.set_cons_succ, List.cons.injEq, Option.some.injEq, V.int.injEq, V.bl.injEq, V.str.injEq, V.ref.injEq, exists_eq_left', exists_eq_left, exists_eq', exists_and_left, and_assoc, true_and, and_true,
  if_true, Bool.false_eq_true, if_false, sc_ii, sc_ss, sc_ni, sc_in, sc_sn, sc_ns, sc_bb, eq_self, decide_eq_true_eq, Bool.not_eq_true', decide_eq_false_iff_not, ite_not, ne_ia', ne_ai', Int.reduceEq, Int.reduceLT, Int.reduceLE, reduceCtorEq, decide_true, decide_false, Bool.not_true, Bool.not_false, cxK, oV_n, oV_s, cast_lit])
theorem ForOk.zip {K : PySem.W.Frag} {a b : Addr} {g : TG} {tb : TS} {D : Ends} {σ : L2.St} {H : Hp} (xs ys : List V) (hxy : xs.length = ys.length) (Pv : Nat → L2.St → Hp → Prop) (h0 : Pv 0 σ H)
    (hl : ∀ i σ H, Pv i σ H → SqL K H a xs ∧ SqL K H b ys)
    (hs : ∀ i σ H x y T, xs[i]? = some x → ys[i]? = some y → Pv i σ H → H T = none → g (.ref T) σ (upd H T (.tup [x, y])) fun σ2 H2 => tb { D with nx := Pv (i + 1), ct := Pv (i + 1), bk := D.nx } σ2 H2)
    (hd : ∀ σ H, Pv xs.length σ H → D.nx σ H) : ForOk (Itz K a b) g tb D σ H :=
  .inv xs.length Pv h0 (fun i σ H hi p => ⟨xs, ys, xs[i], ys[i]'(hxy ▸ hi), (hl i σ H p).1, (hl i σ H p).2, List.getElem?_eq_getElem hi, List.getElem?_eq_getElem (hxy ▸ hi)⟩)
    (fun σ H p => ⟨xs, ys, (hl _ σ H p).1, (hl _ σ H p).2, .inl (Nat.le_refl _)⟩)
    (fun i σ H x H' hi p ⟨T, u, v, e1, hT, e2, hu, hv⟩ => by
      subst e1 e2
      exact hs i σ H u v T (hu xs (hl i σ H p).1) (hv ys (hl i σ H p).2) p hT) hd
/-! ### the integers of a kind, of a layout -/
structure Ent where
  path : List V
  n : Int
  s : Bool
  bt : Option Int
  off : Int
def Ent.under (x : V) (o : Int) (e : Ent) : Ent := ⟨x :: e.path, e.n, e.s, e.bt, o + e.off⟩
def Kd.ents : Kd → List Ent
  | .int n s => [⟨[], n, s, none, 0⟩]
  | .arr k m => (List.range m).flatMap fun (i : Nat) => k.ents.map (Ent.under (.int i) (8 * k.size * i))
def Mem.ents (m : Mem) (p : Int) : List Ent := match m.bt with
  | none => m.kd.ents.map (Ent.under (.str m.nm) p)
  | some b => [⟨[.str m.nm], m.kd.size, (match m.kd with | .int _ s => s | _ => false), some b, p⟩]
def Lay.ents (L : Lay) : List Ent := (L.ms.zip L.pos).flatMap fun q => q.1.ents q.2
def TupAt (H : Hp) (v : V) (q : List V) : Prop := ∃ b, v = .ref b ∧ H b = some (.tup q)
theorem TupAt.monoT {H H' : Hp} (e : ExT H H') {v : V} {q : List V} (h : TupAt H v q) : TupAt H' v q :=
  let ⟨b, h1, h2⟩ := h
  ⟨b, h1, e.tup h2⟩
theorem TupAt.mono {H H' : Hp} (e : Ex H H') {v : V} {q : List V} (h : TupAt H v q) : TupAt H' v q := h.monoT e.t
/-- what a member is, told by a spot -/
def WhatM (H : Hp) (v : V) (m : Mem) : Prop := match m.bt with
  | none => KdAt H v m.kd
  | some b => ∃ n s, m.kd = .int n s ∧ TupAt H v [.str "bits", .int n, .bl s, .int b]
theorem WhatM.mono {H H' : Hp} (e : Ex H H') {v : V} {m : Mem} (h : WhatM H v m) : WhatM H' v m := by
  unfold WhatM at h ⊢
  split
  · rename_i hb
    rw [hb] at h
    exact KdAt.mono e h
  · rename_i b hb
    rw [hb] at h
    obtain ⟨n, s, h1, h2⟩ := h
    exact ⟨n, s, h1, h2.mono e⟩
structure Lay.ok (L : Lay) : Prop where
  len : L.pos.length = L.ms.length
  few : L.ms.length ≤ 12
  oks : ∀ m ∈ L.ms, m.ok
  nd : (L.ms.map (·.nm)).Nodup
section
variable {P : Program} {w : World} {K : PySem.W.Frag} {mg : Str → Option Value} {base : Heap}
abbrev spRN (K : PySem.W.Frag) : Sp := fun vs H Q _ => ∃ (v : V) (L : Lay) (j : Nat) (m : Mem) (p : Int), vs = [v, .str m.nm] ∧ LayAt K H v L ∧ L.ok ∧ L.ms[j]? = some m ∧ L.pos[j]? = some p ∧
  ∀ v' kv H', Ex H H' → TupAt H' v' [kv, oV m.bt, .int p, .str L.order] → KdAt H' kv m.kd → Q v' H'
abbrev s_row_named : Stmt := top 41
abbrev N_row_named : List Str := ["layout", "name", "position", "own", "kind", "bits", "inner"]
abbrev P_row_named : List Str := ["layout", "name"]
theorem sc_row_named : FnScope N_row_named P_row_named (defScope s_row_named) := ⟨rfl, rfl, rfl, by decide +kernel, rfl, by decide +kernel, by decide +kernel⟩
theorem bb_row_named : BindsBy "row_named" s_row_named P_row_named := fun _ _ _ _ _ _ us hl => match us, hl with | [_, _], _ => rfl
theorem ok_row_named (c : Ctx K mg) : Df P w K mg base "row_named" 3 P_row_named (spRN K) := by
  have G_ends := ok_ends (P := P) (w := w) (base := base) c
  refine Df.of c.h_row_named sc_row_named bb_row_named (fun vs H Q E h => ?_) (fun f cdv A outer s H vs Q E hr h => ?_)
  · obtain ⟨v, L, j, m, p, rfl, _⟩ := h
    rfl
  · obtain ⟨v, L, j, m, p, rfl, ⟨a, dx, ra, pa, rfl, ha, ⟨ra', vs, hra, hvs, hrows⟩, hpa⟩, hok, hj, hp, k⟩ := h
    cases hra
    -- 0 layout, 1 name, 2 position, 3 own, 4 kind, 5 bits, 6 inner
    refine ⟨_, (pss_cons (ps_for PassesOwn.never rfl (RZ.pi_zipA (by rfl) c.no_zip (pa_cons (pe_fld (pv 0) rfl) (pa_cons (pe_fld (pv 0) rfl) pa_nil))) (pg_tup rfl (pgs_cons (pg_tup rfl (pgs_cons (pg_name (i := 3) sc_row_named.nd rfl (Or.inl rfl)) (pgs_cons (pg_name (i := 4) sc_row_named.nd rfl (Or.inl rfl)) (pgs_cons (pg_name (i := 5) sc_row_named.nd rfl (Or.inl rfl)) pgs_nil)))) (pgs_cons (pg_name (i := 2) sc_row_named.nd rfl (Or.inl rfl)) pgs_nil))) (pss_cons (ps_if (pt_cmpR op_eq (pv 3) (pv 1) (nomark _)) (pss_one (ps_ret (pe_tup (pa_cons (pv 4) (pa_cons (pv 5) (pa_cons (pv 2) (pa_cons (pe_pr (pv 0) c.cl c.p_ends G_ends (hr.mono (by omega)) rfl) pa_nil))))))) pss_nil)
        (pss_one (ps_if (PW.pt (pw_and (pt_cmpR op_isN (pv 3) pe_non (nomark _)) (pw_and1 (pt_cmpR op_isN (pv 5) pe_non (nomark _))))) (pss_cons ps_never
        (pss_one (ps_if (pt_cmpR op_notN (pv 6) pe_non (nomark _)) (pss_one (ps_ret (pe_tup (pa_cons (pe_ix ix_tup (pv 6) pe_int (fun _ _ => rfl)) (pa_cons (pe_ix ix_tup (pv 6) pe_int (fun _ _ => rfl)) (pa_cons (pe_op op_add (pv 2) (pe_ix ix_tup (pv 6) pe_int (fun _ _ => rfl))) (pa_cons (pe_ix ix_tup (pv 6) pe_int (fun _ _ => rfl)) pa_nil))))))) pss_nil))) pss_nil))))
        (pss_one (ps_ret pe_non))), ?_⟩
    have hjl := (List.getElem?_eq_some_iff.mp hj).1
    refine for_ok ?_
    lk
    refine ⟨_, dx, _, ha, c.cl, c.na_rows, _, layF_rows, ?_⟩
    refine ⟨_, dx, _, ha, c.cl, c.na_positions, _, layF_positions, ?_⟩
    lk
    refine ⟨vs, L.pos.map V.int, .inl ⟨SqL.of hvs, SqL.of hpa, ?_⟩⟩
    refine ForOk.zip vs (L.pos.map V.int) (by rw [List.length_map, hrows.1, hok.len]) (fun i σ H' => (∃ x1 x2 x3 x4 x5, σ = [some (.ref a), some (.str m.nm), x1, x2, x3, x4, x5]) ∧ Ex H H' ∧ i ≤ j)
      ⟨⟨_, _, _, _, _, rfl⟩, Ex.refl H, Nat.zero_le _⟩ (fun i σ H' ⟨_, e, _⟩ => ⟨SqL.of (e _ _ hvs), SqL.of (e _ _ hpa)⟩) ?_ ?_
    · rintro i σ H1 x y T hx hy ⟨⟨x1, x2, x3, x4, x5, rfl⟩, e, hij⟩ hT
      obtain ⟨mi, hmi, ⟨b, kv, rfl, hb, hk⟩⟩ := hrows.at hx
      have e2 := e.trans (Ex.new (o := .tup [.ref b, y]) hT)
      refine g_tup upd_same rfl ?_
      lk
      refine g_tup (e2 _ _ hb) rfl ?_
      lk
      by_cases hnm : mi.nm = m.nm
      · rw [if_pos hnm]
        have hji : i = j := nd_ix hok.nd (x := m.nm) (by rw [List.getElem?_map, hmi, ← hnm] <;> rfl) (by rw [List.getElem?_map, hj] <;> rfl)
        subst hji
        rw [hmi] at hj
        cases hj
        rw [List.getElem?_map, hp] at hy
        cases hy
        refine ⟨dx, _, e2 _ _ ha, ?_⟩
        refine ⟨a, dx, _, _, rfl, e2 _ _ ha, layF_order, ?_⟩
        refine ⟨by decide, fun t ht => ?_⟩
        exact k _ kv _ (e2.trans (Ex.new ht)) ⟨t, rfl, upd_same⟩ ((hk.mono e2).mono (Ex.new ht))
      · rw [if_neg hnm]
        refine ⟨e2, ?_⟩
        have hne : i ≠ j := fun z => by
          subst z
          rw [hmi] at hj
          cases hj
          exact hnm rfl
        omega
    · rintro σ H1 ⟨_, _, hij⟩
      rw [hrows.1] at hij
      exact absurd hjl (by omega)
/-- a step from a layout by a name, from an array by an index -/
abbrev spSF (K : PySem.W.Frag) : Sp := fun vs H Q _ => ∃ (sp : Addr) (x : V) (kv : V) (b : Int) (z : Str), vs = [.ref sp, x] ∧ H sp = some (.tup [kv, .int b, .str z]) ∧
  ((∃ (L : Lay) (j : Nat) (m : Mem) (p : Int), x = .str m.nm ∧ LayAt K H kv L ∧ L.ok ∧ L.ms[j]? = some m ∧ L.pos[j]? = some p ∧ ∀ v' kv' H', Ex H H' → TupAt H' v' [kv', .int (b + p), .str L.order] → WhatM H' kv' m → Q v' H') ∨
   (∃ (k : Kd) (m i : Nat), x = .int i ∧ i < m ∧ KdAt H kv (.arr k m) ∧ Kd.ok 3 (.arr k m) ∧ ∀ v' kv' H', Ex H H' → TupAt H' v' [kv', .int (b + 8 * k.size * i), .str z] → KdAt H' kv' k → Q v' H'))
abbrev s_step_from : Stmt := top 42
abbrev N_step_from : List Str := ["spot", "step", "kind", "position", "ends", "row", "inner", "bits", "ahead", "own"]
abbrev P_step_from : List Str := ["spot", "step"]
theorem sc_step_from : FnScope N_step_from P_step_from (defScope s_step_from) := ⟨rfl, rfl, rfl, by decide +kernel, rfl, by decide +kernel, by decide +kernel⟩
theorem bb_step_from : BindsBy "step_from" s_step_from P_step_from := fun _ _ _ _ _ _ us hl => match us, hl with | [_, _], _ => rfl
theorem ok_step_from (c : Ctx K mg) : Df P w K mg base "step_from" 4 P_step_from (spSF K) := by
  have D_row_named := ok_row_named (P := P) (w := w) (base := base) c
  have D_is_integer := ok_is_integer (P := P) (w := w) (base := base) c
  have D_size_of := ok_size_of (P := P) (w := w) (base := base) c 3
  refine Df.of c.h_step_from sc_step_from bb_step_from (fun vs H Q E h => ?_) (fun f cdv A outer s H vs Q E hr h => ?_)
  · obtain ⟨sp, x, kv, b, z, rfl, _⟩ := h
    rfl
  · obtain ⟨sp, x, kv, b, z, rfl, hsp, hcase⟩ := h
    -- 0 spot, 1 step, 2 kind, 3 position, 4 ends, 5 row, 6 inner, 7 bits, 8 ahead, 9 own
    refine ⟨_, (pss_cons (ps_asg (pv 0) (pg_tup rfl (pgs_cons (pg_name (i := 2) sc_step_from.nd rfl (Or.inl rfl)) (pgs_cons (pg_name (i := 3) sc_step_from.nd rfl (Or.inl rfl)) (pgs_cons (pg_name (i := 4) sc_step_from.nd rfl (Or.inl rfl)) pgs_nil)))))
        (pss_cons (ps_if (pt_val (pe_callB call_isi (by rfl) c.no_isinstance (by decide +kernel) (pa_cons (pv 2) (pa_cons (pe_glob (v := .ref _) rfl c.mg_Shape rfl) pa_nil)))) (pss_cons (ps_set (i := 5) sc_step_from.nd rfl (Or.inl rfl) (pe_cut (pe_ifExp (pt_val (pe_callB call_isi (by rfl) c.no_isinstance (by decide +kernel) (pa_cons (pv 1) (pa_cons (pe_bltn (v := .ty "str") (by rfl) c.no_str (by decide +kernel) rfl) pa_nil)))) (pe_df D_row_named (hr.mono (by omega)) (by rfl) (pa_cons (pv 2) (pa_cons (pv 1) pa_nil))) pe_non)))
        (pss_cons (ps_if (pt_cmpR op_isN (pv 5) pe_non (nomark _)) (pss_one (ps_ret pe_non)) pss_nil)
        (pss_cons (ps_asg (pv 5) (pg_tup rfl (pgs_cons (pg_name (i := 6) sc_step_from.nd rfl (Or.inl rfl)) (pgs_cons (pg_name (i := 7) sc_step_from.nd rfl (Or.inl rfl)) (pgs_cons (pg_name (i := 8) sc_step_from.nd rfl (Or.inl rfl)) (pgs_cons (pg_name (i := 9) sc_step_from.nd rfl (Or.inl rfl)) pgs_nil))))))
        (pss_one (ps_ret (pe_tup (pa_cons (pe_cut (pe_ifExp (pt_cmpR op_isN (pv 7) pe_non (nomark _)) (pv 6) (pe_tup (pa_cons pe_str (pa_cons (pe_ix ix_tup (pv 6) pe_int (fun _ _ => rfl)) (pa_cons (pe_ix ix_tup (pv 6) pe_int (fun _ _ => rfl)) (pa_cons (pv 7) pa_nil))))))) (pa_cons (pe_op op_add (pv 3) (pv 8)) (pa_cons (pv 9) pa_nil))))))))) pss_nil)
        (pss_cons (ps_if (PW.pt (pw_or (pt_cmpR op_ne (pe_ix ix_tup (pv 2) pe_int (fun _ _ => rfl)) pe_str (nomark _)) (pw_or (pt_not (pt_val (pe_df D_is_integer (hr.mono (by omega)) (by rfl) (pa_cons (pv 1) pa_nil)))) (pw_or1 (pt_not (pt_chain op_le op_lt pe_int (pv 1) (pe_ix ix_tup (pv 2) pe_int (fun _ _ => rfl)))))))) (pss_one (ps_ret pe_non)) pss_nil)
        (pss_one (ps_ret (pe_tup (pa_cons (pe_ix ix_tup (pv 2) pe_int (fun _ _ => rfl)) (pa_cons (pe_op op_add (pv 3) (pe_op op_mul (pe_op op_mul pe_int (pe_df D_size_of (hr.mono (by omega)) (by rfl) (pa_cons (pe_ix ix_tup (pv 2) pe_int (fun _ _ => rfl)) pa_nil))) (pv 1))) (pa_cons (pv 4) pa_nil))))))))), ?_⟩
    lk
    refine g_tup hsp rfl ?_
    lk
    rcases hcase with ⟨L, j, m, p, rfl, hL, hok, hj, hp, k⟩ | ⟨kd, mm, i, rfl, hi, hk, hkd, k⟩
    · obtain ⟨a, dx, ra, pa, rfl, ha, _⟩ := id hL
      refine isi_shapeL c ha ?_
      lk
      refine cutE ?_
      lk
      refine isi_ty (.base (.str _)) (b := true) (by decide +kernel) ?_
      lk
      refine ⟨_, L, j, m, p, rfl, hL, hok, hj, hp, fun v' kv H1 e1 ⟨t, ht, htt⟩ hkv => ?_⟩
      subst ht
      lk
      refine g_tup htt rfl ?_
      lk
      refine cutE ?_
      cases hbt : m.bt with
      | none =>
        lk
        refine ⟨by decide, fun q hq => ?_⟩
        refine k _ kv _ (e1.trans (Ex.new hq)) ⟨q, rfl, upd_same⟩ ?_
        unfold WhatM
        rw [hbt]
        exact hkv.mono (Ex.new hq)
      | some bb =>
        obtain ⟨n, sg, hkk, _⟩ := (hok.oks m (List.mem_of_getElem? hj)).2.2 bb hbt
        rw [hkk] at hkv
        obtain ⟨a2, rfl, ha2⟩ := hkv
        lk
        refine ix_1 ha2 ?_
        lk
        refine ix_2 ha2 ?_
        lk
        refine ⟨by decide, fun r hr1 => ?_⟩
        lk
        refine ⟨by decide, fun q hq => ?_⟩
        refine k _ (.ref r) _ ((e1.trans (Ex.new hr1)).trans (Ex.new hq)) ⟨q, rfl, upd_same⟩ ?_
        unfold WhatM
        rw [hbt]
        exact ⟨n, sg, hkk, r, rfl, Ex.new hq _ _ upd_same⟩
    · obtain ⟨a, u, rfl, ha, hu⟩ := id hk
      have hz := hkd.1.size_pos
      refine isi_shapeT c ha ?_
      lk
      refine ix_0 ha ?_
      lk
      refine ⟨_, rfl, ?_⟩
      simp only [tChain]
      lk
      rw [if_pos (show (0 : Int) ≤ i by omega)]
      refine ix_2 ha ?_
      lk
      rw [if_pos (show (i : Int) < mm by omega)]
      refine ix_1 ha ?_
      lk
      refine ix_1 ha ?_
      lk
      refine ⟨u, kd, rfl, hu, hkd.1.up, ?_⟩
      lk
      have hm3 : mm ≤ 3 := hkd.2
      refine ⟨.inl ⟨by decide, by decide⟩, .inr ⟨by omega, by omega⟩, by decide, fun q hq => ?_⟩
      exact k _ u _ (Ex.new hq) ⟨q, rfl, upd_same⟩ (hu.mono (Ex.new hq))
end
end K32
/-! E2: paths followed to their ends; bits, berths, octets. -/
namespace K32
open PySem PySem.Spec PyProof.Rows L2
/-! one look: what stands written is read -/
local macro_rules | `(tactic| lk) => `(tactic| try simp only [tCB, tCons, tNil, tC, tVar, tOp, tUn, tTest, tB, tNot, tAndV, tOrV, tNotV, tAnd, tOr, tRet, tSeq, tAsg, gName, tDrop, tNext, tIfS, tIf, tCall, tCmp, rI0, rI, rEq, rNe, tPar, tPar3, tTup, tLst,
  tDGet, tSl, tPart, tNoPart, sDPut, tDisp, tPairs, tLstRg, tRg2, tCallN, tRevL, sFld, tFld, tMeth, tProp, tMake, tBM, tBM0, tNevE, tNever, tRetN, tBreak, tCont, gCons, gNil, gSub, tAug, ipI, wipe, iList, iTup, iRng1, iRng2, iStr, iEnum, RZ.iZipA, rU,
  L2.start, List.map_cons, List.map_nil, List.length_cons, List.length_nil, Nat.reduceAdd, Nat.reduceSub, List.replicate_succ, List.replicate_zero, List.cons_append, List.nil_append, List.append_nil,
  List.getElem?_cons_zero, List.getElem?_cons_succ, List.set_cons_zero, List.set_cons_succ, List.cons.injEq, Option.some.injEq, V.int.injEq, V.bl.injEq, V.str.injEq, V.ref.injEq, exists_eq_left', exists_eq_left, exists_eq', exists_and_left, and_assoc, true_and, and_true,
  if_true, Bool.false_eq_true, if_false, sc_ii, sc_ss, sc_ni, sc_in, sc_sn, sc_ns, sc_bb, eq_self, decide_eq_true_eq, Bool.not_eq_true', decide_eq_false_iff_not, ite_not, ne_ia', ne_ai', Int.reduceEq, Int.reduceLT, Int.reduceLE, reduceCtorEq, decide_true, decide_false, Bool.not_true, Bool.not_false, cxK, oV_n, oV_s, cast_lit])
theorem ents_nil : ∀ {k : Kd} {e : Ent}, e ∈ k.ents → e.path = [] → k = .int e.n e.s ∧ e.off = 0 ∧ e.bt = none
  | .int n s, e, h, _ => by
    rw [List.mem_singleton.mp h]
    exact ⟨rfl, rfl, rfl⟩
  | .arr k m, e, h, hp => by
    obtain ⟨i, _, h2⟩ := List.mem_flatMap.mp h
    obtain ⟨e0, _, rfl⟩ := List.mem_map.mp h2
    cases hp
theorem ents_cons {x : V} {q : List V} : ∀ {k : Kd} {e : Ent}, e ∈ k.ents → e.path = x :: q →
    ∃ (k' : Kd) (m i : Nat) (e' : Ent), k = .arr k' m ∧ i < m ∧ x = .int i ∧ e' ∈ k'.ents ∧ e'.path = q ∧ e.off = 8 * k'.size * i + e'.off ∧ e.n = e'.n ∧ e.s = e'.s ∧ e.bt = e'.bt
  | .int n s, e, h, hp => by
    rw [List.mem_singleton.mp h] at hp
    cases hp
  | .arr k m, e, h, hp => by
    obtain ⟨i, hi, h2⟩ := List.mem_flatMap.mp h
    obtain ⟨e0, he0, rfl⟩ := List.mem_map.mp h2
    injection hp with h3 h4
    exact ⟨k, m, i, e0, rfl, List.mem_range.mp hi, h3.symm, he0, h4, rfl, rfl, rfl, rfl⟩
theorem ents_bt : ∀ {k : Kd} {e : Ent}, e ∈ k.ents → e.bt = none
  | .int n s, e, h => by
    rw [List.mem_singleton.mp h]
  | .arr k m, e, h => by
    obtain ⟨i, hi, h2⟩ := List.mem_flatMap.mp h
    obtain ⟨e0, he0, rfl⟩ := List.mem_map.mp h2
    exact (show e0.bt = none from ents_bt (k := k) he0)
theorem ents_okN : ∀ {d : Nat} {k : Kd} {e : Ent}, k.ok d → e ∈ k.ents → okN e.n
  | 0, _, _, h, _ => h.elim
  | _ + 1, .int n s, e, h, he => by
    rw [List.mem_singleton.mp he]
    exact h
  | d + 1, .arr k m, e, h, he => by
    obtain ⟨i, hi, h2⟩ := List.mem_flatMap.mp he
    obtain ⟨e0, he0, rfl⟩ := List.mem_map.mp h2
    exact (show okN e0.n from ents_okN (d := d) (k := k) h.1 he0)
theorem Lay.ents_mem {L : Lay} {e : Ent} (h : e ∈ L.ents) : ∃ (j : Nat) (m : Mem) (p : Int), L.ms[j]? = some m ∧ L.pos[j]? = some p ∧ e ∈ m.ents p := by
  obtain ⟨⟨m, p⟩, hq, he⟩ := List.mem_flatMap.mp h
  obtain ⟨j, hj, ej⟩ := List.mem_iff_getElem.mp hq
  have h2 : (L.ms.zip L.pos)[j]? = some (m, p) := by rw [List.getElem?_eq_getElem hj, ej]
  obtain ⟨h3, h4⟩ := List.getElem?_zip_eq_some.mp h2
  exact ⟨j, m, p, h3, h4, he⟩
def Ent.ok (e : Ent) : Prop := okN e.n ∧ ∀ b, e.bt = some b → 0 < b ∧ b ≤ 8 * e.n
theorem Mem.ents_ok {m : Mem} {p : Int} {e : Ent} (hm : m.ok) (h : e ∈ m.ents p) : e.ok := by
  unfold Mem.ents at h
  split at h
  · obtain ⟨e0, he0, rfl⟩ := List.mem_map.mp h
    refine ⟨(show okN e0.n from ents_okN hm.2.1 he0), fun b hb => ?_⟩
    have : e0.bt = some b := hb
    rw [ents_bt he0] at this
    cases this
  · rename_i b hb
    obtain ⟨n, s, hk, h0, h8⟩ := hm.2.2 b hb
    rw [List.mem_singleton.mp h]
    have hn : okN n := by
      have := hm.2.1
      rw [hk] at this
      exact this
    have hsz : m.kd.size = n := by rw [hk] <;> rfl
    exact ⟨by rw [hsz]; exact hn, fun b' hb' => by
      cases hb'
      rw [hsz]
      exact ⟨h0, h8⟩⟩
theorem Lay.ents_ok {L : Lay} (hok : L.ok) {e : Ent} (h : e ∈ L.ents) : e.ok :=
  let ⟨_, m, _, hj, _, he⟩ := L.ents_mem h
  m.ents_ok (hok.oks m (List.mem_of_getElem? hj)) he
/-- what a path's end is -/
def WhatE (H : Hp) (v : V) (e : Ent) : Prop := match e.bt with
  | none => TupAt H v [.str "int", .int e.n, .bl e.s]
  | some b => TupAt H v [.str "bits", .int e.n, .bl e.s, .int b]
theorem WhatE.mono {H H' : Hp} (x : Ex H H') {v : V} {e : Ent} (h : WhatE H v e) : WhatE H' v e := by
  unfold WhatE at h ⊢
  split
  · rename_i hb
    rw [hb] at h
    exact TupAt.mono x h
  · rename_i b hb
    rw [hb] at h
    exact TupAt.mono x h
/-- behind i steps of e's path: what the spot is -/
def SpotI (H : Hp) (v kv : V) (b : Int) (z od : Str) (e : Ent) : Nat → Prop
  | 0 => kv = v ∧ b = 0
  | i + 1 => z = od ∧ ((e.bt ≠ none ∧ i = 0 ∧ b = e.off ∧ WhatE H kv e) ∨
      (e.bt = none ∧ ∃ kd e', KdAt H kv kd ∧ kd.ok 3 ∧ e' ∈ kd.ents ∧ e'.path = e.path.drop (i + 1) ∧ b + e'.off = e.off ∧ e'.n = e.n ∧ e'.s = e.s))
def LeadI (v pv : V) (z od : Str) (e : Ent) (H0 : Hp) (i : Nat) (σ : L2.St) (H : Hp) : Prop := ∃ (sp : Addr) (kv : V) (b : Int) (z' : Str) (x : Option V), σ = [some v, some pv, some (.str z), some (.ref sp), x] ∧ Ex H0 H ∧ H sp = some (.tup [kv, .int b, .str z']) ∧ SpotI H v kv b z' od e i
section
variable {P : Program} {w : World} {K : PySem.W.Frag} {mg : Str → Option Value} {base : Heap}
abbrev spLead (K : PySem.W.Frag) : Sp := fun vs H Q _ => ∃ v pa z L e, vs = [v, .ref pa, .str z] ∧ LayAt K H v L ∧ L.ok ∧ e ∈ L.ents ∧ H pa = some (.tup e.path) ∧
  ∀ v' kv H', Ex H H' → TupAt H' v' [kv, .int e.off, .str L.order] → WhatE H' kv e → Q v' H'
abbrev s_lead : Stmt := top 43
abbrev N_lead : List Str := ["kind", "path", "ends", "spot", "step"]
abbrev P_lead : List Str := ["kind", "path", "ends"]
theorem sc_lead : FnScope N_lead P_lead (defScope s_lead) := ⟨rfl, rfl, rfl, by decide +kernel, rfl, by decide +kernel, by decide +kernel⟩
theorem bb_lead : BindsBy "lead" s_lead P_lead := fun _ _ _ _ _ _ us hl => match us, hl with | [_, _, _], _ => rfl
theorem ok_lead (c : Ctx K mg) : Df P w K mg base "lead" 5 P_lead (spLead K) := by
  have D_is_row := ok_is_row (P := P) (w := w) (base := base) c
  have D_step_from := ok_step_from (P := P) (w := w) (base := base) c
  refine Df.of c.h_lead sc_lead bb_lead (fun vs H Q E h => ?_) (fun f cdv A outer s H vs Q E hr h => ?_)
  · obtain ⟨v, pa, z, L, e, rfl, _⟩ := h
    rfl
  · obtain ⟨v, pa, z, L, e, rfl, hL, hok, he, hpa, k⟩ := h
    obtain ⟨j, m, p, hj, hp, hem⟩ := L.ents_mem he
    have hmo := hok.oks m (List.mem_of_getElem? hj)
    -- the path's first step is the member's name
    have hfirst : ∃ q, e.path = .str m.nm :: q ∧ (e.bt ≠ none → q = []) := by
      unfold Mem.ents at hem
      split at hem
      · obtain ⟨e0, he0, rfl⟩ := List.mem_map.mp hem
        exact ⟨e0.path, rfl, fun h => (h (show e0.bt = none from ents_bt he0)).elim⟩
      · rw [List.mem_singleton.mp hem]
        exact ⟨[], rfl, fun _ => rfl⟩
    obtain ⟨q, hpath, hq⟩ := hfirst
    -- 0 kind, 1 path, 2 ends, 3 spot, 4 step
    refine ⟨_, (pss_cons (ps_if (pt_not (pt_val (pe_df D_is_row (hr.mono (by omega)) (by rfl) (pa_cons (pv 1) pa_nil)))) (pss_one (ps_ret pe_non)) pss_nil)
        (pss_cons (ps_set (i := 3) sc_lead.nd rfl (Or.inl rfl) (pe_tup (pa_cons (pv 0) (pa_cons pe_int (pa_cons (pv 2) pa_nil)))))
        (pss_cons (ps_for PassesOwn.never rfl (pi_tup (pv 1)) (pg_name (i := 4) sc_lead.nd rfl (Or.inl rfl)) (pss_cons (ps_set (i := 3) sc_lead.nd rfl (Or.inl rfl) (pe_df D_step_from (hr.mono (by omega)) (by rfl) (pa_cons (pv 3) (pa_cons (pv 4) pa_nil))))
        (pss_one (ps_if (pt_cmpR op_isN (pv 3) pe_non (nomark _)) (pss_one (ps_ret pe_non)) pss_nil))))
        (pss_one (ps_ret (pv 3)))))), ?_⟩
    lk
    refine ⟨pa, _, rfl, hpa, fun H1 e1 => ?_⟩
    lk
    refine ⟨by decide, fun sp0 hsp0 => ?_⟩
    have e2 : Ex H (upd H1 sp0 (.tup [v, .int 0, .str z])) := e1.trans (Ex.new hsp0)
    refine for_ok ?_
    lk
    refine ⟨⟨_, SqT.of (e2 _ _ hpa)⟩, ?_⟩
    refine ForOk.tup e.path (LeadI v (.ref pa) z L.order e H) ⟨sp0, v, 0, z, _, rfl, e2, upd_same, rfl, rfl⟩ (fun i σ H' ⟨_, _, _, _, _, _, ex, _⟩ => SqT.of (ex _ _ hpa)) ?_ ?_
    · rintro i σ H2 x hx ⟨sp, kv, b, z', x4, rfl, ex, hsp, hI⟩
      lk
      refine ⟨sp, x, kv, b, z', rfl, hsp, ?_⟩
      cases i with
      | zero =>
        obtain ⟨rfl, rfl⟩ := hI
        rw [hpath] at hx
        obtain rfl : V.str m.nm = x := Option.some.inj hx
        refine .inl ⟨L, j, m, p, rfl, hL.mono ex, hok, hj, hp, fun v' kv' H3 e3 ⟨t, ht, htt⟩ hw => ?_⟩
        subst ht
        lk
        refine ⟨t, kv', 0 + p, L.order, _, rfl, ex.trans e3, htt, rfl, ?_⟩
        unfold Mem.ents at hem
        unfold WhatM at hw
        split at hem
        · rename_i hbt
          rw [hbt] at hw
          obtain ⟨e0, he0, rfl⟩ := List.mem_map.mp hem
          refine .inr ⟨(show e0.bt = none from ents_bt he0), m.kd, e0, hw, hmo.2.1, he0, rfl, ?_, rfl, rfl⟩
          show 0 + p + e0.off = p + e0.off
          omega
        · rename_i bb hbt
          rw [hbt] at hw
          obtain ⟨n, sg, hk, hT⟩ := hw
          have hee := List.mem_singleton.mp hem
          subst hee
          refine .inl ⟨(fun h => nomatch h), rfl, Int.zero_add p, ?_⟩
          unfold WhatE
          have hsz : m.kd.size = n := by rw [hk] <;> rfl
          show TupAt H3 kv' [.str "bits", .int m.kd.size, .bl (match m.kd with | .int _ s => s | _ => false), .int bb]
          rw [hsz, hk]
          exact hT
      | succ i =>
        obtain ⟨rfl, hI⟩ := hI
        rcases hI with ⟨hbt, rfl, _, _⟩ | ⟨hbt, kd, e', hk, hko, he', hpe, hoff, hn, hs⟩
        · rw [hpath, hq hbt] at hx
          cases hx
        · have hlt := (List.getElem?_eq_some_iff.mp hx).1
          have hdr : e'.path = x :: e.path.drop (i + 1 + 1) := by
            rw [hpe, List.drop_eq_getElem_cons hlt]
            have hg : e.path[i + 1] = x := (List.getElem?_eq_some_iff.mp hx).2
            rw [hg]
          obtain ⟨k', mm, i', e3, rfl, hi', rfl, he3, hpe3, hoff3, hn3, hs3, hb3⟩ := ents_cons he' hdr
          refine .inr ⟨k', mm, i', rfl, hi', hk, hko, fun v' kv' H3 e3' ⟨t, ht, htt⟩ hk' => ?_⟩
          subst ht
          lk
          refine ⟨t, kv', _, L.order, _, rfl, ex.trans e3', htt, rfl, .inr ⟨hbt, k', e3, hk', hko.1.up, he3, hpe3, ?_, hn3.symm.trans hn, hs3.symm.trans hs⟩⟩
          omega
    · rintro σ H2 ⟨sp, kv, b, z', x4, rfl, ex, hsp, hI⟩
      lk
      have hlen : e.path.length = q.length + 1 := by rw [hpath] <;> rfl
      rw [hlen] at hI
      obtain ⟨rfl, hI⟩ := hI
      rcases hI with ⟨hbt, _, hoff, hw⟩ | ⟨hbt, kd, e', hk, hko, he', hpe, hoff, hn, hs⟩
      · exact k _ kv H2 ex ⟨sp, rfl, hoff ▸ hsp⟩ hw
      · rw [List.drop_eq_nil_of_le (by omega)] at hpe
        obtain ⟨hkd, h0, _⟩ := ents_nil he' hpe
        subst hkd
        have hb : b = e.off := by omega
        subst hb
        refine k _ kv H2 ex ⟨sp, rfl, hsp⟩ ?_
        unfold WhatE
        rw [hbt]
        obtain ⟨a1, h1, h2⟩ := hk
        rw [hn, hs] at h2
        exact ⟨a1, h1, h2⟩
abbrev spSpot (K : PySem.W.Frag) : Sp := fun vs H Q _ => ∃ v pa L e, vs = [v, .ref pa] ∧ LayAt K H v L ∧ L.ok ∧ e ∈ L.ents ∧ H pa = some (.tup e.path) ∧
  ∀ v' kv H', Ex H H' → TupAt H' v' [kv, .int e.off, .str L.order] → WhatE H' kv e → Q v' H'
abbrev s_spot_of : Stmt := top 44
abbrev N_spot_of : List Str := ["layout", "path"]
abbrev P_spot_of : List Str := ["layout", "path"]
theorem sc_spot_of : FnScope N_spot_of P_spot_of (defScope s_spot_of) := ⟨rfl, rfl, rfl, by decide +kernel, rfl, by decide +kernel, by decide +kernel⟩
theorem bb_spot_of : BindsBy "spot_of" s_spot_of P_spot_of := fun _ _ _ _ _ _ us hl => match us, hl with | [_, _], _ => rfl
theorem ok_spot_of (c : Ctx K mg) : Df P w K mg base "spot_of" 6 P_spot_of (spSpot K) := by
  have D_lead := ok_lead (P := P) (w := w) (base := base) c
  refine Df.of c.h_spot_of sc_spot_of bb_spot_of (fun vs H Q E h => ?_) (fun f cdv A outer s H vs Q E hr h => ?_)
  · obtain ⟨v, pa, L, e, rfl, _⟩ := h
    rfl
  · obtain ⟨v, pa, L, e, rfl, hL, hok, he, hpa, k⟩ := h
    -- 0 layout, 1 path
    refine ⟨_, (pss_one (ps_ret (pe_df D_lead (hr.mono (by omega)) (by rfl) (pa_cons (pv 0) (pa_cons (pv 1) (pa_cons pe_str pa_nil)))))), ?_⟩
    lk
    exact ⟨v, pa, _, L, e, rfl, hL, hok, he, hpa, k⟩
abbrev s_Layout_checked_spot : Stmt := inClass (top 55) 6
abbrev N_Layout_checked_spot : List Str := ["self", "path", "spot"]
abbrev P_Layout_checked_spot : List Str := ["self", "path"]
theorem sc_Layout_checked_spot : FnScope N_Layout_checked_spot P_Layout_checked_spot (defScope s_Layout_checked_spot) := ⟨rfl, rfl, rfl, by decide +kernel, rfl, by decide +kernel, by decide +kernel⟩
theorem bb_Layout_checked_spot : BindsM "checked_spot" "Layout.checked_spot" s_Layout_checked_spot P_Layout_checked_spot := fun _ _ _ _ _ _ us hl => match us, hl with | [_, _], _ => rfl
theorem ok_checked_spot (c : Ctx K mg) : Mt P w K mg base (He.ma K (cL K) "checked_spot") 7 P_Layout_checked_spot (spSpot K) := by
  have D_spot_of := ok_spot_of (P := P) (w := w) (base := base) c
  refine Mt.of (c.hasM (d := d_L_checked_spot) (fns.length - 3) rfl rfl) sc_Layout_checked_spot bb_Layout_checked_spot (fun vs H Q E h => ?_) (fun cdv A outer s H vs Q E hr h => ?_)
  · obtain ⟨v, pa, L, e, rfl, _⟩ := h
    rfl
  · obtain ⟨v, pa, L, e, rfl, hL, hok, he, hpa, k⟩ := h
    -- 0 self, 1 path, 2 spot
    refine ⟨_, (pss_cons (ps_set (i := 2) sc_Layout_checked_spot.nd rfl (Or.inl rfl) (pe_df D_spot_of (hr.mono (by omega)) (by rfl) (pa_cons (pv 0) (pa_cons (pv 1) pa_nil))))
        (pss_cons (ps_if (pt_cmpR op_isN (pv 2) pe_non (nomark _)) (pss_one ps_never) pss_nil)
        (pss_one (ps_ret (pv 2))))), ?_⟩
    lk
    refine ⟨v, pa, L, e, rfl, hL, hok, he, hpa, fun v' kv H' e1 ⟨t, ht, htt⟩ hw => ?_⟩
    subst ht
    lk
    exact k _ kv H' e1 ⟨t, rfl, htt⟩ hw
/-! ### bits -/
def bitsL (p nb : Int) (z : Str) : List Int := if z = "little" then (List.range nb.toNat).map (fun (i : Nat) => bitAt (p + (0 + (i : Int))) z) else ((List.range nb.toNat).map (fun (i : Nat) => bitAt (p + (0 + (i : Int))) z)).reverse
def Ent.nb (e : Ent) : Int := match e.bt with
  | none => 8 * e.n
  | some b => b
theorem ne_bi : ¬ (("int" : Str) = "bits") := by decide +kernel
theorem ne_ba : ¬ (("bits" : Str) = "array") := by decide +kernel
theorem list_by {ys : List V} {n : Nat} {f : Nat → Int} (hl : ys.length = n) (h : ∀ (i : Nat) (y : V), ys[i]? = some y → y = V.int (f i)) : ys = ((List.range n).map f).map V.int := by
  apply List.ext_getElem?
  intro i
  rw [List.getElem?_map, List.getElem?_map]
  rcases Nat.lt_or_ge i n with hi | hi
  · have hi2 : i < ys.length := by omega
    rw [List.getElem?_eq_getElem hi2, List.getElem?_range hi]
    exact congrArg some (h i ys[i] (List.getElem?_eq_getElem hi2))
  · have hi2 : ys.length ≤ i := by omega
    rw [List.getElem?_eq_none hi2, List.getElem?_eq_none (by simpa using hi)]
    rfl
abbrev spBits : Sp := fun vs H Q _ => ∃ kv p z e, vs = [kv, .int p, .str z] ∧ WhatE H kv e ∧ e.ok ∧ ∀ v' H', Ex H H' → TupAt H' v' ((bitsL p e.nb z).map V.int) → Q v' H'
abbrev s_bits_at : Stmt := top 47
abbrev N_bits_at : List Str := ["what", "position", "ends", "many", "some", "more"]
abbrev P_bits_at : List Str := ["what", "position", "ends"]
theorem sc_bits_at : FnScope N_bits_at P_bits_at (defScope s_bits_at) := ⟨rfl, rfl, rfl, by decide +kernel, rfl, by decide +kernel, by decide +kernel⟩
theorem bb_bits_at : BindsBy "bits_at" s_bits_at P_bits_at := fun _ _ _ _ _ _ us hl => match us, hl with | [_, _, _], _ => rfl
theorem ok_bits_at (c : Ctx K mg) : Df P w K mg base "bits_at" 2 P_bits_at spBits := by
  have D_bit_at := ok_bit_at (P := P) (w := w) (base := base) c
  refine Df.of c.h_bits_at sc_bits_at bb_bits_at (fun vs H Q E h => ?_) (fun f cdv A outer s H vs Q E hr h => ?_)
  · obtain ⟨kv, p, z, e, rfl, _⟩ := h
    rfl
  · obtain ⟨kv, p, z, e, rfl, hw, heo, k⟩ := h
    have hnb : 0 ≤ e.nb ∧ e.nb ≤ 64 := by
      have h1 := heo.1
      unfold okN at h1
      unfold Ent.nb
      split
      · omega
      · rename_i b hb
        have := heo.2 b hb
        omega
    -- 0 what, 1 position, 2 ends, 3 many, 4 some, 5 more
    refine ⟨_, (pss_cons (ps_set (i := 3) sc_bits_at.nd rfl (Or.inl rfl) (pe_cut (pe_ifExp (pt_cmpR op_eq (pe_ix ix_tup (pv 0) pe_int (fun _ _ => rfl)) pe_str (nomark _)) (pe_ix ix_tup (pv 0) pe_int (fun _ _ => rfl)) (pe_op op_mul pe_int (pe_ix ix_tup (pv 0) pe_int (fun _ _ => rfl))))))
        (pss_cons (ps_setLc (i := 4) (own := [("more", 5)]) (g := gName 5) rfl sc_bits_at.nd rfl rfl (sw_true rfl rfl rfl (by decide +kernel)) (pi_range1 rfl c.no_range (pa_cons (pv 3) pa_nil)) (blkOk_by (own := [("more", 5)]) (N := N_bits_at) (sc := defScope s_bits_at) (by decide +kernel)) (fun _ _ _ _ _ => (pg_name (i := 5) sc_bits_at.nd rfl (Or.inl rfl))) (fun _ _ _ _ _ => pts_nil) (fun _ _ _ _ _ => (pe_df D_bit_at (hr.mono (by omega)) (by rfl) (pa_cons (pe_op op_add (pv 1) (pv 5)) (pa_cons (pv 2) pa_nil)))))
        (pss_one (ps_ret (pe_callTy call_tuple_of (by rfl) c.no_tuple (by decide +kernel) (pa_cons (pe_cut (pe_ifExp (pt_cmpR op_eq (pv 2) pe_str (nomark _)) (pv 4) (pe_revL (pv 4)))) pa_nil)))))), ?_⟩
    -- what follows, whatever the kind
    have fin : tLc (iRng1 (tCons (tVar 3) tNil)) (gName 5) tYes (tCall spBitAt [] E0 (tCons (tOp (rI0 fun i j => V.int (i + j)) (tVar 1) (tVar 5)) (tCons (tVar 2) tNil))) [5]
        [some kv, some (.int p), some (.str z), some (.int e.nb), none, none] H (fun x H1 =>
          tCutE (tIf (tTest (tOp rEq (tVar 2) (tC (.str "little")))) (tVar 4) (tRevL K (tVar 4))) [some kv, some (.int p), some (.str z), some (.int e.nb), some x, none] H1 fun x H1 =>
            ∃ p, x = V.ref p ∧ ∃ ys, (SqL K H1 p ys ∧ ∀ l, H1 l = none → Q (.ref l) (upd H1 l (.tup ys))) ∨ (SqT K H1 p ys ∧ Q (.ref p) H1)) := by
      refine lc_ok ?_
      lk
      refine ⟨by omega, by omega, ?_⟩
      refine LcOk.ex e.nb.toNat (by omega) (fun i y _ => y = .int (bitAt (p + (0 + (i : Int))) z)) (fun _ _ _ _ _ h => h) (fun i H1 hi _ => hi) (fun H1 _ => Nat.le_refl _) (fun i H1 x H2 hi _ ⟨h1, _⟩ => h1 ▸ Ex.refl _) ?_ ?_
      · rintro N i H1 x H2 hi ex ⟨rfl, rfl⟩ ex2 hN
        lk
        exact ⟨_, z, rfl, hN _ _ (Ex.refl _) rfl⟩
      · intro D ys H1 hD ex hys hl hy
        have hyy := list_by (f := fun (i : Nat) => bitAt (p + (0 + (i : Int))) z) hl hy
        rw [hyy] at hys
        refine cutE ?_
        lk
        by_cases hz : z = "little"
        · rw [if_pos hz]
          refine ⟨_, .inl ⟨SqL.of hys, fun l hl => ?_⟩⟩
          refine k _ _ (ex.trans (Ex.new hl)) ⟨l, rfl, ?_⟩
          rw [upd_same]
          unfold bitsL
          rw [if_pos hz]
        · rw [if_neg hz]
          refine ⟨_, SqL.of hys, fun q hq => ?_⟩
          refine ⟨_, .inl ⟨SqL.of upd_same, fun l hl => ?_⟩⟩
          refine k _ _ ((ex.trans (Ex.new hq)).trans (Ex.new hl)) ⟨l, rfl, ?_⟩
          rw [upd_same]
          unfold bitsL
          rw [if_neg hz, List.map_reverse]
    unfold WhatE at hw
    cases hbt : e.bt with
    | none =>
      rw [hbt] at hw
      obtain ⟨a, rfl, ha⟩ := hw
      have hen : e.nb = 8 * e.n := by
        unfold Ent.nb
        rw [hbt]
      rw [hen] at fin
      lk
      refine cutE ?_
      lk
      refine ix_0 ha ?_
      lk
      rw [if_neg ne_bi]
      refine ix_1 ha ?_
      lk
      exact ⟨.inl ⟨by decide, by decide⟩, fin⟩
    | some b =>
      rw [hbt] at hw
      obtain ⟨a, rfl, ha⟩ := hw
      have hen : e.nb = b := by
        unfold Ent.nb
        rw [hbt]
      rw [hen] at fin
      lk
      refine cutE ?_
      lk
      refine ix_0 ha ?_
      lk
      exact ix_3 ha fin
abbrev spBerth (K : PySem.W.Frag) : Sp := fun vs H Q _ => ∃ v pa L e, vs = [v, .ref pa] ∧ LayAt K H v L ∧ L.ok ∧ e ∈ L.ents ∧ H pa = some (.tup e.path) ∧
  ∀ v' t H', Ex H H' → TupAt H' v' [t, .bl e.s] → TupAt H' t ((bitsL e.off e.nb L.order).map V.int) → Q v' H'
abbrev s_Layout_berth : Stmt := inClass (top 55) 7
abbrev N_Layout_berth : List Str := ["self", "path", "what", "position", "ends"]
abbrev P_Layout_berth : List Str := ["self", "path"]
theorem sc_Layout_berth : FnScope N_Layout_berth P_Layout_berth (defScope s_Layout_berth) := ⟨rfl, rfl, rfl, by decide +kernel, rfl, by decide +kernel, by decide +kernel⟩
theorem bb_Layout_berth : BindsM "berth" "Layout.berth" s_Layout_berth P_Layout_berth := fun _ _ _ _ _ _ us hl => match us, hl with | [_, _], _ => rfl
theorem ok_berth (c : Ctx K mg) : Mt P w K mg base (He.ma K (cL K) "berth") 8 P_Layout_berth (spBerth K) := by
  have M_checked_spot := ok_checked_spot (P := P) (w := w) (base := base) c
  have D_is_number_kind := ok_is_number_kind (P := P) (w := w) (base := base) c
  have D_bits_at := ok_bits_at (P := P) (w := w) (base := base) c
  refine Mt.of (c.hasM (d := d_L_berth) (fns.length - 2) rfl rfl) sc_Layout_berth bb_Layout_berth (fun vs H Q E h => ?_) (fun cdv A outer s H vs Q E hr h => ?_)
  · obtain ⟨v, pa, L, e, rfl, _⟩ := h
    rfl
  · obtain ⟨v, pa, L, e, rfl, hL, hok, he, hpa, k⟩ := h
    obtain ⟨a, dx, ra, qa, rfl, ha, _⟩ := id hL
    have heo := L.ents_ok hok he
    -- 0 self, 1 path, 2 what, 3 position, 4 ends
    refine ⟨_, (pss_cons (ps_asg (pe_mt (pv 0) c.cl c.m_checked_spot M_checked_spot (hr.mono (by omega)) (pa_cons (pv 1) pa_nil)) (pg_tup rfl (pgs_cons (pg_name (i := 2) sc_Layout_berth.nd rfl (Or.inl rfl)) (pgs_cons (pg_name (i := 3) sc_Layout_berth.nd rfl (Or.inl rfl)) (pgs_cons (pg_name (i := 4) sc_Layout_berth.nd rfl (Or.inl rfl)) pgs_nil)))))
        (pss_cons (ps_if (pt_not (pt_val (pe_df D_is_number_kind (hr.mono (by omega)) (by rfl) (pa_cons (pv 2) pa_nil)))) (pss_one ps_never) pss_nil)
        (pss_one (ps_ret (pe_tup (pa_cons (pe_df D_bits_at (hr.mono (by omega)) (by rfl) (pa_cons (pv 2) (pa_cons (pv 3) (pa_cons (pv 4) pa_nil)))) (pa_cons (pe_ix ix_tup (pv 2) pe_int (fun _ _ => rfl)) pa_nil))))))), ?_⟩
    lk
    refine ⟨dx, _, ha, layF_no (by decide +kernel) (by decide +kernel) (by decide +kernel) (by decide +kernel) (by decide +kernel) (by decide +kernel), ?_⟩
    refine ⟨_, pa, L, e, rfl, hL, hok, he, hpa, fun v' kv H1 e1 ⟨t, ht, htt⟩ hw => ?_⟩
    subst ht
    refine g_tup htt rfl ?_
    lk
    -- the kind's word and whether it is signed
    have hkv : ∃ a2 z xs n, kv = .ref a2 ∧ H1 a2 = some (.tup (.str z :: n :: .bl e.s :: xs)) ∧ ¬ z = "array" := by
      unfold WhatE at hw
      split at hw
      · obtain ⟨a2, h1, h2⟩ := hw
        exact ⟨a2, "int", [], .int e.n, h1, h2, ne_ia⟩
      · rename_i b hb
        obtain ⟨a2, h1, h2⟩ := hw
        exact ⟨a2, "bits", [.int b], .int e.n, h1, h2, ne_ba⟩
    obtain ⟨a2, z, xs, n, rfl, ha2, hz⟩ := hkv
    refine ⟨a2, z, _, rfl, ha2, ?_⟩
    rw [decide_eq_false hz]
    lk
    refine ⟨_, _, _, e, rfl, hw, heo, fun bv H2 e2 hb => ?_⟩
    refine ix_2 (e2 _ _ ha2) ?_
    lk
    refine ⟨by decide, fun q hq => ?_⟩
    exact k _ bv _ ((e1.trans e2).trans (Ex.new hq)) ⟨q, rfl, upd_same⟩ (hb.mono (Ex.new hq))
abbrev spOct (K : PySem.W.Frag) : Sp := fun vs H Q _ => ∃ v pa L e, vs = [v, .ref pa] ∧ LayAt K H v L ∧ L.ok ∧ e ∈ L.ents ∧ e.bt = none ∧ H pa = some (.tup e.path) ∧ ∀ H', Ex H H' → Q (.int (e.off / 8)) H'
abbrev s_Layout_octet_at : Stmt := inClass (top 55) 8
abbrev N_Layout_octet_at : List Str := ["self", "path", "what", "position", "ends"]
abbrev P_Layout_octet_at : List Str := ["self", "path"]
theorem sc_Layout_octet_at : FnScope N_Layout_octet_at P_Layout_octet_at (defScope s_Layout_octet_at) := ⟨rfl, rfl, rfl, by decide +kernel, rfl, by decide +kernel, by decide +kernel⟩
theorem bb_Layout_octet_at : BindsM "octet_at" "Layout.octet_at" s_Layout_octet_at P_Layout_octet_at := fun _ _ _ _ _ _ us hl => match us, hl with | [_, _], _ => rfl
theorem ok_octet_at (c : Ctx K mg) : Mt P w K mg base (He.ma K (cL K) "octet_at") 8 P_Layout_octet_at (spOct K) := by
  have M_checked_spot := ok_checked_spot (P := P) (w := w) (base := base) c
  have D_is_number_kind := ok_is_number_kind (P := P) (w := w) (base := base) c
  refine Mt.of (c.hasM (d := d_L_octet_at) (fns.length - 1) rfl rfl) sc_Layout_octet_at bb_Layout_octet_at (fun vs H Q E h => ?_) (fun cdv A outer s H vs Q E hr h => ?_)
  · obtain ⟨v, pa, L, e, rfl, _⟩ := h
    rfl
  · obtain ⟨v, pa, L, e, rfl, hL, hok, he, hbt, hpa, k⟩ := h
    obtain ⟨a, dx, ra, qa, rfl, ha, _⟩ := id hL
    -- 0 self, 1 path, 2 what, 3 position, 4 ends
    refine ⟨_, (pss_cons (ps_asg (pe_mt (pv 0) c.cl c.m_checked_spot M_checked_spot (hr.mono (by omega)) (pa_cons (pv 1) pa_nil)) (pg_tup rfl (pgs_cons (pg_name (i := 2) sc_Layout_octet_at.nd rfl (Or.inl rfl)) (pgs_cons (pg_name (i := 3) sc_Layout_octet_at.nd rfl (Or.inl rfl)) (pgs_cons (pg_name (i := 4) sc_Layout_octet_at.nd rfl (Or.inl rfl)) pgs_nil)))))
        (pss_cons (ps_if (PW.pt (pw_and (pt_val (pe_df D_is_number_kind (hr.mono (by omega)) (by rfl) (pa_cons (pv 2) pa_nil))) (pw_and1 (pt_cmpR op_eq (pe_ix ix_tup (pv 2) pe_int (fun _ _ => rfl)) pe_str (nomark _))))) (pss_one ps_never) pss_nil)
        (pss_one (ps_ret (pe_op op_fdiv (pv 3) pe_int))))), ?_⟩
    lk
    refine ⟨dx, _, ha, layF_no (by decide +kernel) (by decide +kernel) (by decide +kernel) (by decide +kernel) (by decide +kernel) (by decide +kernel), ?_⟩
    refine ⟨_, pa, L, e, rfl, hL, hok, he, hpa, fun v' kv H1 e1 ⟨t, ht, htt⟩ hw => ?_⟩
    subst ht
    refine g_tup htt rfl ?_
    lk
    unfold WhatE at hw
    rw [hbt] at hw
    obtain ⟨a2, rfl, ha2⟩ := hw
    refine ⟨a2, _, _, rfl, ha2, ?_⟩
    rw [decide_eq_false ne_ia]
    lk
    refine ix_0 ha2 ?_
    lk
    rw [if_neg ne_bi]
    exact ⟨⟨by decide, by decide⟩, k _ e1⟩
end
end K32
/-! E3: all paths of a kind, of a layout. -/
namespace K32
open PySem PySem.Spec PyProof.Rows L2
/-! one look: what stands written is read -/
local macro_rules | `(tactic| lk) => `(tactic| try simp only [tCB, tCons, tNil, tC, tVar, tOp, tUn, tTest, tB, tNot, tAndV, tOrV, tNotV, tAnd, tOr, tRet, tSeq, tAsg, gName, tDrop, tNext, tIfS, tIf, tCall, tCmp, rI0, rI, rEq, rNe, tPar, tPar3, tTup, tLst,
  tDGet, tSl, tPart, tNoPart, sDPut, tDisp, tPairs, tLstRg, tRg2, tCallN, tRevL, sFld, tFld, tMeth, tProp, tMake, tBM, tBM0, tNevE, tNever, tRetN, tBreak, tCont, gCons, gNil, gSub, tAug, ipI, wipe, iList, iTup, iRng1, iRng2, iStr, iEnum, RZ.iZipA, rU,
  L2.start, List.map_cons, List.map_nil, List.length_cons, List.length_nil, Nat.reduceAdd, Nat.reduceSub, List.replicate_succ, List.replicate_zero, List.cons_append, List.nil_append, List.append_nil,
  List.getElem?_cons_zero, List.getElem?_cons_succ, List.set_cons_zero, List.set_cons_succ, List.cons.injEq, Option.some.injEq, V.int.injEq, V.bl.injEq, V.str.injEq, V.ref.injEq, exists_eq_left', exists_eq_left, exists_eq', exists_and_left, and_assoc, true_and, and_true,
  if_true, Bool.false_eq_true, if_false, sc_ii, sc_ss, sc_ni, sc_in, sc_sn, sc_ns, sc_bb, eq_self, decide_eq_true_eq, Bool.not_eq_true', decide_eq_false_iff_not, ite_not, ne_ia', ne_ai', Int.reduceEq, Int.reduceLT, Int.reduceLE, reduceCtorEq, decide_true, decide_false, Bool.not_true, Bool.not_false, cxK, oV_n, oV_s, cast_lit])
def PathsAt (H : Hp) (v : V) (ps : List (List V)) : Prop := ∃ a vs, v = .ref a ∧ H a = some (.lst vs) ∧ Al2 (TupAt H) vs ps
theorem PathsAt.mono {H H' : Hp} (e : Ex H H') {v : V} {ps : List (List V)} (h : PathsAt H v ps) : PathsAt H' v ps :=
  let ⟨a, vs, h1, h2, h3⟩ := h
  ⟨a, vs, h1, e _ _ h2, h3.imp fun _ _ => TupAt.mono e⟩
theorem Al2.nil {α : Type} {R : V → α → Prop} : Al2 R [] [] := ⟨rfl, fun i v x h => by simp at h⟩
theorem Al2.append {α : Type} {R : V → α → Prop} {vs us : List V} {xs ys : List α} (h : Al2 R vs xs) (k : Al2 R us ys) : Al2 R (vs ++ us) (xs ++ ys) := by
  refine ⟨by rw [List.length_append, List.length_append, h.1, k.1], fun i v x h1 h2 => ?_⟩
  rcases Nat.lt_or_ge i vs.length with hi | hi
  · rw [List.getElem?_append_left hi] at h1
    rw [List.getElem?_append_left (h.1 ▸ hi)] at h2
    exact h.2 i v x h1 h2
  · rw [List.getElem?_append_right hi] at h1
    rw [List.getElem?_append_right (h.1 ▸ hi), ← h.1] at h2
    exact k.2 _ v x h1 h2
def Kd.paths (k : Kd) : List (List V) := k.ents.map (·.path)
def Mem.paths (m : Mem) : List (List V) := match m.bt with
  | none => m.kd.paths.map (V.str m.nm :: ·)
  | some _ => [[.str m.nm]]
theorem Mem.ents_paths (m : Mem) (p : Int) : (m.ents p).map (·.path) = m.paths := by
  unfold Mem.ents Mem.paths Kd.paths
  cases m.bt with
  | none =>
    show (m.kd.ents.map (Ent.under (.str m.nm) p)).map (·.path) = (m.kd.ents.map (·.path)).map (V.str m.nm :: ·)
    rw [List.map_map, List.map_map]
    rfl
  | some b => rfl
theorem Lay.ents_paths : ∀ {ms : List Mem} {pos : List Int}, pos.length = ms.length → ((ms.zip pos).flatMap fun q => q.1.ents q.2).map (·.path) = ms.flatMap Mem.paths
  | [], [], _ => rfl
  | [], _ :: _, h => by cases h
  | _ :: _, [], h => by cases h
  | m :: ms, p :: pos, h => by
    rw [List.zip_cons_cons, List.flatMap_cons, List.map_append, Mem.ents_paths, List.flatMap_cons, Lay.ents_paths (Nat.succ.inj h)]
theorem paths_few : ∀ {d : Nat} {k : Kd}, k.ok d → k.paths.length ≤ 3 ^ d
  | 0, _, h => h.elim
  | d + 1, .int n s, _ => by
    show 1 ≤ 3 ^ (d + 1)
    exact Nat.one_le_pow _ _ (by decide)
  | d + 1, .arr k m, h => by
    have ih := paths_few (d := d) (k := k) h.1
    have hm : m ≤ 3 := h.2
    unfold Kd.paths at ih ⊢
    rw [List.length_map] at ih ⊢
    have e : ∀ n : Nat, ((List.range n).flatMap fun (i : Nat) => k.ents.map (Ent.under (.int i) (8 * k.size * i))).length = n * k.ents.length := by
      intro n
      induction n with
      | zero => simp
      | succ n ihn => rw [List.range_succ, List.flatMap_append, List.length_append, ihn, List.flatMap_singleton, List.length_map, Nat.succ_mul]
    show ((List.range m).flatMap fun (i : Nat) => k.ents.map (Ent.under (.int i) (8 * k.size * i))).length ≤ 3 ^ (d + 1)
    rw [e, Nat.pow_succ]
    calc m * k.ents.length ≤ 3 * 3 ^ d := Nat.mul_le_mul hm ih
      _ = 3 ^ d * 3 := Nat.mul_comm _ _
theorem path_short : ∀ {d : Nat} {k : Kd} {q : List V}, k.ok d → q ∈ k.paths → q.length ≤ d
  | 0, _, _, h, _ => h.elim
  | d + 1, .int n s, q, _, h => by
    rw [List.mem_singleton.mp (show q ∈ [([] : List V)] from h)]
    exact Nat.zero_le _
  | d + 1, .arr k m, q, h, hq => by
    obtain ⟨e, he, rfl⟩ := List.mem_map.mp hq
    obtain ⟨i, hi, h2⟩ := List.mem_flatMap.mp he
    obtain ⟨e0, he0, rfl⟩ := List.mem_map.mp h2
    have ih := path_short (d := d) (k := k) (q := e0.path) h.1 (List.mem_map.mpr ⟨e0, he0, rfl⟩)
    show e0.path.length + 1 ≤ d + 1
    omega
theorem paths_arr {k : Kd} {m : Nat} : (Kd.arr k m).paths = (List.range m).flatMap fun (i : Nat) => k.paths.map (V.int i :: ·) := by
  unfold Kd.paths
  show ((List.range m).flatMap fun (i : Nat) => k.ents.map (Ent.under (.int i) (8 * k.size * i))).map (·.path) = _
  rw [List.map_flatMap]
  congr 1
  funext i
  rw [List.map_map, List.map_map] <;> rfl
/-- x, put ahead of each path of a list -/
theorem lc_ahead {K : PySem.W.Frag} {te : TE} {s : Nat} {σ : L2.St} {H : Hp} {Q : VK} {a : Addr} {ps : List (List V)} (x : V) (hps : PathsAt H (.ref a) ps) (hn : ps.length ≤ 1000)
    (hw : ∀ v, wipe ((wipe σ [s]).set s (some v)) [s] = wipe σ [s])
    (hte : ∀ (N : VK) (v : V) (q : List V) (H1 : Hp), q ∈ ps → Ex H H1 → TupAt H1 v q → (∀ y H2, Ex H1 H2 → TupAt H2 y (x :: q) → N y H2) → te ((wipe σ [s]).set s (some v)) H1 N)
    (hQ : ∀ D H', H D = none → Ex H H' → PathsAt H' (.ref D) (ps.map (x :: ·)) → Q (.ref D) H') : LcOk (Itl K a) (gName s) te [s] σ H Q := by
  obtain ⟨a', vs, ea, hvs, hal⟩ := hps
  cases ea
  refine LcOk.ex ps.length (by omega) (fun i y H => ∀ q, ps[i]? = some q → TupAt H y (x :: q)) (fun i y H1 H2 e h q hq => (h q hq).monoT e) ?_ ?_ ?_ ?_ ?_
  · intro i H1 hi e
    have hi2 : i < vs.length := hal.1.symm ▸ hi
    exact ⟨vs, vs[i], SqL.of (e _ _ hvs), List.getElem?_eq_getElem hi2⟩
  · intro H1 e
    exact ⟨vs, SqL.of (e _ _ hvs), Nat.le_of_eq hal.1⟩
  · rintro i H1 v H2 hi e ⟨rfl, _⟩
    exact Ex.refl _
  · rintro N i H1 v H2 hi e ⟨rfl, hv⟩ e2 hN
    have hvi := hv vs (SqL.of (e _ _ hvs))
    obtain ⟨q, hq, hT⟩ := hal.at hvi
    refine ⟨hw v, hte N v q _ (List.mem_of_getElem? hq) e (hT.mono e) fun y H3 e3 h3 => hN y H3 e3 fun q' hq' => ?_⟩
    rw [hq] at hq'
    cases hq'
    exact h3
  · intro D ys H' hD e hys hl hy
    refine hQ D H' hD e ⟨D, ys, rfl, hys, by rw [hl, List.length_map], fun i v q hv hq => ?_⟩
    rw [List.getElem?_map] at hq
    obtain ⟨q0, hq0, rfl⟩ := Option.map_eq_some_iff.mp hq
    exact hy i v hv q0 hq0
theorem cat_tup {K : PySem.W.Frag} {H : Hp} {N : VK} {a : Addr} {v x : V} {q : List V} (ha : H a = some (.tup [x])) (hv : TupAt H v q) (hl : q.length ≤ 100) (hN : ∀ y H2, Ex H H2 → TupAt H2 y (x :: q) → N y H2) : rCatT K (.ref a) v H N := by
  obtain ⟨b, rfl, hb⟩ := hv
  refine ⟨a, b, [x], q, rfl, rfl, SqT.of ha, SqT.of hb, by simp, Nat.le_trans (by simp; omega : _ ≤ 200) (by decide), fun h => ?_, fun _ p hp => ?_⟩
  · subst h
    exact hN _ _ (Ex.refl _) ⟨a, rfl, ha⟩
  · exact hN _ _ (Ex.new hp) ⟨p, rfl, upd_same⟩
/-- a list grown by another one -/
theorem ext_paths {H : Hp} {p D : Addr} {vs : List V} {ps qs : List (List V)} (hp : H p = some (.lst vs)) (hal : Al2 (TupAt H) vs ps) (hD : PathsAt H (.ref D) qs) (hl : ps.length + qs.length ≤ 10000) :
    ∃ us, H D = some (.lst us) ∧ vs.length + us.length ≤ sizeLine ∧ Al2 (TupAt (upd H p (.lst (vs ++ us)))) (vs ++ us) (ps ++ qs) := by
  obtain ⟨D', us, e, hus, hal2⟩ := hD
  cases e
  refine ⟨us, hus, Nat.le_trans (by rw [hal.1, hal2.1]; exact hl) (by decide), ?_⟩
  exact (hal.imp fun _ _ => TupAt.monoT (ExT.lst hp)).append (hal2.imp fun _ _ => TupAt.monoT (ExT.lst hp))
section
variable {P : Program} {w : World} {K : PySem.W.Frag} {mg : Str → Option Value} {base : Heap}
abbrev spAPk (d : Nat) : Sp := fun vs H Q _ => ∃ v kd, vs = [v] ∧ KdAt H v kd ∧ kd.ok d ∧ ∀ p H', H p = none → Ex H H' → PathsAt H' (.ref p) kd.paths → Q (.ref p) H'
abbrev s_all_paths : Stmt := top 48
abbrev N_all_paths : List Str := ["kind", "index", "found", "inner", "name", "bits", "ahead", "path"]
abbrev P_all_paths : List Str := ["kind"]
theorem sc_all_paths : FnScope N_all_paths P_all_paths (defScope s_all_paths) := ⟨rfl, rfl, rfl, by decide +kernel, rfl, by decide +kernel, by decide +kernel⟩
theorem bb_all_paths : BindsBy "all_paths" s_all_paths P_all_paths := fun _ _ _ _ _ _ us hl => match us, hl with | [_], _ => rfl
theorem ok_all_paths (c : Ctx K mg) : ∀ d, d ≤ 5 → Df P w K mg base "all_paths" d P_all_paths (spAPk d) := by
  intro d
  induction d with
  | zero => exact fun _ => Df.no c.h_all_paths bb_all_paths fun vs H Q E ⟨_, _, _, _, h, _⟩ => h
  | succ d ih =>
    intro hd5
    have D_all_paths := ih (by omega)
    refine Df.of (k := d) c.h_all_paths sc_all_paths bb_all_paths (fun vs H Q E h => ?_) (fun f cdv A outer s H vs Q E hr h => ?_)
    · obtain ⟨v, kd, rfl, _⟩ := h
      rfl
    · obtain ⟨v, kd, rfl, hv, hk, k⟩ := h
      -- 0 kind, 1 index, 2 found, 3 inner, 4 name, 5 bits, 6 ahead, 7 path
      refine ⟨_, (pss_cons (ps_if (pt_val (pe_callB call_isi (by rfl) c.no_isinstance (by decide +kernel) (pa_cons (pv 0) (pa_cons (pe_glob (v := .ref _) rfl c.mg_Shape rfl) pa_nil)))) (pss_cons (ps_set (i := 2) sc_all_paths.nd rfl (Or.inl rfl) (pe_lst pa_nil))
          (pss_cons (ps_for PassesOwn.never rfl (pi_list (pe_fld (pv 0) rfl)) (pg_tup rfl (pgs_cons (pg_name (i := 4) sc_all_paths.nd rfl (Or.inl rfl)) (pgs_cons (pg_name (i := 3) sc_all_paths.nd rfl (Or.inl rfl)) (pgs_cons (pg_name (i := 5) sc_all_paths.nd rfl (Or.inl rfl)) pgs_nil)))) (pss_one (ps_if (pt_cmpR op_notN (pv 5) pe_non (nomark _)) (pss_one (ps_expr (pe_bm PySem.F.plainAttrs_list PySem.F.slot_list_extend PySem.F.type_list_extend mt_extend (pv 2) (pa_cons (pe_cut (pe_ifExp (pt_cmpR op_isN (pv 4) pe_non (nomark _)) (pe_lst pa_nil) (pe_lst (pa_cons (pe_tup (pa_cons (pv 4) pa_nil)) pa_nil)))) pa_nil)))) (pss_cons (ps_set (i := 6) sc_all_paths.nd rfl (Or.inr rfl) (pe_cut (pe_ifExp (pt_cmpR op_isN (pv 4) pe_non (nomark _)) (pe_tup pa_nil) (pe_tup (pa_cons (pv 4) pa_nil)))))
          (pss_one (ps_expr (pe_bm PySem.F.plainAttrs_list PySem.F.slot_list_extend PySem.F.type_list_extend mt_extend (pv 2) (pa_cons (pe_lc (own := [("path", 7)]) (g := gName 7) rfl sc_all_paths.nd (pi_list (pe_df D_all_paths (hr.mono (by omega)) (by rfl) (pa_cons (pv 3) pa_nil))) (blkOk_by (own := [("path", 7)]) (N := N_all_paths) (sc := defScope s_all_paths) (by decide +kernel)) (fun _ _ _ _ _ => (pg_name (i := 7) sc_all_paths.nd rfl (Or.inl rfl))) (fun _ _ _ _ _ => pts_nil) (fun _ _ _ _ _ => (pe_op (r := rCatT K) op_catT (pv 6) (pv 7)))) pa_nil))))))))
          (pss_one (ps_ret (pv 2))))) pss_nil)
          (pss_cons (ps_if (pt_cmpR op_ne (pe_ix ix_tup (pv 0) pe_int (fun _ _ => rfl)) pe_str (nomark _)) (pss_one (ps_ret (pe_lst (pa_cons (pe_tup pa_nil) pa_nil)))) pss_nil)
          (pss_cons (ps_par (i := 3) (j := 2) (by rfl) sc_all_paths.nd rfl rfl (by decide) rfl rfl (pa_cons (pe_df D_all_paths (hr.mono (by omega)) (by rfl) (pa_cons (pe_ix ix_tup (pv 0) pe_int (fun _ _ => rfl)) pa_nil)) (pa_cons (pe_lst pa_nil) pa_nil)) (by rfl))
          (pss_cons (ps_for PassesOwn.never rfl (pi_range1 rfl c.no_range (pa_cons (pe_ix ix_tup (pv 0) pe_int (fun _ _ => rfl)) pa_nil)) (pg_name (i := 1) sc_all_paths.nd rfl (Or.inr rfl)) (pss_one (ps_expr (pe_bm PySem.F.plainAttrs_list PySem.F.slot_list_extend PySem.F.type_list_extend mt_extend (pv 2) (pa_cons (pe_lc (own := [("path", 7)]) (g := gName 7) rfl sc_all_paths.nd (pi_list (pv 3)) (blkOk_by (own := [("path", 7)]) (N := N_all_paths) (sc := defScope s_all_paths) (by decide +kernel)) (fun _ _ _ _ _ => (pg_name (i := 7) sc_all_paths.nd rfl (Or.inl rfl))) (fun _ _ _ _ _ => pts_nil) (fun _ _ _ _ _ => (pe_op (r := rCatT K) op_catT (pe_tup (pa_cons (pv 1) pa_nil)) (pv 7)))) pa_nil)))))
          (pss_one (ps_ret (pv 2))))))), ?_⟩
      cases kd with
      | int n z =>
        obtain ⟨a, rfl, ha⟩ := id hv
        lk
        refine isi_shapeT c ha ?_
        lk
        refine ix_0 ha ?_
        lk
        refine ⟨by decide, fun r hr1 => ?_⟩
        lk
        refine ⟨by decide, fun q hq => ?_⟩
        refine k q _ ((Ex.new hr1).back hq) ((Ex.new hr1).trans (Ex.new hq)) ⟨q, _, rfl, upd_same, rfl, fun i v x h1 h2 => ?_⟩
        match i, h1, h2 with
        | 0, h1, h2 =>
          cases h1
          cases h2
          exact ⟨r, rfl, Ex.new hq _ _ upd_same⟩
      | arr kd m =>
        obtain ⟨a, u, rfl, ha, hu⟩ := id hv
        have hm3 : m ≤ 3 := hk.2
        have hfew := paths_few (k := kd) hk.1
        have hpow : 3 ^ d ≤ 3 ^ 4 := Nat.pow_le_pow_right (by decide) (by omega)
        have h81 : (3 : Nat) ^ 4 = 81 := by decide
        lk
        refine isi_shapeT c ha ?_
        lk
        refine ix_0 ha ?_
        lk
        refine ix_1 ha ?_
        lk
        refine ⟨u, kd, rfl, hu, hk.1, fun p1 H1 hp1 e1 hps => ?_⟩
        lk
        refine ⟨by decide, fun p2 hp2 => ?_⟩
        have e2 : Ex H (upd H1 p2 (.lst [])) := e1.trans (Ex.new hp2)
        have hps2 := hps.mono (Ex.new (o := .lst []) hp2)
        refine for_ok ?_
        lk
        refine ix_2 (e2 _ _ ha) ?_
        lk
        refine ⟨by omega, by omega, ?_⟩
        rw [Int.toNat_natCast]
        have hf2 : H p2 = none := e1.back hp2
        refine ForOk.range (fun i σ H' => (∃ x1 x4 x5 x6 x7, σ = [some (.ref a), x1, some (.ref p2), some (.ref p1), x4, x5, x6, x7]) ∧ Ex H H' ∧ PathsAt H' (.ref p1) kd.paths ∧ p1 ≠ p2 ∧
          ∃ vs, H' p2 = some (.lst vs) ∧ Al2 (TupAt H') vs ((List.range i).flatMap fun (i : Nat) => kd.paths.map (V.int i :: ·)))
          ⟨⟨_, _, _, _, _, rfl⟩, e2, hps2, ?_, [], upd_same, Al2.nil⟩ ?_ ?_
        · obtain ⟨b, _, hb, hb2, _⟩ := hps
          cases hb
          exact ne_of_none hb2 hp2
        · rintro i σ H2 hi ⟨⟨x1, x4, x5, x6, x7, rfl⟩, e, hq, hne, vs, hvs, hal⟩
          lk
          refine ⟨.inl ⟨rfl, _, SqL.of hvs⟩, ?_⟩
          refine lc_ok ?_
          lk
          refine ⟨(let ⟨b, us, hb, hb2, _⟩ := hq; ⟨us, by cases hb; exact SqL.of hb2⟩), ?_⟩
          refine lc_ahead (.int (0 + (i : Int))) hq (by omega) (fun v => by lk) ?_ ?_
          · intro N v q H3 hqm e3 hT hN
            lk
            refine ⟨by decide, fun r hr3 => ?_⟩
            refine cat_tup upd_same (hT.mono (Ex.new hr3)) ?_ fun y H4 e4 h4 => hN y H4 ((Ex.new hr3).trans e4) h4
            exact Nat.le_trans (path_short hk.1 hqm) (by omega)
          · intro D H3 hD e3 hD3
            have hp23 : H3 p2 = some (.lst vs) := e3 _ _ hvs
            have hlen : ((List.range i).flatMap fun (i : Nat) => kd.paths.map (V.int i :: ·)).length = i * kd.paths.length := by
              have e : ∀ n : Nat, ((List.range n).flatMap fun (i : Nat) => kd.paths.map (V.int i :: ·)).length = n * kd.paths.length := by
                intro n
                induction n with
                | zero => simp
                | succ n ihn => rw [List.range_succ, List.flatMap_append, List.length_append, ihn, List.flatMap_singleton, List.length_map, Nat.succ_mul]
              exact e i
            have hmul : i * kd.paths.length ≤ 3 * 81 := Nat.mul_le_mul (by omega) (by omega)
            obtain ⟨us, hus, hsz, hal2⟩ := ext_paths hp23 (hal.imp fun _ _ => TupAt.mono e3) hD3 (by rw [hlen, List.length_map]; omega)
            refine ⟨p2, D, vs, us, rfl, rfl, hp23, hus, hsz, ?_⟩
            have e5 : Ex H (upd H3 p2 (.lst (vs ++ us))) := Ex.mut (e.trans e3) hf2
            lk
            refine ⟨e5, ?_, hne, vs ++ us, upd_same, ?_⟩
            · obtain ⟨b, ws, hb, hb2, hb3⟩ := hq.mono e3
              cases hb
              exact ⟨p1, ws, rfl, (upd_ne hne).trans hb2, hb3.imp fun _ _ => TupAt.monoT (ExT.lst hp23)⟩
            · rw [Int.zero_add] at hal2
              rw [List.range_succ, List.flatMap_append, List.flatMap_singleton]
              exact hal2
        · rintro σ H2 ⟨⟨x1, x4, x5, x6, x7, rfl⟩, e, hq, hne, vs, hvs, hal⟩
          lk
          refine k p2 H2 hf2 e ⟨p2, vs, rfl, hvs, ?_⟩
          rw [paths_arr]
          exact hal
end
end K32
/-! E4: all paths of a layout. -/
namespace K32
open PySem PySem.Spec PyProof.Rows L2
/-! one look: what stands written is read -/
local macro_rules | `(tactic| lk) => `(tactic| try simp only [tCB, tCons, tNil, tC, tVar, tOp, tUn, tTest, tB, tNot, tAndV, tOrV, tNotV, tAnd, tOr, tRet, tSeq, tAsg, gName, tDrop, tNext, tIfS, tIf, tCall, tCmp, rI0, rI, rEq, rNe, tPar, tPar3, tTup, tLst,
  tDGet, tSl, tPart, tNoPart, sDPut, tDisp, tPairs, tLstRg, tRg2, tCallN, tRevL, sFld, tFld, tMeth, tProp, tMake, tBM, tBM0, tNevE, tNever, tRetN, tBreak, tCont, gCons, gNil, gSub, tAug, ipI, wipe, iList, iTup, iRng1, iRng2, iStr, iEnum, RZ.iZipA, rU,
  L2.start, List.map_cons, List.map_nil, List.length_cons, List.length_nil, Nat.reduceAdd, Nat.reduceSub, List.replicate_succ, List.replicate_zero, List.cons_append, List.nil_append, List.append_nil,
  List.getElem?_cons_zero, List.getElem?_cons_succ, List.set_cons_zero, List.set_cons_succ, List.cons.injEq, Option.some.injEq, V.int.injEq, V.bl.injEq, V.str.injEq, V.ref.injEq, exists_eq_left', exists_eq_left, exists_eq', exists_and_left, and_assoc, true_and, and_true,
  if_true, Bool.false_eq_true, if_false, sc_ii, sc_ss, sc_ni, sc_in, sc_sn, sc_ns, sc_bb, eq_self, decide_eq_true_eq, Bool.not_eq_true', decide_eq_false_iff_not, ite_not, ne_ia', ne_ai', Int.reduceEq, Int.reduceLT, Int.reduceLE, reduceCtorEq, decide_true, decide_false, Bool.not_true, Bool.not_false, cxK, oV_n, oV_s, cast_lit])
theorem mem_paths_few {m : Mem} (h : m.ok) : m.paths.length ≤ 27 := by
  unfold Mem.paths
  split
  · rw [List.length_map]
    exact paths_few (d := 3) h.2.1
  · simp
theorem flat_few : ∀ {ms : List Mem}, (∀ m ∈ ms, m.ok) → (ms.flatMap Mem.paths).length ≤ 27 * ms.length
  | [], _ => by simp
  | m :: ms, h => by
    rw [List.flatMap_cons, List.length_append, List.length_cons]
    have h1 := mem_paths_few (h m List.mem_cons_self)
    have h2 := flat_few (ms := ms) fun x hx => h x (List.mem_cons_of_mem _ hx)
    omega
section
variable {P : Program} {w : World} {K : PySem.W.Frag} {mg : Str → Option Value} {base : Heap}
abbrev spAPl (K : PySem.W.Frag) : Sp := fun vs H Q _ => ∃ v L, vs = [v] ∧ LayAt K H v L ∧ L.ok ∧ ∀ p H', H p = none → Ex H H' → PathsAt H' (.ref p) (L.ms.flatMap Mem.paths) → Q (.ref p) H'
theorem ok_all_paths_lay (c : Ctx K mg) : Df P w K mg base "all_paths" 4 P_all_paths (spAPl K) := by
  have D_all_paths := ok_all_paths (P := P) (w := w) (base := base) c 3 (by decide)
  refine Df.of c.h_all_paths sc_all_paths bb_all_paths (fun vs H Q E h => ?_) (fun f cdv A outer s H vs Q E hr h => ?_)
  · obtain ⟨v, L, rfl, _⟩ := h
    rfl
  · obtain ⟨v, L, rfl, ⟨a, dx, ra, pa, rfl, ha, ⟨ra', vs, hra, hvs, hrows⟩, hpa⟩, hok, k⟩ := h
    cases hra
    -- 0 kind, 1 index, 2 found, 3 inner, 4 name, 5 bits, 6 ahead, 7 path
    refine ⟨_, (pss_cons (ps_if (pt_val (pe_callB call_isi (by rfl) c.no_isinstance (by decide +kernel) (pa_cons (pv 0) (pa_cons (pe_glob (v := .ref _) rfl c.mg_Shape rfl) pa_nil)))) (pss_cons (ps_set (i := 2) sc_all_paths.nd rfl (Or.inl rfl) (pe_lst pa_nil))
        (pss_cons (ps_for PassesOwn.never rfl (pi_list (pe_fld (pv 0) rfl)) (pg_tup rfl (pgs_cons (pg_name (i := 4) sc_all_paths.nd rfl (Or.inl rfl)) (pgs_cons (pg_name (i := 3) sc_all_paths.nd rfl (Or.inl rfl)) (pgs_cons (pg_name (i := 5) sc_all_paths.nd rfl (Or.inl rfl)) pgs_nil)))) (pss_one (ps_if (pt_cmpR op_notN (pv 5) pe_non (nomark _)) (pss_one (ps_expr (pe_bm PySem.F.plainAttrs_list PySem.F.slot_list_extend PySem.F.type_list_extend mt_extend (pv 2) (pa_cons (pe_cut (pe_ifExp (pt_cmpR op_isN (pv 4) pe_non (nomark _)) (pe_lst pa_nil) (pe_lst (pa_cons (pe_tup (pa_cons (pv 4) pa_nil)) pa_nil)))) pa_nil)))) (pss_cons (ps_set (i := 6) sc_all_paths.nd rfl (Or.inr rfl) (pe_cut (pe_ifExp (pt_cmpR op_isN (pv 4) pe_non (nomark _)) (pe_tup pa_nil) (pe_tup (pa_cons (pv 4) pa_nil)))))
        (pss_one (ps_expr (pe_bm PySem.F.plainAttrs_list PySem.F.slot_list_extend PySem.F.type_list_extend mt_extend (pv 2) (pa_cons (pe_lc (own := [("path", 7)]) (g := gName 7) rfl sc_all_paths.nd (pi_list (pe_df D_all_paths (hr.mono (by omega)) (by rfl) (pa_cons (pv 3) pa_nil))) (blkOk_by (own := [("path", 7)]) (N := N_all_paths) (sc := defScope s_all_paths) (by decide +kernel)) (fun _ _ _ _ _ => (pg_name (i := 7) sc_all_paths.nd rfl (Or.inl rfl))) (fun _ _ _ _ _ => pts_nil) (fun _ _ _ _ _ => (pe_op (r := rCatT K) op_catT (pv 6) (pv 7)))) pa_nil))))))))
        (pss_one (ps_ret (pv 2))))) pss_nil)
        (pss_cons (ps_if (pt_cmpR op_ne (pe_ix ix_tup (pv 0) pe_int (fun _ _ => rfl)) pe_str (nomark _)) (pss_one (ps_ret (pe_lst (pa_cons (pe_tup pa_nil) pa_nil)))) pss_nil)
        (pss_cons (ps_par (i := 3) (j := 2) (by rfl) sc_all_paths.nd rfl rfl (by decide) rfl rfl (pa_cons (pe_df D_all_paths (hr.mono (by omega)) (by rfl) (pa_cons (pe_ix ix_tup (pv 0) pe_int (fun _ _ => rfl)) pa_nil)) (pa_cons (pe_lst pa_nil) pa_nil)) (by rfl))
        (pss_cons (ps_for PassesOwn.never rfl (pi_range1 rfl c.no_range (pa_cons (pe_ix ix_tup (pv 0) pe_int (fun _ _ => rfl)) pa_nil)) (pg_name (i := 1) sc_all_paths.nd rfl (Or.inr rfl)) (pss_one (ps_expr (pe_bm PySem.F.plainAttrs_list PySem.F.slot_list_extend PySem.F.type_list_extend mt_extend (pv 2) (pa_cons (pe_lc (own := [("path", 7)]) (g := gName 7) rfl sc_all_paths.nd (pi_list (pv 3)) (blkOk_by (own := [("path", 7)]) (N := N_all_paths) (sc := defScope s_all_paths) (by decide +kernel)) (fun _ _ _ _ _ => (pg_name (i := 7) sc_all_paths.nd rfl (Or.inl rfl))) (fun _ _ _ _ _ => pts_nil) (fun _ _ _ _ _ => (pe_op (r := rCatT K) op_catT (pe_tup (pa_cons (pv 1) pa_nil)) (pv 7)))) pa_nil)))))
        (pss_one (ps_ret (pv 2))))))), ?_⟩
    lk
    refine isi_shapeL c ha ?_
    lk
    refine ⟨by decide, fun p2 hp2 => ?_⟩
    have e1 : Ex H (upd H p2 (.lst [])) := Ex.new hp2
    refine for_ok ?_
    lk
    refine ⟨_, dx, _, e1 _ _ ha, c.cl, c.na_rows, _, layF_rows, ?_⟩
    lk
    refine ⟨⟨vs, SqL.of (e1 _ _ hvs)⟩, ?_⟩
    refine ForOk.list vs (fun i σ H' => (∃ x1 x3 x4 x5 x6 x7, σ = [some (.ref a), x1, some (.ref p2), x3, x4, x5, x6, x7]) ∧ Ex H H' ∧
          ∃ ws, H' p2 = some (.lst ws) ∧ Al2 (TupAt H') ws ((L.ms.take i).flatMap Mem.paths))
      ⟨⟨_, _, _, _, _, _, rfl⟩, e1, [], upd_same, Al2.nil⟩ (fun i σ H' ⟨_, e, _⟩ => SqL.of (e _ _ hvs)) ?_ ?_
    · rintro i σ H1 x hx ⟨⟨x1, x3, x4, x5, x6, x7, rfl⟩, e, ws, hws, hal⟩
      obtain ⟨m, hmi, ⟨b, kv, rfl, hb, hk⟩⟩ := hrows.at hx
      have hmo := hok.oks m (List.mem_of_getElem? hmi)
      have hnext : (L.ms.take (i + 1)).flatMap Mem.paths = (L.ms.take i).flatMap Mem.paths ++ m.paths := by
        rw [List.take_add_one, hmi, List.flatMap_append]
        show _ ++ [m].flatMap Mem.paths = _
        rw [List.flatMap_singleton]
      have hfl : ((L.ms.take i).flatMap Mem.paths).length ≤ 27 * 12 := by
        have h1 := flat_few (ms := L.ms.take i) fun y hy => hok.oks y (List.mem_of_mem_take hy)
        have h2 := List.length_take_le i L.ms
        have h3 := hok.few
        have h4 : 27 * (L.ms.take i).length ≤ 27 * 12 := Nat.mul_le_mul_left _ (by rw [List.length_take] at h2 ⊢; omega)
        omega
      have hm27 := mem_paths_few hmo
      refine g_tup (e _ _ hb) rfl ?_
      lk
      -- what follows once the new paths stand at D
      have fin : ∀ D H3, Ex H1 H3 → PathsAt H3 (.ref D) m.paths → ∃ us, H3 p2 = some (.lst ws) ∧ H3 D = some (.lst us) ∧ ws.length + us.length ≤ sizeLine ∧ Ex H (upd H3 p2 (.lst (ws ++ us))) ∧
          ∃ zs, upd H3 p2 (.lst (ws ++ us)) p2 = some (.lst zs) ∧ Al2 (TupAt (upd H3 p2 (.lst (ws ++ us)))) zs ((L.ms.take (i + 1)).flatMap Mem.paths) := by
        intro D H3 e3 hD
        have hp23 : H3 p2 = some (.lst ws) := e3 _ _ hws
        obtain ⟨us, hus, hsz, hal2⟩ := ext_paths hp23 (hal.imp fun _ _ => TupAt.mono e3) hD (by omega)
        refine ⟨us, hp23, hus, hsz, Ex.mut (e.trans e3) hp2, ws ++ us, upd_same, ?_⟩
        rw [hnext]
        exact hal2
      cases hbt : m.bt with
      | some b =>
        have hmp : m.paths = [[.str m.nm]] := by
          unfold Mem.paths
          rw [hbt]
        lk
        refine ⟨.inl ⟨rfl, _, SqL.of hws⟩, ?_⟩
        refine cutE ?_
        lk
        refine ⟨by decide, fun r hr1 => ?_⟩
        lk
        refine ⟨by decide, fun D hD => ?_⟩
        have e3 : Ex H1 (upd (upd H1 r (.tup [.str m.nm])) D (.lst [.ref r])) := (Ex.new hr1).trans (Ex.new hD)
        obtain ⟨us, f1, f2, f3, f4, f5⟩ := fin D _ e3 ⟨D, [.ref r], rfl, upd_same, by rw [hmp] <;> rfl, fun n v q h1 h2 => by
          rw [hmp] at h2
          match n, h1, h2 with
          | 0, h1, h2 =>
            cases h1
            cases h2
            exact ⟨r, rfl, Ex.new hD _ _ upd_same⟩⟩
        refine ⟨p2, D, ws, us, rfl, rfl, f1, f2, f3, ?_⟩
        lk
        exact ⟨f4, f5⟩
      | none =>
        have hmp : m.paths = m.kd.paths.map (V.str m.nm :: ·) := by
          unfold Mem.paths
          rw [hbt]
        lk
        refine cutE ?_
        lk
        refine ⟨by decide, fun r hr1 => ?_⟩
        have hr2 : upd H1 r (.tup [.str m.nm]) r = some (.tup [.str m.nm]) := upd_same
        have er : Ex H1 (upd H1 r (.tup [.str m.nm])) := Ex.new hr1
        generalize upd H1 r (.tup [.str m.nm]) = H2 at hr2 er ⊢
        lk
        refine ⟨.inl ⟨rfl, _, SqL.of (er _ _ hws)⟩, ?_⟩
        refine lc_ok ?_
        lk
        refine ⟨kv, m.kd, rfl, (hk.mono e).mono er, hmo.2.1, fun q H3 hq e3 hqs => ?_⟩
        lk
        refine ⟨(let ⟨b, us, hb, hb2, _⟩ := hqs; ⟨us, by cases hb; exact SqL.of hb2⟩), ?_⟩
        refine lc_ahead (.str m.nm) hqs (by
          have := paths_few (d := 3) hmo.2.1
          omega) (fun v => by lk) ?_ ?_
        · intro N v q' H4 hqm e4 hT hN
          lk
          exact cat_tup (e4 _ _ (e3 _ _ hr2)) hT (Nat.le_trans (path_short (d := 3) hmo.2.1 hqm) (by decide)) hN
        · intro D H4 hD e4 hD4
          rw [← hmp] at hD4
          obtain ⟨us, f1, f2, f3, f4, f5⟩ := fin D _ ((er.trans e3).trans e4) hD4
          refine ⟨p2, D, ws, us, rfl, rfl, f1, f2, f3, ?_⟩
          lk
          exact ⟨f4, f5⟩
    · rintro σ H1 ⟨⟨x1, x3, x4, x5, x6, x7, rfl⟩, e, ws, hws, hal⟩
      lk
      refine k p2 H1 hp2 e ⟨p2, ws, rfl, hws, ?_⟩
      rw [hrows.1, List.take_length] at hal
      exact hal
abbrev s_Layout_paths : Stmt := inClass (top 55) 5
abbrev N_Layout_paths : List Str := ["self"]
abbrev P_Layout_paths : List Str := ["self"]
theorem sc_Layout_paths : FnScope N_Layout_paths P_Layout_paths (defScope s_Layout_paths) := ⟨rfl, rfl, rfl, by decide +kernel, rfl, by decide +kernel, by decide +kernel⟩
theorem bb_Layout_paths : BindsM "paths" "Layout.paths" s_Layout_paths P_Layout_paths := fun _ _ _ _ _ _ us hl => match us, hl with | [_], _ => rfl
theorem ok_paths (c : Ctx K mg) : Mt P w K mg base (He.ma K (cL K) "paths") 5 P_Layout_paths (spAPl K) := by
  have D_all_paths := ok_all_paths_lay (P := P) (w := w) (base := base) c
  refine Mt.of (c.hasM (d := d_L_paths) (fns.length - 4) rfl rfl) sc_Layout_paths bb_Layout_paths (fun vs H Q E h => ?_) (fun cdv A outer s H vs Q E hr h => ?_)
  · obtain ⟨v, L, rfl, _⟩ := h
    rfl
  · obtain ⟨v, L, rfl, hL, hok, k⟩ := h
    -- 0 self
    refine ⟨_, (pss_one (ps_ret (pe_df D_all_paths (hr.mono (by omega)) (by rfl) (pa_cons (pv 0) pa_nil)))), ?_⟩
    lk
    exact ⟨v, L, rfl, hL, hok, k⟩
end
end K32
/-! L1: the law's sameness of two things. -/
namespace K32
open PySem PySem.Spec PyProof.Rows L2
/-! one look: what stands written is read -/
local macro_rules | `(tactic| lk) => `(tactic| try simp only [tCB, tCons, tNil, tC, tVar, tOp, tUn, tTest, tB, tNot, tAndV, tOrV, tNotV, tAnd, tOr, tRet, tSeq, tAsg, gName, tDrop, tNext, tIfS, tIf, tCall, tCmp, rI0, rI, rEq, rNe, tPar, tPar3, tTup, tLst,
  tDGet, tSl, tPart, tNoPart, sDPut, tDisp, tPairs, tLstRg, tRg2, tCallN, tRevL, sFld, tFld, tMeth, tProp, tMake, tBM, tBM0, tNevE, tNever, tRetN, tBreak, tCont, gCons, gNil, gSub, tAug, ipI, wipe, iList, iTup, iRng1, iRng2, iStr, iEnum, RZ.iZipA, rU,
  L2.start, List.map_cons, List.map_nil, List.length_cons, List.length_nil, Nat.reduceAdd, Nat.reduceSub, List.replicate_succ, List.replicate_zero, List.cons_append, List.nil_append, List.append_nil,
  List.getElem?_cons_zero, List.getElem?_cons_succ, List.set_cons_zero, List.set_cons_succ, List.cons.injEq, Option.some.injEq, V.int.injEq, V.bl.injEq, V.str.injEq, V.ref.injEq, exists_eq_left', exists_eq_left, exists_eq', exists_and_left, and_assoc, true_and, and_true,
  if_true, Bool.false_eq_true, if_false, sc_ii, sc_ss, sc_ni, sc_in, sc_sn, sc_ns, sc_bb, eq_self, decide_eq_true_eq, Bool.not_eq_true', decide_eq_false_iff_not, ite_not, ne_ia', ne_ai', Int.reduceEq, Int.reduceLT, Int.reduceLE, reduceCtorEq, decide_true, decide_false, Bool.not_true, Bool.not_false, cxK, oV_n, oV_s, cast_lit])
def kitBs (t : String) : List String → Option Bool
  | [] => some false
  | n :: r => match kitB t n with
    | some true => some true
    | some false => kitBs t r
    | none => none
theorem kitAny_of {K : PySem.W.Frag} {t : String} : ∀ ns : List String, PySem.W.kitAny K (.type t) (ns.map Value.type) = kitBs t ns
  | [] => rfl
  | n :: r => by
    show (match PySem.W.kitOne K (.type t) (.type n) with | some true => some true | some false => PySem.W.kitAny K (.type t) (r.map Value.type) | none => none) = _
    rw [kitAny_of r] <;> rfl
theorem cls_tys : ∀ ns : List String, Paired ClsV (ns.map V.ty) (ns.map Value.type)
  | [] => .nil
  | n :: r => .cons (.ty n) (cls_tys r)
theorem isi_tys {K : PySem.W.Frag} {H : Hp} {Q : VK} {x : V} {t : String} {p : Addr} (ns : List String) {b : Bool} (hp : H p = some (.tup (ns.map V.ty))) (ty : TyX K H x (.type t)) (h : kitBs t ns = some b) (q : Q (.bl b) H) : rIsiT K [x, .ref p] H Q :=
  ⟨x, p, ns.map V.ty, .type t, ns.map Value.type, b, rfl, hp, cls_tys ns, ty, (kitAny_of ns).trans h, q⟩
def SameAt : Nat → Hp → V → V → Prop
  | 0, _, _, _ => False
  | d + 1, H, x, y => (x = y ∧ ((∃ i, x = .int i) ∨ (∃ b, x = .bl b) ∨ ∃ z, x = .str z)) ∨
      ∃ a b xs ys, x = .ref a ∧ y = .ref b ∧ ((H a = some (.lst xs) ∧ H b = some (.lst ys)) ∨ (H a = some (.tup xs) ∧ H b = some (.tup ys))) ∧ xs.length = ys.length ∧ xs.length ≤ 1000 ∧
        ∀ (i : Nat) u v, xs[i]? = some u → ys[i]? = some v → SameAt d H u v
theorem SameAt.mono {H H' : Hp} (e : Ex H H') : ∀ {d : Nat} {x y : V}, SameAt d H x y → SameAt d H' x y
  | 0, _, _, h => h.elim
  | d + 1, x, y, h => by
    rcases h with h | ⟨a, b, xs, ys, h1, h2, h3, h4, h5, h6⟩
    · exact .inl h
    · refine .inr ⟨a, b, xs, ys, h1, h2, ?_, h4, h5, fun i u v hu hv => SameAt.mono e (h6 i u v hu hv)⟩
      rcases h3 with ⟨p, q⟩ | ⟨p, q⟩
      · exact .inl ⟨e _ _ p, e _ _ q⟩
      · exact .inr ⟨e _ _ p, e _ _ q⟩
theorem bools_of {ys : List V} (h : ∀ (i : Nat) y, ys[i]? = some y → y = V.bl true) : ys = (List.replicate ys.length true).map V.bl := by
  apply List.ext_getElem?
  intro i
  rw [List.getElem?_map]
  rcases Nat.lt_or_ge i ys.length with hi | hi
  · rw [List.getElem?_eq_getElem hi, List.getElem?_replicate, if_pos hi]
    exact congrArg some (h i ys[i] (List.getElem?_eq_getElem hi))
  · rw [List.getElem?_eq_none hi, List.getElem?_replicate, if_neg (by omega)]
    rfl
/-- zip of two sequences of one sort -/
def ItzG (Sq : Hp → Addr → List V → Prop) (a b : Addr) : It :=
  ⟨fun i H => ∃ (xs ys : List V) (x y : V), Sq H a xs ∧ Sq H b ys ∧ xs[i]? = some x ∧ ys[i]? = some y,
    fun i H v H' => ∃ T x y, v = .ref T ∧ H T = none ∧ H' = upd H T (.tup [x, y]) ∧ (∀ xs, Sq H a xs → xs[i]? = some x) ∧ ∀ ys, Sq H b ys → ys[i]? = some y,
    fun i H => ∃ xs ys : List V, Sq H a xs ∧ Sq H b ys ∧ (xs.length ≤ i ∨ ys.length ≤ i)⟩
theorem lc_zip {Sq : Hp → Addr → List V → Prop} {a b : Addr} {g : TG} {te : TE} {vs : List Nat} {σ : L2.St} {H1 : Hp} {Q : VK} (xs ys : List V) (hl : xs.length = ys.length) (hn : xs.length ≤ 1000) (hsq : ∀ H, Ex H1 H → Sq H a xs ∧ Sq H b ys)
    (hs : ∀ (N : VK) (i : Nat) u v T H, xs[i]? = some u → ys[i]? = some v → H T = none → Ex H1 (upd H T (.tup [u, v])) → (∀ y H4, Ex (upd H T (.tup [u, v])) H4 → y = .bl true → N y H4) →
      g (.ref T) (wipe σ vs) (upd H T (.tup [u, v])) fun σ2 H2 => wipe σ2 vs = wipe σ vs ∧ te σ2 H2 N)
    (hQ : ∀ D H', H1 D = none → Ex H1 H' → H' D = some (.lst ((List.replicate xs.length true).map V.bl)) → Q (.ref D) H') : LcOk (ItzG Sq a b) g te vs σ H1 Q := by
  refine LcOk.ex xs.length (by omega) (fun _ y _ => y = .bl true) (fun _ _ _ _ _ h => h) ?_ ?_ ?_ ?_ ?_
  · intro i H hi e
    exact ⟨xs, ys, xs[i], ys[i]'(hl ▸ hi), (hsq H e).1, (hsq H e).2, List.getElem?_eq_getElem hi, List.getElem?_eq_getElem (hl ▸ hi)⟩
  · intro H e
    exact ⟨xs, ys, (hsq H e).1, (hsq H e).2, .inl (Nat.le_refl _)⟩
  · rintro i H x H' hi e ⟨T, u, v, rfl, hT, rfl, _⟩
    exact Ex.new hT
  · rintro N i H x H' hi e ⟨T, u, v, rfl, hT, rfl, hu, hv⟩ e2 hN
    exact hs N i u v T H (hu xs (hsq H e).1) (hv ys (hsq H e).2) hT e2 hN
  · intro D zs H' hD e hzs hzl hy
    have h2 := bools_of hy
    rw [hzl] at h2
    rw [h2] at hzs
    exact hQ D H' hD e hzs
theorem all_true (n : Nat) : (List.replicate n true).all id = true := by
  rw [List.all_eq_true]
  intro b hb
  exact (List.mem_replicate.mp hb).2
section
variable {P : Program} {w : World} {K : PySem.W.Frag} {mg : Str → Option Value} {base : Heap}
abbrev spSame (d : Nat) : Sp := fun vs H Q _ => ∃ x y, vs = [x, y] ∧ SameAt d H x y ∧ ∀ H', Ex H H' → Q (.bl true) H'
abbrev s_law_same : Stmt := top 62
abbrev N_law_same : List Str := ["_law_found", "_law_due", "_law_one", "_law_two"]
abbrev P_law_same : List Str := ["_law_found", "_law_due"]
theorem sc_law_same : FnScope N_law_same P_law_same (defScope s_law_same) := ⟨rfl, rfl, rfl, by decide +kernel, rfl, by decide +kernel, by decide +kernel⟩
theorem bb_law_same : BindsBy "_law_same" s_law_same P_law_same := fun _ _ _ _ _ _ us hl => match us, hl with | [_, _], _ => rfl
theorem ok_law_same (c : Ctx K mg) : ∀ d, Df P w K mg base "_law_same" d P_law_same (spSame d) := by
  intro d
  induction d with
  | zero => exact Df.no c.h_law_same bb_law_same fun vs H Q E ⟨_, _, _, h, _⟩ => h
  | succ d ih =>
    have D_law_same := ih
    refine Df.of (k := d) c.h_law_same sc_law_same bb_law_same (fun vs H Q E h => ?_) (fun f cdv A outer s H vs Q E hr h => ?_)
    · obtain ⟨x, y, rfl, _⟩ := h
      rfl
    · obtain ⟨x, y, rfl, hs, k⟩ := h
      -- 0 _law_found, 1 _law_due, 2 _law_one, 3 _law_two
      refine ⟨_, (pss_cons (ps_if (pt_val (pe_callB call_isiT (by rfl) c.no_isinstance (by decide +kernel) (pa_cons (pv 1) (pa_cons (pe_tup (pa_cons (pe_bltn (v := .ty "list") (by rfl) c.no_list (by decide +kernel) rfl) (pa_cons (pe_bltn (v := .ty "tuple") (by rfl) c.no_tuple (by decide +kernel) rfl) pa_nil))) pa_nil)))) (pss_cons (ps_if (PW.pt (pw_or (pt_cmpR op_ne (pe_callB call_isi (by rfl) c.no_isinstance (by decide +kernel) (pa_cons (pv 0) (pa_cons (pe_bltn (v := .ty "list") (by rfl) c.no_list (by decide +kernel) rfl) pa_nil))) (pe_callB call_isi (by rfl) c.no_isinstance (by decide +kernel) (pa_cons (pv 1) (pa_cons (pe_bltn (v := .ty "list") (by rfl) c.no_list (by decide +kernel) rfl) pa_nil))) (nomark _)) (pw_or1 (pt_cmpR op_ne (pe_callB call_isi (by rfl) c.no_isinstance (by decide +kernel) (pa_cons (pv 0) (pa_cons (pe_bltn (v := .ty "tuple") (by rfl) c.no_tuple (by decide +kernel) rfl) pa_nil))) (pe_callB call_isi (by rfl) c.no_isinstance (by decide +kernel) (pa_cons (pv 1) (pa_cons (pe_bltn (v := .ty "tuple") (by rfl) c.no_tuple (by decide +kernel) rfl) pa_nil))) (nomark _))))) (pss_one (ps_ret pe_bl)) pss_nil)
          (pss_one (ps_ret (pe_and (pe_cmpR op_eq (pe_callB call_len_seq (by rfl) c.no_len PySem.boot_len (pa_cons (pv 0) pa_nil)) (pe_callB call_len_seq (by rfl) c.no_len PySem.boot_len (pa_cons (pv 1) pa_nil)) (nomark _)) (pe_one (pe_callB (cr_all rfl) (by rfl) c.no_all (by decide +kernel) (pa_cons (pe_lc (own := [("_law_one", 2), ("_law_two", 3)]) (g := gTup K 2 (gCons (gName 2) (gCons (gName 3) (gNil)))) rfl sc_law_same.nd (RZ.pi_zipA (by rfl) c.no_zip (pa_cons (pv 0) (pa_cons (pv 1) pa_nil))) (blkOk_by (own := [("_law_one", 2), ("_law_two", 3)]) (N := N_law_same) (sc := defScope s_law_same) (by decide +kernel)) (fun _ _ _ _ _ => (pg_tup rfl (pgs_cons (pg_name (i := 2) sc_law_same.nd rfl (Or.inl rfl)) (pgs_cons (pg_name (i := 3) sc_law_same.nd rfl (Or.inl rfl)) pgs_nil)))) (fun _ _ _ _ _ => pts_nil) (fun _ _ _ _ _ => (pe_df D_law_same (hr.mono (by omega)) (by rfl) (pa_cons (pv 2) (pa_cons (pv 3) pa_nil))))) pa_nil))))))) pss_nil)
          (pss_cons (ps_if (pt_val (pe_callB call_isiT (by rfl) c.no_isinstance (by decide +kernel) (pa_cons (pv 1) (pa_cons (pe_tup (pa_cons (pe_bltn (v := .ty "bool") (by rfl) c.no_bool (by decide +kernel) rfl) (pa_cons (pe_bltn (v := .ty "int") (by rfl) c.no_int (by decide +kernel) rfl) pa_nil))) pa_nil)))) (pss_one (ps_ret (pe_and (pe_callB call_isi (by rfl) c.no_isinstance (by decide +kernel) (pa_cons (pv 0) (pa_cons (pe_bltn (v := .ty "int") (by rfl) c.no_int (by decide +kernel) rfl) pa_nil))) (pe_and (pe_cmpR op_eq (pe_callB call_isi (by rfl) c.no_isinstance (by decide +kernel) (pa_cons (pv 0) (pa_cons (pe_bltn (v := .ty "bool") (by rfl) c.no_bool (by decide +kernel) rfl) pa_nil))) (pe_callB call_isi (by rfl) c.no_isinstance (by decide +kernel) (pa_cons (pv 1) (pa_cons (pe_bltn (v := .ty "bool") (by rfl) c.no_bool (by decide +kernel) rfl) pa_nil))) (nomark _)) (pe_one (pe_cmpR op_eq (pv 0) (pv 1) (nomark _))))))) pss_nil)
          (pss_one (ps_ret (pe_and (pe_cmpR op_isBl (pe_callB call_isiT (by rfl) c.no_isinstance (by decide +kernel) (pa_cons (pv 0) (pa_cons (pe_tup (pa_cons (pe_bltn (v := .ty "bool") (by rfl) c.no_bool (by decide +kernel) rfl) (pa_cons (pe_bltn (v := .ty "int") (by rfl) c.no_int (by decide +kernel) rfl) (pa_cons (pe_bltn (v := .ty "list") (by rfl) c.no_list (by decide +kernel) rfl) (pa_cons (pe_bltn (v := .ty "tuple") (by rfl) c.no_tuple (by decide +kernel) rfl) pa_nil))))) pa_nil))) pe_bl (nomark _)) (pe_one (pe_cmpR op_eq (pv 0) (pv 1) (nomark _)))))))), ?_⟩
      rcases hs with ⟨rfl, hsc⟩ | ⟨a, b, xs, ys, rfl, rfl, hab, hl, hl1, hall⟩
      · lk
        refine ⟨by decide, fun p hp => ?_⟩
        rcases hsc with ⟨i, rfl⟩ | ⟨i, rfl⟩ | ⟨i, rfl⟩
        · refine isi_tys ["list", "tuple"] upd_same (.base (.int _)) (b := false) (by decide +kernel) ?_
          lk
          refine ⟨by decide, fun p2 hp2 => ?_⟩
          refine isi_tys ["bool", "int"] upd_same (.base (.int _)) (b := true) (by decide +kernel) ?_
          lk
          refine isi_ty (.base (.int _)) (b := true) (by decide +kernel) ?_
          lk
          refine isi_ty (.base (.int _)) (b := false) (by decide +kernel) ?_
          lk
          refine isi_ty (.base (.int _)) (b := false) (by decide +kernel) ?_
          lk
          exact k _ ((Ex.new hp).trans (Ex.new hp2))
        · refine isi_tys ["list", "tuple"] upd_same (.base (.bl _)) (b := false) (by decide +kernel) ?_
          lk
          refine ⟨by decide, fun p2 hp2 => ?_⟩
          refine isi_tys ["bool", "int"] upd_same (.base (.bl _)) (b := true) (by decide +kernel) ?_
          lk
          refine isi_ty (.base (.bl _)) (b := true) (by decide +kernel) ?_
          lk
          refine isi_ty (.base (.bl _)) (b := true) (by decide +kernel) ?_
          lk
          refine isi_ty (.base (.bl _)) (b := true) (by decide +kernel) ?_
          lk
          exact k _ ((Ex.new hp).trans (Ex.new hp2))
        · refine isi_tys ["list", "tuple"] upd_same (.base (.str _)) (b := false) (by decide +kernel) ?_
          lk
          refine ⟨by decide, fun p2 hp2 => ?_⟩
          refine isi_tys ["bool", "int"] upd_same (.base (.str _)) (b := false) (by decide +kernel) ?_
          lk
          refine ⟨by decide, fun p3 hp3 => ?_⟩
          refine isi_tys ["bool", "int", "list", "tuple"] upd_same (.base (.str _)) (b := false) (by decide +kernel) ?_
          refine ⟨_, _, rfl, rfl, _, rfl, iteT ?_⟩
          lk
          exact k _ (((Ex.new hp).trans (Ex.new hp2)).trans (Ex.new hp3))
      · -- what the comprehension gives, and what follows
        have fin : ∀ (Sq : Hp → Addr → List V → Prop) (H1 : Hp), Ex H H1 → (∀ H', Ex H1 H' → Sq H' a xs ∧ Sq H' b ys) →
            LcOk (ItzG Sq a b) (gTup K 2 (gCons (gName 2) (gCons (gName 3) gNil))) (tCall (spSame d) [] E0 (tCons (tVar 2) (tCons (tVar 3) tNil))) [2, 3] [some (.ref a), some (.ref b), none, none] H1 (fun x H2 => rAll K [x] H2 Q) := by
          intro Sq H1 e1 hsq
          refine lc_zip xs ys hl hl1 hsq ?_ ?_
          · intro N i u v T H2 hu hv hT e2 hN
            refine g_tup upd_same rfl ?_
            lk
            exact ⟨u, v, rfl, (hall i u v hu hv).mono (e1.trans e2), fun H3 e3 => hN _ _ e3 rfl⟩
          · intro D H2 hD e2 hDl
            refine ⟨D, List.replicate xs.length true, rfl, SqL.of hDl, ?_⟩
            rw [all_true]
            exact k _ (e1.trans e2)
        lk
        refine ⟨by decide, fun p hp => ?_⟩
        have e0 : Ex H (upd H p (.tup [V.ty "list", V.ty "tuple"])) := Ex.new hp
        rcases hab with ⟨ha, hb⟩ | ⟨ha, hb⟩
        · have ha1 := e0 _ _ ha
          have hb1 := e0 _ _ hb
          refine isi_tys ["list", "tuple"] upd_same (.base (.lst hb1)) (b := true) (by decide +kernel) ?_
          lk
          refine isi_ty (.base (.lst ha1)) (b := true) (by decide +kernel) ?_
          lk
          refine isi_ty (.base (.lst hb1)) (b := true) (by decide +kernel) ?_
          lk
          refine isi_ty (.base (.lst ha1)) (b := false) (by decide +kernel) ?_
          lk
          refine isi_ty (.base (.lst hb1)) (b := false) (by decide +kernel) ?_
          lk
          refine ⟨xs, .inl (SqL.of ha1), ys, .inl (SqL.of hb1), ?_⟩
          rw [if_pos (by rw [hl])]
          refine lc_ok ?_
          lk
          exact ⟨xs, ys, .inl ⟨SqL.of ha1, SqL.of hb1, fin (SqL K) _ e0 fun H' e => ⟨SqL.of (e _ _ ha1), SqL.of (e _ _ hb1)⟩⟩⟩
        · have ha1 := e0 _ _ ha
          have hb1 := e0 _ _ hb
          refine isi_tys ["list", "tuple"] upd_same (.base (.tup hb1)) (b := true) (by decide +kernel) ?_
          lk
          refine isi_ty (.base (.tup ha1)) (b := false) (by decide +kernel) ?_
          lk
          refine isi_ty (.base (.tup hb1)) (b := false) (by decide +kernel) ?_
          lk
          refine isi_ty (.base (.tup ha1)) (b := true) (by decide +kernel) ?_
          lk
          refine isi_ty (.base (.tup hb1)) (b := true) (by decide +kernel) ?_
          lk
          refine ⟨xs, .inr (SqT.of ha1), ys, .inr (SqT.of hb1), ?_⟩
          rw [if_pos (by rw [hl])]
          refine lc_ok ?_
          lk
          exact ⟨xs, ys, .inr ⟨SqT.of ha1, SqT.of hb1, fin (SqT K) _ e0 fun H' e => ⟨SqT.of (e _ _ ha1), SqT.of (e _ _ hb1)⟩⟩⟩
end
end K32
/-! L2: two layouts that are alike are told so. -/
namespace K32
open PySem PySem.Spec PyProof.Rows L2
/-! one look: what stands written is read -/
local macro_rules | `(tactic| lk) => `(tactic| try simp only [tCB, tCons, tNil, tC, tVar, tOp, tUn, tTest, tB, tNot, tAndV, tOrV, tNotV, tAnd, tOr, tRet, tSeq, tAsg, gName, tDrop, tNext, tIfS, tIf, tCall, tCmp, rI0, rI, rEq, rNe, tPar, tPar3, tTup, tLst,
  tDGet, tSl, tPart, tNoPart, sDPut, tDisp, tPairs, tLstRg, tRg2, tCallN, tRevL, sFld, tFld, tMeth, tProp, tMake, tBM, tBM0, tNevE, tNever, tRetN, tBreak, tCont, gCons, gNil, gSub, tAug, ipI, wipe, iList, iTup, iRng1, iRng2, iStr, iEnum, RZ.iZipA, rU,
  L2.start, List.map_cons, List.map_nil, List.length_cons, List.length_nil, Nat.reduceAdd, Nat.reduceSub, List.replicate_succ, List.replicate_zero, List.cons_append, List.nil_append, List.append_nil,
  List.getElem?_cons_zero, List.getElem?_cons_succ, List.set_cons_zero, List.set_cons_succ, List.cons.injEq, Option.some.injEq, V.int.injEq, V.bl.injEq, V.str.injEq, V.ref.injEq, exists_eq_left', exists_eq_left, exists_eq', exists_and_left, and_assoc, true_and, and_true,
  if_true, Bool.false_eq_true, if_false, sc_ii, sc_ss, sc_ni, sc_in, sc_sn, sc_ns, sc_bb, eq_self, decide_eq_true_eq, Bool.not_eq_true', decide_eq_false_iff_not, ite_not, ne_ia', ne_ai', Int.reduceEq, Int.reduceLT, Int.reduceLE, reduceCtorEq, decide_true, decide_false, Bool.not_true, Bool.not_false, cxK, oV_n, oV_s, cast_lit])
def Ent.view (e : Ent) : List V × Int × Int × Bool := (e.path, e.off, e.nb, e.s)
structure Alike (A B : Lay) : Prop where
  ext : A.ext = B.ext
  step : A.step = B.step
  order : A.order = B.order
  ents : A.ents.map Ent.view = B.ents.map Ent.view
theorem SameAt.up {H : Hp} : ∀ {d : Nat} {x y : V}, SameAt d H x y → SameAt (d + 1) H x y
  | 0, _, _, h => h.elim
  | d + 1, x, y, h => by
    rcases h with h | ⟨a, b, xs, ys, h1, h2, h3, h4, h5, h6⟩
    · exact .inl h
    · exact .inr ⟨a, b, xs, ys, h1, h2, h3, h4, h5, fun i u v hu hv => SameAt.up (h6 i u v hu hv)⟩
def scalV (v : V) : Prop := (∃ i, v = .int i) ∨ (∃ b, v = .bl b) ∨ ∃ z, v = .str z
theorem kd_scal : ∀ {k : Kd} {e : Ent}, e ∈ k.ents → ∀ v ∈ e.path, scalV v
  | .int n s, e, h, v, hv => by
    rw [List.mem_singleton.mp h] at hv
    cases hv
  | .arr k m, e, h, v, hv => by
    obtain ⟨i, _, h2⟩ := List.mem_flatMap.mp h
    obtain ⟨e0, he0, rfl⟩ := List.mem_map.mp h2
    rcases List.mem_cons.mp hv with rfl | hv
    · exact .inl ⟨_, rfl⟩
    · exact kd_scal (k := k) he0 v hv
theorem lay_scal {L : Lay} {e : Ent} (h : e ∈ L.ents) : ∀ v ∈ e.path, scalV v := by
  obtain ⟨j, m, p, _, _, he⟩ := L.ents_mem h
  unfold Mem.ents at he
  split at he
  · obtain ⟨e0, he0, rfl⟩ := List.mem_map.mp he
    intro v hv
    rcases List.mem_cons.mp hv with rfl | hv
    · exact .inr (.inr ⟨_, rfl⟩)
    · exact kd_scal he0 v hv
  · rw [List.mem_singleton.mp he]
    intro v hv
    exact .inr (.inr ⟨_, List.mem_singleton.mp hv⟩)
theorem lay_short {L : Lay} (hok : L.ok) {e : Ent} (h : e ∈ L.ents) : e.path.length ≤ 4 := by
  obtain ⟨j, m, p, hj, _, he⟩ := L.ents_mem h
  unfold Mem.ents at he
  split at he
  · obtain ⟨e0, he0, rfl⟩ := List.mem_map.mp he
    have := path_short (q := e0.path) (hok.oks m (List.mem_of_getElem? hj)).2.1 (List.mem_map.mpr ⟨e0, he0, rfl⟩)
    show e0.path.length + 1 ≤ 4
    omega
  · rw [List.mem_singleton.mp he]
    show 1 ≤ 4
    decide
theorem same_scal {d : Nat} {H : Hp} {v : V} (h : scalV v) : SameAt (d + 1) H v v := .inl ⟨rfl, h⟩
/-- two tuples of the same scalars -/
theorem same_tup {d : Nat} {H : Hp} {x y : V} {q : List V} (hx : TupAt H x q) (hy : TupAt H y q) (hl : q.length ≤ 1000) (hs : ∀ v ∈ q, scalV v) : SameAt (d + 2) H x y := by
  obtain ⟨a, rfl, ha⟩ := hx
  obtain ⟨b, rfl, hb⟩ := hy
  refine .inr ⟨a, b, q, q, rfl, rfl, .inr ⟨ha, hb⟩, rfl, hl, fun i u v hu hv => ?_⟩
  rw [hu] at hv
  cases hv
  exact same_scal (hs u (List.mem_of_getElem? hu))
theorem same_paths {d : Nat} {H : Hp} {x y : V} {ps : List (List V)} (hx : PathsAt H x ps) (hy : PathsAt H y ps) (hl : ps.length ≤ 1000) (hq : ∀ q ∈ ps, q.length ≤ 1000 ∧ ∀ v ∈ q, scalV v) : SameAt (d + 3) H x y := by
  obtain ⟨a, us, rfl, ha, hal⟩ := hx
  obtain ⟨b, vs, rfl, hb, hbl⟩ := hy
  refine .inr ⟨a, b, us, vs, rfl, rfl, .inl ⟨ha, hb⟩, hal.1.trans hbl.1.symm, hal.1 ▸ hl, fun i u v hu hv => ?_⟩
  obtain ⟨q, hq1, hT⟩ := hal.at hu
  have hT2 := hbl.2 i v q hv hq1
  have hq2 := hq q (List.mem_of_getElem? hq1)
  exact same_tup hT hT2 hq2.1 hq2.2
theorem bools_ofb {b : Bool} {ys : List V} (h : ∀ (i : Nat) y, ys[i]? = some y → y = V.bl b) : ys = (List.replicate ys.length b).map V.bl := by
  apply List.ext_getElem?
  intro i
  rw [List.getElem?_map]
  rcases Nat.lt_or_ge i ys.length with hi | hi
  · rw [List.getElem?_eq_getElem hi, List.getElem?_replicate, if_pos hi]
    exact congrArg some (h i ys[i] (List.getElem?_eq_getElem hi))
  · rw [List.getElem?_eq_none hi, List.getElem?_replicate, if_neg (by omega)]
    rfl
theorem any_false (n : Nat) : (List.replicate n false).any id = false := by
  rw [List.any_eq_false]
  intro b hb
  rw [(List.mem_replicate.mp hb).2]
  decide
/-- a comprehension over paths whose items are all the same truth value -/
theorem lc_paths {K : PySem.W.Frag} {te : TE} {s : Nat} {σ : L2.St} {H : Hp} {Q : VK} {a : Addr} {ps : List (List V)} (b : Bool) (hps : PathsAt H (.ref a) ps) (hn : ps.length ≤ 1000) (hw : ∀ v, wipe ((wipe σ [s]).set s (some v)) [s] = wipe σ [s])
    (hte : ∀ (N : VK) (i : Nat) (v : V) (q : List V) (H1 : Hp), ps[i]? = some q → Ex H H1 → TupAt H1 v q → (∀ y H2, Ex H1 H2 → y = .bl b → N y H2) → te ((wipe σ [s]).set s (some v)) H1 N)
    (hQ : ∀ D H', Ex H H' → H' D = some (.lst ((List.replicate ps.length b).map V.bl)) → Q (.ref D) H') : LcOk (Itl K a) (gName s) te [s] σ H Q := by
  obtain ⟨a', vs, ea, hvs, hal⟩ := hps
  cases ea
  refine LcOk.ex ps.length (by omega) (fun _ y _ => y = .bl b) (fun _ _ _ _ _ h => h) ?_ ?_ ?_ ?_ ?_
  · intro i H1 hi e
    have hi2 : i < vs.length := hal.1.symm ▸ hi
    exact ⟨vs, vs[i], SqL.of (e _ _ hvs), List.getElem?_eq_getElem hi2⟩
  · intro H1 e
    exact ⟨vs, SqL.of (e _ _ hvs), Nat.le_of_eq hal.1⟩
  · rintro i H1 v H2 hi e ⟨rfl, _⟩
    exact Ex.refl _
  · rintro N i H1 v H2 hi e ⟨rfl, hv⟩ e2 hN
    obtain ⟨q, hq, hT⟩ := hal.at (hv vs (SqL.of (e _ _ hvs)))
    exact ⟨hw v, hte N i v q _ hq e (hT.mono e) hN⟩
  · intro D ys H' hD e hys hl hy
    have h2 := bools_ofb hy
    rw [hl] at h2
    rw [h2] at hys
    exact hQ D H' e hys
section
variable {P : Program} {w : World} {K : PySem.W.Frag} {mg : Str → Option Value} {base : Heap}
abbrev spAlike (K : PySem.W.Frag) : Sp := fun vs H Q _ => ∃ x y oc A B, vs = [x, y, .bl oc] ∧ LayAt K H x A ∧ LayAt K H y B ∧ A.ok ∧ B.ok ∧ Alike A B ∧ (oc = true → (∀ e ∈ A.ents, e.bt = none) ∧ ∀ e ∈ B.ents, e.bt = none) ∧ ∀ H', Ex H H' → Q (.bl true) H'
abbrev s_law_are_alike : Stmt := top 80
abbrev N_law_are_alike : List Str := ["_law_one", "_law_two", "_law_octets", "_law_path"]
abbrev P_law_are_alike : List Str := ["_law_one", "_law_two", "_law_octets"]
theorem sc_law_are_alike : FnScope N_law_are_alike P_law_are_alike (defScope s_law_are_alike) := ⟨rfl, rfl, rfl, by decide +kernel, rfl, by decide +kernel, by decide +kernel⟩
theorem bb_law_are_alike : BindsBy "_law_are_alike" s_law_are_alike P_law_are_alike := fun _ _ _ _ _ _ us hl => match us, hl with | [_, _, _], _ => rfl
theorem ok_law_are_alike (c : Ctx K mg) : Df P w K mg base "_law_are_alike" 9 P_law_are_alike (spAlike K) := by
  have D_law_same := ok_law_same (P := P) (w := w) (base := base) c 4
  have G_size := ok_size (P := P) (w := w) (base := base) c
  have G_alignment := ok_alignment (P := P) (w := w) (base := base) c
  have M_paths := ok_paths (P := P) (w := w) (base := base) c
  have M_berth := ok_berth (P := P) (w := w) (base := base) c
  have M_octet_at := ok_octet_at (P := P) (w := w) (base := base) c
  refine Df.of c.h_law_are_alike sc_law_are_alike bb_law_are_alike (fun vs H Q E h => ?_) (fun f cdv A outer s H vs Q E hr h => ?_)
  · obtain ⟨x, y, oc, A, B, rfl, _⟩ := h
    rfl
  · obtain ⟨x, y, oc, LA, LB, rfl, hA, hB, okA, okB, al, hoc, k⟩ := h
    obtain ⟨a, dxa, raa, paa, rfl, ha, _⟩ := id hA
    obtain ⟨b, dxb, rab, pab, rfl, hb, _⟩ := id hB
    -- the paths of both
    have hpA : LA.ms.flatMap Mem.paths = LA.ents.map (·.path) := (Lay.ents_paths okA.len).symm
    have hpB : LB.ms.flatMap Mem.paths = LB.ents.map (·.path) := (Lay.ents_paths okB.len).symm
    have hpp : LA.ents.map (·.path) = LB.ents.map (·.path) := by
      have h1 := congrArg (List.map (fun (z : List V × Int × Int × Bool) => z.1)) al.ents
      rw [List.map_map, List.map_map] at h1
      exact h1
    have hfew : (LA.ms.flatMap Mem.paths).length ≤ 1000 := by
      have h1 := flat_few okA.oks
      have h2 := okA.few
      omega
    have hqs : ∀ q ∈ LA.ms.flatMap Mem.paths, q.length ≤ 1000 ∧ ∀ v ∈ q, scalV v := by
      intro q hq
      rw [hpA] at hq
      obtain ⟨e, he, rfl⟩ := List.mem_map.mp hq
      have := lay_short okA he
      exact ⟨by omega, lay_scal he⟩
    -- an index: its entry in both
    have hent : ∀ (i : Nat) q, (LA.ms.flatMap Mem.paths)[i]? = some q → ∃ e1 e2, e1 ∈ LA.ents ∧ e2 ∈ LB.ents ∧ e1.path = q ∧ e2.path = q ∧ e1.off = e2.off ∧ e1.nb = e2.nb ∧ e1.s = e2.s := by
      intro i q hq
      rw [hpA, List.getElem?_map] at hq
      obtain ⟨e1, he1, rfl⟩ := Option.map_eq_some_iff.mp hq
      have h1 : (LA.ents.map Ent.view)[i]? = some e1.view := by rw [List.getElem?_map, he1] <;> rfl
      rw [al.ents, List.getElem?_map] at h1
      obtain ⟨e2, he2, hv⟩ := Option.map_eq_some_iff.mp h1
      simp only [Ent.view, Prod.mk.injEq] at hv
      exact ⟨e1, e2, List.mem_of_getElem? he1, List.mem_of_getElem? he2, rfl, hv.1, hv.2.1.symm, hv.2.2.1.symm, hv.2.2.2.symm⟩
    -- 0 _law_one, 1 _law_two, 2 _law_octets, 3 _law_path
    refine ⟨_, (pss_cons (ps_if (pt_not (pt_val (pe_df D_law_same (hr.mono (by omega)) (by rfl) (pa_cons (pe_lst (pa_cons (pe_pr (pv 0) c.cl c.p_size G_size (hr.mono (by omega)) rfl) (pa_cons (pe_pr (pv 0) c.cl c.p_alignment G_alignment (hr.mono (by omega)) rfl) (pa_cons (pe_mt0 (pv 0) c.cl c.m_paths M_paths (hr.mono (by omega))) pa_nil)))) (pa_cons (pe_lst (pa_cons (pe_pr (pv 1) c.cl c.p_size G_size (hr.mono (by omega)) rfl) (pa_cons (pe_pr (pv 1) c.cl c.p_alignment G_alignment (hr.mono (by omega)) rfl) (pa_cons (pe_mt0 (pv 1) c.cl c.m_paths M_paths (hr.mono (by omega))) pa_nil)))) pa_nil))))) (pss_one (ps_ret pe_bl)) pss_nil)
        (pss_cons (ps_if (PW.pt (pw_and (pt_val (pv 2)) (pw_and1 (pt_val (pe_callB (cr_any rfl) (by rfl) c.no_any (by decide +kernel) (pa_cons (pe_lc (own := [("_law_path", 3)]) (g := gName 3) rfl sc_law_are_alike.nd (pi_list (pe_mt0 (pv 0) c.cl c.m_paths M_paths (hr.mono (by omega)))) (blkOk_by (own := [("_law_path", 3)]) (N := N_law_are_alike) (sc := defScope s_law_are_alike) (by decide +kernel)) (fun _ _ _ _ _ => (pg_name (i := 3) sc_law_are_alike.nd rfl (Or.inl rfl))) (fun _ _ _ _ _ => pts_nil) (fun _ _ _ _ _ => (pe_cmpR op_ne (pe_mt (pv 0) c.cl c.m_octet_at M_octet_at (hr.mono (by omega)) (pa_cons (pv 3) pa_nil)) (pe_mt (pv 1) c.cl c.m_octet_at M_octet_at (hr.mono (by omega)) (pa_cons (pv 3) pa_nil)) (nomark _)))) pa_nil)))))) (pss_one (ps_ret pe_bl)) pss_nil)
        (pss_one (ps_ret (pe_callB (cr_all rfl) (by rfl) c.no_all (by decide +kernel) (pa_cons (pe_lc (own := [("_law_path", 3)]) (g := gName 3) rfl sc_law_are_alike.nd (pi_list (pe_mt0 (pv 0) c.cl c.m_paths M_paths (hr.mono (by omega)))) (blkOk_by (own := [("_law_path", 3)]) (N := N_law_are_alike) (sc := defScope s_law_are_alike) (by decide +kernel)) (fun _ _ _ _ _ => (pg_name (i := 3) sc_law_are_alike.nd rfl (Or.inl rfl))) (fun _ _ _ _ _ => pts_nil) (fun _ _ _ _ _ => (pe_df D_law_same (hr.mono (by omega)) (by rfl) (pa_cons (pe_mt (pv 0) c.cl c.m_berth M_berth (hr.mono (by omega)) (pa_cons (pv 3) pa_nil)) (pa_cons (pe_mt (pv 1) c.cl c.m_berth M_berth (hr.mono (by omega)) (pa_cons (pv 3) pa_nil)) pa_nil))))) pa_nil)))))), ?_⟩
    lk
    refine ⟨dxa, _, ha, _, _, _, _, rfl, ha, layF_extent, ?_⟩
    lk
    refine ⟨dxa, _, ha, _, _, _, _, rfl, ha, layF_step, ?_⟩
    lk
    refine ⟨dxa, _, ha, layF_no (by decide +kernel) (by decide +kernel) (by decide +kernel) (by decide +kernel) (by decide +kernel) (by decide +kernel), ?_⟩
    refine ⟨_, LA, rfl, hA, okA, fun p1 H1 hp1 e1 hps1 => ?_⟩
    lk
    refine ⟨by decide, fun l1 hl1 => ?_⟩
    have e2 := e1.trans (Ex.new (o := .lst [.int LA.ext, .int LA.step, .ref p1]) hl1)
    have hps1b := hps1.mono (Ex.new (o := .lst [.int LA.ext, .int LA.step, .ref p1]) hl1)
    have hl1b : upd H1 l1 (.lst [.int LA.ext, .int LA.step, .ref p1]) l1 = some (.lst [.int LA.ext, .int LA.step, .ref p1]) := upd_same
    generalize upd H1 l1 (.lst [.int LA.ext, .int LA.step, .ref p1]) = H2 at e2 hps1b hl1b ⊢
    have hb2 := e2 _ _ hb
    lk
    refine ⟨dxb, _, hb2, _, _, _, _, rfl, hb2, layF_extent, ?_⟩
    lk
    refine ⟨dxb, _, hb2, _, _, _, _, rfl, hb2, layF_step, ?_⟩
    lk
    refine ⟨dxb, _, hb2, layF_no (by decide +kernel) (by decide +kernel) (by decide +kernel) (by decide +kernel) (by decide +kernel) (by decide +kernel), ?_⟩
    refine ⟨_, LB, rfl, hB.mono e2, okB, fun p2 H3 hp2 e3 hps2 => ?_⟩
    lk
    refine ⟨by decide, fun l2 hl2 => ?_⟩
    have e4 := e3.trans (Ex.new (o := .lst [.int LB.ext, .int LB.step, .ref p2]) hl2)
    have hps2b := hps2.mono (Ex.new (o := .lst [.int LB.ext, .int LB.step, .ref p2]) hl2)
    have hl2b : upd H3 l2 (.lst [.int LB.ext, .int LB.step, .ref p2]) l2 = some (.lst [.int LB.ext, .int LB.step, .ref p2]) := upd_same
    generalize upd H3 l2 (.lst [.int LB.ext, .int LB.step, .ref p2]) = H4 at e4 hps2b hl2b ⊢
    have hsame : SameAt 4 H4 (.ref l1) (.ref l2) := by
      refine .inr ⟨l1, l2, _, _, rfl, rfl, .inl ⟨e4 _ _ hl1b, hl2b⟩, rfl, by simp, fun i u v hu hv => ?_⟩
      rw [hpB, ← hpp, ← hpA] at hps2b
      match i, hu, hv with
      | 0, hu, hv =>
        cases hu
        cases hv
        exact .inl ⟨by rw [al.ext], .inl ⟨_, rfl⟩⟩
      | 1, hu, hv =>
        cases hu
        cases hv
        exact .inl ⟨by rw [al.step], .inl ⟨_, rfl⟩⟩
      | 2, hu, hv =>
        cases hu
        cases hv
        exact same_paths (hps1b.mono e4) hps2b hfew hqs
    refine ⟨_, _, rfl, hsame, fun H5 e5 => ?_⟩
    have e6 : Ex H H5 := (e2.trans e4).trans e5
    -- the last row: all berths are the same
    have fin : ∀ H6, Ex H H6 → tMeth (cL K) "paths" (spAPl K) [] E0 (tVar 0) tNil [some (.ref a), some (.ref b), some (.bl oc), none] H6 (fun x H7 => ∃ p, x = .ref p ∧ (∃ xs, SqL K H7 p xs) ∧
        LcOk (Itl K p) (gName 3) (tCall (spSame 4) [] E0 (tCons (tMeth (cL K) "berth" (spBerth K) [] E0 (tVar 0) (tCons (tVar 3) tNil)) (tCons (tMeth (cL K) "berth" (spBerth K) [] E0 (tVar 1) (tCons (tVar 3) tNil)) tNil))) [3]
          [some (.ref a), some (.ref b), some (.bl oc), none] H7 (fun x H8 => rAll K [x] H8 Q)) := by
      intro H6 e7
      lk
      refine ⟨dxa, _, e7 _ _ ha, layF_no (by decide +kernel) (by decide +kernel) (by decide +kernel) (by decide +kernel) (by decide +kernel) (by decide +kernel), ?_⟩
      refine ⟨_, LA, rfl, hA.mono e7, okA, fun q H7 hq e8 hqs8 => ?_⟩
      lk
      refine ⟨(let ⟨z, us, hz, hz2, _⟩ := hqs8; ⟨us, by cases hz; exact SqL.of hz2⟩), ?_⟩
      refine lc_paths true hqs8 hfew (fun v => by lk) ?_ ?_
      · intro N i v pth H8 hi e9 hT hN
        obtain ⟨n1, n2, m1, m2, q1, q2, h1, h2, h3⟩ := hent i pth hi
        have ex8 := (e7.trans e8).trans e9
        obtain ⟨tv, rfl, htv⟩ := hT
        lk
        refine ⟨dxa, _, ex8 _ _ ha, layF_no (by decide +kernel) (by decide +kernel) (by decide +kernel) (by decide +kernel) (by decide +kernel) (by decide +kernel), ?_⟩
        refine ⟨_, tv, LA, n1, rfl, hA.mono ex8, okA, m1, q1 ▸ htv, fun bv t1 H9 e10 hb1 ht1 => ?_⟩
        lk
        refine ⟨dxb, _, e10 _ _ (ex8 _ _ hb), layF_no (by decide +kernel) (by decide +kernel) (by decide +kernel) (by decide +kernel) (by decide +kernel) (by decide +kernel), ?_⟩
        refine ⟨_, tv, LB, n2, rfl, (hB.mono ex8).mono e10, okB, m2, q2 ▸ e10 _ _ htv, fun bw t2 H10 e11 hb2 ht2 => ?_⟩
        lk
        refine ⟨_, _, rfl, ?_, fun H11 e12 => hN _ _ ((e10.trans e11).trans e12) rfl⟩
        rw [← h1, ← h2, ← al.order] at ht2
        obtain ⟨x1, rfl, hx1⟩ := hb1.mono e11
        obtain ⟨x2, rfl, hx2⟩ := hb2
        refine .inr ⟨x1, x2, _, _, rfl, rfl, .inr ⟨hx1, hx2⟩, rfl, by simp, fun j u v hu hv => ?_⟩
        match j, hu, hv with
        | 0, hu, hv =>
          cases hu
          cases hv
          refine same_tup (d := 1) (ht1.mono e11) ht2 ?_ ?_
          · rw [List.length_map]
            have heo := (LA.ents_ok okA m1)
            have hnb : n1.nb ≤ 64 := by
              have h1 := heo.1
              unfold okN at h1
              unfold Ent.nb
              split
              · omega
              · rename_i bb hb
                have := heo.2 bb hb
                omega
            unfold bitsL
            split
            · rw [List.length_map, List.length_range]
              omega
            · rw [List.length_reverse, List.length_map, List.length_range]
              omega
          · intro v hv
            obtain ⟨z, _, rfl⟩ := List.mem_map.mp hv
            exact .inl ⟨z, rfl⟩
        | 1, hu, hv =>
          cases hu
          cases hv
          exact .inl ⟨by rw [h3], .inr (.inl ⟨_, rfl⟩)⟩
      · intro D H8 e9 hD
        refine ⟨D, _, rfl, SqL.of hD, ?_⟩
        rw [all_true]
        exact k _ ((e7.trans e8).trans e9)
    cases oc with
    | false =>
      lk
      refine lc_ok ?_
      simp only [iList, cxK]
      exact fin H5 e6
    | true =>
      obtain ⟨bt1, bt2⟩ := hoc rfl
      lk
      refine lc_ok ?_
      lk
      refine ⟨dxa, _, e6 _ _ ha, layF_no (by decide +kernel) (by decide +kernel) (by decide +kernel) (by decide +kernel) (by decide +kernel) (by decide +kernel), ?_⟩
      refine ⟨_, LA, rfl, hA.mono e6, okA, fun q H7 hq e8 hqs8 => ?_⟩
      lk
      refine ⟨(let ⟨z, us, hz, hz2, _⟩ := hqs8; ⟨us, by cases hz; exact SqL.of hz2⟩), ?_⟩
      refine lc_paths false hqs8 hfew (fun v => by lk) ?_ ?_
      · intro N i v pth H8 hi e9 hT hN
        obtain ⟨n1, n2, m1, m2, q1, q2, h1, h2, h3⟩ := hent i pth hi
        have ex8 := (e6.trans e8).trans e9
        obtain ⟨tv, rfl, htv⟩ := hT
        lk
        refine ⟨dxa, _, ex8 _ _ ha, layF_no (by decide +kernel) (by decide +kernel) (by decide +kernel) (by decide +kernel) (by decide +kernel) (by decide +kernel), ?_⟩
        refine ⟨_, tv, LA, n1, rfl, hA.mono ex8, okA, m1, bt1 _ m1, q1 ▸ htv, fun H9 e10 => ?_⟩
        lk
        refine ⟨dxb, _, e10 _ _ (ex8 _ _ hb), layF_no (by decide +kernel) (by decide +kernel) (by decide +kernel) (by decide +kernel) (by decide +kernel) (by decide +kernel), ?_⟩
        refine ⟨_, tv, LB, n2, rfl, (hB.mono ex8).mono e10, okB, m2, bt2 _ m2, q2 ▸ e10 _ _ htv, fun H10 e11 => ?_⟩
        rw [h1]
        lk
        exact hN _ _ (e10.trans e11) rfl
      · intro D H8 e9 hD
        refine ⟨D, _, rfl, SqL.of hD, ?_⟩
        rw [any_false]
        lk
        refine lc_ok ?_
        simp only [iList, cxK]
        exact fin H8 ((e6.trans e8).trans e9)
end
end K32
/-! L3: the law's draws. -/
namespace K32
open PySem PySem.Spec PyProof.Rows L2
/-! one look: what stands written is read -/
local macro_rules | `(tactic| lk) => `(tactic| try simp only [tCB, tCons, tNil, tC, tVar, tOp, tUn, tTest, tB, tNot, tAndV, tOrV, tNotV, tAnd, tOr, tRet, tSeq, tAsg, gName, tDrop, tNext, tIfS, tIf, tCall, tCmp, rI0, rI, rEq, rNe, tPar, tPar3, tTup, tLst,
  tDGet, tSl, tPart, tNoPart, sDPut, tDisp, tPairs, tLstRg, tRg2, tCallN, tRevL, sFld, tFld, tMeth, tProp, tMake, tBM, tBM0, tNevE, tNever, tRetN, tBreak, tCont, gCons, gNil, gSub, tAug, ipI, wipe, iList, iTup, iRng1, iRng2, iStr, iEnum, RZ.iZipA, rU,
  L2.start, List.map_cons, List.map_nil, List.length_cons, List.length_nil, Nat.reduceAdd, Nat.reduceSub, List.replicate_succ, List.replicate_zero, List.cons_append, List.nil_append, List.append_nil,
  List.getElem?_cons_zero, List.getElem?_cons_succ, List.set_cons_zero, List.set_cons_succ, List.cons.injEq, Option.some.injEq, V.int.injEq, V.bl.injEq, V.str.injEq, V.ref.injEq, exists_eq_left', exists_eq_left, exists_eq', exists_and_left, and_assoc, true_and, and_true,
  if_true, Bool.false_eq_true, if_false, sc_ii, sc_ss, sc_ni, sc_in, sc_sn, sc_ns, sc_bb, eq_self, decide_eq_true_eq, Bool.not_eq_true', decide_eq_false_iff_not, ite_not, ne_ia', ne_ai', Int.reduceEq, Int.reduceLT, Int.reduceLE, reduceCtorEq, decide_true, decide_false, Bool.not_true, Bool.not_false, cxK, oV_n, oV_s, cast_lit])
/-! ### lists read and stored by written places -/
theorem ixl {K : PySem.W.Frag} {H : Hp} {Q : VK} {a : Addr} {xs : List V} {v : V} (j : Nat) (h : H a = some (.lst xs)) (hv : xs[j]? = some v) (q : Q v H) : rIxL K (.ref a) (.int (j : Int)) H Q := ⟨a, xs, j, v, rfl, rfl, SqL.of h, atI_nat hv, q⟩
theorem setl {H : Hp} {Q : Hp → Prop} {a : Addr} {xs : List V} {v : V} (j : Nat) (h : H a = some (.lst xs)) (hj : j < xs.length) (q : Q (upd H a (.lst (xs.set j v)))) : rSetL (.ref a) (.int (j : Int)) v H Q :=
  ⟨a, xs, j, j, rfl, rfl, h, by unfold ixN; rw [if_pos (by omega), if_pos (by omega)] <;> rfl, q⟩
theorem call_intI {X : Cx} : CallR X (.type "int") (fun xs H Q => ∃ i, xs = [.int i] ∧ Q (.int i) H) := fun pins s σ H xs us Q I r h => call_int1 pins s σ H xs us Q I r (.inl h)
/-! ### the state of the draws -/
/-- the state's list at s, the script's rest at q; n draws at most so far -/
def StAt (H : Hp) (s q : Addr) (n : Nat) : Prop := ∃ (ns : List Int) (a b d : Int), H s = some (.lst [.ref q, .int a, .int b, .int d]) ∧ H q = some (.lst (ns.map V.int)) ∧ ns.length ≤ 63 ∧ 0 ≤ a ∧ 0 ≤ b ∧ b ≤ n ∧ 0 ≤ d ∧ d < 2147483647
/-- all but the state stays -/
def Fx (s q : Addr) (H H' : Hp) : Prop := ∀ a o, H a = some o → a ≠ s → a ≠ q → H' a = some o
theorem Fx.refl {s q : Addr} {H : Hp} : Fx s q H H := fun _ _ h _ _ => h
theorem Fx.trans {s q : Addr} {H H1 H2 : Hp} (a : Fx s q H H1) (b : Fx s q H1 H2) : Fx s q H H2 := fun x o h h1 h2 => b x o (a x o h h1 h2) h1 h2
theorem Ex.fx {s q : Addr} {H H' : Hp} (e : Ex H H') : Fx s q H H' := fun a o h _ _ => e a o h
theorem Fx.upd_s {s q : Addr} {H : Hp} {o : HO} : Fx s q H (upd H s o) := fun _ _ h h1 _ => (upd_ne h1).trans h
theorem Fx.upd_q {s q : Addr} {H : Hp} {o : HO} : Fx s q H (upd H q o) := fun _ _ h _ h2 => (upd_ne h2).trans h
theorem StAt.mono {H H' : Hp} {s q : Addr} {n m : Nat} (e : Ex H H') (hn : n ≤ m) (h : StAt H s q n) : StAt H' s q m :=
  let ⟨ns, a, b, d, h1, h2, h3, h4, h5, h6, h7, h8⟩ := h
  ⟨ns, a, b, d, e _ _ h1, e _ _ h2, h3, h4, h5, by omega, h7, h8⟩
/-- what is tracked in the state's heap ahead stays tracked -/
theorem Fx.back {H H' : Hp} {s q p : Addr} {n m : Nat} (e : Fx s q H H') (h : StAt H' s q m) (hp : H' p = none) : H p = none := by
  cases h1 : H p with
  | none => rfl
  | some o =>
    obtain ⟨ns, a, b, d, hs, hq, _⟩ := h
    have n1 : p ≠ s := fun z => by
      subst z
      rw [hs] at hp
      cases hp
    have n2 : p ≠ q := fun z => by
      subst z
      rw [hq] at hp
      cases hp
    rw [e p o h1 n1 n2] at hp
    cases hp
theorem seq0 (z : V) (zs : List V) : seqIndex? 0 (z :: zs).length = some 0 := by
  obtain ⟨j, h, _, _⟩ := atI_get (show atI (z :: zs) ((0 : Nat) : Int) = some z from atI_nat rfl)
  unfold seqIndex? at h ⊢
  simp
theorem ne_sq {ns : List Int} {H : Hp} {s q : Addr} {a b d : Int} (hs : H s = some (.lst [.ref q, .int a, .int b, .int d])) (hq : H q = some (.lst (ns.map V.int))) : s ≠ q := fun e => by
  subst e
  rw [hs] at hq
  have h := HO.lst.inj (Option.some.inj hq)
  cases ns with
  | nil => cases h
  | cons n ns =>
    injection h with h1 _
    cases h1
theorem dp_ints {K : PySem.W.Frag} {H : Hp} : ∀ ns : List Int, DpAll K H (ns.map V.int) (ns.map PyData.int)
  | [] => .nil
  | n :: r => .cons (.int n) (dp_ints r)
theorem depth_ints : ∀ ns : List Int, PyData.depthAll (ns.map PyData.int) ≤ 0
  | [] => by decide
  | n :: r => by
    have := depth_ints r
    show max (PyData.depth (.int n)) (PyData.depthAll (r.map PyData.int)) ≤ 0
    have h0 : PyData.depth (.int n) = 0 := rfl
    omega
def DrawI (s q : Addr) (m : Int) (n : Nat) (H : Hp) (μ : Nat) (σ : L2.St) (H' : Hp) : Prop := σ = [some (.ref s), some (.int m), none, none, none] ∧ Fx s q H H' ∧
  ∃ (ns : List Int) (a b d : Int), H' s = some (.lst [.ref q, .int a, .int b, .int d]) ∧ H' q = some (.lst (ns.map V.int)) ∧ ns.length ≤ 63 ∧ 0 ≤ a ∧ 0 ≤ b ∧ b ≤ n ∧ 0 ≤ d ∧ d < 2147483647 ∧ μ = ns.length
section
variable {P : Program} {w : World} {K : PySem.W.Frag} {mg : Str → Option Value} {base : Heap}
abbrev spDraw : Sp := fun vs H Q _ => ∃ (s q : Addr) (m : Int) (n : Nat), vs = [.ref s, .int m] ∧ StAt H s q n ∧ n ≤ 5000 ∧ 0 < m ∧ m < 1000000 ∧ ∀ d H', 0 ≤ d → d < m → StAt H' s q (n + 1) → Fx s q H H' → Q (.int d) H'
abbrev s_law_draw : Stmt := top 60
abbrev N_law_draw : List Str := ["_law_s", "_law_many", "_law_mixed", "_law_last", "_law_digit"]
abbrev P_law_draw : List Str := ["_law_s", "_law_many"]
theorem sc_law_draw : FnScope N_law_draw P_law_draw (defScope s_law_draw) := ⟨rfl, rfl, rfl, by decide +kernel, rfl, by decide +kernel, by decide +kernel⟩
theorem bb_law_draw : BindsBy "_law_draw" s_law_draw P_law_draw := fun _ _ _ _ _ _ us hl => match us, hl with | [_, _], _ => rfl
theorem ok_law_draw (c : Ctx K mg) : Df P w K mg base "_law_draw" 1 P_law_draw spDraw := by
  refine Df.of c.h_law_draw sc_law_draw bb_law_draw (fun vs H Q E h => ?_) (fun f cdv A outer s H vs Q E hr h => ?_)
  · obtain ⟨s, q, m, n, rfl, _⟩ := h
    rfl
  · obtain ⟨s, q, m, n, rfl, hst, hn, hm0, hm1, k⟩ := h
    -- 0 _law_s, 1 _law_many, 2 _law_mixed, 3 _law_last, 4 _law_digit
    refine ⟨_, (pss_cutS (ps_while PassesOwn.never (PW.pt (pw_and (pt_cmpR op_eq (pe_ix ix_list (pv 0) pe_int (fun _ _ => rfl)) pe_int (nomark _)) (pw_and1 (pt_cmpR (op_neD hr.units) (pe_ix ix_list (pv 0) pe_int (fun _ _ => rfl)) (pe_lst pa_nil) (nomark _))))) (pss_cons (ps_asg (pe_bm PySem.F.plainAttrs_list PySem.F.slot_list_pop PySem.F.type_list_pop mt_popAt (pe_ix ix_list (pv 0) pe_int (fun _ _ => rfl)) (pa_cons pe_int pa_nil)) (pg_sub (pv 0) pe_int set_list))
        (pss_one (ps_if (pt_cmpR op_lt (pe_ix ix_list (pv 0) pe_int (fun _ _ => rfl)) (pe_op op_pow pe_int pe_int) (nomark _)) (pss_cons (ps_asg (pe_op op_mod (pe_callTy call_intI (by rfl) c.no_int (by decide +kernel) (pa_cons (pe_op op_add (pe_op op_add (pe_op op_mul (pe_ix ix_list (pv 0) pe_int (fun _ _ => rfl)) pe_int) (pe_ix ix_list (pv 0) pe_int (fun _ _ => rfl))) pe_int) pa_nil)) pe_int) (pg_sub (pv 0) pe_int set_list))
        (pss_one (ps_asg pe_int (pg_sub (pv 0) pe_int set_list)))) pss_nil))))
        (pss_cons (ps_if (pt_cmpR op_gt (pe_ix ix_list (pv 0) pe_int (fun _ _ => rfl)) pe_int (nomark _)) (pss_cons (ps_set (i := 4) sc_law_draw.nd rfl (Or.inl rfl) (pe_op op_mod (pe_callTy call_intI (by rfl) c.no_int (by decide +kernel) (pa_cons (pe_ix ix_list (pv 0) pe_int (fun _ _ => rfl)) pa_nil)) (pv 1)))
        (pss_cons (ps_asg (pe_op op_fdiv (pe_ix ix_list (pv 0) pe_int (fun _ _ => rfl)) (pv 1)) (pg_sub (pv 0) pe_int set_list))
        (pss_one (ps_ret (pv 4))))) pss_nil)
        (pss_cons (ps_asg (pe_op op_add (pe_ix ix_list (pv 0) pe_int (fun _ _ => rfl)) pe_int) (pg_sub (pv 0) pe_int set_list))
        (pss_cons (ps_set (i := 2) sc_law_draw.nd rfl (Or.inl rfl) (pe_op op_mod (pe_callTy call_intI (by rfl) c.no_int (by decide +kernel) (pa_cons (pe_op op_pow (pe_op op_add (pe_op op_add (pe_ix ix_list (pv 0) pe_int (fun _ _ => rfl)) (pe_op op_mul pe_int (pe_ix ix_list (pv 0) pe_int (fun _ _ => rfl)))) pe_int) pe_int) pa_nil)) pe_int))
        (pss_cons (ps_set (i := 3) sc_law_draw.nd rfl (Or.inl rfl) (pe_op op_mod (pe_callTy call_intI (by rfl) c.no_int (by decide +kernel) (pa_cons (pe_op op_pow (pe_op op_add (pe_op op_add (pe_op op_mul (pv 2) pe_int) (pe_op op_mul (pe_op op_mul pe_int (pe_ix ix_list (pv 0) pe_int (fun _ _ => rfl))) (pe_ix ix_list (pv 0) pe_int (fun _ _ => rfl)))) pe_int) pe_int) pa_nil)) pe_int))
        (pss_one (ps_ret (pe_op op_mod (pe_callTy call_intI (by rfl) c.no_int (by decide +kernel) (pa_cons (pv 3) pa_nil)) (pv 1))))))))), ?_⟩
    obtain ⟨ns, a, b, d, hs, hq, hl, ha, hb0, hb1, hd0, hd1⟩ := hst
    have hsq := ne_sq hs hq
    refine ⟨fun σ H' => ∃ μ, DrawI s q m n H μ σ H', ?_, ?_⟩
    · refine ⟨DrawI s q m n H, ⟨_, rfl, Fx.refl, ns, a, b, d, hs, hq, hl, ha, hb0, hb1, hd0, hd1, rfl⟩, ?_⟩
      rintro μ σ H1 ⟨rfl, hf, ns, a, b, d, hs1, hq1, hl, ha, hb0, hb1, hd0, hd1, rfl⟩
      lk
      refine ixl 1 hs1 rfl ?_
      lk
      by_cases h0 : a = 0
      · subst h0
        rw [if_pos rfl]
        refine ixl 0 hs1 rfl ?_
        lk
        refine ⟨by decide, fun p hp => ?_⟩
        have e1 : Ex H1 (upd H1 p (.lst [])) := Ex.new hp
        have hp1 : upd H1 p (.lst []) p = some (.lst []) := upd_same
        generalize upd H1 p (.lst []) = H2 at e1 hp1 ⊢
        have hs2 := e1 _ _ hs1
        have hq2 := e1 _ _ hq1
        have hf2 := hf.trans e1.fx
        refine ⟨.list (ns.map PyData.int), .list [], .lst (SqL.of hq2) (dp_ints ns), .lst (SqL.of hp1) .nil, PySem.W.ke_shaped_ints ns, PySem.W.ke_shaped_ints [], ?_⟩
        cases ns with
        | nil =>
          refine ⟨_, rfl, iteF ?_⟩
          exact ⟨_, rfl, hf2, [], 0, b, d, hs2, hq2, hl, ha, hb0, hb1, hd0, hd1, rfl⟩
        | cons z zs =>
          refine ⟨_, rfl, iteT ?_⟩
          refine ⟨DrawI s q m n H zs.length, fun σ' H' h => ⟨_, Nat.lt_succ_self _, h⟩, ?_⟩
          lk
          refine ixl 0 hs2 rfl ?_
          lk
          refine ⟨.inl ⟨rfl, _, SqL.of hq2⟩, q, _, 0, 0, _, rfl, rfl, hq2, by decide, by decide, seq0 _ _, rfl, ?_⟩
          lk
          have hs3 : upd H2 q (.lst ((V.int z :: zs.map V.int).eraseIdx 0)) s = some (.lst [.ref q, .int 0, .int b, .int d]) := (upd_ne hsq).trans hs2
          have hq3 : upd H2 q (.lst ((V.int z :: zs.map V.int).eraseIdx 0)) q = some (.lst (zs.map V.int)) := upd_same
          have hf3 := hf2.trans (Fx.upd_q (s := s) (q := q) (H := H2) (o := .lst ((V.int z :: zs.map V.int).eraseIdx 0)))
          have hl3 : zs.length ≤ 63 := Nat.le_of_succ_le hl
          generalize upd H2 q (.lst ((V.int z :: zs.map V.int).eraseIdx 0)) = H3 at hs3 hq3 hf3 ⊢
          refine setl 1 hs3 (by simp) ?_
          have hs4 : upd H3 s (.lst ([V.ref q, V.int 0, V.int b, V.int d].set 1 (V.int z))) s = some (.lst [.ref q, .int z, .int b, .int d]) := upd_same
          have hq4 : upd H3 s (.lst ([V.ref q, V.int 0, V.int b, V.int d].set 1 (V.int z))) q = some (.lst (zs.map V.int)) := (upd_ne (Ne.symm hsq)).trans hq3
          have hf4 := hf3.trans (Fx.upd_s (s := s) (q := q) (H := H3) (o := .lst ([V.ref q, V.int 0, V.int b, V.int d].set 1 (V.int z))))
          generalize upd H3 s (.lst ([V.ref q, V.int 0, V.int b, V.int d].set 1 (V.int z))) = H4 at hs4 hq4 hf4 ⊢
          lk
          refine ixl 1 hs4 rfl ?_
          lk
          refine ⟨⟨by decide, by decide, by decide⟩, ?_⟩
          by_cases hz : z < 10 ^ Int.toNat 18
          · rw [if_pos hz]
            refine ixl 3 hs4 rfl ?_
            lk
            refine ⟨.inr ⟨by decide, by decide⟩, ?_⟩
            refine ixl 1 hs4 rfl ?_
            lk
            have hm2 := Int.emod_nonneg (d * 31 + z + 7) (by decide : (2147483647 : Int) ≠ 0)
            have hm3 := Int.emod_lt_of_pos (d * 31 + z + 7) (by decide : (0 : Int) < 2147483647)
            generalize (d * 31 + z + 7) % 2147483647 = d5 at hm2 hm3 ⊢
            refine setl 3 hs4 (by simp) ?_
            lk
            have hs5 : upd H4 s (.lst [V.ref q, V.int z, V.int b, V.int d5]) s = some (.lst [.ref q, .int z, .int b, .int d5]) := upd_same
            have hq5 : upd H4 s (.lst [V.ref q, V.int z, V.int b, V.int d5]) q = some (.lst (zs.map V.int)) := (upd_ne (Ne.symm hsq)).trans hq4
            have hf5 := hf4.trans (Fx.upd_s (s := s) (q := q) (H := H4) (o := .lst [V.ref q, V.int z, V.int b, V.int d5]))
            generalize upd H4 s (.lst [V.ref q, V.int z, V.int b, V.int d5]) = H5 at hs5 hq5 hf5 ⊢
            refine setl 1 hs5 (by simp) ?_
            lk
            exact ⟨rfl, hf5.trans Fx.upd_s, zs, 0, b, d5, upd_same, (upd_ne (Ne.symm hsq)).trans hq5, hl3, by decide, hb0, hb1, hm2, hm3, rfl⟩
          · rw [if_neg hz]
            exact ⟨rfl, hf4, zs, z, b, d, hs4, hq4, hl3, by
              have : (10 : Int) ^ Int.toNat 18 = 1000000000000000000 := by decide
              omega, hb0, hb1, hd0, hd1, rfl⟩
      · rw [if_neg h0]
        exact ⟨_, rfl, hf, ns, a, b, d, hs1, hq1, hl, ha, hb0, hb1, hd0, hd1, rfl⟩
    · rintro σ H1 ⟨μ, rfl, hf, ns, a, b, d, hs1, hq1, hl, ha, hb0, hb1, hd0, hd1, rfl⟩
      lk
      refine ixl 1 hs1 rfl ?_
      lk
      by_cases ha2 : 0 < a
      · rw [if_pos ha2]
        refine ixl 1 hs1 rfl ?_
        lk
        refine ⟨hm0, ?_⟩
        refine ixl 1 hs1 rfl ?_
        lk
        refine ⟨⟨hm0, by omega⟩, ?_⟩
        refine setl 1 hs1 (by simp) ?_
        refine k _ _ (Int.emod_nonneg _ (by omega)) (Int.emod_lt_of_pos _ hm0) ⟨ns, a / m, b, d, upd_same, (upd_ne (Ne.symm hsq)).trans hq1, hl, Int.ediv_nonneg ha (by omega), hb0, by omega, hd0, hd1⟩ (hf.trans Fx.upd_s)
      · rw [if_neg ha2]
        refine ixl 2 hs1 rfl ?_
        lk
        refine setl 2 hs1 (by simp) ?_
        lk
        have hs2 : upd H1 s (.lst [V.ref q, V.int a, V.int (b + 1), V.int d]) s = some (.lst [.ref q, .int a, .int (b + 1), .int d]) := upd_same
        have hq2 : upd H1 s (.lst [V.ref q, V.int a, V.int (b + 1), V.int d]) q = some (.lst (ns.map V.int)) := (upd_ne (Ne.symm hsq)).trans hq1
        have hf2 := hf.trans (Fx.upd_s (s := s) (q := q) (H := H1) (o := .lst [V.ref q, V.int a, V.int (b + 1), V.int d]))
        generalize upd H1 s (.lst [V.ref q, V.int a, V.int (b + 1), V.int d]) = H2 at hs2 hq2 hf2 ⊢
        refine ixl 3 hs2 rfl ?_
        lk
        refine ixl 2 hs2 rfl ?_
        lk
        refine ⟨.inl ⟨by decide, by decide⟩, ⟨by decide, by decide, by omega⟩, ?_⟩
        have hx0 := Int.emod_nonneg ((d + 104729 * (b + 1) + 17) ^ Int.toNat 5) (by decide : (2147483629 : Int) ≠ 0)
        have hx1 := Int.emod_lt_of_pos ((d + 104729 * (b + 1) + 17) ^ Int.toNat 5) (by decide : (0 : Int) < 2147483629)
        generalize (d + 104729 * (b + 1) + 17) ^ Int.toNat 5 % 2147483629 = x at hx0 hx1 ⊢
        refine ⟨.inr ⟨by decide, by decide⟩, ?_⟩
        refine ixl 2 hs2 rfl ?_
        lk
        refine ⟨.inl ⟨by decide, by decide⟩, ?_⟩
        refine ixl 2 hs2 rfl ?_
        lk
        have hbb : (b + 1) * (b + 1) ≤ 5001 * 5001 := Int.mul_le_mul (by omega) (by omega) (by omega) (by decide)
        have hbb0 : 0 ≤ (b + 1) * (b + 1) := Int.mul_nonneg (by omega) (by omega)
        have hass : 40503 * (b + 1) * (b + 1) = 40503 * ((b + 1) * (b + 1)) := Int.mul_assoc _ _ _
        refine ⟨.inr ⟨by omega, by omega⟩, ⟨by decide, by decide, by rw [hass]; omega⟩, hm0, ?_⟩
        exact k _ _ (Int.emod_nonneg _ (by omega)) (Int.emod_lt_of_pos _ hm0) ⟨ns, a, b + 1, d, hs2, hq2, hl, ha, by omega, by omega, hd0, hd1⟩ hf2
end
end K32
/-! L4: what is drawn: a pick, a kind, a member. -/
namespace K32
open PySem PySem.Spec PyProof.Rows L2
/-! one look: what stands written is read -/
local macro_rules | `(tactic| lk) => `(tactic| try simp only [tCB, tCons, tNil, tC, tVar, tOp, tUn, tTest, tB, tNot, tAndV, tOrV, tNotV, tAnd, tOr, tRet, tSeq, tAsg, gName, tDrop, tNext, tIfS, tIf, tCall, tCmp, rI0, rI, rEq, rNe, tPar, tPar3, tTup, tLst,
  tDGet, tSl, tPart, tNoPart, sDPut, tDisp, tPairs, tLstRg, tRg2, tCallN, tRevL, sFld, tFld, tMeth, tProp, tMake, tBM, tBM0, tNevE, tNever, tRetN, tBreak, tCont, gCons, gNil, gSub, tAug, ipI, wipe, iList, iTup, iRng1, iRng2, iStr, iEnum, RZ.iZipA, rU,
  L2.start, List.map_cons, List.map_nil, List.length_cons, List.length_nil, Nat.reduceAdd, Nat.reduceSub, List.replicate_succ, List.replicate_zero, List.cons_append, List.nil_append, List.append_nil,
  List.getElem?_cons_zero, List.getElem?_cons_succ, List.set_cons_zero, List.set_cons_succ, List.cons.injEq, Option.some.injEq, V.int.injEq, V.bl.injEq, V.str.injEq, V.ref.injEq, exists_eq_left', exists_eq_left, exists_eq', exists_and_left, and_assoc, true_and, and_true,
  if_true, Bool.false_eq_true, if_false, sc_ii, sc_ss, sc_ni, sc_in, sc_sn, sc_ns, sc_bb, eq_self, decide_eq_true_eq, Bool.not_eq_true', decide_eq_false_iff_not, ite_not, ne_ia', ne_ai', Int.reduceEq, Int.reduceLT, Int.reduceLE, reduceCtorEq, decide_true, decide_false, Bool.not_true, Bool.not_false, cxK, oV_n, oV_s, cast_lit])
theorem StAt.s {H : Hp} {s q : Addr} {n : Nat} (h : StAt H s q n) : ∃ xs, H s = some (.lst xs) := let ⟨_, _, _, _, h, _⟩ := h; ⟨_, h⟩
theorem StAt.q {H : Hp} {s q : Addr} {n : Nat} (h : StAt H s q n) : ∃ xs, H q = some (.lst xs) := let ⟨_, _, _, _, _, h, _⟩ := h; ⟨_, h⟩
theorem Fx.t {H H' : Hp} {s q : Addr} {n : Nat} (f : Fx s q H H') (h : StAt H s q n) : ExT H H' := fun a o ha hn => by
  obtain ⟨xs, h1⟩ := h.s
  obtain ⟨ys, h2⟩ := h.q
  refine f a o ha (fun e => ?_) (fun e => ?_)
  · subst e
    rw [h1] at ha
    exact hn xs (Option.some.inj ha).symm
  · subst e
    rw [h2] at ha
    exact hn ys (Option.some.inj ha).symm
/-- a new object is none of the state's -/
theorem StAt.fresh {H : Hp} {s q p : Addr} {n : Nat} (h : StAt H s q n) (hp : H p = none) : p ≠ s ∧ p ≠ q := by
  obtain ⟨xs, h1⟩ := h.s
  obtain ⟨ys, h2⟩ := h.q
  refine ⟨fun e => ?_, fun e => ?_⟩
  · subst e
    rw [h1] at hp
    cases hp
  · subst e
    rw [h2] at hp
    cases hp
theorem ixd {K : PySem.W.Frag} {H : Hp} {Q : VK} {a : Addr} {xs : List V} {d : Int} (h : H a = some (.lst xs)) (h0 : 0 ≤ d) (h1 : d < xs.length) (q : ∀ x ∈ xs, Q x H) : rIxL K (.ref a) (.int d) H Q := by
  have e : d = (d.toNat : Int) := by omega
  have hl : d.toNat < xs.length := by omega
  rw [e]
  exact ixl d.toNat h (List.getElem?_eq_getElem hl) (q _ (List.getElem_mem hl))
theorem ne_if : ¬ (("int" : Str) = "field") := by decide +kernel
theorem ne_ir : ¬ (("int" : Str) = "room") := by decide +kernel
theorem ne_iz : ¬ (("int" : Str) = "zero") := by decide +kernel
theorem ne_af : ¬ (("array" : Str) = "field") := by decide +kernel
theorem ne_ar : ¬ (("array" : Str) = "room") := by decide +kernel
theorem ne_az : ¬ (("array" : Str) = "zero") := by decide +kernel
section
variable {P : Program} {w : World} {K : PySem.W.Frag} {mg : Str → Option Value} {base : Heap}
abbrev spPick : Sp := fun vs H Q _ => ∃ (s q a : Addr) (n : Nat) (xs : List V), vs = [.ref s, .ref a] ∧ StAt H s q n ∧ n ≤ 5000 ∧ H a = some (.lst xs) ∧ a ≠ s ∧ a ≠ q ∧ 0 < xs.length ∧ xs.length < 1000 ∧
  ∀ x H', x ∈ xs → StAt H' s q (n + 1) → Fx s q H H' → Q x H'
abbrev s_law_pick : Stmt := top 61
abbrev N_law_pick : List Str := ["_law_s", "_law_some"]
abbrev P_law_pick : List Str := ["_law_s", "_law_some"]
theorem sc_law_pick : FnScope N_law_pick P_law_pick (defScope s_law_pick) := ⟨rfl, rfl, rfl, by decide +kernel, rfl, by decide +kernel, by decide +kernel⟩
theorem bb_law_pick : BindsBy "_law_pick" s_law_pick P_law_pick := fun _ _ _ _ _ _ us hl => match us, hl with | [_, _], _ => rfl
theorem ok_law_pick (c : Ctx K mg) : Df P w K mg base "_law_pick" 2 P_law_pick spPick := by
  have D_law_draw := ok_law_draw (P := P) (w := w) (base := base) c
  refine Df.of c.h_law_pick sc_law_pick bb_law_pick (fun vs H Q E h => ?_) (fun f cdv A outer s H vs Q E hr h => ?_)
  · obtain ⟨s, q, a, n, xs, rfl, _⟩ := h
    rfl
  · obtain ⟨s, q, a, n, xs, rfl, hst, hn, ha, h1, h2, hl0, hl1, k⟩ := h
    -- 0 _law_s, 1 _law_some
    refine ⟨_, (pss_one (ps_ret (pe_ix ix_list (pv 1) (pe_df D_law_draw (hr.mono (by omega)) (by rfl) (pa_cons (pv 0) (pa_cons (pe_callB call_len_seq (by rfl) c.no_len PySem.boot_len (pa_cons (pv 1) pa_nil)) pa_nil))) (fun _ _ => rfl)))), ?_⟩
    lk
    refine ⟨_, .inl (SqL.of ha), ?_⟩
    refine ⟨s, q, _, n, rfl, hst, hn, by omega, by omega, fun d H1 hd0 hd1 hst1 hf => ?_⟩
    exact ixd (hf _ _ ha h1 h2) hd0 hd1 fun x hx => k x H1 hx hst1 hf
abbrev spNKd : Sp := fun vs H Q _ => ∃ (s q : Addr) (n : Nat), vs = [.ref s] ∧ StAt H s q n ∧ n ≤ 4990 ∧ ∀ v z b H', KdAt H' v (.int z b) → okN z → StAt H' s q (n + 2) → Fx s q H H' → Q v H'
abbrev s_law_number_kind : Stmt := top 63
abbrev N_law_number_kind : List Str := ["_law_s"]
abbrev P_law_number_kind : List Str := ["_law_s"]
theorem sc_law_number_kind : FnScope N_law_number_kind P_law_number_kind (defScope s_law_number_kind) := ⟨rfl, rfl, rfl, by decide +kernel, rfl, by decide +kernel, by decide +kernel⟩
theorem bb_law_number_kind : BindsBy "_law_number_kind" s_law_number_kind P_law_number_kind := fun _ _ _ _ _ _ us hl => match us, hl with | [_], _ => rfl
theorem ok_law_number_kind (c : Ctx K mg) : Df P w K mg base "_law_number_kind" 3 P_law_number_kind spNKd := by
  have D_law_draw := ok_law_draw (P := P) (w := w) (base := base) c
  have D_law_pick := ok_law_pick (P := P) (w := w) (base := base) c
  refine Df.of c.h_law_number_kind sc_law_number_kind bb_law_number_kind (fun vs H Q E h => ?_) (fun f cdv A outer s H vs Q E hr h => ?_)
  · obtain ⟨s, q, n, rfl, _⟩ := h
    rfl
  · obtain ⟨s, q, n, rfl, hst, hn, k⟩ := h
    -- 0 _law_s
    refine ⟨_, (pss_one (ps_ret (pe_tup (pa_cons pe_str (pa_cons (pe_df D_law_pick (hr.mono (by omega)) (by rfl) (pa_cons (pv 0) (pa_cons (pe_lst (pa_cons pe_int (pa_cons pe_int (pa_cons pe_int (pa_cons pe_int pa_nil))))) pa_nil))) (pa_cons (pe_cmpR op_eq (pe_df D_law_draw (hr.mono (by omega)) (by rfl) (pa_cons (pv 0) (pa_cons pe_int pa_nil))) pe_int (nomark _)) pa_nil)))))), ?_⟩
    lk
    refine ⟨by decide, fun p hp => ?_⟩
    have e1 : Ex H (upd H p (.lst [.int 1, .int 2, .int 4, .int 8])) := Ex.new hp
    have hst1 : StAt (upd H p (.lst [.int 1, .int 2, .int 4, .int 8])) s q n := hst.mono e1 (Nat.le_refl _)
    have hfr := hst.fresh hp
    refine ⟨s, q, p, n, _, rfl, hst1, by omega, upd_same, hfr.1, hfr.2, by simp, by simp, fun x H2 hx hst2 hf2 => ?_⟩
    lk
    refine ⟨s, q, _, n + 1, rfl, hst2, by omega, by omega, by omega, fun d H3 hd0 hd1 hst3 hf3 => ?_⟩
    lk
    refine ⟨by decide, fun t ht => ?_⟩
    have hx2 : ∃ z, x = .int z ∧ okN z := by
      unfold okN
      simp only [List.mem_cons, List.not_mem_nil, or_false] at hx
      rcases hx with rfl | rfl | rfl | rfl
      · exact ⟨1, rfl, by decide⟩
      · exact ⟨2, rfl, by decide⟩
      · exact ⟨4, rfl, by decide⟩
      · exact ⟨8, rfl, by decide⟩
    obtain ⟨z, rfl, hz⟩ := hx2
    exact k _ z _ _ ⟨t, rfl, upd_same⟩ hz (hst3.mono (Ex.new ht) (by omega)) (((e1.fx.trans hf2).trans hf3).trans (Ex.new ht).fx)
abbrev spMem : Sp := fun vs H Q _ => ∃ (s q : Addr) (n : Nat) (wd nm : Str), vs = [.ref s, .str wd, .str nm] ∧ (wd = "int" ∨ wd = "array") ∧ StAt H s q n ∧ n ≤ 4980 ∧
  ∀ v kd H', RowAt H' v ⟨nm, kd, none⟩ → kd.ok 3 → StAt H' s q (n + 6) → Fx s q H H' → Q v H'
abbrev s_law_member : Stmt := top 65
abbrev N_law_member : List Str := ["_law_s", "_law_word", "_law_name", "_law_kind"]
abbrev P_law_member : List Str := ["_law_s", "_law_word", "_law_name"]
theorem sc_law_member : FnScope N_law_member P_law_member (defScope s_law_member) := ⟨rfl, rfl, rfl, by decide +kernel, rfl, by decide +kernel, by decide +kernel⟩
theorem bb_law_member : BindsBy "_law_member" s_law_member P_law_member := fun _ _ _ _ _ _ us hl => match us, hl with | [_, _, _], _ => rfl
theorem ok_law_member (c : Ctx K mg) : Df P w K mg base "_law_member" 4 P_law_member spMem := by
  have D_law_draw := ok_law_draw (P := P) (w := w) (base := base) c
  have D_law_number_kind := ok_law_number_kind (P := P) (w := w) (base := base) c
  refine Df.of c.h_law_member sc_law_member bb_law_member (fun vs H Q E h => ?_) (fun f cdv A outer s H vs Q E hr h => ?_)
  · obtain ⟨s, q, n, wd, nm, rfl, _⟩ := h
    rfl
  · obtain ⟨s, q, n, wd, nm, rfl, hwd, hst, hn, k⟩ := h
    -- 0 _law_s, 1 _law_word, 2 _law_name, 3 _law_kind
    refine ⟨_, (pss_cons (ps_if (pt_cmpR op_eq (pv 1) pe_str (nomark _)) (pss_one (ps_ret pe_nev)) pss_nil)
        (pss_cons (ps_if (pt_cmpR op_eq (pv 1) pe_str (nomark _)) (pss_one (ps_ret pe_nev)) pss_nil)
        (pss_cons (ps_if (pt_cmpR op_eq (pv 1) pe_str (nomark _)) (pss_one (ps_ret (pe_tup (pa_cons pe_non (pa_cons (pe_df D_law_number_kind (hr.mono (by omega)) (by rfl) (pa_cons (pv 0) pa_nil)) (pa_cons pe_int pa_nil)))))) pss_nil)
        (pss_cons (ps_set (i := 3) sc_law_member.nd rfl (Or.inl rfl) (pe_df D_law_number_kind (hr.mono (by omega)) (by rfl) (pa_cons (pv 0) pa_nil)))
        (pss_cutS (ps_if (pt_cmpR op_eq (pv 1) pe_str (nomark _)) (pss_cons (ps_set (i := 3) sc_law_member.nd rfl (Or.inl rfl) (pe_tup (pa_cons pe_str (pa_cons (pv 3) (pa_cons (pe_df D_law_draw (hr.mono (by omega)) (by rfl) (pa_cons (pv 0) (pa_cons pe_int pa_nil))) pa_nil)))))
        (pss_one (ps_set (i := 3) sc_law_member.nd rfl (Or.inl rfl) (pe_cut (pe_ifExp (pt_cmpR op_eq (pe_df D_law_draw (hr.mono (by omega)) (by rfl) (pa_cons (pv 0) (pa_cons pe_int pa_nil))) pe_int (nomark _)) (pe_tup (pa_cons pe_str (pa_cons (pv 3) (pa_cons (pe_df D_law_draw (hr.mono (by omega)) (by rfl) (pa_cons (pv 0) (pa_cons pe_int pa_nil))) pa_nil)))) (pv 3)))))) pss_nil)
        (pss_one (ps_ret (pe_tup (pa_cons (pv 2) (pa_cons (pv 3) (pa_cons pe_non pa_nil))))))))))), ?_⟩
    have h1 : ¬ wd = "field" := by
      rcases hwd with rfl | rfl
      · exact ne_if
      · exact ne_af
    have h2 : ¬ wd = "room" := by
      rcases hwd with rfl | rfl
      · exact ne_ir
      · exact ne_ar
    have h3 : ¬ wd = "zero" := by
      rcases hwd with rfl | rfl
      · exact ne_iz
      · exact ne_az
    lk
    rw [if_neg h1, if_neg h2, if_neg h3]
    refine ⟨s, q, n, rfl, hst, by omega, fun kv z b H1 hk hz hst1 hf1 => ?_⟩
    have hki : Kd.ok 1 (.int z b) := hz
    refine ⟨fun σ H' => ∃ kv' kd', σ = [some (.ref s), some (.str wd), some (.str nm), some kv'] ∧ KdAt H' kv' kd' ∧ kd'.ok 3 ∧ StAt H' s q (n + 5) ∧ Fx s q H H', ?_, ?_⟩
    · lk
      by_cases ha : wd = "array"
      · rw [if_pos ha]
        refine ⟨s, q, _, n + 2, rfl, hst1, by omega, by decide, by decide, fun d H2 hd0 hd1 hst2 hf2 => ?_⟩
        lk
        refine ⟨by decide, fun t ht => ?_⟩
        obtain ⟨m, rfl⟩ : ∃ m : Nat, d = m := ⟨d.toNat, by omega⟩
        have hk2 : KdAt (upd H2 t (.tup [.str "array", kv, .int m])) (.ref t) (.arr (.int z b) m) := ⟨t, kv, rfl, upd_same, ((hk.monoT (hf2.t hst1)).mono (Ex.new ht))⟩
        have ho2 : Kd.ok 2 (.arr (.int z b) m) := ⟨hki, by omega⟩
        have hst3 : StAt (upd H2 t (.tup [.str "array", kv, .int m])) s q (n + 3) := hst2.mono (Ex.new ht) (by omega)
        have hf3 := (hf1.trans hf2).trans (Ex.new (o := .tup [.str "array", kv, .int m]) ht).fx
        generalize upd H2 t (.tup [.str "array", kv, .int m]) = H3 at hk2 hst3 hf3 ⊢
        refine cutE ?_
        lk
        refine ⟨s, q, _, n + 3, rfl, hst3, by omega, by decide, by decide, fun d2 H4 hd20 hd21 hst4 hf4 => ?_⟩
        have hk4 := hk2.monoT (hf4.t hst3)
        have hf5 := hf3.trans hf4
        lk
        by_cases hd : d2 = 0
        · rw [if_pos hd]
          refine ⟨s, q, _, n + 4, rfl, hst4, by omega, by decide, by decide, fun d3 H5 hd30 hd31 hst5 hf6 => ?_⟩
          lk
          refine ⟨by decide, fun t2 ht2 => ?_⟩
          obtain ⟨m2, rfl⟩ : ∃ m : Nat, d3 = m := ⟨d3.toNat, by omega⟩
          lk
          exact ⟨.arr (.arr (.int z b) m) m2, ⟨t2, .ref t, rfl, upd_same, (hk4.monoT (hf6.t hst4)).mono (Ex.new ht2)⟩, ⟨ho2, by omega⟩, hst5.mono (Ex.new ht2) (by omega), (hf5.trans hf6).trans (Ex.new ht2).fx⟩
        · rw [if_neg hd]
          lk
          exact ⟨_, hk4, ho2.up, hst4.mono (Ex.refl _) (by omega), hf5⟩
      · rw [if_neg ha]
        lk
        exact ⟨_, hk, hki.up.up, hst1.mono (Ex.refl _) (by omega), hf1⟩
    · rintro σ H2 ⟨kv', kd', rfl, hk2, hko, hst2, hf2⟩
      lk
      refine ⟨by decide, fun t ht => ?_⟩
      exact k _ kd' _ ⟨t, kv', rfl, upd_same, hk2.mono (Ex.new ht)⟩ hko (hst2.mono (Ex.new ht) (by omega)) (hf2.trans (Ex.new ht).fx)
end
end K32
/-! L5: the law's own model of a plan: sizes, steps, places: only that they are told, and small. -/
namespace K32
open PySem PySem.Spec PyProof.Rows L2
/-! one look: what stands written is read -/
local macro_rules | `(tactic| lk) => `(tactic| try simp only [tCB, tCons, tNil, tC, tVar, tOp, tUn, tTest, tB, tNot, tAndV, tOrV, tNotV, tAnd, tOr, tRet, tSeq, tAsg, gName, tDrop, tNext, tIfS, tIf, tCall, tCmp, rI0, rI, rEq, rNe, tPar, tPar3, tTup, tLst,
  tDGet, tSl, tPart, tNoPart, sDPut, tDisp, tPairs, tLstRg, tRg2, tCallN, tRevL, sFld, tFld, tMeth, tProp, tMake, tBM, tBM0, tNevE, tNever, tRetN, tBreak, tCont, gCons, gNil, gSub, tAug, ipI, wipe, iList, iTup, iRng1, iRng2, iStr, iEnum, RZ.iZipA, rU,
  L2.start, List.map_cons, List.map_nil, List.length_cons, List.length_nil, Nat.reduceAdd, Nat.reduceSub, List.replicate_succ, List.replicate_zero, List.cons_append, List.nil_append, List.append_nil,
  List.getElem?_cons_zero, List.getElem?_cons_succ, List.set_cons_zero, List.set_cons_succ, List.cons.injEq, Option.some.injEq, V.int.injEq, V.bl.injEq, V.str.injEq, V.ref.injEq, exists_eq_left', exists_eq_left, exists_eq', exists_and_left, and_assoc, true_and, and_true,
  if_true, Bool.false_eq_true, if_false, sc_ii, sc_ss, sc_ni, sc_in, sc_sn, sc_ns, sc_bb, eq_self, decide_eq_true_eq, Bool.not_eq_true', decide_eq_false_iff_not, ite_not, ne_ia', ne_ai', Int.reduceEq, Int.reduceLT, Int.reduceLE, reduceCtorEq, decide_true, decide_false, Bool.not_true, Bool.not_false, cxK, oV_n, oV_s, cast_lit])
theorem nb_td : kitB "tuple" "dict" = some false := by decide +kernel
theorem nb_dd : kitB "dict" "dict" = some true := by decide +kernel
theorem dgk {H : Hp} {a : Addr} {kvs : List (Key × V)} {k : Str} {v : V} (h : H a = some (.dK kvs)) (hv : valV kvs (Sum.inr k) = some v) : DGet H a (.str k) (some v) := hv ▸ DGet.k (k := Sum.inr k) h
/-- what a plan's dict tells -/
structure Pk (kvs : List (Key × V)) (m : Addr) (conv : Str) (pk al : Option Int) (e : Str) (u : Bool) : Prop where
  len : kvs.length ≤ 20
  mem : valV kvs (Sum.inr "members") = some (.ref m)
  conv : valV kvs (Sum.inr "convention") = some (.str conv)
  pack : valV kvs (Sum.inr "pack") = some (oV pk)
  align : valV kvs (Sum.inr "align") = some (oV al)
  ends : valV kvs (Sum.inr "ends") = some (.str e)
  union : valV kvs (Sum.inr "union") = some (.bl u)
section
variable {P : Program} {w : World} {K : PySem.W.Frag} {mg : Str → Option Value} {base : Heap}
abbrev spLSz (d : Nat) : Sp := fun vs H Q _ => ∃ v kd, vs = [v] ∧ KdAt H v kd ∧ kd.ok d ∧ Q (.int kd.size) H
abbrev s_law_size : Stmt := top 69
abbrev N_law_size : List Str := ["_law_kind"]
abbrev P_law_size : List Str := ["_law_kind"]
theorem sc_law_size : FnScope N_law_size P_law_size (defScope s_law_size) := ⟨rfl, rfl, rfl, by decide +kernel, rfl, by decide +kernel, by decide +kernel⟩
theorem bb_law_size : BindsBy "_law_size" s_law_size P_law_size := fun _ _ _ _ _ _ us hl => match us, hl with | [_], _ => rfl
theorem ok_law_size (c : Ctx K mg) : ∀ d, Df P w K mg base "_law_size" d P_law_size (spLSz d) := by
  intro d
  induction d with
  | zero => exact Df.no c.h_law_size bb_law_size fun vs H Q E ⟨_, _, _, _, h, _⟩ => h
  | succ d ih =>
    have D_law_size := ih
    refine Df.of (k := d) c.h_law_size sc_law_size bb_law_size (fun vs H Q E h => ?_) (fun f cdv A outer s H vs Q E hr h => ?_)
    · obtain ⟨v, kd, rfl, _⟩ := h
      rfl
    · obtain ⟨v, kd, rfl, hv, hk, k⟩ := h
      -- 0 _law_kind
      refine ⟨_, (pss_cons (ps_if (pt_val (pe_callB call_isi (by rfl) c.no_isinstance (by decide +kernel) (pa_cons (pv 0) (pa_cons (pe_bltn (v := .ty "dict") (by rfl) c.no_dict (by decide +kernel) rfl) pa_nil)))) (pss_one ps_never) pss_nil)
          (pss_one (ps_ret (pe_ifExp (pt_cmpR op_eq (pe_ix ix_tup (pv 0) pe_int (fun _ _ => rfl)) pe_str (nomark _)) (pe_ix ix_tup (pv 0) pe_int (fun _ _ => rfl)) (pe_op op_mul (pe_df D_law_size (hr.mono (by omega)) (by rfl) (pa_cons (pe_ix ix_tup (pv 0) pe_int (fun _ _ => rfl)) pa_nil)) (pe_ix ix_tup (pv 0) pe_int (fun _ _ => rfl))))))), ?_⟩
      cases kd with
      | int n z =>
        obtain ⟨a, rfl, ha⟩ := id hv
        lk
        refine isi_ty (.base (.tup ha)) nb_td ?_
        lk
        refine ix_0 ha ?_
        lk
        exact ix_1 ha k
      | arr kd m =>
        obtain ⟨a, u, rfl, ha, hu⟩ := id hv
        lk
        refine isi_ty (.base (.tup ha)) nb_td ?_
        lk
        refine ix_0 ha ?_
        lk
        refine ix_1 ha ?_
        lk
        refine ⟨_, _, rfl, hu, hk.1, ?_⟩
        refine ix_2 ha ?_
        lk
        have hm : m ≤ 3 := hk.2
        have k2 : Q (.int ((m : Int) * kd.size)) H := k
        rw [Int.mul_comm] at k2
        exact ⟨.inr ⟨by omega, by omega⟩, k2⟩
abbrev spLSt (d : Nat) : Sp := fun vs H Q _ => ∃ v kd, vs = [v] ∧ KdAt H v kd ∧ kd.ok d ∧ Q (.int kd.step) H
abbrev s_law_step : Stmt := top 70
abbrev N_law_step : List Str := ["_law_kind"]
abbrev P_law_step : List Str := ["_law_kind"]
theorem sc_law_step : FnScope N_law_step P_law_step (defScope s_law_step) := ⟨rfl, rfl, rfl, by decide +kernel, rfl, by decide +kernel, by decide +kernel⟩
theorem bb_law_step : BindsBy "_law_step" s_law_step P_law_step := fun _ _ _ _ _ _ us hl => match us, hl with | [_], _ => rfl
theorem ok_law_step (c : Ctx K mg) : ∀ d, Df P w K mg base "_law_step" d P_law_step (spLSt d) := by
  intro d
  induction d with
  | zero => exact Df.no c.h_law_step bb_law_step fun vs H Q E ⟨_, _, _, _, h, _⟩ => h
  | succ d ih =>
    have D_law_step := ih
    refine Df.of (k := d) c.h_law_step sc_law_step bb_law_step (fun vs H Q E h => ?_) (fun f cdv A outer s H vs Q E hr h => ?_)
    · obtain ⟨v, kd, rfl, _⟩ := h
      rfl
    · obtain ⟨v, kd, rfl, hv, hk, k⟩ := h
      -- 0 _law_kind
      refine ⟨_, (pss_cons (ps_if (pt_val (pe_callB call_isi (by rfl) c.no_isinstance (by decide +kernel) (pa_cons (pv 0) (pa_cons (pe_bltn (v := .ty "dict") (by rfl) c.no_dict (by decide +kernel) rfl) pa_nil)))) (pss_one ps_never) pss_nil)
          (pss_one (ps_ret (pe_ifExp (pt_cmpR op_eq (pe_ix ix_tup (pv 0) pe_int (fun _ _ => rfl)) pe_str (nomark _)) (pe_ix ix_tup (pv 0) pe_int (fun _ _ => rfl)) (pe_df D_law_step (hr.mono (by omega)) (by rfl) (pa_cons (pe_ix ix_tup (pv 0) pe_int (fun _ _ => rfl)) pa_nil)))))), ?_⟩
      cases kd with
      | int n z =>
        obtain ⟨a, rfl, ha⟩ := id hv
        lk
        refine isi_ty (.base (.tup ha)) nb_td ?_
        lk
        refine ix_0 ha ?_
        lk
        exact ix_1 ha k
      | arr kd m =>
        obtain ⟨a, u, rfl, ha, hu⟩ := id hv
        lk
        refine isi_ty (.base (.tup ha)) nb_td ?_
        lk
        refine ix_0 ha ?_
        lk
        refine ix_1 ha ?_
        lk
        exact ⟨_, _, rfl, hu, hk.1, k⟩
def NextI (x m : Int) (H : Hp) (μ : Nat) (σ : L2.St) (H' : Hp) : Prop := ∃ y : Int, σ = [some (.int y), some (.int m)] ∧ H' = H ∧ x ≤ y ∧ y ≤ x + (-x) % m ∧ μ = (x + (-x) % m - y).toNat
abbrev spNext : Sp := fun vs H Q _ => ∃ x m : Int, vs = [.int x, .int m] ∧ 0 < m ∧ m < 2 ^ 20 ∧ ∀ r, x ≤ r → r < x + m → Q (.int r) H
abbrev s_law_next : Stmt := top 68
abbrev N_law_next : List Str := ["_law_number", "_law_step_here"]
abbrev P_law_next : List Str := ["_law_number", "_law_step_here"]
theorem sc_law_next : FnScope N_law_next P_law_next (defScope s_law_next) := ⟨rfl, rfl, rfl, by decide +kernel, rfl, by decide +kernel, by decide +kernel⟩
theorem bb_law_next : BindsBy "_law_next" s_law_next P_law_next := fun _ _ _ _ _ _ us hl => match us, hl with | [_, _], _ => rfl
theorem ok_law_next (c : Ctx K mg) : Df P w K mg base "_law_next" 1 P_law_next spNext := by
  refine Df.of c.h_law_next sc_law_next bb_law_next (fun vs H Q E h => ?_) (fun f cdv A outer s H vs Q E hr h => ?_)
  · obtain ⟨x, m, rfl, _⟩ := h
    rfl
  · obtain ⟨x, m, rfl, h0, h1, k⟩ := h
    have n0 := Int.emod_nonneg (-x) (by omega : m ≠ 0)
    have n1 := Int.emod_lt_of_pos (-x) h0
    have n2 : (x + (-x) % m) % m = 0 := by
      rw [Int.add_emod, Int.emod_emod, ← Int.add_emod, Int.add_right_neg]
      exact Int.zero_emod m
    -- 0 _law_number, 1 _law_step_here
    refine ⟨_, (pss_cutS (ps_while PassesOwn.never (pt_cmpR op_ne (pe_op op_mod (pv 0) (pv 1)) pe_int (nomark _)) (pss_one (ps_set (i := 0) sc_law_next.nd rfl (Or.inl rfl) (pe_op op_add (pv 0) pe_int))))
        (pss_one (ps_ret (pv 0)))), ?_⟩
    refine ⟨fun σ H' => ∃ μ, NextI x m H μ σ H', ?_, ?_⟩
    · refine ⟨NextI x m H, ⟨_, x, rfl, rfl, Int.le_refl _, by omega, rfl⟩, ?_⟩
      rintro μ σ H1 ⟨y, rfl, rfl, hy1, hy2, rfl⟩
      lk
      refine ⟨h0, ?_⟩
      by_cases hz : y % m = 0
      · rw [if_pos hz]
        exact ⟨_, y, rfl, rfl, hy1, hy2, rfl⟩
      · rw [if_neg hz]
        have hne : y ≠ x + (-x) % m := fun e => hz (by rw [e]; exact n2)
        refine ⟨NextI x m H1 ((x + (-x) % m - (y + 1)).toNat), fun σ' H' h => ⟨_, by omega, h⟩, ?_⟩
        exact ⟨y + 1, rfl, rfl, by omega, by omega, rfl⟩
    · rintro σ H1 ⟨μ, y, rfl, rfl, hy1, hy2, rfl⟩
      lk
      exact k y hy1 (by omega)
/-- a row of the law's model -/
def SRow (H : Hp) (v : V) : Prop := ∃ o st b, TupAt H v [.int o, .int st, .non, .bl b] ∧ 0 ≤ o ∧ o ≤ 216 ∧ 0 < st ∧ st ≤ 8
theorem SRow.mono {H H' : Hp} (e : Ex H H') {v : V} (h : SRow H v) : SRow H' v := let ⟨o, st, b, h1, h2⟩ := h; ⟨o, st, b, h1.mono e, h2⟩
theorem SRow.monoT {H H' : Hp} (e : ExT H H') {v : V} (h : SRow H v) : SRow H' v := let ⟨o, st, b, h1, h2⟩ := h; ⟨o, st, b, h1.monoT e, h2⟩
def SysI (a p : Addr) (H : Hp) (i : Nat) (σ : L2.St) (H' : Hp) : Prop := ∃ (x : Int) (pos : List Int) (x3 x4 x5 x6 : Option V), σ = [some (.ref a), some (.int x), some (.ref p), x3, x4, x5, x6] ∧ Ex H H' ∧ 0 ≤ x ∧ x ≤ 2000 * i ∧ H' p = some (.lst (pos.map V.int)) ∧ pos.length = i ∧ ∀ z ∈ pos, 0 ≤ z ∧ z ≤ 30000
theorem SysI.next {a p : Addr} {H H' : Hp} {i : Nat} {x : Int} {pos : List Int} {x3 x4 x5 x6 : Option V} (e : Ex H H') (h0 : 0 ≤ x) (h1 : x ≤ 2000 * (i + 1)) (hp : H' p = some (.lst (pos.map V.int))) (hl : pos.length = i + 1) (hb : ∀ z ∈ pos, 0 ≤ z ∧ z ≤ 30000) :
    SysI a p H (i + 1) [some (.ref a), some (.int x), some (.ref p), x3, x4, x5, x6] H' := ⟨x, pos, x3, x4, x5, x6, rfl, e, h0, by omega, hp, hl, hb⟩
abbrev spSys : Sp := fun vs H Q _ => ∃ a xs, vs = [.ref a] ∧ H a = some (.lst xs) ∧ xs.length ≤ 12 ∧ (∀ x ∈ xs, SRow H x) ∧ ∀ (v' : V) (p : Addr) (t : Int) (pos : List Int) H', H p = none → Ex H H' → TupAt H' v' [.ref p, .int t] → H' p = some (.lst (pos.map V.int)) → pos.length = xs.length → (∀ z ∈ pos, 0 ≤ z ∧ z ≤ 30000) → 0 ≤ t → t ≤ 30000 → Q v' H'
abbrev s_law_sysv : Stmt := top 71
abbrev N_law_sysv : List Str := ["_law_rows", "_law_here", "_law_found", "_law_octets", "_law_step_here", "_law_bits_here", "_law_is_packed"]
abbrev P_law_sysv : List Str := ["_law_rows"]
theorem sc_law_sysv : FnScope N_law_sysv P_law_sysv (defScope s_law_sysv) := ⟨rfl, rfl, rfl, by decide +kernel, rfl, by decide +kernel, by decide +kernel⟩
theorem bb_law_sysv : BindsBy "_law_sysv" s_law_sysv P_law_sysv := fun _ _ _ _ _ _ us hl => match us, hl with | [_], _ => rfl
theorem ok_law_sysv (c : Ctx K mg) : Df P w K mg base "_law_sysv" 2 P_law_sysv spSys := by
  have D_law_next := ok_law_next (P := P) (w := w) (base := base) c
  refine Df.of c.h_law_sysv sc_law_sysv bb_law_sysv (fun vs H Q E h => ?_) (fun f cdv A outer s H vs Q E hr h => ?_)
  · obtain ⟨a, xs, rfl, _⟩ := h
    rfl
  · obtain ⟨a, xs, rfl, ha, hlen, hrow, k⟩ := h
    -- 0 _law_rows, 1 _law_here, 2 _law_found, 3 _law_octets, 4 _law_step_here, 5 _law_bits_here, 6 _law_is_packed
    refine ⟨_, (pss_cons (ps_par (i := 1) (j := 2) (by rfl) sc_law_sysv.nd rfl rfl (by decide) rfl rfl (pa_cons pe_int (pa_cons (pe_lst pa_nil) pa_nil)) (by rfl))
        (pss_cons (ps_for PassesOwn.never rfl (pi_list (pv 0)) (pg_tup rfl (pgs_cons (pg_name (i := 3) sc_law_sysv.nd rfl (Or.inl rfl)) (pgs_cons (pg_name (i := 4) sc_law_sysv.nd rfl (Or.inl rfl)) (pgs_cons (pg_name (i := 5) sc_law_sysv.nd rfl (Or.inl rfl)) (pgs_cons (pg_name (i := 6) sc_law_sysv.nd rfl (Or.inl rfl)) pgs_nil))))) (pss_cutS (ps_if (PW.pt (pw_or (pt_cmpR op_isN (pv 5) pe_non (nomark _)) (pw_or (pt_cmpR op_eq (pv 5) pe_int (nomark _)) (pw_or1 (PW.pt (pw_and (pt_not (pt_val (pv 6))) (pw_and1 (pt_cmpR op_gt (pe_op op_add (pe_op op_mod (pv 1) (pe_op op_mul pe_int (pv 3))) (pv 5)) (pe_op op_mul pe_int (pv 3)) (nomark _))))))))) (pss_one (ps_set (i := 1) sc_law_sysv.nd rfl (Or.inl rfl) (pe_df D_law_next (hr.mono (by omega)) (by rfl) (pa_cons (pv 1) (pa_cons (pe_op op_mul pe_int (pv 4)) pa_nil))))) pss_nil)
        (pss_cons (ps_expr (pe_bm PySem.F.plainAttrs_list PySem.F.slot_list_append PySem.F.type_list_append mt_append (pv 2) (pa_cons (pv 1) pa_nil)))
        (pss_one (ps_set (i := 1) sc_law_sysv.nd rfl (Or.inl rfl) (pe_op op_add (pv 1) (pe_cut (pe_ifExp (pt_cmpR op_isN (pv 5) pe_non (nomark _)) (pe_op op_mul pe_int (pv 3)) (pv 5)))))))))
        (pss_one (ps_ret (pe_tup (pa_cons (pv 2) (pa_cons (pe_op op_fdiv (pe_op op_add (pv 1) pe_int) pe_int) pa_nil))))))), ?_⟩
    lk
    refine ⟨by decide, fun p hp0 => ?_⟩
    lk
    have e1 : Ex H (upd H p (.lst [])) := Ex.new hp0
    refine for_ok ?_
    lk
    refine ⟨⟨xs, SqL.of (e1 _ _ ha)⟩, ?_⟩
    refine ForOk.list xs (SysI a p H) ⟨0, [], _, _, _, _, rfl, e1, by omega, by omega, upd_same, rfl, fun z hz => nomatch hz⟩ (fun i σ H' ⟨_, _, _, _, _, _, _, e, _⟩ => SqL.of (e _ _ ha)) ?_ ?_
    · rintro i σ H1 v hv ⟨x, pos, x3, x4, x5, x6, rfl, e, hx0, hx1, hpos, hpl, hpb⟩
      have hi : i < xs.length := (List.getElem?_eq_some_iff.mp hv).1
      obtain ⟨o, st, b, ⟨t, rfl, ht⟩, ho0, ho1, hs0, hs1⟩ := (hrow v (List.mem_of_getElem? hv)).mono e
      refine g_tup ht rfl ?_
      lk
      refine cutS ?_
      lk
      refine ⟨.inl ⟨by decide, by decide⟩, ?_⟩
      refine ⟨x, 8 * st, rfl, by omega, by omega, fun r hr0 hr1 => ?_⟩
      lk
      refine ⟨.inl ⟨rfl, _, SqL.of hpos⟩, p, _, _, rfl, rfl, hpos, ?_, ?_⟩
      · rw [List.length_map, hpl]
        exact Nat.lt_of_lt_of_le (by omega : i < 100) (by decide)
      lk
      refine cutE ?_
      lk
      refine ⟨.inl ⟨by decide, by decide⟩, ?_⟩
      lk
      refine SysI.next (pos := pos ++ [r]) (Ex.mut e hp0) (by omega) (by omega) ?_ (by rw [List.length_append, hpl] <;> rfl) fun z hz => ?_
      · rw [upd_same, List.map_append]
        rfl
      · rcases List.mem_append.mp hz with hz | hz
        · exact hpb z hz
        · rw [List.mem_singleton.mp hz]
          omega
    · rintro σ H1 ⟨x, pos, x3, x4, x5, x6, rfl, e, hx0, hx1, hpos, hpl, hpb⟩
      lk
      refine ⟨⟨by decide, by decide⟩, ?_⟩
      refine ⟨by decide, fun t ht => ?_⟩
      exact k _ p _ pos _ hp0 (e.trans (Ex.new ht)) ⟨t, rfl, upd_same⟩ (Ex.new ht _ _ hpos) hpl hpb (by omega) (by omega)
abbrev spLBits : Sp := fun vs H Q _ => ∃ x m : Int, vs = [.int x, .int m, .str "little"] ∧ 0 ≤ x ∧ x ≤ 1000000 ∧ 0 ≤ m ∧ m ≤ 100 ∧ ∀ v H', Ex H H' → Q v H'
abbrev s_law_bits : Stmt := top 75
abbrev N_law_bits : List Str := ["_law_here", "_law_many", "_law_order", "_law_place"]
abbrev P_law_bits : List Str := ["_law_here", "_law_many", "_law_order"]
theorem sc_law_bits : FnScope N_law_bits P_law_bits (defScope s_law_bits) := ⟨rfl, rfl, rfl, by decide +kernel, rfl, by decide +kernel, by decide +kernel⟩
theorem bb_law_bits : BindsBy "_law_bits" s_law_bits P_law_bits := fun _ _ _ _ _ _ us hl => match us, hl with | [_, _, _], _ => rfl
theorem ok_law_bits (c : Ctx K mg) : Df P w K mg base "_law_bits" 1 P_law_bits spLBits := by
  refine Df.of c.h_law_bits sc_law_bits bb_law_bits (fun vs H Q E h => ?_) (fun f cdv A outer s H vs Q E hr h => ?_)
  · obtain ⟨x, m, rfl, _⟩ := h
    rfl
  · obtain ⟨x, m, rfl, h0, h1, h2, h3, k⟩ := h
    -- 0 _law_here, 1 _law_many, 2 _law_order, 3 _law_place
    refine ⟨_, (pss_cons (ps_if (pt_cmpR op_eq (pv 2) pe_str (nomark _)) (pss_one (ps_ret (pe_listRg rfl (by rfl) c.no_list (prg_2 (by rfl) c.no_range (pv 0) (pe_op op_add (pv 0) (pv 1))) rfl))) pss_nil)
        (pss_one (ps_ret (pe_lc (own := [("_law_place", 3)]) (g := gName 3) rfl sc_law_bits.nd (pi_range3 rfl c.no_range (pa_cons (pe_op op_sub (pe_op op_add (pv 0) (pv 1)) pe_int) (pa_cons (pe_op op_sub (pv 0) pe_int) (pa_cons (pe_un un_neg pe_int) pa_nil)))) (blkOk_by (own := [("_law_place", 3)]) (N := N_law_bits) (sc := defScope s_law_bits) (by decide +kernel)) (fun _ _ _ _ _ => (pg_name (i := 3) sc_law_bits.nd rfl (Or.inl rfl))) (fun _ _ _ _ _ => pts_nil) (fun _ _ _ _ _ => (pe_op op_add (pe_op op_sub (pe_op op_add (pe_op op_mul pe_int (pe_op op_fdiv (pv 3) pe_int)) pe_int) (pv 3)) (pe_op op_mul pe_int (pe_op op_fdiv (pv 3) pe_int)))))))), ?_⟩
    lk
    exact ⟨RgOk.of_le (by omega) (by omega) (by omega) (by omega), fun q hq => k _ _ (Ex.new hq)⟩
end
end K32
/-! L6: the law's own layout of a plan: told, and small. -/
namespace K32
open PySem PySem.Spec PyProof.Rows L2
/-! one look: what stands written is read -/
local macro_rules | `(tactic| lk) => `(tactic| try simp only [tCB, tCons, tNil, tC, tVar, tOp, tUn, tTest, tB, tNot, tAndV, tOrV, tNotV, tAnd, tOr, tRet, tSeq, tAsg, gName, tDrop, tNext, tIfS, tIf, tCall, tCmp, rI0, rI, rEq, rNe, tPar, tPar3, tTup, tLst,
  tDGet, tSl, tPart, tNoPart, sDPut, tDisp, tPairs, tLstRg, tRg2, tCallN, tRevL, sFld, tFld, tMeth, tProp, tMake, tBM, tBM0, tNevE, tNever, tRetN, tBreak, tCont, gCons, gNil, gSub, tAug, ipI, wipe, iList, iTup, iRng1, iRng2, iStr, iEnum, RZ.iZipA, rU,
  L2.start, List.map_cons, List.map_nil, List.length_cons, List.length_nil, Nat.reduceAdd, Nat.reduceSub, List.replicate_succ, List.replicate_zero, List.cons_append, List.nil_append, List.append_nil,
  List.getElem?_cons_zero, List.getElem?_cons_succ, List.set_cons_zero, List.set_cons_succ, List.cons.injEq, Option.some.injEq, V.int.injEq, V.bl.injEq, V.str.injEq, V.ref.injEq, exists_eq_left', exists_eq_left, exists_eq', exists_and_left, and_assoc, true_and, and_true,
  if_true, Bool.false_eq_true, if_false, sc_ii, sc_ss, sc_ni, sc_in, sc_sn, sc_ns, sc_bb, eq_self, decide_eq_true_eq, Bool.not_eq_true', decide_eq_false_iff_not, ite_not, ne_ia', ne_ai', Int.reduceEq, Int.reduceLT, Int.reduceLE, reduceCtorEq, decide_true, decide_false, Bool.not_true, Bool.not_false, cxK, oV_n, oV_s, cast_lit])
def plainM (m : Mem) : Prop := okName m.nm ∧ m.kd.ok 3 ∧ m.bt = none
/-- a plan while it is made -/
def PlanAt (H : Hp) (d m : Addr) (pk : Option Int) (ms : List Mem) : Prop := ∃ kvs vs, H d = some (.dK kvs) ∧ Pk kvs m "sysv" pk none "little" false ∧ H m = some (.lst vs) ∧ Al2 (RowAt H) vs ms
theorem PlanAt.mono {H H' : Hp} (e : Ex H H') {d m : Addr} {pk : Option Int} {ms : List Mem} (h : PlanAt H d m pk ms) : PlanAt H' d m pk ms :=
  let ⟨kvs, vs, h1, h2, h3, h4⟩ := h
  ⟨kvs, vs, e _ _ h1, h2, e _ _ h3, h4.imp fun _ _ => RowAt.mono e⟩
def LaidI (d p3 p4 : Addr) (pk : Option Int) (H : Hp) (i : Nat) (σ : L2.St) (H' : Hp) : Prop := ∃ (x1 x6 x7 x8 x9 x10 : Option V) (rs : List V) (ls : List Int), σ = [some (.ref d), x1, some (oV pk), some (.str "sysv"), some (.ref p3), some (.ref p4), x6, x7, x8, x9, x10] ∧
  Ex H H' ∧ H' p3 = some (.lst rs) ∧ rs.length = i ∧ (∀ x ∈ rs, SRow H' x) ∧ H' p4 = some (.lst (ls.map V.int)) ∧ 0 < ls.length ∧ ls.length ≤ i + 1 ∧ (∀ z ∈ ls, 0 < z ∧ z ≤ 8)
theorem ne_key {a b : Str} (h : ¬ a = b) : ¬ ((Sum.inr a : Key) = Sum.inr b) := fun e => h (Sum.inr.inj e)
theorem nk1 : ¬ (("size" : Str) = "step") := by decide +kernel
theorem nk2 : ¬ (("places" : Str) = "step") := by decide +kernel
theorem nk3 : ¬ (("places" : Str) = "size") := by decide +kernel
theorem val_places {x y z : V} : valV (mergeK ([] : List (Key × V)) [(Sum.inr ("places" : Str), x), (Sum.inr ("size" : Str), y), (Sum.inr ("step" : Str), z)]) (Sum.inr ("places" : Str)) = some x := by
  show valV (putK (putK (putK ([] : List (Key × V)) (Sum.inr ("places" : Str)) x) (Sum.inr ("size" : Str)) y) (Sum.inr ("step" : Str)) z) _ = _
  rw [valV_put, if_neg (ne_key nk2), valV_put, if_neg (ne_key nk3), valV_put, if_pos rfl]
theorem val_size {x y z : V} : valV (mergeK ([] : List (Key × V)) [(Sum.inr ("places" : Str), x), (Sum.inr ("size" : Str), y), (Sum.inr ("step" : Str), z)]) (Sum.inr ("size" : Str)) = some y := by
  show valV (putK (putK (putK ([] : List (Key × V)) (Sum.inr ("places" : Str)) x) (Sum.inr ("size" : Str)) y) (Sum.inr ("step" : Str)) z) _ = _
  rw [valV_put, if_neg (ne_key nk1), valV_put, if_pos rfl]
section
variable {P : Program} {w : World} {K : PySem.W.Frag} {mg : Str → Option Value} {base : Heap}
abbrev spLaid : Sp := fun vs H Q _ => ∃ d m pk ms, vs = [.ref d] ∧ PlanAt H d m pk ms ∧ ms.length ≤ 12 ∧ (∀ x ∈ ms, plainM x) ∧ okPack pk ∧
  ∀ (p : Addr) (kvs : List (Key × V)) (pp : Addr) (pos : List Int) (sz : Int) H', H pp = none → Ex H H' → H' p = some (.dK kvs) → valV kvs (Sum.inr "places") = some (.ref pp) → H' pp = some (.lst (pos.map V.int)) → pos.length = ms.length → (∀ z ∈ pos, 0 ≤ z ∧ z ≤ 30000) → valV kvs (Sum.inr "size") = some (.int sz) → Q (.ref p) H'
abbrev s_law_laid : Stmt := top 74
abbrev N_law_laid : List Str := ["_law_plan_here", "_law_step_here", "_law_packed", "_law_rule", "_law_rows", "_law_least", "_law_name", "_law_kind", "_law_bits_here", "_law_places", "_law_taken"]
abbrev P_law_laid : List Str := ["_law_plan_here"]
theorem sc_law_laid : FnScope N_law_laid P_law_laid (defScope s_law_laid) := ⟨rfl, rfl, rfl, by decide +kernel, rfl, by decide +kernel, by decide +kernel⟩
theorem bb_law_laid : BindsBy "_law_laid" s_law_laid P_law_laid := fun _ _ _ _ _ _ us hl => match us, hl with | [_], _ => rfl
theorem ok_law_laid (c : Ctx K mg) : Df P w K mg base "_law_laid" 4 P_law_laid spLaid := by
  have D_law_next := ok_law_next (P := P) (w := w) (base := base) c
  have D_law_sysv := ok_law_sysv (P := P) (w := w) (base := base) c
  have D_law_size := ok_law_size (P := P) (w := w) (base := base) c 3
  have D_law_step := ok_law_step (P := P) (w := w) (base := base) c 3
  refine Df.of c.h_law_laid sc_law_laid bb_law_laid (fun vs H Q E h => ?_) (fun f cdv A outer s H vs Q E hr h => ?_)
  · obtain ⟨d, m, pk, ms, rfl, _⟩ := h
    rfl
  · obtain ⟨d, m, pk, ms, rfl, ⟨kvs, rs0, hd, hk, hm, hrows⟩, hlen, hpl, hpk, k⟩ := h
    -- 0 _law_plan_here, 1 _law_step_here, 2 _law_packed, 3 _law_rule, 4 _law_rows, 5 _law_least, 6 _law_name, 7 _law_kind, 8 _law_bits_here, 9 _law_places, 10 _law_taken
    refine ⟨_, (pss_cons (ps_asg (pe_tup (pa_cons (pe_dget (hu_of hr) (pv 0) pe_str (fun _ _ => rfl)) (pa_cons (pe_dget (hu_of hr) (pv 0) pe_str (fun _ _ => rfl)) (pa_cons (pe_lst pa_nil) (pa_cons (pe_lst (pa_cons pe_int pa_nil)) pa_nil))))) (pg_tup rfl (pgs_cons (pg_name (i := 2) sc_law_laid.nd rfl (Or.inl rfl)) (pgs_cons (pg_name (i := 3) sc_law_laid.nd rfl (Or.inl rfl)) (pgs_cons (pg_name (i := 4) sc_law_laid.nd rfl (Or.inl rfl)) (pgs_cons (pg_name (i := 5) sc_law_laid.nd rfl (Or.inl rfl)) pgs_nil))))))
        (pss_cons (ps_for PassesOwn.never rfl (pi_list (pe_dget (hu_of hr) (pv 0) pe_str (fun _ _ => rfl))) (pg_tup rfl (pgs_cons (pg_name (i := 6) sc_law_laid.nd rfl (Or.inl rfl)) (pgs_cons (pg_name (i := 7) sc_law_laid.nd rfl (Or.inl rfl)) (pgs_cons (pg_name (i := 8) sc_law_laid.nd rfl (Or.inl rfl)) pgs_nil)))) (pss_cons (ps_set (i := 1) sc_law_laid.nd rfl (Or.inl rfl) (pe_cut (pe_ifExp (pt_cmpR op_isN (pv 2) pe_non (nomark _)) (pe_df D_law_step (hr.mono (by omega)) (by rfl) (pa_cons (pv 7) pa_nil)) (pe_callB (call_min2 rfl) (by rfl) c.no_min (by decide +kernel) (pa_cons (pv 2) (pa_cons (pe_df D_law_step (hr.mono (by omega)) (by rfl) (pa_cons (pv 7) pa_nil)) pa_nil))))))
        (pss_cons (ps_expr (pe_bm PySem.F.plainAttrs_list PySem.F.slot_list_append PySem.F.type_list_append mt_append (pv 4) (pa_cons (pe_tup (pa_cons (pe_df D_law_size (hr.mono (by omega)) (by rfl) (pa_cons (pv 7) pa_nil)) (pa_cons (pv 1) (pa_cons (pv 8) (pa_cons (pe_cmpR op_notN (pv 2) pe_non (nomark _)) pa_nil))))) pa_nil)))
        (pss_one (ps_if (PW.pt (pw_or (pt_cmpR op_isN (pv 8) pe_non (nomark _)) (pw_or1 (PW.pt (pw_and (pt_cmpR op_gt (pv 8) pe_int (nomark _)) (pw_and1 (PW.pt (pw_or (pt_cmpR op_notN (pv 6) pe_non (nomark _)) (pw_or1 (pt_cmpR op_eq (pv 3) pe_str (nomark _))))))))))) (pss_one (ps_expr (pe_bm PySem.F.plainAttrs_list PySem.F.slot_list_append PySem.F.type_list_append mt_append (pv 5) (pa_cons (pv 1) pa_nil)))) pss_nil)))))
        (pss_cutS (ps_if (pt_val (pe_dget (hu_of hr) (pv 0) pe_str (fun _ _ => rfl))) (pss_one (ps_par (i := 9) (j := 10) (by rfl) sc_law_laid.nd rfl rfl (by decide) rfl rfl (pa_cons (pe_op op_rep (pe_lst (pa_cons pe_int pa_nil)) (pe_callB call_len_seq (by rfl) c.no_len PySem.boot_len (pa_cons (pv 4) pa_nil))) (pa_cons pe_nev pa_nil)) (by rfl))) (pss_one (ps_asg (pe_cut (pe_ifExp (pt_cmpR op_eq (pv 3) pe_str (nomark _)) (pe_df D_law_sysv (hr.mono (by omega)) (by rfl) (pa_cons (pv 4) pa_nil)) pe_nev)) (pg_tup rfl (pgs_cons (pg_name (i := 9) sc_law_laid.nd rfl (Or.inl rfl)) (pgs_cons (pg_name (i := 10) sc_law_laid.nd rfl (Or.inl rfl)) pgs_nil))))))
        (pss_cons (ps_set (i := 1) sc_law_laid.nd rfl (Or.inl rfl) (pe_callB (cr_max rfl) (by rfl) c.no_max (by decide +kernel) (pa_cons (pe_op op_cat (pv 5) (pe_lst (pa_cons (pe_cut (pe_ifExp (pt_cmpR op_isN (pe_dget (hu_of hr) (pv 0) pe_str (fun _ _ => rfl)) pe_non (nomark _)) pe_int (pe_dget (hu_of hr) (pv 0) pe_str (fun _ _ => rfl)))) pa_nil))) pa_nil)))
        (pss_one (ps_ret (pe_disp (pps_cons pe_str (pv 9) (pps_cons pe_str (pe_df D_law_next (hr.mono (by omega)) (by rfl) (pa_cons (pv 10) (pa_cons (pv 1) pa_nil))) (pps_cons pe_str (pv 1) pps_nil))) (by rfl) (by rfl) (fun z => by cases z) (by decide)))))))), ?_⟩
    lk
    refine ⟨_, dgk hd hk.pack, ?_⟩
    refine ⟨_, dgk hd hk.conv, ?_⟩
    refine ⟨by decide, fun p3 hp3 => ?_⟩
    refine ⟨by decide, fun p4 hp4 => ?_⟩
    refine ⟨by decide, fun t ht => ?_⟩
    refine g_tup upd_same rfl ?_
    lk
    have e1 : Ex H (upd (upd (upd H p3 (.lst [])) p4 (.lst [.int 1])) t (.tup [oV pk, .str "sysv", .ref p3, .ref p4])) := ((Ex.new hp3).trans (Ex.new hp4)).trans (Ex.new ht)
    have n34 : p3 ≠ p4 := ne_of_none upd_same hp4
    have hp4' : H p4 = none := (Ex.new (o := .lst []) hp3).back hp4
    have q3 : upd (upd (upd H p3 (.lst [])) p4 (.lst [.int 1])) t (.tup [oV pk, .str "sysv", .ref p3, .ref p4]) p3 = some (.lst []) := Ex.new ht _ _ (Ex.new hp4 _ _ upd_same)
    have q4 : upd (upd (upd H p3 (.lst [])) p4 (.lst [.int 1])) t (.tup [oV pk, .str "sysv", .ref p3, .ref p4]) p4 = some (.lst [.int 1]) := Ex.new ht _ _ upd_same
    generalize upd (upd (upd H p3 (.lst [])) p4 (.lst [.int 1])) t (.tup [oV pk, .str "sysv", .ref p3, .ref p4]) = H1 at e1 q3 q4 ⊢
    refine for_ok ?_
    lk
    refine ⟨_, dgk (e1 _ _ hd) hk.mem, ?_⟩
    lk
    refine ⟨⟨rs0, SqL.of (e1 _ _ hm)⟩, ?_⟩
    refine ForOk.list rs0 (LaidI d p3 p4 pk H) ⟨_, _, _, _, _, _, [], [1], rfl, e1, q3, rfl, (fun x hx => nomatch hx), q4, by decide, by decide, fun z hz => by rw [List.mem_singleton.mp hz]; decide⟩ (fun i σ H' ⟨_, _, _, _, _, _, _, _, _, e, _⟩ => SqL.of (e _ _ hm)) ?_ ?_
    · rintro i σ H2 v hv ⟨x1, x6, x7, x8, x9, x10, rs, ls, rfl, e, h3, hrl, hrs, h4, hl0, hl1, hls⟩
      have hi : i < rs0.length := (List.getElem?_eq_some_iff.mp hv).1
      have hi12 : i < 12 := by rw [hrows.1] at hi; omega
      obtain ⟨mm, hmi, b, kv, rfl, hb, hkv⟩ := hrows.at hv
      obtain ⟨_, hko, hbt⟩ := hpl mm (List.mem_of_getElem? hmi)
      rw [hbt] at hb
      have hkv2 := hkv.mono e
      have hsz := hko.size_pos
      refine g_tup (e _ _ hb) rfl ?_
      lk
      refine ⟨fun v H' => H' = H2 ∧ ∃ st, v = .int st ∧ 0 < st ∧ st ≤ 8, ?_, ?_⟩
      · have hsp := hko.step_pos
        cases pk with
        | none =>
          lk
          exact ⟨kv, mm.kd, rfl, hkv2, hko, rfl, _, rfl, hsp⟩
        | some p =>
          have hst := stepOf_pos hko hpk
          unfold stepOf at hst
          simp only at hst
          lk
          refine ⟨kv, mm.kd, rfl, hkv2, hko, ?_⟩
          refine ⟨_, rfl, rfl, ?_⟩
          split at hst <;> split <;> omega
      · rintro _ _ ⟨rfl, st, rfl, hs0, hs1⟩
        lk
        refine ⟨.inl ⟨rfl, _, SqL.of h3⟩, ?_⟩
        refine ⟨kv, mm.kd, rfl, hkv2, hko, ?_⟩
        lk
        refine ⟨by decide, fun t2 ht2 => ?_⟩
        refine ⟨p3, _, _, rfl, rfl, Ex.new ht2 _ _ h3, ?_, ?_⟩
        · rw [hrl]
          exact Nat.lt_of_lt_of_le (by omega : i < 100) (by decide)
        lk
        have h33 := Ex.new (o := .tup [.int mm.kd.size, .int st, .non, .bl (!decide (oV pk = V.non))]) ht2 _ _ h3
        have h44 := Ex.new (o := .tup [.int mm.kd.size, .int st, .non, .bl (!decide (oV pk = V.non))]) ht2 _ _ h4
        have q1 := (upd_ne (o := .lst (rs ++ [.ref t2])) n34.symm).trans h44
        refine ⟨.inl ⟨rfl, _, SqL.of q1⟩, p4, _, _, rfl, rfl, q1, ?_, ?_⟩
        · rw [List.length_map]
          exact Nat.lt_of_lt_of_le (by omega : ls.length < 100) (by decide)
        have e5 := Ex.mut (o := .lst (ls.map V.int ++ [.int st])) (Ex.mut (o := .lst (rs ++ [.ref t2])) (e.trans (Ex.new (o := .tup [.int mm.kd.size, .int st, .non, .bl (!decide (oV pk = V.non))]) ht2)) hp3) hp4'
        refine ⟨_, _, _, _, _, _, rs ++ [.ref t2], ls ++ [st], rfl, e5, (upd_ne n34).trans upd_same, by rw [List.length_append, hrl] <;> rfl, fun x hx => ?_, ?_, by simp, by rw [List.length_append]; simp; omega, fun z hz => ?_⟩
        · rcases List.mem_append.mp hx with hx | hx
          · exact (((hrs x hx).mono (Ex.new ht2)).monoT (ExT.lst h33)).monoT (ExT.lst q1)
          · rw [List.mem_singleton.mp hx]
            refine SRow.monoT (ExT.lst q1) (SRow.monoT (ExT.lst h33) ⟨_, st, _, ⟨t2, rfl, upd_same⟩, hsz.1, ?_, hs0, hs1⟩)
            have h216 : (8 : Int) * 3 ^ 3 = 216 := by decide
            omega
        · rw [upd_same, List.map_append]
          rfl
        · rcases List.mem_append.mp hz with hz | hz
          · exact hls z hz
          · rw [List.mem_singleton.mp hz]
            exact ⟨hs0, hs1⟩
    · rintro σ H2 ⟨x1, x6, x7, x8, x9, x10, rs, ls, rfl, e, h3, hrl, hrs, h4, hl0, hl1, hls⟩
      refine cutS ?_
      lk
      refine ⟨_, dgk (e _ _ hd) hk.union, ?_⟩
      lk
      refine cutE ?_
      lk
      have hrl2 : rs.length ≤ 12 := by rw [hrl, hrows.1]; exact hlen
      refine ⟨p3, rs, rfl, h3, hrl2, hrs, ?_⟩
      rintro v' pp t2 pos H3 hppn e3 ⟨tt, rfl, htt⟩ hpp hpos hpb ht0 ht1
      refine g_tup htt rfl ?_
      lk
      have e4 := e.trans e3
      refine ⟨fun v H' => H' = H3 ∧ v = .int 1, ?_, ?_⟩
      · lk
        refine ⟨_, dgk (e4 _ _ hd) hk.align, ?_⟩
        lk
      · rintro _ _ ⟨rfl, rfl⟩
        refine ⟨by decide, fun q hq => ?_⟩
        refine ⟨p4, q, ls.map V.int, [.int 1], rfl, rfl, Ex.new hq _ _ (e3 _ _ h4), upd_same, ?_, fun q2 hq2 => ?_⟩
        · rw [List.length_map]
          exact Nat.le_trans (show ls.length + 1 ≤ 100 by rw [hrows.1] at hl1; omega) (by decide)
        refine ⟨q2, ls ++ [1], rfl, ?_, by simp, fun mx hmx _ => ?_⟩
        · rw [List.map_append]
          exact SqL.of upd_same
        have hmx2 : 0 < mx ∧ mx ≤ 8 := by
          rcases List.mem_append.mp hmx with h | h
          · exact hls mx h
          · rw [List.mem_singleton.mp h]
            decide
        intro q3 hq3
        refine ⟨t2, mx, rfl, hmx2.1, by omega, fun r _ _ => ?_⟩
        refine ⟨upd_same, [(Sum.inr "places", .ref pp), (Sum.inr "size", .int r), (Sum.inr "step", .int mx)], rfl, by simp, ?_⟩
        rw [upd_upd]
        refine k q3 _ pp pos r _ (e.back hppn) (((e4.trans (Ex.new hq)).trans (Ex.new hq2)).trans (Ex.new hq3)) upd_same val_places ?_ ?_ hpb val_size
        · exact Ex.new hq3 _ _ (Ex.new hq2 _ _ (Ex.new hq _ _ hpp))
        · rw [hpos, hrl, hrows.1]
end
end K32
/-! L7: the law's own berths, and that a plan fits: a truth value. -/
namespace K32
open PySem PySem.Spec PyProof.Rows L2
/-! one look: what stands written is read -/
local macro_rules | `(tactic| lk) => `(tactic| try simp only [tCB, tCons, tNil, tC, tVar, tOp, tUn, tTest, tB, tNot, tAndV, tOrV, tNotV, tAnd, tOr, tRet, tSeq, tAsg, gName, tDrop, tNext, tIfS, tIf, tCall, tCmp, rI0, rI, rEq, rNe, tPar, tPar3, tTup, tLst,
  tDGet, tSl, tPart, tNoPart, sDPut, tDisp, tPairs, tLstRg, tRg2, tCallN, tRevL, sFld, tFld, tMeth, tProp, tMake, tBM, tBM0, tNevE, tNever, tRetN, tBreak, tCont, gCons, gNil, gSub, tAug, ipI, wipe, iList, iTup, iRng1, iRng2, iStr, iEnum, RZ.iZipA, rU,
  L2.start, List.map_cons, List.map_nil, List.length_cons, List.length_nil, Nat.reduceAdd, Nat.reduceSub, List.replicate_succ, List.replicate_zero, List.cons_append, List.nil_append, List.append_nil,
  List.getElem?_cons_zero, List.getElem?_cons_succ, List.set_cons_zero, List.set_cons_succ, List.cons.injEq, Option.some.injEq, V.int.injEq, V.bl.injEq, V.str.injEq, V.ref.injEq, exists_eq_left', exists_eq_left, exists_eq', exists_and_left, and_assoc, true_and, and_true,
  if_true, Bool.false_eq_true, if_false, sc_ii, sc_ss, sc_ni, sc_in, sc_sn, sc_ns, sc_bb, eq_self, decide_eq_true_eq, Bool.not_eq_true', decide_eq_false_iff_not, ite_not, ne_ia', ne_ai', Int.reduceEq, Int.reduceLT, Int.reduceLE, reduceCtorEq, decide_true, decide_false, Bool.not_true, Bool.not_false, cxK, oV_n, oV_s, cast_lit])
abbrev rTupOf (K : PySem.W.Frag) : List V → Hp → VK → Prop := fun xs H Q => ∃ p ys, xs = [.ref p] ∧ ((SqL K H p ys ∧ ∀ l, H l = none → Q (.ref l) (upd H l (.tup ys))) ∨ (SqT K H p ys ∧ Q (.ref p) H))
/-- a row of berths: its path is short -/
def BRow (d : Nat) (H : Hp) (v : V) : Prop := ∃ p q y z u us, v = .ref p ∧ H p = some (.tup [.ref q, y, z, u]) ∧ H q = some (.tup us) ∧ us.length ≤ d
theorem BRow.monoT {d : Nat} {H H' : Hp} (e : ExT H H') {v : V} (h : BRow d H v) : BRow d H' v :=
  let ⟨p, q, y, z, u, us, h1, h2, h3, h4⟩ := h
  ⟨p, q, y, z, u, us, h1, e.tup h2, e.tup h3, h4⟩
theorem BRow.mono {d : Nat} {H H' : Hp} (e : Ex H H') {v : V} (h : BRow d H v) : BRow d H' v := h.monoT e.t
theorem BRow.up {d d' : Nat} {H : Hp} {v : V} (h : BRow d H v) (hd : d ≤ d') : BRow d' H v :=
  let ⟨p, q, y, z, u, us, h1, h2, h3, h4⟩ := h
  ⟨p, q, y, z, u, us, h1, h2, h3, Nat.le_trans h4 hd⟩
theorem lc_rows {K : PySem.W.Frag} {te : TE} {σ : L2.St} {H : Hp} {Q : VK} {a : Addr} {xs : List V} {d : Nat} {s1 s2 s3 s4 : Nat} (ha : H a = some (.lst xs)) (hx : ∀ x ∈ xs, BRow d H x) (hn : xs.length ≤ 1000)
    (hw : ∀ p y z u, wipe (((((wipe σ [s1, s2, s3, s4]).set s1 (some p)).set s2 (some y)).set s3 (some z)).set s4 (some u)) [s1, s2, s3, s4] = wipe σ [s1, s2, s3, s4])
    (hte : ∀ (N : VK) (q : Addr) (y z u : V) (us : List V) (H1 : Hp), Ex H H1 → H1 q = some (.tup us) → us.length ≤ d → (∀ x H2, Ex H1 H2 → BRow (d + 1) H2 x → N x H2) →
      te (((((wipe σ [s1, s2, s3, s4]).set s1 (some (.ref q))).set s2 (some y)).set s3 (some z)).set s4 (some u)) H1 N)
    (hQ : ∀ D ys H', H D = none → Ex H H' → H' D = some (.lst ys) → ys.length = xs.length → (∀ y ∈ ys, BRow (d + 1) H' y) → Q (.ref D) H') :
    LcOk (Itl K a) (gTup K 4 (gCons (gName s1) (gCons (gName s2) (gCons (gName s3) (gCons (gName s4) gNil))))) te [s1, s2, s3, s4] σ H Q := by
  refine LcOk.ex xs.length (by omega) (fun _ y H => BRow (d + 1) H y) (fun _ _ _ _ e h => h.monoT e) ?_ ?_ ?_ ?_ ?_
  · intro i H1 hi e
    exact ⟨xs, xs[i], SqL.of (e _ _ ha), List.getElem?_eq_getElem hi⟩
  · intro H1 e
    exact ⟨xs, SqL.of (e _ _ ha), Nat.le_refl _⟩
  · rintro i H1 v H2 hi e ⟨rfl, _⟩
    exact Ex.refl _
  · rintro N i H1 v H2 hi e ⟨rfl, hv⟩ e2 hN
    obtain ⟨p, q, y, z, u, us, rfl, h1, h2, h3⟩ := (hx v (List.mem_of_getElem? (hv xs (SqL.of (e _ _ ha))))).mono e
    refine g_tup h1 rfl ?_
    lk
    exact ⟨hw _ _ _ _, hte N q y z u us _ e h2 h3 hN⟩
  · intro D ys H' hD e hys hl hy
    refine hQ D ys H' hD e hys hl fun y hym => ?_
    obtain ⟨i, hi⟩ := List.getElem?_of_mem hym
    exact hy i y hi
/-- the new row: a tuple of one, then the path -/
theorem brow_new {K : PySem.W.Frag} {H : Hp} {N : V → Hp → Prop} {a q : Addr} {x y z u : V} {us : List V} {d : Nat} (ha : H a = some (.tup [x])) (hq : H q = some (.tup us)) (hl : us.length ≤ d) (hd : d ≤ 100) (hN : ∀ v H2, Ex H H2 → BRow (d + 1) H2 v → N v H2) :
    rCatT K (.ref a) (.ref q) H fun v H1 => 4 ≤ sizeLine ∧ ∀ p, H1 p = none → N (.ref p) (upd H1 p (.tup [v, y, z, u])) := by
  refine cat_tup ha ⟨q, rfl, hq⟩ (by omega) fun v H2 e2 hv => ?_
  obtain ⟨b, rfl, hb⟩ := hv
  refine ⟨by decide, fun p hp => hN _ _ (e2.trans (Ex.new hp)) ⟨p, b, y, z, u, _, rfl, upd_same, Ex.new hp _ _ hb, ?_⟩⟩
  rw [List.length_cons]
  omega
def FoundI (p : Addr) (n d : Nat) (H' : Hp) : Prop := ∃ vs, H' p = some (.lst vs) ∧ vs.length ≤ n ∧ ∀ x ∈ vs, BRow d H' x
theorem FoundI.ext {p : Addr} {n m d : Nat} {H : Hp} {vs us : List V} (h : H p = some (.lst vs)) (hl : vs.length ≤ n) (hv : ∀ x ∈ vs, BRow d H x) (hul : us.length ≤ m) (hu : ∀ x ∈ us, BRow d H x) : FoundI p (n + m) d (upd H p (.lst (vs ++ us))) := by
  refine ⟨vs ++ us, upd_same, by rw [List.length_append]; omega, fun x hx => ?_⟩
  rcases List.mem_append.mp hx with h1 | h1
  · exact (hv x h1).monoT (ExT.lst h)
  · exact (hu x h1).monoT (ExT.lst h)
section
variable {P : Program} {w : World} {K : PySem.W.Frag} {mg : Str → Option Value} {base : Heap}
abbrev spBK (d : Nat) : Sp := fun vs H Q _ => ∃ v kd x, vs = [v, .int x, .str "little"] ∧ KdAt H v kd ∧ kd.ok d ∧ 0 ≤ x ∧ x ≤ 1000000 - 5000 * d ∧
  ∀ p xs H', H p = none → Ex H H' → H' p = some (.lst xs) → xs.length ≤ 3 ^ d → (∀ x ∈ xs, BRow d H' x) → Q (.ref p) H'
abbrev s_law_berths : Stmt := top 76
abbrev N_law_berths : List Str := ["_law_kind", "_law_here", "_law_order", "_law_found", "_law_k", "_law_rows", "_law_place", "_law_ahead", "_law_name", "_law_inner", "_law_bits_here", "_law_path", "_law_some", "_law_sign", "_law_word"]
abbrev P_law_berths : List Str := ["_law_kind", "_law_here", "_law_order"]
theorem sc_law_berths : FnScope N_law_berths P_law_berths (defScope s_law_berths) := ⟨rfl, rfl, rfl, by decide +kernel, rfl, by decide +kernel, by decide +kernel⟩
theorem bb_law_berths : BindsBy "_law_berths" s_law_berths P_law_berths := fun _ _ _ _ _ _ us hl => match us, hl with | [_, _, _], _ => rfl
theorem ok_law_berths (c : Ctx K mg) : ∀ d, d ≤ 3 → Df P w K mg base "_law_berths" (d + 1) P_law_berths (spBK d) := by
  intro d
  induction d with
  | zero => exact fun _ => Df.no c.h_law_berths bb_law_berths fun vs H Q E ⟨_, _, _, _, _, h, _⟩ => h
  | succ d ih =>
    intro hd3
    have D_law_berths := ih (by omega)
    have D_law_size := ok_law_size (P := P) (w := w) (base := base) c d
    have D_law_bits := (ok_law_bits (P := P) (w := w) (base := base) c)
    have D_law_laid : Df P w K mg base "_law_laid" 0 P_law_laid fun _ _ _ _ => False := Df.no c.h_law_laid bb_law_laid fun _ _ _ _ h => h
    refine Df.of (k := d + 1) c.h_law_berths sc_law_berths bb_law_berths (fun vs H Q E h => ?_) (fun f cdv A outer s H vs Q E hr h => ?_)
    · obtain ⟨v, kd, x, rfl, _⟩ := h
      rfl
    · obtain ⟨v, kd, x, rfl, hv, hk, hx0, hx1, k⟩ := h
      -- 0 _law_kind, 1 _law_here, 2 _law_order, 3 _law_found, 4 _law_k, 5 _law_rows, 6 _law_place, 7 _law_ahead, 8 _law_name, 9 _law_inner, 10 _law_bits_here, 11 _law_path, 12 _law_some, 13 _law_sign, 14 _law_word
      refine ⟨_, (pss_cons (ps_if (pt_val (pe_callB call_isi (by rfl) c.no_isinstance (by decide +kernel) (pa_cons (pv 0) (pa_cons (pe_bltn (v := .ty "dict") (by rfl) c.no_dict (by decide +kernel) rfl) pa_nil)))) (pss_cons (ps_set (i := 3) sc_law_berths.nd rfl (Or.inl rfl) (pe_lst pa_nil))
          (pss_cons (ps_for PassesOwn.never rfl (RZ.pi_zipA (by rfl) c.no_zip (pa_cons (pe_dget (hu_of hr) (pv 0) pe_str (fun _ _ => rfl)) (pa_cons (pe_dget (hu_of hr) (pe_df D_law_laid (hr.mono (by omega)) (by rfl) (pa_cons (pv 0) pa_nil)) pe_str (fun _ _ => rfl)) pa_nil))) (pg_tup rfl (pgs_cons (pg_tup rfl (pgs_cons (pg_name (i := 8) sc_law_berths.nd rfl (Or.inl rfl)) (pgs_cons (pg_name (i := 9) sc_law_berths.nd rfl (Or.inl rfl)) (pgs_cons (pg_name (i := 10) sc_law_berths.nd rfl (Or.inl rfl)) pgs_nil)))) (pgs_cons (pg_name (i := 6) sc_law_berths.nd rfl (Or.inl rfl)) pgs_nil))) (pss_cons (ps_set (i := 7) sc_law_berths.nd rfl (Or.inr rfl) (pe_cut (pe_ifExp (pt_cmpR op_isN (pv 8) pe_non (nomark _)) (pe_lst pa_nil) (pe_lst (pa_cons (pv 8) pa_nil)))))
          (pss_cons (ps_set (i := 5) sc_law_berths.nd rfl (Or.inl rfl) (pe_df D_law_berths (hr.mono (by omega)) (by rfl) (pa_cons (pv 9) (pa_cons (pe_op op_add (pv 1) (pv 6)) (pa_cons (pe_dget (hu_of hr) (pv 0) pe_str (fun _ _ => rfl)) pa_nil)))))
          (pss_cutS (ps_if (pt_cmpR op_notN (pv 10) pe_non (nomark _)) (pss_one (ps_set (i := 5) sc_law_berths.nd rfl (Or.inl rfl) (pe_op op_rep (pe_lst (pa_cons (pe_tup (pa_cons (pe_tup pa_nil) (pa_cons (pe_df D_law_bits (hr.mono (by omega)) (by rfl) (pa_cons (pe_op op_add (pv 1) (pv 6)) (pa_cons (pv 10) (pa_cons (pe_dget (hu_of hr) (pv 0) pe_str (fun _ _ => rfl)) pa_nil)))) (pa_cons (pe_ix ix_tup (pv 9) pe_int (fun _ _ => rfl)) (pa_cons pe_bl pa_nil))))) pa_nil)) (pe_callTy call_intI (by rfl) c.no_int (by decide +kernel) (pa_cons (pe_cmpR op_notN (pv 8) pe_non (nomark _)) pa_nil))))) pss_nil)
          (pss_one (ps_expr (pe_bm PySem.F.plainAttrs_list PySem.F.slot_list_extend PySem.F.type_list_extend mt_extend (pv 3) (pa_cons (pe_lc (own := [("_law_path", 11), ("_law_some", 12), ("_law_sign", 13), ("_law_word", 14)]) (g := gTup K 4 (gCons (gName 11) (gCons (gName 12) (gCons (gName 13) (gCons (gName 14) (gNil)))))) rfl sc_law_berths.nd (pi_list (pv 5)) (blkOk_by (own := [("_law_path", 11), ("_law_some", 12), ("_law_sign", 13), ("_law_word", 14)]) (N := N_law_berths) (sc := defScope s_law_berths) (by decide +kernel)) (fun _ _ _ _ _ => (pg_tup rfl (pgs_cons (pg_name (i := 11) sc_law_berths.nd rfl (Or.inl rfl)) (pgs_cons (pg_name (i := 12) sc_law_berths.nd rfl (Or.inl rfl)) (pgs_cons (pg_name (i := 13) sc_law_berths.nd rfl (Or.inl rfl)) (pgs_cons (pg_name (i := 14) sc_law_berths.nd rfl (Or.inl rfl)) pgs_nil)))))) (fun _ _ _ _ _ => pts_nil) (fun _ _ _ _ _ => (pe_tup (pa_cons (pe_op (r := rCatT K) op_catT (pe_callTy (r := rTupOf K) call_tuple_of (by rfl) c.no_tuple (by decide +kernel) (pa_cons (pv 7) pa_nil)) (pv 11)) (pa_cons (pv 12) (pa_cons (pv 13) (pa_cons (pv 14) pa_nil))))))) pa_nil))))))))
          (pss_one (ps_ret (pv 3))))) pss_nil)
          (pss_cons (ps_if (pt_cmpR op_eq (pe_ix ix_tup (pv 0) pe_int (fun _ _ => rfl)) pe_str (nomark _)) (pss_one (ps_ret (pe_lst (pa_cons (pe_tup (pa_cons (pe_tup pa_nil) (pa_cons (pe_df D_law_bits (hr.mono (by omega)) (by rfl) (pa_cons (pv 1) (pa_cons (pe_op op_mul pe_int (pe_ix ix_tup (pv 0) pe_int (fun _ _ => rfl))) (pa_cons (pv 2) pa_nil)))) (pa_cons (pe_ix ix_tup (pv 0) pe_int (fun _ _ => rfl)) (pa_cons pe_bl pa_nil))))) pa_nil)))) pss_nil)
          (pss_cons (ps_set (i := 3) sc_law_berths.nd rfl (Or.inl rfl) (pe_lst pa_nil))
          (pss_cons (ps_for PassesOwn.never rfl (pi_range1 rfl c.no_range (pa_cons (pe_ix ix_tup (pv 0) pe_int (fun _ _ => rfl)) pa_nil)) (pg_name (i := 4) sc_law_berths.nd rfl (Or.inr rfl)) (pss_cons (ps_set (i := 5) sc_law_berths.nd rfl (Or.inl rfl) (pe_df D_law_berths (hr.mono (by omega)) (by rfl) (pa_cons (pe_ix ix_tup (pv 0) pe_int (fun _ _ => rfl)) (pa_cons (pe_op op_add (pv 1) (pe_op op_mul (pe_op op_mul pe_int (pv 4)) (pe_df D_law_size (hr.mono (by omega)) (by rfl) (pa_cons (pe_ix ix_tup (pv 0) pe_int (fun _ _ => rfl)) pa_nil)))) (pa_cons (pv 2) pa_nil)))))
          (pss_one (ps_expr (pe_bm PySem.F.plainAttrs_list PySem.F.slot_list_extend PySem.F.type_list_extend mt_extend (pv 3) (pa_cons (pe_lc (own := [("_law_path", 11), ("_law_some", 12), ("_law_sign", 13), ("_law_word", 14)]) (g := gTup K 4 (gCons (gName 11) (gCons (gName 12) (gCons (gName 13) (gCons (gName 14) (gNil)))))) rfl sc_law_berths.nd (pi_list (pv 5)) (blkOk_by (own := [("_law_path", 11), ("_law_some", 12), ("_law_sign", 13), ("_law_word", 14)]) (N := N_law_berths) (sc := defScope s_law_berths) (by decide +kernel)) (fun _ _ _ _ _ => (pg_tup rfl (pgs_cons (pg_name (i := 11) sc_law_berths.nd rfl (Or.inl rfl)) (pgs_cons (pg_name (i := 12) sc_law_berths.nd rfl (Or.inl rfl)) (pgs_cons (pg_name (i := 13) sc_law_berths.nd rfl (Or.inl rfl)) (pgs_cons (pg_name (i := 14) sc_law_berths.nd rfl (Or.inl rfl)) pgs_nil)))))) (fun _ _ _ _ _ => pts_nil) (fun _ _ _ _ _ => (pe_tup (pa_cons (pe_op (r := rCatT K) op_catT (pe_tup (pa_cons (pv 4) pa_nil)) (pv 11)) (pa_cons (pv 12) (pa_cons (pv 13) (pa_cons (pv 14) pa_nil))))))) pa_nil))))))
          (pss_one (ps_ret (pv 3))))))), ?_⟩
      cases kd with
      | int n z =>
        obtain ⟨a, rfl, ha⟩ := id hv
        have hn : okN n := hk
        unfold okN at hn
        lk
        refine isi_ty (.base (.tup ha)) nb_td ?_
        lk
        refine ix_0 ha ?_
        lk
        refine ⟨by decide, fun p hp => ?_⟩
        refine ix_1 (Ex.new hp _ _ ha) ?_
        lk
        refine ⟨.inl ⟨by decide, by decide⟩, x, 8 * n, rfl, hx0, by omega, by omega, by omega, fun bv H1 e1 => ?_⟩
        refine ix_2 (e1 _ _ (Ex.new hp _ _ ha)) ?_
        lk
        refine ⟨by decide, fun p1 hp1 => ?_⟩
        refine ⟨by decide, fun p2 hp2 => ?_⟩
        have e : Ex H (upd H1 p1 (.tup [.ref p, bv, .bl z, .bl false])) := ((Ex.new hp).trans e1).trans (Ex.new hp1)
        refine k p2 _ _ (e.back hp2) (e.trans (Ex.new hp2)) upd_same (Nat.pow_pos (by decide)) fun y hy => ?_
        rw [List.mem_singleton.mp hy]
        exact ⟨p1, p, _, _, _, [], rfl, Ex.new hp2 _ _ upd_same, Ex.new hp2 _ _ (Ex.new hp1 _ _ (e1 _ _ upd_same)), Nat.zero_le _⟩
      | arr kd m =>
        obtain ⟨a, u, rfl, ha, hu⟩ := id hv
        have hm3 : m ≤ 3 := hk.2
        have hsz := hk.1.size_pos
        have hp9 : (3 : Int) ^ d ≤ 9 := by
          have : d ≤ 2 := by omega
          rcases (by omega : d = 0 ∨ d = 1 ∨ d = 2) with rfl | rfl | rfl <;> decide
        have hp9n : (3 : Nat) ^ d ≤ 9 := by
          rcases (by omega : d = 0 ∨ d = 1 ∨ d = 2) with rfl | rfl | rfl <;> decide
        lk
        refine isi_ty (.base (.tup ha)) nb_td ?_
        lk
        refine ix_0 ha ?_
        lk
        refine ⟨by decide, fun p hp => ?_⟩
        refine for_ok ?_
        lk
        refine ix_2 (Ex.new hp _ _ ha) ?_
        lk
        refine ⟨by omega, by omega, ?_⟩
        rw [Int.toNat_natCast]
        refine ForOk.range (fun i σ H' => (∃ x4 x5 x6 x7 x8 x9 x10 x11 x12 x13 x14, σ = [some (.ref a), some (.int x), some (.str "little"), some (.ref p), x4, x5, x6, x7, x8, x9, x10, x11, x12, x13, x14]) ∧ Ex H H' ∧ FoundI p (i * 3 ^ d) (d + 1) H')
          ⟨⟨_, _, _, _, _, _, _, _, _, _, _, rfl⟩, Ex.new hp, [], upd_same, Nat.zero_le _, fun x hx => nomatch hx⟩ ?_ ?_
        · rintro i σ H1 hi ⟨⟨x4, x5, x6, x7, x8, x9, x10, x11, x12, x13, x14, rfl⟩, e, vs, hvs, hvl, hvb⟩
          lk
          refine ix_1 (e _ _ ha) ?_
          lk
          refine ⟨.inl ⟨by decide, by decide⟩, ?_⟩
          refine ix_1 (e _ _ ha) ?_
          lk
          refine ⟨u, kd, rfl, hu.mono e, hk.1, ?_⟩
          lk
          have hmm : 8 * (0 + (i : Int)) * kd.size ≤ 24 * kd.size := Int.mul_le_mul_of_nonneg_right (by omega) hsz.1
          have hm0 : 0 ≤ 8 * (0 + (i : Int)) * kd.size := Int.mul_nonneg (by omega) hsz.1
          refine ⟨.inr ⟨by omega, by omega⟩, ?_⟩
          refine ⟨u, kd, _, rfl, hu.mono e, hk.1, by omega, by omega, fun p1 xs H2 hp1 e2 hxs hxl hxb => ?_⟩
          have e3 := e.trans e2
          lk
          refine ⟨.inl ⟨rfl, _, SqL.of (e2 _ _ hvs)⟩, ?_⟩
          refine lc_ok ?_
          lk
          refine ⟨⟨_, SqL.of hxs⟩, ?_⟩
          refine lc_rows hxs hxb (by omega) (fun _ _ _ _ => by lk) ?_ ?_
          · intro N q y z u' us H3 e4 hq hul hN
            lk
            refine ⟨by decide, fun r hr3 => ?_⟩
            refine brow_new upd_same (Ex.new hr3 _ _ hq) hul (by omega) fun v H4 e5 hv => hN v H4 ((Ex.new hr3).trans e5) hv
          · intro D ys H3 hD e4 hys hyl hyb
            have hv3 := e4 _ _ (e2 _ _ hvs)
            refine ⟨p, D, vs, ys, rfl, rfl, hv3, hys, Nat.le_trans (show vs.length + ys.length ≤ 100 from ?_) (by decide), ?_⟩
            · have : i * 3 ^ d ≤ 3 * 9 := Nat.mul_le_mul (by omega) hp9n
              omega
            · lk
              refine ⟨Ex.mut (e3.trans e4) hp, ?_⟩
              have := FoundI.ext (m := 3 ^ d) hv3 hvl (fun x hx => (hvb x hx).mono (e2.trans e4)) (by omega) hyb
              rw [← Nat.succ_mul] at this
              exact this
        · rintro σ H1 ⟨⟨x4, x5, x6, x7, x8, x9, x10, x11, x12, x13, x14, rfl⟩, e, vs, hvs, hvl, hvb⟩
          lk
          refine k p vs H1 hp e hvs ?_ hvb
          have : m * 3 ^ d ≤ 3 * 3 ^ d := Nat.mul_le_mul_right _ hm3
          rw [Nat.pow_succ, Nat.mul_comm (3 ^ d)]
          omega
abbrev spBP : Sp := fun vs H Q _ => ∃ d m pk ms, vs = [.ref d, .int 0, .str "little"] ∧ PlanAt H d m pk ms ∧ ms.length ≤ 12 ∧ (∀ x ∈ ms, plainM x) ∧ okPack pk ∧
  ∀ (p : Addr) (xs : List V) H', Ex H H' → H' p = some (.lst xs) → Q (.ref p) H'
theorem ok_law_berths_plan (c : Ctx K mg) : Df P w K mg base "_law_berths" 6 P_law_berths spBP := by
  have D_law_berths := ok_law_berths (P := P) (w := w) (base := base) c 3 (by decide)
  have D_law_size := ok_law_size (P := P) (w := w) (base := base) c 3
  have D_law_bits := ok_law_bits (P := P) (w := w) (base := base) c
  have D_law_laid := ok_law_laid (P := P) (w := w) (base := base) c
  refine Df.of c.h_law_berths sc_law_berths bb_law_berths (fun vs H Q E h => ?_) (fun f cdv A outer s H vs Q E hr h => ?_)
  · obtain ⟨d, m, pk, ms, rfl, _⟩ := h
    rfl
  · obtain ⟨d, m, pk, ms, rfl, hpa, hlen, hpl, hpk, k⟩ := h
    obtain ⟨kvs, rs0, hd, hk, hm, hrows⟩ := id hpa
    -- 0 _law_kind, 1 _law_here, 2 _law_order, 3 _law_found, 4 _law_k, 5 _law_rows, 6 _law_place, 7 _law_ahead, 8 _law_name, 9 _law_inner, 10 _law_bits_here, 11 _law_path, 12 _law_some, 13 _law_sign, 14 _law_word
    refine ⟨_, (pss_cons (ps_if (pt_val (pe_callB call_isi (by rfl) c.no_isinstance (by decide +kernel) (pa_cons (pv 0) (pa_cons (pe_bltn (v := .ty "dict") (by rfl) c.no_dict (by decide +kernel) rfl) pa_nil)))) (pss_cons (ps_set (i := 3) sc_law_berths.nd rfl (Or.inl rfl) (pe_lst pa_nil))
        (pss_cons (ps_for PassesOwn.never rfl (RZ.pi_zipA (by rfl) c.no_zip (pa_cons (pe_dget (hu_of hr) (pv 0) pe_str (fun _ _ => rfl)) (pa_cons (pe_dget (hu_of hr) (pe_df D_law_laid (hr.mono (by omega)) (by rfl) (pa_cons (pv 0) pa_nil)) pe_str (fun _ _ => rfl)) pa_nil))) (pg_tup rfl (pgs_cons (pg_tup rfl (pgs_cons (pg_name (i := 8) sc_law_berths.nd rfl (Or.inl rfl)) (pgs_cons (pg_name (i := 9) sc_law_berths.nd rfl (Or.inl rfl)) (pgs_cons (pg_name (i := 10) sc_law_berths.nd rfl (Or.inl rfl)) pgs_nil)))) (pgs_cons (pg_name (i := 6) sc_law_berths.nd rfl (Or.inl rfl)) pgs_nil))) (pss_cons (ps_set (i := 7) sc_law_berths.nd rfl (Or.inr rfl) (pe_cut (pe_ifExp (pt_cmpR op_isN (pv 8) pe_non (nomark _)) (pe_lst pa_nil) (pe_lst (pa_cons (pv 8) pa_nil)))))
        (pss_cons (ps_set (i := 5) sc_law_berths.nd rfl (Or.inl rfl) (pe_df D_law_berths (hr.mono (by omega)) (by rfl) (pa_cons (pv 9) (pa_cons (pe_op op_add (pv 1) (pv 6)) (pa_cons (pe_dget (hu_of hr) (pv 0) pe_str (fun _ _ => rfl)) pa_nil)))))
        (pss_cutS (ps_if (pt_cmpR op_notN (pv 10) pe_non (nomark _)) (pss_one (ps_set (i := 5) sc_law_berths.nd rfl (Or.inl rfl) (pe_op op_rep (pe_lst (pa_cons (pe_tup (pa_cons (pe_tup pa_nil) (pa_cons (pe_df D_law_bits (hr.mono (by omega)) (by rfl) (pa_cons (pe_op op_add (pv 1) (pv 6)) (pa_cons (pv 10) (pa_cons (pe_dget (hu_of hr) (pv 0) pe_str (fun _ _ => rfl)) pa_nil)))) (pa_cons (pe_ix ix_tup (pv 9) pe_int (fun _ _ => rfl)) (pa_cons pe_bl pa_nil))))) pa_nil)) (pe_callTy call_intI (by rfl) c.no_int (by decide +kernel) (pa_cons (pe_cmpR op_notN (pv 8) pe_non (nomark _)) pa_nil))))) pss_nil)
        (pss_one (ps_expr (pe_bm PySem.F.plainAttrs_list PySem.F.slot_list_extend PySem.F.type_list_extend mt_extend (pv 3) (pa_cons (pe_lc (own := [("_law_path", 11), ("_law_some", 12), ("_law_sign", 13), ("_law_word", 14)]) (g := gTup K 4 (gCons (gName 11) (gCons (gName 12) (gCons (gName 13) (gCons (gName 14) (gNil)))))) rfl sc_law_berths.nd (pi_list (pv 5)) (blkOk_by (own := [("_law_path", 11), ("_law_some", 12), ("_law_sign", 13), ("_law_word", 14)]) (N := N_law_berths) (sc := defScope s_law_berths) (by decide +kernel)) (fun _ _ _ _ _ => (pg_tup rfl (pgs_cons (pg_name (i := 11) sc_law_berths.nd rfl (Or.inl rfl)) (pgs_cons (pg_name (i := 12) sc_law_berths.nd rfl (Or.inl rfl)) (pgs_cons (pg_name (i := 13) sc_law_berths.nd rfl (Or.inl rfl)) (pgs_cons (pg_name (i := 14) sc_law_berths.nd rfl (Or.inl rfl)) pgs_nil)))))) (fun _ _ _ _ _ => pts_nil) (fun _ _ _ _ _ => (pe_tup (pa_cons (pe_op (r := rCatT K) op_catT (pe_callTy (r := rTupOf K) call_tuple_of (by rfl) c.no_tuple (by decide +kernel) (pa_cons (pv 7) pa_nil)) (pv 11)) (pa_cons (pv 12) (pa_cons (pv 13) (pa_cons (pv 14) pa_nil))))))) pa_nil))))))))
        (pss_one (ps_ret (pv 3))))) pss_nil)
        (pss_cons (ps_if (pt_cmpR op_eq (pe_ix ix_tup (pv 0) pe_int (fun _ _ => rfl)) pe_str (nomark _)) (pss_one (ps_ret (pe_lst (pa_cons (pe_tup (pa_cons (pe_tup pa_nil) (pa_cons (pe_df D_law_bits (hr.mono (by omega)) (by rfl) (pa_cons (pv 1) (pa_cons (pe_op op_mul pe_int (pe_ix ix_tup (pv 0) pe_int (fun _ _ => rfl))) (pa_cons (pv 2) pa_nil)))) (pa_cons (pe_ix ix_tup (pv 0) pe_int (fun _ _ => rfl)) (pa_cons pe_bl pa_nil))))) pa_nil)))) pss_nil)
        (pss_cons (ps_set (i := 3) sc_law_berths.nd rfl (Or.inl rfl) (pe_lst pa_nil))
        (pss_cons (ps_for PassesOwn.never rfl (pi_range1 rfl c.no_range (pa_cons (pe_ix ix_tup (pv 0) pe_int (fun _ _ => rfl)) pa_nil)) (pg_name (i := 4) sc_law_berths.nd rfl (Or.inr rfl)) (pss_cons (ps_set (i := 5) sc_law_berths.nd rfl (Or.inl rfl) (pe_df D_law_berths (hr.mono (by omega)) (by rfl) (pa_cons (pe_ix ix_tup (pv 0) pe_int (fun _ _ => rfl)) (pa_cons (pe_op op_add (pv 1) (pe_op op_mul (pe_op op_mul pe_int (pv 4)) (pe_df D_law_size (hr.mono (by omega)) (by rfl) (pa_cons (pe_ix ix_tup (pv 0) pe_int (fun _ _ => rfl)) pa_nil)))) (pa_cons (pv 2) pa_nil)))))
        (pss_one (ps_expr (pe_bm PySem.F.plainAttrs_list PySem.F.slot_list_extend PySem.F.type_list_extend mt_extend (pv 3) (pa_cons (pe_lc (own := [("_law_path", 11), ("_law_some", 12), ("_law_sign", 13), ("_law_word", 14)]) (g := gTup K 4 (gCons (gName 11) (gCons (gName 12) (gCons (gName 13) (gCons (gName 14) (gNil)))))) rfl sc_law_berths.nd (pi_list (pv 5)) (blkOk_by (own := [("_law_path", 11), ("_law_some", 12), ("_law_sign", 13), ("_law_word", 14)]) (N := N_law_berths) (sc := defScope s_law_berths) (by decide +kernel)) (fun _ _ _ _ _ => (pg_tup rfl (pgs_cons (pg_name (i := 11) sc_law_berths.nd rfl (Or.inl rfl)) (pgs_cons (pg_name (i := 12) sc_law_berths.nd rfl (Or.inl rfl)) (pgs_cons (pg_name (i := 13) sc_law_berths.nd rfl (Or.inl rfl)) (pgs_cons (pg_name (i := 14) sc_law_berths.nd rfl (Or.inl rfl)) pgs_nil)))))) (fun _ _ _ _ _ => pts_nil) (fun _ _ _ _ _ => (pe_tup (pa_cons (pe_op (r := rCatT K) op_catT (pe_tup (pa_cons (pv 4) pa_nil)) (pv 11)) (pa_cons (pv 12) (pa_cons (pv 13) (pa_cons (pv 14) pa_nil))))))) pa_nil))))))
        (pss_one (ps_ret (pv 3))))))), ?_⟩
    lk
    refine isi_ty (.base (.dK hd)) nb_dd ?_
    lk
    refine ⟨by decide, fun p hp => ?_⟩
    refine for_ok ?_
    lk
    refine ⟨_, dgk (Ex.new hp _ _ hd) hk.mem, ?_⟩
    refine ⟨d, m, pk, ms, rfl, hpa.mono (Ex.new hp), hlen, hpl, hpk, fun pl kl pp pos sz H1 hppn e1 hpl1 hplc hpp hposl hposb hsz => ?_⟩
    lk
    refine ⟨_, dgk hpl1 hplc, ?_⟩
    have e2 := (Ex.new (o := .lst []) hp).trans e1
    have hl0 : rs0.length = (pos.map V.int).length := by rw [List.length_map, hposl, hrows.1]
    refine ⟨pp, rfl, rs0, pos.map V.int, .inl ⟨SqL.of (e2 _ _ hm), SqL.of hpp, ?_⟩⟩
    refine ForOk.zip rs0 (pos.map V.int) hl0 (fun i σ H' => (∃ x4 x5 x6 x7 x8 x9 x10 x11 x12 x13 x14, σ = [some (.ref d), some (.int 0), some (.str "little"), some (.ref p), x4, x5, x6, x7, x8, x9, x10, x11, x12, x13, x14]) ∧ Ex H H' ∧ H' pp = some (.lst (pos.map V.int)) ∧ p ≠ pp ∧ FoundI p (i * 27) 4 H')
      ⟨⟨_, _, _, _, _, _, _, _, _, _, _, rfl⟩, e2, hpp, ?_, [], e1 _ _ upd_same, Nat.zero_le _, fun x hx => nomatch hx⟩ (fun i σ H' h => ⟨SqL.of (h.2.1 _ _ hm), SqL.of h.2.2.1⟩) ?_ ?_
    · exact ne_of_none upd_same hppn
    · rintro i σ H2 v y T hv hy ⟨⟨x4, x5, x6, x7, x8, x9, x10, x11, x12, x13, x14, rfl⟩, e, hpp2, hnp, vs, hvs, hvl, hvb⟩ hT
      obtain ⟨mm, hmi, b, kv, rfl, hb, hkv⟩ := hrows.at hv
      obtain ⟨_, hko, hbt⟩ := hpl mm (List.mem_of_getElem? hmi)
      rw [hbt] at hb
      rw [List.getElem?_map] at hy
      obtain ⟨yp, hyp, rfl⟩ := Option.map_eq_some_iff.mp hy
      have hyb := hposb yp (List.mem_of_getElem? hyp)
      have hi : i < rs0.length := (List.getElem?_eq_some_iff.mp hv).1
      have hi12 : i < 12 := by rw [hrows.1] at hi; omega
      have eT := e.trans (Ex.new (o := .tup [.ref b, .int yp]) hT)
      refine g_tup upd_same rfl ?_
      lk
      refine g_tup (eT _ _ hb) rfl ?_
      lk
      refine cutE ?_
      lk
      refine ⟨by decide, fun p1 hp1 => ?_⟩
      have e1' := eT.trans (Ex.new (o := .lst [.str mm.nm]) hp1)
      refine ⟨_, dgk (e1' _ _ hd) hk.ends, ?_⟩
      refine ⟨kv, mm.kd, 0 + yp, rfl, hkv.mono e1', hko, by omega, by omega, fun p2 xs H3 hp2 e3 hxs hxl hxb => ?_⟩
      refine cutS ?_
      lk
      have e5 := e1'.trans e3
      have e6 : Ex H2 H3 := ((Ex.new hT).trans (Ex.new hp1)).trans e3
      refine ⟨.inl ⟨rfl, _, SqL.of (e6 _ _ hvs)⟩, ?_⟩
      refine lc_ok ?_
      lk
      refine ⟨⟨_, SqL.of hxs⟩, ?_⟩
      refine lc_rows hxs hxb (Nat.le_trans hxl (by decide)) (fun _ _ _ _ => by lk) ?_ ?_
      · intro N q y z u' us H4 e7 hq hul hN
        lk
        refine ⟨p1, _, rfl, .inl ⟨SqL.of (e7 _ _ (e3 _ _ upd_same)), fun r hr4 => ?_⟩⟩
        refine brow_new upd_same (Ex.new hr4 _ _ hq) hul (by omega) fun v H5 e8 hv => hN v H5 ((Ex.new hr4).trans e8) hv
      · intro D ys H4 hD e7 hys hyl hyb'
        have hv3 := e7 _ _ (e6 _ _ hvs)
        refine ⟨p, D, vs, ys, rfl, rfl, hv3, hys, Nat.le_trans (show vs.length + ys.length ≤ 1000 from ?_) (by decide), ?_⟩
        · have : (3 : Nat) ^ 3 = 27 := by decide
          omega
        · lk
          refine ⟨Ex.mut (e5.trans e7) hp, (upd_ne hnp.symm).trans (e7 _ _ (e6 _ _ hpp2)), hnp, ?_⟩
          have := FoundI.ext (m := 27) hv3 hvl (fun x hx => (hvb x hx).mono (e6.trans e7)) (by rw [hyl]; exact hxl) hyb'
          rw [← Nat.succ_mul] at this
          exact this
    · rintro σ H2 ⟨⟨x4, x5, x6, x7, x8, x9, x10, x11, x12, x13, x14, rfl⟩, e, hpp2, hnp, vs, hvs, hvl, hvb⟩
      lk
      exact k p vs H2 e hvs
def Kd.dep : Kd → Nat
  | .int _ _ => 0
  | .arr k _ => k.dep + 1
def FitW (d : Addr) (nm : V) (H : Hp) (μ : Nat) (σ : L2.St) (H' : Hp) : Prop := ∃ kv kd, σ = [some (.ref d), some nm, some kv, some .non] ∧ H' = H ∧ KdAt H kv kd ∧ μ = kd.dep
abbrev spFits : Sp := fun vs H Q _ => ∃ d m pk ms, vs = [.ref d] ∧ PlanAt H d m pk ms ∧ ms.length ≤ 12 ∧ (∀ x ∈ ms, plainM x) ∧ okPack pk ∧ ∀ b H', Ex H H' → Q (.bl b) H'
abbrev s_law_fits : Stmt := top 67
abbrev N_law_fits : List Str := ["_law_plan_here", "_law_name", "_law_kind", "_law_bits_here"]
abbrev P_law_fits : List Str := ["_law_plan_here"]
theorem sc_law_fits : FnScope N_law_fits P_law_fits (defScope s_law_fits) := ⟨rfl, rfl, rfl, by decide +kernel, rfl, by decide +kernel, by decide +kernel⟩
theorem bb_law_fits : BindsBy "_law_fits" s_law_fits P_law_fits := fun _ _ _ _ _ _ us hl => match us, hl with | [_], _ => rfl
theorem ok_law_fits (c : Ctx K mg) : Df P w K mg base "_law_fits" 7 P_law_fits spFits := by
  have D_law_laid := ok_law_laid (P := P) (w := w) (base := base) c
  have D_law_berths := ok_law_berths_plan (P := P) (w := w) (base := base) c
  have D_law_fits : Df P w K mg base "_law_fits" 0 P_law_fits fun _ _ _ _ => False := Df.no c.h_law_fits bb_law_fits fun _ _ _ _ h => h
  refine Df.of c.h_law_fits sc_law_fits bb_law_fits (fun vs H Q E h => ?_) (fun f cdv A outer s H vs Q E hr h => ?_)
  · obtain ⟨d, m, pk, ms, rfl, _⟩ := h
    rfl
  · obtain ⟨d, m, pk, ms, rfl, hpa, hlen, hpl, hpk, k⟩ := h
    obtain ⟨kvs, rs0, hd, hk, hm, hrows⟩ := id hpa
    -- 0 _law_plan_here, 1 _law_name, 2 _law_kind, 3 _law_bits_here
    refine ⟨_, (pss_cons (ps_if (PW.pt (pw_or (pt_cmpR op_gt (pe_dget (hu_of hr) (pe_df D_law_laid (hr.mono (by omega)) (by rfl) (pa_cons (pv 0) pa_nil)) pe_str (fun _ _ => rfl)) pe_int (nomark _)) (pw_or1 (pt_cmpR op_gt (pe_callB call_len_seq (by rfl) c.no_len PySem.boot_len (pa_cons (pe_df D_law_berths (hr.mono (by omega)) (by rfl) (pa_cons (pv 0) (pa_cons pe_int (pa_cons pe_str pa_nil)))) pa_nil)) pe_int (nomark _))))) (pss_one (ps_ret pe_bl)) pss_nil)
        (pss_cons (ps_for PassesOwn.never rfl (pi_list (pe_dget (hu_of hr) (pv 0) pe_str (fun _ _ => rfl))) (pg_tup rfl (pgs_cons (pg_name (i := 1) sc_law_fits.nd rfl (Or.inl rfl)) (pgs_cons (pg_name (i := 2) sc_law_fits.nd rfl (Or.inl rfl)) (pgs_cons (pg_name (i := 3) sc_law_fits.nd rfl (Or.inl rfl)) pgs_nil)))) (pss_cutS (ps_while PassesOwn.never (PW.pt (pw_and (pt_not (pt_val (pe_callB call_isi (by rfl) c.no_isinstance (by decide +kernel) (pa_cons (pv 2) (pa_cons (pe_bltn (v := .ty "dict") (by rfl) c.no_dict (by decide +kernel) rfl) pa_nil))))) (pw_and1 (pt_cmpR op_eq (pe_ix ix_tup (pv 2) pe_int (fun _ _ => rfl)) pe_str (nomark _))))) (pss_one (ps_set (i := 2) sc_law_fits.nd rfl (Or.inl rfl) (pe_ix ix_tup (pv 2) pe_int (fun _ _ => rfl)))))
        (pss_one (ps_if (PW.pt (pw_and (pt_val (pe_callB call_isi (by rfl) c.no_isinstance (by decide +kernel) (pa_cons (pv 2) (pa_cons (pe_bltn (v := .ty "dict") (by rfl) c.no_dict (by decide +kernel) rfl) pa_nil)))) (pw_and1 (pt_not (pt_val (pe_df D_law_fits (hr.mono (by omega)) (by rfl) (pa_cons (pv 2) pa_nil))))))) (pss_one (ps_ret pe_bl)) pss_nil))))
        (pss_one (ps_ret pe_bl)))), ?_⟩
    lk
    refine ⟨d, m, pk, ms, rfl, hpa, hlen, hpl, hpk, fun pl kl pp pos sz H1 hppn e1 hpl1 hplc hpp hposl hposb hsz => ?_⟩
    lk
    refine ⟨_, dgk hpl1 hsz, ?_⟩
    lk
    split
    · exact k _ _ e1
    refine ⟨d, m, pk, ms, rfl, hpa.mono e1, hlen, hpl, hpk, fun p xs H2 e2 hxs => ?_⟩
    lk
    refine ⟨xs, .inl (SqL.of hxs), ?_⟩
    have e3 := e1.trans e2
    split
    · exact k _ _ e3
    refine for_ok ?_
    lk
    refine ⟨_, dgk (e3 _ _ hd) hk.mem, ?_⟩
    lk
    refine ⟨⟨rs0, SqL.of (e3 _ _ hm)⟩, ?_⟩
    refine ForOk.list rs0 (fun i σ H' => (∃ x1 x2 x3, σ = [some (.ref d), x1, x2, x3]) ∧ Ex H H') ⟨⟨_, _, _, rfl⟩, e3⟩ (fun i σ H' h => SqL.of (h.2 _ _ hm)) ?_ ?_
    · rintro i σ H3 v hv ⟨⟨x1, x2, x3, rfl⟩, e⟩
      obtain ⟨mm, hmi, b, kv, rfl, hb, hkv⟩ := hrows.at hv
      obtain ⟨_, hko, hbt⟩ := hpl mm (List.mem_of_getElem? hmi)
      rw [hbt] at hb
      refine g_tup (e _ _ hb) rfl ?_
      lk
      refine ⟨fun σ H' => ∃ μ, FitW d (.str mm.nm) H3 μ σ H', ?_, ?_⟩
      · refine ⟨FitW d (.str mm.nm) H3, ⟨_, kv, mm.kd, rfl, rfl, hkv.mono e, rfl⟩, ?_⟩
        rintro μ σ H4 ⟨kv', kd', rfl, rfl, hk', rfl⟩
        cases kd' with
        | int n z =>
          obtain ⟨a, rfl, ha⟩ := id hk'
          lk
          refine isi_ty (.base (.tup ha)) nb_td ?_
          lk
          refine ix_0 ha ?_
          lk
          exact ⟨_, _, _, rfl, rfl, hk', rfl⟩
        | arr kd2 m2 =>
          obtain ⟨a, u, rfl, ha, hu⟩ := id hk'
          lk
          refine isi_ty (.base (.tup ha)) nb_td ?_
          lk
          refine ix_0 ha ?_
          lk
          refine ⟨FitW d (.str mm.nm) H4 kd2.dep, fun σ' H' h => ⟨_, Nat.lt_succ_self _, h⟩, ?_⟩
          lk
          refine ix_1 ha ?_
          lk
          exact ⟨_, _, rfl, rfl, hu, rfl⟩
      · rintro σ H4 ⟨μ, kv', kd', rfl, rfl, hk', rfl⟩
        obtain ⟨a, x, y, z, rfl, ha⟩ := hk'.tup
        lk
        refine isi_ty (.base (.tup ha)) nb_td ?_
        lk
        exact e
    · rintro σ H3 ⟨⟨x1, x2, x3, rfl⟩, e⟩
      lk
      exact k _ _ e
end
end K32
/-! L8: a layout made from a plan. -/
namespace K32
open PySem PySem.Spec PyProof.Rows L2
/-! one look: what stands written is read -/
local macro_rules | `(tactic| lk) => `(tactic| try simp only [tCB, tCons, tNil, tC, tVar, tOp, tUn, tTest, tB, tNot, tAndV, tOrV, tNotV, tAnd, tOr, tRet, tSeq, tAsg, gName, tDrop, tNext, tIfS, tIf, tCall, tCmp, rI0, rI, rEq, rNe, tPar, tPar3, tTup, tLst,
  tDGet, tSl, tPart, tNoPart, sDPut, tDisp, tPairs, tLstRg, tRg2, tCallN, tRevL, sFld, tFld, tMeth, tProp, tMake, tBM, tBM0, tNevE, tNever, tRetN, tBreak, tCont, gCons, gNil, gSub, tAug, ipI, wipe, iList, iTup, iRng1, iRng2, iStr, iEnum, RZ.iZipA, rU,
  L2.start, List.map_cons, List.map_nil, List.length_cons, List.length_nil, Nat.reduceAdd, Nat.reduceSub, List.replicate_succ, List.replicate_zero, List.cons_append, List.nil_append, List.append_nil,
  List.getElem?_cons_zero, List.getElem?_cons_succ, List.set_cons_zero, List.set_cons_succ, List.cons.injEq, Option.some.injEq, V.int.injEq, V.bl.injEq, V.str.injEq, V.ref.injEq, exists_eq_left', exists_eq_left, exists_eq', exists_and_left, and_assoc, true_and, and_true,
  if_true, Bool.false_eq_true, if_false, sc_ii, sc_ss, sc_ni, sc_in, sc_sn, sc_ns, sc_bb, eq_self, decide_eq_true_eq, Bool.not_eq_true', decide_eq_false_iff_not, ite_not, ne_ia', ne_ai', Int.reduceEq, Int.reduceLT, Int.reduceLE, reduceCtorEq, decide_true, decide_false, Bool.not_true, Bool.not_false, cxK, oV_n, oV_s, cast_lit])
theorem dpk {H : Hp} {a : Addr} {kvs : List (Key × V)} {k : Str} {v : V} (h : H a = some (.dK kvs)) (hl : kvs.length ≤ 20) : DPut H a (.str k) v (upd H a (.dK (putK kvs (Sum.inr k) v))) := DPut.k (k := Sum.inr k) h (Nat.lt_of_le_of_lt hl (by decide))
theorem len_put {kvs : List (Key × V)} {k : Key} {v x : V} (h : valV kvs k = some v) : (putK kvs k x).length = kvs.length := by
  unfold putK
  rw [if_pos (by rw [valV_any, h]; rfl), List.length_map]
section
variable {kvs : List (Key × V)} {m : Addr} {conv : Str} {pk al : Option Int} {e : Str} {u : Bool}
theorem val_old {k j : Str} {x v : V} (hn : ¬ j = k) (h : valV kvs (Sum.inr j) = some v) : valV (putK kvs (Sum.inr k) x) (Sum.inr j) = some v := by
  rw [valV_put, if_neg (ne_key hn)]
  exact h
theorem val_new {k : Str} {x : V} : valV (putK kvs (Sum.inr k) x) (Sum.inr k) = some x := by
  rw [valV_put, if_pos rfl]
theorem Pk.put_conv (h : Pk kvs m conv pk al e u) (z : Str) : Pk (putK kvs (Sum.inr ("convention" : Str)) (.str z)) m z pk al e u :=
  ⟨by rw [len_put h.conv]; exact h.len, val_old (by decide +kernel) h.mem, val_new, val_old (by decide +kernel) h.pack, val_old (by decide +kernel) h.align, val_old (by decide +kernel) h.ends, val_old (by decide +kernel) h.union⟩
theorem Pk.put_mem (h : Pk kvs m conv pk al e u) (z : Addr) : Pk (putK kvs (Sum.inr ("members" : Str)) (.ref z)) z conv pk al e u :=
  ⟨by rw [len_put h.mem]; exact h.len, val_new, val_old (by decide +kernel) h.conv, val_old (by decide +kernel) h.pack, val_old (by decide +kernel) h.align, val_old (by decide +kernel) h.ends, val_old (by decide +kernel) h.union⟩
theorem Pk.put_align (h : Pk kvs m conv pk al e u) (z : Option Int) : Pk (putK kvs (Sum.inr ("align" : Str)) (oV z)) m conv pk z e u :=
  ⟨by rw [len_put h.align]; exact h.len, val_old (by decide +kernel) h.mem, val_old (by decide +kernel) h.conv, val_old (by decide +kernel) h.pack, val_new, val_old (by decide +kernel) h.ends, val_old (by decide +kernel) h.union⟩
theorem Pk.put_ends (h : Pk kvs m conv pk al e u) (z : Str) : Pk (putK kvs (Sum.inr ("ends" : Str)) (.str z)) m conv pk al z u :=
  ⟨by rw [len_put h.ends]; exact h.len, val_old (by decide +kernel) h.mem, val_old (by decide +kernel) h.conv, val_old (by decide +kernel) h.pack, val_old (by decide +kernel) h.align, val_new, val_old (by decide +kernel) h.union⟩
theorem Pk.put_union (h : Pk kvs m conv pk al e u) (z : Bool) : Pk (putK kvs (Sum.inr ("union" : Str)) (.bl z)) m conv pk al e z :=
  ⟨by rw [len_put h.union]; exact h.len, val_old (by decide +kernel) h.mem, val_old (by decide +kernel) h.conv, val_old (by decide +kernel) h.pack, val_old (by decide +kernel) h.align, val_old (by decide +kernel) h.ends, val_new⟩
end
/-- tuples stay -/
def ExP (H H' : Hp) : Prop := ∀ a xs, H a = some (.tup xs) → H' a = some (.tup xs)
theorem KdAt.monoP {H H' : Hp} (e : ExP H H') : ∀ {k : Kd} {v : V}, KdAt H v k → KdAt H' v k
  | .int _ _, _, ⟨a, h1, h2⟩ => ⟨a, h1, e _ _ h2⟩
  | .arr _ _, _, ⟨a, u, h1, h2, h3⟩ => ⟨a, u, h1, e _ _ h2, KdAt.monoP e h3⟩
theorem RowAt.monoP {H H' : Hp} (e : ExP H H') {v : V} {m : Mem} (h : RowAt H v m) : RowAt H' v m :=
  let ⟨a, kv, h1, h2, h3⟩ := h
  ⟨a, kv, h1, e _ _ h2, h3.monoP e⟩
theorem ExP.dict {H : Hp} {D : Addr} {kvs : List (Key × V)} {o : HO} (h : H D = some (.dK kvs)) : ExP H (upd H D o) := fun a xs ha => (upd_ne (fun e => by
  subst e
  rw [h] at ha
  cases ha)).trans ha
/-- a whole plan in the heap -/
def PlanF (H : Hp) (d : Addr) (conv : Str) (pk al : Option Int) (e : Str) (u : Bool) (ms : List Mem) : Prop := ∃ kvs m vs, H d = some (.dK kvs) ∧ Pk kvs m conv pk al e u ∧ H m = some (.lst vs) ∧ Al2 (RowAt H) vs ms
theorem PlanF.mono {H H' : Hp} (x : Ex H H') {d : Addr} {conv : Str} {pk al : Option Int} {e : Str} {u : Bool} {ms : List Mem} (h : PlanF H d conv pk al e u ms) : PlanF H' d conv pk al e u ms :=
  let ⟨kvs, m, vs, h1, h2, h3, h4⟩ := h
  ⟨kvs, m, vs, x _ _ h1, h2, x _ _ h3, h4.imp fun _ _ => RowAt.mono x⟩
theorem MemAt.monoT {H H' : Hp} (e : ExT H H') {v : V} {m : Mem} (h : MemAt H v m) : MemAt H' v m :=
  let ⟨a, kv, h1, h2, h3⟩ := h
  ⟨a, kv, h1, h2.monoT e, e.tup h3⟩
theorem Al2.snoc {α : Type} {R S : V → α → Prop} {vs : List V} {xs : List α} {i : Nat} {v : V} {x : α} (h : Al2 R vs (xs.take i)) (hx : xs[i]? = some x) (k : ∀ v x, R v x → S v x) (hn : S v x) : Al2 S (vs ++ [v]) (xs.take (i + 1)) := by
  rw [List.take_add_one, hx]
  exact (h.imp k).append ⟨rfl, fun j u y h1 h2 => by
    match j, h1, h2 with
    | 0, h1, h2 =>
      cases h1
      cases h2
      exact hn⟩
def fullM (m : Mem) : Mem := match m.kd with
  | .int n _ => ⟨m.nm, m.kd, some (8 * n)⟩
  | .arr _ _ => ⟨m.nm, m.kd, none⟩
theorem fullM_nm (m : Mem) : (fullM m).nm = m.nm := by
  unfold fullM
  split <;> rfl
theorem fullM_kd (m : Mem) : (fullM m).kd = m.kd := by
  unfold fullM
  split <;> rfl
theorem plain_ok {m : Mem} (h : plainM m) : m.ok := ⟨h.1, h.2.1, fun b hb => by rw [h.2.2] at hb; cases hb⟩
theorem full_ok {m : Mem} (h : plainM m) : (fullM m).ok := by
  obtain ⟨nm, kd, bt⟩ := m
  obtain ⟨h1, h2, h3⟩ := h
  cases kd with
  | int n s =>
    refine ⟨h1, h2, fun b hb => ⟨n, s, rfl, ?_⟩⟩
    have hb2 : 8 * n = b := Option.some.inj hb
    have hn : okN n := h2
    unfold okN at hn
    omega
  | arr k m => exact ⟨h1, h2, fun b hb => nomatch hb⟩
section
variable {P : Program} {w : World} {K : PySem.W.Frag} {mg : Str → Option Value} {base : Heap}
abbrev spKO (d : Nat) : Sp := fun vs H Q _ => ∃ v kd, vs = [v] ∧ KdAt H v kd ∧ kd.ok d ∧ ∀ v' H', Ex H H' → KdAt H' v' kd → Q v' H'
abbrev s_law_kind_of : Stmt := top 77
abbrev N_law_kind_of : List Str := ["_law_kind"]
abbrev P_law_kind_of : List Str := ["_law_kind"]
theorem sc_law_kind_of : FnScope N_law_kind_of P_law_kind_of (defScope s_law_kind_of) := ⟨rfl, rfl, rfl, by decide +kernel, rfl, by decide +kernel, by decide +kernel⟩
theorem bb_law_kind_of : BindsBy "_law_kind_of" s_law_kind_of P_law_kind_of := fun _ _ _ _ _ _ us hl => match us, hl with | [_], _ => rfl
theorem ok_law_kind_of (c : Ctx K mg) : ∀ d, Df P w K mg base "_law_kind_of" d P_law_kind_of (spKO d) := by
  intro d
  induction d with
  | zero => exact Df.no c.h_law_kind_of bb_law_kind_of fun vs H Q E ⟨_, _, _, _, h, _⟩ => h
  | succ d ih =>
    have D_law_kind_of := ih
    refine Df.of (k := d) c.h_law_kind_of sc_law_kind_of bb_law_kind_of (fun vs H Q E h => ?_) (fun f cdv A outer s H vs Q E hr h => ?_)
    · obtain ⟨v, kd, rfl, _⟩ := h
      rfl
    · obtain ⟨v, kd, rfl, hv, hk, k⟩ := h
      -- 0 _law_kind
      refine ⟨_, (pss_cons (ps_if (pt_val (pe_callB call_isi (by rfl) c.no_isinstance (by decide +kernel) (pa_cons (pv 0) (pa_cons (pe_bltn (v := .ty "dict") (by rfl) c.no_dict (by decide +kernel) rfl) pa_nil)))) (pss_one ps_never) pss_nil)
          (pss_one (ps_ret (pe_ifExp (pt_cmpR op_eq (pe_ix ix_tup (pv 0) pe_int (fun _ _ => rfl)) pe_str (nomark _)) (pv 0) (pe_tup (pa_cons pe_str (pa_cons (pe_df D_law_kind_of (hr.mono (by omega)) (by rfl) (pa_cons (pe_ix ix_tup (pv 0) pe_int (fun _ _ => rfl)) pa_nil)) (pa_cons (pe_ix ix_tup (pv 0) pe_int (fun _ _ => rfl)) pa_nil)))))))), ?_⟩
      cases kd with
      | int n z =>
        obtain ⟨a, rfl, ha⟩ := id hv
        lk
        refine isi_ty (.base (.tup ha)) nb_td ?_
        lk
        refine ix_0 ha ?_
        lk
        exact k _ _ (Ex.refl _) hv
      | arr kd m =>
        obtain ⟨a, u, rfl, ha, hu⟩ := id hv
        lk
        refine isi_ty (.base (.tup ha)) nb_td ?_
        lk
        refine ix_0 ha ?_
        lk
        refine ix_1 ha ?_
        lk
        refine ⟨u, kd, rfl, hu, hk.1, fun v' H1 e1 hv1 => ?_⟩
        refine ix_2 (e1 _ _ ha) ?_
        lk
        exact ⟨by decide, fun p hp => k _ _ (e1.trans (Ex.new hp)) ⟨p, v', rfl, upd_same, hv1.mono (Ex.new hp)⟩⟩
abbrev spLLay (K : PySem.W.Frag) : Sp := fun vs H Q _ => ∃ d conv pk al e u ms, vs = [.ref d] ∧ PlanF H d conv pk al e u ms ∧ ms.length ≤ 12 ∧ (∀ m ∈ ms, m.ok) ∧ (ms.map (·.nm)).Nodup ∧ okConv conv ∧ okPack pk ∧ okAlign al ∧ okEnds e ∧
  ∀ v' H', Ex H H' → LayAt K H' v' (layOf conv pk al e u ms) → Q v' H'
abbrev s_law_layout : Stmt := top 78
abbrev N_law_layout : List Str := ["_law_plan_here", "_law_rows", "_law_told", "_law_name", "_law_kind", "_law_bits_here"]
abbrev P_law_layout : List Str := ["_law_plan_here"]
theorem sc_law_layout : FnScope N_law_layout P_law_layout (defScope s_law_layout) := ⟨rfl, rfl, rfl, by decide +kernel, rfl, by decide +kernel, by decide +kernel⟩
theorem bb_law_layout : BindsBy "_law_layout" s_law_layout P_law_layout := fun _ _ _ _ _ _ us hl => match us, hl with | [_], _ => rfl
theorem ok_law_layout (c : Ctx K mg) : Df P w K mg base "_law_layout" 11 P_law_layout (spLLay K) := by
  have D_law_kind_of := ok_law_kind_of (P := P) (w := w) (base := base) c 3
  have D_struct_c_p_a_e := D_struct_all (P := P) (w := w) (base := base) c
  have D_union_c_p_a_e := D_union_all (P := P) (w := w) (base := base) c
  refine Df.of c.h_law_layout sc_law_layout bb_law_layout (fun vs H Q E h => ?_) (fun f cdv A outer s H vs Q E hr h => ?_)
  · obtain ⟨d, conv, pk, al, e, u, ms, rfl, _⟩ := h
    rfl
  · obtain ⟨d, conv, pk, al, ed, u, ms, rfl, ⟨kvs, m, rs0, hd, hk, hm, hrows⟩, hlen, hok, hnd, hc, hp, ha, he, k⟩ := h
    -- 0 _law_plan_here, 1 _law_rows, 2 _law_told, 3 _law_name, 4 _law_kind, 5 _law_bits_here
    refine ⟨_, (pss_cons (ps_set (i := 1) sc_law_layout.nd rfl (Or.inl rfl) (pe_lst pa_nil))
        (pss_cons (ps_for PassesOwn.never rfl (pi_list (pe_dget (hu_of hr) (pv 0) pe_str (fun _ _ => rfl))) (pg_tup rfl (pgs_cons (pg_name (i := 3) sc_law_layout.nd rfl (Or.inl rfl)) (pgs_cons (pg_name (i := 4) sc_law_layout.nd rfl (Or.inl rfl)) (pgs_cons (pg_name (i := 5) sc_law_layout.nd rfl (Or.inl rfl)) pgs_nil)))) (pss_one (ps_expr (pe_bm PySem.F.plainAttrs_list PySem.F.slot_list_append PySem.F.type_list_append mt_append (pv 1) (pa_cons (pe_cut (pe_ifExp (pt_cmpR op_isN (pv 5) pe_non (nomark _)) (pe_tup (pa_cons (pv 3) (pa_cons (pe_df D_law_kind_of (hr.mono (by omega)) (by rfl) (pa_cons (pv 4) pa_nil)) pa_nil))) (pe_tup (pa_cons (pv 3) (pa_cons (pv 4) (pa_cons (pv 5) pa_nil)))))) pa_nil)))))
        (pss_cons (ps_set (i := 2) sc_law_layout.nd rfl (Or.inl rfl) (pe_lst (pa_cons (pe_dget (hu_of hr) (pv 0) pe_str (fun _ _ => rfl)) (pa_cons (pe_dget (hu_of hr) (pv 0) pe_str (fun _ _ => rfl)) (pa_cons (pe_dget (hu_of hr) (pv 0) pe_str (fun _ _ => rfl)) (pa_cons (pe_dget (hu_of hr) (pv 0) pe_str (fun _ _ => rfl)) pa_nil))))))
        (pss_cons (ps_if (pt_val (pe_dget (hu_of hr) (pv 0) pe_str (fun _ _ => rfl))) (pss_one (ps_ret (pe_dk D_union_c_p_a_e (hr.mono (by omega)) (by rfl) (pa_cons (pv 1) pa_nil) (pk_cons (pe_ix ix_list (pv 2) pe_int (fun _ _ => rfl)) (pk_cons (pe_ix ix_list (pv 2) pe_int (fun _ _ => rfl)) (pk_cons (pe_ix ix_list (pv 2) pe_int (fun _ _ => rfl)) (pk_cons (pe_ix ix_list (pv 2) pe_int (fun _ _ => rfl)) pk_nil))))))) pss_nil)
        (pss_one (ps_ret (pe_dk D_struct_c_p_a_e (hr.mono (by omega)) (by rfl) (pa_cons (pv 1) pa_nil) (pk_cons (pe_ix ix_list (pv 2) pe_int (fun _ _ => rfl)) (pk_cons (pe_ix ix_list (pv 2) pe_int (fun _ _ => rfl)) (pk_cons (pe_ix ix_list (pv 2) pe_int (fun _ _ => rfl)) (pk_cons (pe_ix ix_list (pv 2) pe_int (fun _ _ => rfl)) pk_nil))))))))))), ?_⟩
    lk
    refine ⟨by decide, fun p hp0 => ?_⟩
    refine for_ok ?_
    lk
    refine ⟨_, dgk (Ex.new hp0 _ _ hd) hk.mem, ?_⟩
    lk
    refine ⟨⟨rs0, SqL.of (Ex.new hp0 _ _ hm)⟩, ?_⟩
    refine ForOk.list rs0 (fun i σ H' => (∃ x3 x4 x5, σ = [some (.ref d), some (.ref p), none, x3, x4, x5]) ∧ Ex H H' ∧ ∃ vs, H' p = some (.lst vs) ∧ Al2 (MemAt H') vs (ms.take i)) ⟨⟨_, _, _, rfl⟩, Ex.new hp0, [], upd_same, Al2.nil⟩ (fun i σ H' h => SqL.of (h.2.1 _ _ hm)) ?_ ?_
    · rintro i σ H1 v hv ⟨⟨x3, x4, x5, rfl⟩, e, vs, hvs, hal⟩
      obtain ⟨mm, hmi, b, kv, rfl, hb, hkv⟩ := hrows.at hv
      have hmo := hok mm (List.mem_of_getElem? hmi)
      have hi : i < rs0.length := (List.getElem?_eq_some_iff.mp hv).1
      have hi12 : i < 12 := by rw [hrows.1] at hi; omega
      have hvl : vs.length < sizeLine := by
        rw [hal.1, List.length_take]
        exact Nat.lt_of_le_of_lt (by omega : _ ≤ 12) (by decide)
      refine g_tup (e _ _ hb) rfl ?_
      lk
      refine ⟨.inl ⟨rfl, _, SqL.of hvs⟩, ?_⟩
      refine ⟨fun v H' => Ex H1 H' ∧ MemAt H' v mm, ?_, ?_⟩
      · cases hbt : mm.bt with
        | none =>
          lk
          refine ⟨kv, mm.kd, rfl, hkv.mono e, hmo.2.1, fun v' H2 e2 hv' => ?_⟩
          lk
          refine ⟨by decide, fun t ht => ⟨e2.trans (Ex.new ht), t, v', rfl, hv'.mono (Ex.new ht), ?_⟩⟩
          rw [hbt]
          exact upd_same
        | some bb =>
          lk
          refine ⟨by decide, fun t ht => ⟨Ex.new ht, t, kv, rfl, (hkv.mono e).mono (Ex.new ht), ?_⟩⟩
          rw [hbt]
          exact upd_same
      · rintro v' H2 ⟨e2, hv'⟩
        have hvs2 := e2 _ _ hvs
        refine ⟨p, _, _, rfl, rfl, hvs2, hvl, ?_⟩
        lk
        refine ⟨Ex.mut (e.trans e2) hp0, _, upd_same, ?_⟩
        exact hal.snoc hmi (fun _ _ h => (h.mono e2).monoT (ExT.lst hvs2)) (hv'.monoT (ExT.lst hvs2))
    · rintro σ H1 ⟨⟨x3, x4, x5, rfl⟩, e, vs, hvs, hal⟩
      rw [hrows.1, List.take_length] at hal
      have hd1 := e _ _ hd
      lk
      refine ⟨_, dgk hd1 hk.conv, ?_⟩
      refine ⟨_, dgk hd1 hk.pack, ?_⟩
      refine ⟨_, dgk hd1 hk.align, ?_⟩
      refine ⟨_, dgk hd1 hk.ends, ?_⟩
      refine ⟨by decide, fun q hq => ?_⟩
      have hq1 : upd H1 q (.lst [.str conv, oV pk, oV al, .str ed]) q = some (.lst [.str conv, oV pk, oV al, .str ed]) := upd_same
      have e1 := Ex.new (o := .lst [.str conv, oV pk, oV al, .str ed]) hq
      generalize upd H1 q (.lst [.str conv, oV pk, oV al, .str ed]) = H2 at hq1 e1 ⊢
      have hms : MemsAt H2 (.ref p) ms := ⟨p, vs, rfl, e1 _ _ hvs, hal.imp fun _ _ => MemAt.mono e1⟩
      refine ⟨_, dgk (e1 _ _ hd1) hk.union, ?_⟩
      cases u with
      | true =>
        lk
        refine ixl 0 hq1 rfl ?_
        lk
        refine ixl 1 hq1 rfl ?_
        lk
        refine ixl 2 hq1 rfl ?_
        lk
        refine ixl 3 hq1 rfl ?_
        lk
        exact ⟨rfl, _, conv, pk, al, ed, ms, rfl, hms, hlen, hok, hnd, hc, hp, ha, he, fun v' H3 e3 hL => k v' H3 ((e.trans e1).trans e3) hL⟩
      | false =>
        lk
        refine ixl 0 hq1 rfl ?_
        lk
        refine ixl 1 hq1 rfl ?_
        lk
        refine ixl 2 hq1 rfl ?_
        lk
        refine ixl 3 hq1 rfl ?_
        lk
        exact ⟨rfl, _, conv, pk, al, ed, ms, rfl, hms, hlen, hok, hnd, hc, hp, ha, he, fun v' H3 e3 hL => k v' H3 ((e.trans e1).trans e3) hL⟩

def fullIf (fl : Bool) (ms : List Mem) : List Mem := if fl = true then ms.map fullM else ms
abbrev spWith (K : PySem.W.Frag) : Sp := fun vs H Q _ => ∃ d conv pk al e u ms ru fl, vs = [.ref d, .str ru, .bl fl] ∧ PlanF H d conv pk al e u ms ∧ ms.length ≤ 12 ∧ (∀ m ∈ ms, plainM m) ∧ (ms.map (·.nm)).Nodup ∧ okConv ru ∧ okPack pk ∧ okAlign al ∧ okEnds e ∧
  ∀ v' H', Ex H H' → LayAt K H' v' (layOf ru pk al e u (fullIf fl ms)) → Q v' H'
abbrev s_law_with : Stmt := top 79
abbrev N_law_with : List Str := ["_law_plan_here", "_law_rule", "_law_full", "_law_found", "_law_rows", "_law_name", "_law_kind", "_law_bits_here"]
abbrev P_law_with : List Str := ["_law_plan_here", "_law_rule", "_law_full"]
theorem sc_law_with : FnScope N_law_with P_law_with (defScope s_law_with) := ⟨rfl, rfl, rfl, by decide +kernel, rfl, by decide +kernel, by decide +kernel⟩
theorem bb_law_with : BindsBy "_law_with" s_law_with P_law_with := fun _ _ _ _ _ _ us hl => match us, hl with | [_, _, _], _ => rfl
theorem ok_law_with (c : Ctx K mg) : Df P w K mg base "_law_with" 12 P_law_with (spWith K) := by
  have D_law_layout := ok_law_layout (P := P) (w := w) (base := base) c
  refine Df.of c.h_law_with sc_law_with bb_law_with (fun vs H Q E h => ?_) (fun f cdv A outer s H vs Q E hr h => ?_)
  · obtain ⟨d, conv, pk, al, e, u, ms, ru, fl, rfl, _⟩ := h
    rfl
  · obtain ⟨d, conv, pk, al, ed, u, ms, ru, fl, rfl, ⟨kvs, m, rs0, hd, hk, hm, hrows⟩, hlen, hpl, hnd, hc, hp, ha, he, k⟩ := h
    -- 0 _law_plan_here, 1 _law_rule, 2 _law_full, 3 _law_found, 4 _law_rows, 5 _law_name, 6 _law_kind, 7 _law_bits_here
    refine ⟨_, (pss_cons (ps_set (i := 3) sc_law_with.nd rfl (Or.inl rfl) (pe_callTy call_dictD (by rfl) c.no_dict (by decide +kernel) (pa_cons (pv 0) pa_nil)))
        (pss_cons (ps_dput (hu_of hr) (pv 3) pe_str (pv 1) rfl)
        (pss_cutS (ps_if (pt_val (pv 2)) (pss_cons (ps_set (i := 4) sc_law_with.nd rfl (Or.inl rfl) (pe_lst pa_nil))
        (pss_cons (ps_for PassesOwn.never rfl (pi_list (pe_dget (hu_of hr) (pv 0) pe_str (fun _ _ => rfl))) (pg_tup rfl (pgs_cons (pg_name (i := 5) sc_law_with.nd rfl (Or.inl rfl)) (pgs_cons (pg_name (i := 6) sc_law_with.nd rfl (Or.inl rfl)) (pgs_cons (pg_name (i := 7) sc_law_with.nd rfl (Or.inl rfl)) pgs_nil)))) (pss_one (ps_expr (pe_bm PySem.F.plainAttrs_list PySem.F.slot_list_append PySem.F.type_list_append mt_append (pv 4) (pa_cons (pe_tup (pa_cons (pv 5) (pa_cons (pv 6) (pa_cons (pe_cut (pe_ifExp (pt_cmpR op_eq (pe_ix ix_tup (pv 6) pe_int (fun _ _ => rfl)) pe_str (nomark _)) (pe_op op_mul pe_int (pe_ix ix_tup (pv 6) pe_int (fun _ _ => rfl))) pe_non)) pa_nil)))) pa_nil)))))
        (pss_one (ps_dput (hu_of hr) (pv 3) pe_str (pv 4) rfl)))) pss_nil)
        (pss_one (ps_ret (pe_df D_law_layout (hr.mono (by omega)) (by rfl) (pa_cons (pv 3) pa_nil))))))), ?_⟩
    lk
    refine ⟨kvs, .inl hd, fun q hq => ?_⟩
    have e1 := Ex.new (o := .dK kvs) hq
    have hq1 : upd H q (.dK kvs) q = some (.dK kvs) := upd_same
    lk
    refine ⟨_, dpk hq1 hk.len, ?_⟩
    have e2 : Ex H (upd (upd H q (.dK kvs)) q (.dK (putK kvs (Sum.inr ("convention" : Str)) (.str ru)))) := Ex.mut e1 hq
    have hq2 : upd (upd H q (.dK kvs)) q (.dK (putK kvs (Sum.inr ("convention" : Str)) (.str ru))) q = some (.dK (putK kvs (Sum.inr ("convention" : Str)) (.str ru))) := upd_same
    generalize upd (upd H q (.dK kvs)) q (.dK (putK kvs (Sum.inr ("convention" : Str)) (.str ru))) = H2 at e2 hq2 ⊢
    have hk2 := hk.put_conv ru
    refine ⟨fun σ H' => (∃ x4 x5 x6 x7, σ = [some (.ref d), some (.str ru), some (.bl fl), some (.ref q), x4, x5, x6, x7]) ∧ Ex H H' ∧ PlanF H' q ru pk al ed u (fullIf fl ms), ?_, ?_⟩
    · cases fl with
      | false =>
        lk
        exact ⟨e2, _, m, rs0, hq2, hk2, e2 _ _ hm, hrows.imp fun _ _ => RowAt.mono e2⟩
      | true =>
        lk
        refine ⟨by decide, fun p hp0 => ?_⟩
        have e3 := e2.trans (Ex.new (o := .lst []) hp0)
        have hp0' : H p = none := e2.back hp0
        have hpq : p ≠ q := (ne_of_none hq2 hp0).symm
        refine for_ok ?_
        lk
        refine ⟨_, dgk (e3 _ _ hd) hk.mem, ?_⟩
        lk
        refine ⟨⟨rs0, SqL.of (e3 _ _ hm)⟩, ?_⟩
        refine ForOk.list rs0 (fun i σ H' => (∃ x5 x6 x7, σ = [some (.ref d), some (.str ru), some (.bl true), some (.ref q), some (.ref p), x5, x6, x7]) ∧ Ex H H' ∧ H' q = some (.dK (putK kvs (Sum.inr ("convention" : Str)) (.str ru))) ∧ ∃ vs, H' p = some (.lst vs) ∧ Al2 (RowAt H') vs ((ms.map fullM).take i)) ⟨⟨_, _, _, rfl⟩, e3, Ex.new hp0 _ _ hq2, [], upd_same, Al2.nil⟩ (fun i σ H' h => SqL.of (h.2.1 _ _ hm)) ?_ ?_
        · rintro i σ H1 v hv ⟨⟨x5, x6, x7, rfl⟩, e, hqq, vs, hvs, hal⟩
          obtain ⟨mm, hmi, b, kv, rfl, hb, hkv⟩ := hrows.at hv
          obtain ⟨hnm, hko, hbt⟩ := hpl mm (List.mem_of_getElem? hmi)
          have hmi2 : (ms.map fullM)[i]? = some (fullM mm) := by
            rw [List.getElem?_map, hmi]
            rfl
          have hi : i < rs0.length := (List.getElem?_eq_some_iff.mp hv).1
          have hi12 : i < 12 := by rw [hrows.1] at hi; omega
          have hvl : vs.length < sizeLine := by
            rw [hal.1, List.length_take]
            exact Nat.lt_of_le_of_lt (by omega : _ ≤ 12) (by decide)
          refine g_tup (e _ _ hb) rfl ?_
          lk
          refine ⟨.inl ⟨rfl, _, SqL.of hvs⟩, ?_⟩
          refine ⟨fun v H' => H' = H1 ∧ v = oV (fullM mm).bt, ?_, ?_⟩
          · obtain ⟨nm, kd, bt⟩ := mm
            cases kd with
            | int n z =>
              obtain ⟨a, rfl, ha⟩ := hkv.mono e
              lk
              refine ix_0 ha ?_
              lk
              refine ix_1 ha ?_
              lk
              exact ⟨.inl ⟨by decide, by decide⟩, rfl⟩
            | arr kd2 m2 =>
              obtain ⟨a, u', rfl, ha, _⟩ := hkv.mono e
              lk
              refine ix_0 ha ?_
              lk
              rfl
          · rintro _ _ ⟨rfl, rfl⟩
            lk
            refine ⟨by decide, fun t ht => ?_⟩
            have hvs2 := Ex.new (o := .tup [.str mm.nm, kv, oV (fullM mm).bt]) ht _ _ hvs
            refine ⟨p, _, _, rfl, rfl, hvs2, hvl, ?_⟩
            lk
            refine ⟨Ex.mut (e.trans (Ex.new ht)) hp0', (upd_ne hpq.symm).trans (Ex.new ht _ _ hqq), _, upd_same, ?_⟩
            refine hal.snoc hmi2 (fun _ _ h => (h.mono (Ex.new ht)).monoT (ExT.lst hvs2)) ?_
            refine RowAt.monoT (ExT.lst hvs2) ⟨t, kv, rfl, ?_, ?_⟩
            · rw [fullM_nm]
              exact upd_same
            · rw [fullM_kd]
              exact (hkv.mono e).mono (Ex.new ht)
        · rintro σ H1 ⟨⟨x5, x6, x7, rfl⟩, e, hqq, vs, hvs, hal⟩
          lk
          refine ⟨_, dpk hqq hk2.len, ?_⟩
          lk
          refine ⟨Ex.mut e hq, _, p, vs, upd_same, hk2.put_mem p, (upd_ne hpq).trans hvs, ?_⟩
          have hlm : rs0.length = (ms.map fullM).length := by rw [hrows.1, List.length_map]
          rw [hlm, List.take_length] at hal
          exact hal.imp fun v x hx => RowAt.monoP (ExP.dict hqq) hx
    · rintro σ H1 ⟨⟨x4, x5, x6, x7, rfl⟩, e, hpf⟩
      lk
      have hms : ∀ x ∈ fullIf fl ms, x.ok := by
        intro x hx
        unfold fullIf at hx
        split at hx
        · obtain ⟨y, hy, rfl⟩ := List.mem_map.mp hx
          exact full_ok (hpl y hy)
        · exact plain_ok (hpl x hx)
      have hl : (fullIf fl ms).length ≤ 12 := by
        unfold fullIf
        split
        · rw [List.length_map]
          exact hlen
        · exact hlen
      have hn2 : ((fullIf fl ms).map (·.nm)).Nodup := by
        unfold fullIf
        split
        · rw [List.map_map]
          have : ((fun m : Mem => m.nm) ∘ fullM) = fun m => m.nm := funext fullM_nm
          rw [this]
          exact hnd
        · exact hnd
      exact ⟨q, ru, pk, al, ed, u, _, rfl, hpf, hl, hms, hn2, hc, hp, ha, he, fun v' H3 e3 hL => k v' H3 (e.trans e3) hL⟩
end
end K32
/-! L9: a plan drawn. -/
namespace K32
open PySem PySem.Spec PyProof.Rows L2
/-! one look: what stands written is read -/
local macro_rules | `(tactic| lk) => `(tactic| try simp only [tCB, tCons, tNil, tC, tVar, tOp, tUn, tTest, tB, tNot, tAndV, tOrV, tNotV, tAnd, tOr, tRet, tSeq, tAsg, gName, tDrop, tNext, tIfS, tIf, tCall, tCmp, rI0, rI, rEq, rNe, tPar, tPar3, tTup, tLst,
  tDGet, tSl, tPart, tNoPart, sDPut, tDisp, tPairs, tLstRg, tRg2, tCallN, tRevL, sFld, tFld, tMeth, tProp, tMake, tBM, tBM0, tNevE, tNever, tRetN, tBreak, tCont, gCons, gNil, gSub, tAug, ipI, wipe, iList, iTup, iRng1, iRng2, iStr, iEnum, RZ.iZipA, rU,
  L2.start, List.map_cons, List.map_nil, List.length_cons, List.length_nil, Nat.reduceAdd, Nat.reduceSub, List.replicate_succ, List.replicate_zero, List.cons_append, List.nil_append, List.append_nil,
  List.getElem?_cons_zero, List.getElem?_cons_succ, List.set_cons_zero, List.set_cons_succ, List.cons.injEq, Option.some.injEq, V.int.injEq, V.bl.injEq, V.str.injEq, V.ref.injEq, exists_eq_left', exists_eq_left, exists_eq', exists_and_left, and_assoc, true_and, and_true,
  if_true, Bool.false_eq_true, if_false, sc_ii, sc_ss, sc_ni, sc_in, sc_sn, sc_ns, sc_bb, eq_self, decide_eq_true_eq, Bool.not_eq_true', decide_eq_false_iff_not, ite_not, ne_ia', ne_ai', Int.reduceEq, Int.reduceLT, Int.reduceLE, reduceCtorEq, decide_true, decide_false, Bool.not_true, Bool.not_false, cxK, oV_n, oV_s, cast_lit])
theorem slice_cps : ∀ d : Fin 10, (L2.cutS ("abcdefghijkl" : Str) none (some (1 + ((d : Nat) : Int)))).cps.toList = (List.range (1 + (d : Nat))).map (97 + ·) := by decide +kernel
theorem pk_new {m : Addr} {pk : Option Int} : Pk (mergeK ([] : List (Key × V)) [(Sum.inr ("members" : Str), .ref m), (Sum.inr ("convention" : Str), .str "sysv"), (Sum.inr ("pack" : Str), oV pk), (Sum.inr ("align" : Str), .non), (Sum.inr ("ends" : Str), .str "little"), (Sum.inr ("union" : Str), .bl false)]) m "sysv" pk none "little" false := by
  refine ⟨Nat.le_trans (length_mergeK _ _) (by simp), ?_, ?_, ?_, ?_, ?_, ?_⟩
  all_goals simp only [mergeK, List.foldl_cons, List.foldl_nil]
  · exact val_old (by decide +kernel) (val_old (by decide +kernel) (val_old (by decide +kernel) (val_old (by decide +kernel) (val_old (by decide +kernel) val_new))))
  · exact val_old (by decide +kernel) (val_old (by decide +kernel) (val_old (by decide +kernel) (val_old (by decide +kernel) val_new)))
  · exact val_old (by decide +kernel) (val_old (by decide +kernel) (val_old (by decide +kernel) val_new))
  · exact val_old (by decide +kernel) (val_old (by decide +kernel) val_new)
  · exact val_old (by decide +kernel) val_new
  · exact val_new
theorem Fx.ne {H H' : Hp} {s q a : Addr} {n : Nat} {o : HO} (f : Fx s q H H') (st : StAt H s q n) (h : H a = some o) (ho : ∀ xs, o ≠ .lst xs) : H' a = some o := f.t st a o h ho
theorem PlanAt.fx {H H' : Hp} {s q d m : Addr} {n : Nat} {pk : Option Int} {ms : List Mem} (f : Fx s q H H') (st : StAt H s q n) (h1 : m ≠ s) (h2 : m ≠ q) (h : PlanAt H d m pk ms) : PlanAt H' d m pk ms :=
  let ⟨kvs, vs, hd, hk, hm, hr⟩ := h
  ⟨kvs, vs, f.t st _ _ hd (fun _ z => nomatch z), hk, f _ _ hm h1 h2, hr.imp fun _ _ => RowAt.monoT (f.t st)⟩
theorem StAt.upd {H : Hp} {s q m : Addr} {n : Nat} {o : HO} (h1 : m ≠ s) (h2 : m ≠ q) (h : StAt H s q n) : StAt (upd H m o) s q n :=
  let ⟨ns, a, b, d, hs, hq, r⟩ := h
  ⟨ns, a, b, d, (upd_ne (Ne.symm h1)).trans hs, (upd_ne (Ne.symm h2)).trans hq, r⟩
theorem Fx.mut {H H' : Hp} {s q p : Addr} {o : HO} (f : Fx s q H H') (h : H p = none) : Fx s q H (upd H' p o) := fun a u ha h1 h2 => (upd_ne (ne_of_none ha h)).trans (f a u ha h1 h2)
theorem PlanAt.put {H : Hp} {d m : Addr} {pk : Option Int} {ms ms' : List Mem} {vs : List V} (h : PlanAt H d m pk ms) (hr : Al2 (RowAt H) vs ms') : PlanAt (upd H m (.lst vs)) d m pk ms' :=
  let ⟨kvs, us, hd, hk, hm, _⟩ := h
  ⟨kvs, vs, (upd_ne (fun e => by
    subst e
    rw [hd] at hm
    cases hm)).trans hd, hk, upd_same, hr.imp fun _ _ => RowAt.monoT (ExT.lst hm)⟩
theorem chr_inj {a b : Nat} (h : (⟨#[97 + a]⟩ : Str) = ⟨#[97 + b]⟩) : a = b := by
  have h2 : (#[97 + a] : Array Nat) = #[97 + b] := congrArg Str.cps h
  simp at h2
  exact h2
/-- what has been drawn of a plan -/
structure Drawn (i : Nat) (ms : List Mem) : Prop where
  few : ms.length ≤ i
  pl : ∀ x ∈ ms, plainM x
  nm : ∀ x ∈ ms, ∃ j, j < i ∧ x.nm = ⟨#[97 + j]⟩
  nd : (ms.map (·.nm)).Nodup
theorem Drawn.skip {i : Nat} {ms : List Mem} (h : Drawn i ms) : Drawn (i + 1) ms := ⟨Nat.le_succ_of_le h.few, h.pl, fun x hx => let ⟨j, h1, h2⟩ := h.nm x hx; ⟨j, Nat.lt_succ_of_lt h1, h2⟩, h.nd⟩
theorem Drawn.add {i : Nat} {ms : List Mem} {kd : Kd} (h : Drawn i ms) (hi : i < 12) (hk : kd.ok 3) : Drawn (i + 1) (ms ++ [⟨⟨#[97 + i]⟩, kd, none⟩]) := by
  refine ⟨by rw [List.length_append]; exact Nat.succ_le_succ h.few, fun x hx => ?_, fun x hx => ?_, ?_⟩
  · rcases List.mem_append.mp hx with hx | hx
    · exact h.pl x hx
    · rw [List.mem_singleton.mp hx]
      exact ⟨⟨97 + i, by omega, by omega, rfl⟩, hk, rfl⟩
  · rcases List.mem_append.mp hx with hx | hx
    · obtain ⟨j, h1, h2⟩ := h.nm x hx
      exact ⟨j, by omega, h2⟩
    · rw [List.mem_singleton.mp hx]
      exact ⟨i, by omega, rfl⟩
  · rw [List.map_append, List.nodup_append]
    refine ⟨h.nd, by simp, fun a ha b hb e => ?_⟩
    obtain ⟨x, hx, rfl⟩ := List.mem_map.mp ha
    obtain ⟨j, h1, h2⟩ := h.nm x hx
    have hb2 := List.mem_singleton.mp hb
    rw [h2, hb2] at e
    have := chr_inj e
    omega
def PlanI (s q menu d m : Addr) (pk : Option Int) (n : Nat) (H : Hp) (i : Nat) (σ : L2.St) (H' : Hp) : Prop := ∃ x6 ms, σ = [some (.ref s), some (.ref menu), some (.int 10), some (.str "sysv"), some (oV pk), some (.ref d), x6] ∧ StAt H' s q (n + 1 + 7 * i) ∧ Fx s q H H' ∧
  H' menu = some (.lst [.str "int", .str "int", .str "array"]) ∧ PlanAt H' d m pk ms ∧ Drawn i ms
section
variable {P : Program} {w : World} {K : PySem.W.Frag} {mg : Str → Option Value} {base : Heap}
abbrev spPlan : Sp := fun vs H Q _ => ∃ (s q menu : Addr) (n : Nat) (pk : Option Int), vs = [.ref s, .ref menu, .int 10, .str "sysv", oV pk] ∧ StAt H s q n ∧ n ≤ 4000 ∧ H menu = some (.lst [.str "int", .str "int", .str "array"]) ∧ menu ≠ s ∧ menu ≠ q ∧ okPack pk ∧
  ∀ d m ms H', StAt H' s q (n + 80) → m ≠ s → m ≠ q → PlanAt H' d m pk ms → Drawn 10 ms → Q (.ref d) H'
abbrev s_law_plan : Stmt := top 66
abbrev N_law_plan : List Str := ["_law_s", "_law_menu", "_law_most", "_law_rule", "_law_packed", "_law_plan_here", "_law_name"]
abbrev P_law_plan : List Str := ["_law_s", "_law_menu", "_law_most", "_law_rule", "_law_packed"]
theorem sc_law_plan : FnScope N_law_plan P_law_plan (defScope s_law_plan) := ⟨rfl, rfl, rfl, by decide +kernel, rfl, by decide +kernel, by decide +kernel⟩
theorem bb_law_plan : BindsBy "_law_plan" s_law_plan P_law_plan := fun _ _ _ _ _ _ us hl => match us, hl with | [_, _, _, _, _], _ => rfl
theorem ok_law_plan (c : Ctx K mg) : Df P w K mg base "_law_plan" 8 P_law_plan spPlan := by
  have D_law_draw := ok_law_draw (P := P) (w := w) (base := base) c
  have D_law_pick := ok_law_pick (P := P) (w := w) (base := base) c
  have D_law_member := ok_law_member (P := P) (w := w) (base := base) c
  have D_law_fits := ok_law_fits (P := P) (w := w) (base := base) c
  refine Df.of c.h_law_plan sc_law_plan bb_law_plan (fun vs H Q E h => ?_) (fun f cdv A outer s H vs Q E hr h => ?_)
  · obtain ⟨s, q, menu, n, pk, rfl, _⟩ := h
    rfl
  · obtain ⟨s, q, menu, n, pk, rfl, hst, hn, hmenu, hms, hmq, hpk, k⟩ := h
    -- 0 _law_s, 1 _law_menu, 2 _law_most, 3 _law_rule, 4 _law_packed, 5 _law_plan_here, 6 _law_name
    refine ⟨_, (pss_cons (ps_set (i := 5) sc_law_plan.nd rfl (Or.inl rfl) (pe_disp (pps_cons pe_str (pe_lst pa_nil) (pps_cons pe_str (pv 3) (pps_cons pe_str (pv 4) (pps_cons pe_str pe_non (pps_cons pe_str pe_str (pps_cons pe_str pe_bl pps_nil)))))) (by rfl) (by rfl) (fun z => by cases z) (by decide)))
        (pss_cons (ps_for PassesOwn.never rfl (pi_str (pe_slice sl_str pe_str po_none (po_some (pe_op op_add pe_int (pe_df D_law_draw (hr.mono (by omega)) (by rfl) (pa_cons (pv 0) (pa_cons (pv 2) pa_nil))))))) (pg_name (i := 6) sc_law_plan.nd rfl (Or.inl rfl)) (pss_cons (ps_expr (pe_bm PySem.F.plainAttrs_list PySem.F.slot_list_append PySem.F.type_list_append mt_append (pe_dget (hu_of hr) (pv 5) pe_str (fun _ _ => rfl)) (pa_cons (pe_df D_law_member (hr.mono (by omega)) (by rfl) (pa_cons (pv 0) (pa_cons (pe_df D_law_pick (hr.mono (by omega)) (by rfl) (pa_cons (pv 0) (pa_cons (pv 1) pa_nil))) (pa_cons (pv 6) pa_nil)))) pa_nil)))
        (pss_one (ps_if (pt_not (pt_val (pe_df D_law_fits (hr.mono (by omega)) (by rfl) (pa_cons (pv 5) pa_nil)))) (pss_one (ps_expr (pe_bm0 PySem.F.plainAttrs_list PySem.F.slot_list_pop PySem.F.type_list_pop mt_pop (pe_dget (hu_of hr) (pv 5) pe_str (fun _ _ => rfl))))) pss_nil))))
        (pss_one (ps_ret (pv 5))))), ?_⟩
    lk
    intro d hd
    refine ⟨by decide, fun m hm => ?_⟩
    have e2 : Ex H (upd (upd H d (.dK [])) m (.lst [])) := (Ex.new hd).trans (Ex.new hm)
    have hdm : d ≠ m := ne_of_none upd_same hm
    refine ⟨Ex.new hm _ _ upd_same, [(Sum.inr ("members" : Str), .ref m), (Sum.inr ("convention" : Str), .str "sysv"), (Sum.inr ("pack" : Str), oV pk), (Sum.inr ("align" : Str), .non), (Sum.inr ("ends" : Str), .str "little"), (Sum.inr ("union" : Str), .bl false)], rfl, by simp, ?_⟩
    have hd3 : ∀ x, upd (upd (upd H d (.dK [])) m (.lst [])) d x d = some x := fun x => upd_same
    have hm3 : ∀ x, upd (upd (upd H d (.dK [])) m (.lst [])) d x m = some (.lst []) := fun x => (upd_ne hdm.symm).trans upd_same
    have e3 : ∀ x, Ex H (upd (upd (upd H d (.dK [])) m (.lst [])) d x) := fun x => Ex.mut e2 hd
    have hmn : H m = none := (Ex.new (o := .dK []) hd).back hm
    obtain ⟨kvs, hkvs⟩ : ∃ kvs, kvs = mergeK ([] : List (Key × V)) [(Sum.inr ("members" : Str), .ref m), (Sum.inr ("convention" : Str), .str "sysv"), (Sum.inr ("pack" : Str), oV pk), (Sum.inr ("align" : Str), .non), (Sum.inr ("ends" : Str), .str "little"), (Sum.inr ("union" : Str), .bl false)] := ⟨_, rfl⟩
    rw [← hkvs]
    have hk : Pk kvs m "sysv" pk none "little" false := hkvs ▸ pk_new
    have hd4 := hd3 (.dK kvs)
    have hm4 := hm3 (.dK kvs)
    have e4 := e3 (.dK kvs)
    generalize upd (upd (upd H d (.dK [])) m (.lst [])) d (.dK kvs) = H1 at hd4 hm4 e4 ⊢
    have hms' := hst.fresh hmn
    refine for_ok ?_
    lk
    refine ⟨s, q, 10, n, rfl, hst.mono e4 (Nat.le_refl _), by omega, by decide, by decide, fun dd H2 hd0 hd1 hst2 hf2 => ?_⟩
    lk
    obtain ⟨j, rfl⟩ : ∃ j : Fin 10, dd = ((j : Nat) : Int) := ⟨⟨dd.toNat, by omega⟩, by show dd = (dd.toNat : Int); omega⟩
    have hcps := slice_cps j
    have hj : (j : Nat) < 10 := j.2
    refine ⟨_, rfl, by decide +kernel, ?_⟩
    refine ⟨_, rfl, ?_⟩
    generalize L2.cutS ("abcdefghijkl" : Str) none (some (1 + ((j : Nat) : Int))) = z at hcps ⊢
    have hzs : z.cps.size = 1 + (j : Nat) := by
      rw [← Array.length_toList, hcps, List.length_map, List.length_range]
    refine ForOk.inv (1 + (j : Nat)) (PlanI s q menu d m pk n H) ⟨_, [], rfl, hst2, e4.fx.trans hf2, hf2 _ _ (e4 _ _ hmenu) hms hmq, PlanAt.fx hf2 (hst.mono e4 (Nat.le_refl _)) hms'.1 hms'.2 ⟨kvs, [], hd4, hk, hm4, Al2.nil⟩, ⟨Nat.zero_le _, (fun x hx => nomatch hx), (fun x hx => nomatch hx), List.nodup_nil⟩⟩ (fun i σ H' hi _ => by show i < z.cps.size; omega) (fun σ H' _ => by show z.cps.size ≤ 1 + (j : Nat); omega) ?_ ?_
    · rintro i σ H3 x H' hi ⟨x6, ms, rfl, hst3, hf3, hmenu3, hpa, hdr⟩ ⟨rfl, ch, hch, rfl⟩
      have hch2 : ch = 97 + i := by
        rw [← Array.getElem?_toList, hcps, List.getElem?_map, List.getElem?_range hi] at hch
        exact (Option.some.inj hch).symm
      subst hch2
      obtain ⟨kvs3, vs3, hd3', hk3, hm3', hr3⟩ := id hpa
      lk
      refine ⟨_, dgk hd3' hk3.mem, ?_⟩
      refine ⟨.inl ⟨rfl, _, SqL.of hm3'⟩, ?_⟩
      refine ⟨s, q, menu, n + 1 + 7 * i, _, rfl, hst3, by omega, hmenu3, hms, hmq, by simp, by simp, fun x H4 hx hst4 hf4 => ?_⟩
      have hx2 : ∃ wd, x = .str wd ∧ (wd = "int" ∨ wd = "array") := by
        simp only [List.mem_cons, List.not_mem_nil, or_false] at hx
        rcases hx with rfl | rfl | rfl
        · exact ⟨_, rfl, .inl rfl⟩
        · exact ⟨_, rfl, .inl rfl⟩
        · exact ⟨_, rfl, .inr rfl⟩
      obtain ⟨wd, rfl, hwd⟩ := hx2
      lk
      refine ⟨s, q, n + 1 + 7 * i + 1, wd, ⟨#[97 + i]⟩, rfl, hwd, hst4, by omega, fun v kd H5 hrow hko hst5 hf5 => ?_⟩
      have hpa5 := (hpa.fx hf4 hst3 hms'.1 hms'.2).fx hf5 hst4 hms'.1 hms'.2
      have hf35 := hf4.trans hf5
      have hm5 := hf35 _ _ hm3' hms'.1 hms'.2
      have hr5 : Al2 (RowAt H5) vs3 ms := hr3.imp fun _ _ => RowAt.monoT (hf35.t hst3)
      have hr6 : Al2 (RowAt H5) (vs3 ++ [v]) (ms ++ [⟨⟨#[97 + i]⟩, kd, none⟩]) := hr5.append ⟨rfl, fun a u y h1 h2 => by
        match a, h1, h2 with
        | 0, h1, h2 =>
          cases h1
          cases h2
          exact hrow⟩
      have hdr6 := hdr.add (kd := kd) (by omega : i < 12) hko
      refine ⟨m, _, _, rfl, rfl, hm5, Nat.lt_of_le_of_lt (show vs3.length ≤ 20 from by rw [hr3.1]; have := hdr.few; omega) (by decide), ?_⟩
      lk
      have hpa6 := hpa5.put hr6
      have hst6 := hst5.upd (o := .lst (vs3 ++ [v])) hms'.1 hms'.2
      have hf6 := ((hf3.trans hf35).mut (o := .lst (vs3 ++ [v])) hmn)
      have hmenu6 := (upd_ne (o := .lst (vs3 ++ [v])) (ne_of_none hmenu hmn)).trans (hf35 _ _ hmenu3 hms hmq)
      refine ⟨d, m, pk, _, rfl, hpa6, by have := hdr6.few; omega, hdr6.pl, hpk, fun b H7 e7 => ?_⟩
      cases b with
      | true =>
        lk
        exact ⟨_, _, rfl, hst6.mono e7 (by omega), hf6.trans e7.fx, e7 _ _ hmenu6, hpa6.mono e7, hdr6⟩
      | false =>
        lk
        obtain ⟨kvs7, vs7, hd7, hk7, hm7, hr7⟩ := hpa6.mono e7
        refine ⟨_, dgk hd7 hk7.mem, ?_⟩
        have hm8 : H7 m = some (.lst (vs3 ++ [v])) := e7 _ _ upd_same
        refine ⟨.inl ⟨rfl, _, SqL.of hm8⟩, m, _, v, rfl, rfl, hm8, by simp, ?_⟩
        rw [List.dropLast_concat]
        have hr8 : Al2 (RowAt H7) vs3 ms := hr5.imp fun _ _ h => (h.monoT (ExT.lst hm5)).mono e7
        exact ⟨_, ms, rfl, (hst6.mono e7 (by omega)).upd hms'.1 hms'.2, (hf6.trans e7.fx).mut hmn, (upd_ne (ne_of_none hmenu hmn)).trans (e7 _ _ hmenu6), (hpa6.mono e7).put hr8, hdr.skip⟩
    · rintro σ H3 ⟨x6, ms, rfl, hst3, hf3, hmenu3, hpa, hdr⟩
      lk
      refine k d m ms H3 (hst3.mono (Ex.refl _) (by omega)) hms'.1 hms'.2 hpa ⟨by have := hdr.few; omega, hdr.pl, fun x hx => ?_, hdr.nd⟩
      obtain ⟨a, h1, h2⟩ := hdr.nm x hx
      exact ⟨a, by omega, h2⟩
end
end K32
/-! M1: the plain law: the conventions agree on whole integers. -/
namespace K32
open PySem PySem.Spec PyProof.Rows L2
theorem up8 {a s : Int} (hs : 0 < s) : up (8 * a) (8 * s) = 8 * up a s := by
  unfold up
  have h1 : 8 * a + 8 * s - 1 = 8 * (a + s - 1) + 7 := by omega
  have h2 : (8 * (a + s - 1) + 7) / (8 * s) = (a + s - 1) / s := by
    have h := @Int.ediv_ediv (8 * (a + s - 1) + 7) 8 s
    rw [if_neg (fun z => absurd z.1 (by decide)), Int.sub_zero] at h
    rw [← h]
    congr 1
    omega
  rw [h1, h2, ← Int.mul_assoc, Int.mul_comm _ 8, Int.mul_assoc]
theorem up_88 (a : Int) : up (8 * a) 8 / 8 = a := by
  unfold up
  omega
theorem up_same {p m : Int} (hm : 0 < m) (h : p / m = (p + m - 1) / m) : up p m = p := by
  unfold up
  have h1 := Int.mul_ediv_add_emod p m
  have h2 := Int.mul_ediv_add_emod (p + m - 1) m
  have h3 := Int.emod_lt_of_pos (p + m - 1) hm
  have h4 := Int.emod_nonneg p (by omega : m ≠ 0)
  have h5 := Int.emod_nonneg (p + m - 1) (by omega : m ≠ 0)
  have h6 : p + m - 1 = p + m - 1 := rfl
  rw [← h] at h2 ⊢
  rw [Int.mul_comm]
  omega
/-! ### the two conventions -/
theorem ss_ms_fold {pk : Option Int} (hp : okPack pk) : ∀ (ms : List Mem) (s : SS) (t : MS), (∀ m ∈ ms, plainM m) → s.at_ = 8 * t.at_ → s.least = t.least → s.pos = t.pos →
    (ms.foldl (ssStep pk) s).at_ = 8 * (ms.foldl (msStep pk) t).at_ ∧ (ms.foldl (ssStep pk) s).least = (ms.foldl (msStep pk) t).least ∧ (ms.foldl (ssStep pk) s).pos = (ms.foldl (msStep pk) t).pos
  | [], s, t, _, h1, h2, h3 => ⟨h1, h2, h3⟩
  | m :: ms, s, t, hpl, h1, h2, h3 => by
    obtain ⟨_, hk, hb⟩ := hpl m List.mem_cons_self
    have hst := stepOf_pos hk hp
    refine ss_ms_fold hp ms (ssStep pk s m) (msStep pk t m) (fun x hx => hpl x (List.mem_cons_of_mem _ hx)) ?_ ?_ ?_
    · simp only [ssStep, msStep, ssAt, hb]
      rw [h1, up8 hst.1]
      omega
    · simp only [ssStep, msStep, ssAt, hb]
      rw [h2]
    · simp only [ssStep, msStep, ssAt, hb]
      rw [h1, up8 hst.1, h3]
theorem su_mu_fold {pk : Option Int} : ∀ (ms : List Mem) (s : US), (∀ m ∈ ms, plainM m) → ms.foldl (suStep pk) s = ms.foldl (muStep pk) s
  | [], _, _ => rfl
  | m :: ms, s, hpl => by
    obtain ⟨_, hk, hb⟩ := hpl m List.mem_cons_self
    have e : suStep pk s m = muStep pk s m := by
      simp only [suStep, muStep, hb]
    rw [List.foldl_cons, List.foldl_cons, e]
    exact su_mu_fold ms _ fun x hx => hpl x (List.mem_cons_of_mem _ hx)
theorem ne_sm : ¬ (("sysv" : Str) = "msvc") := by decide +kernel
theorem laid_conv {pk : Option Int} {u : Bool} {ms : List Mem} (hp : okPack pk) (hpl : ∀ m ∈ ms, plainM m) : laidOf "sysv" u pk ms = laidOf "msvc" u pk ms := by
  unfold laidOf
  rw [if_neg (by decide +kernel), if_pos rfl]
  cases u with
  | true =>
    simp only [if_true]
    have e : suFold pk ms = muFold pk ms := su_mu_fold ms _ hpl
    rw [e]
  | false =>
    simp only [Bool.false_eq_true, if_false]
    obtain ⟨h1, h2, h3⟩ := ss_ms_fold hp ms ⟨0, 1, []⟩ ⟨0, 1, 0, 0, []⟩ hpl rfl rfl rfl
    have h1 : (ssFold pk ms).at_ = 8 * (msFold pk ms).at_ := h1
    have h2 : (ssFold pk ms).least = (msFold pk ms).least := h2
    have h3 : (ssFold pk ms).pos = (msFold pk ms).pos := h3
    rw [h1, h2, h3, up_88]
/-! ### fields that fill their integers -/
theorem full_cases {m : Mem} (h : plainM m) : ((fullM m).bt = none) ∨ ∃ n s, m.kd = .int n s ∧ okN n ∧ (fullM m).bt = some (8 * n) := by
  obtain ⟨nm, kd, bt⟩ := m
  cases kd with
  | int n s => exact .inr ⟨n, s, rfl, h.2.1, rfl⟩
  | arr k c => exact .inl rfl
theorem ms_full_fold {pk : Option Int} (hp : okPack pk) : ∀ (ms : List Mem) (s t : MS), (∀ m ∈ ms, plainM m) → s.at_ = t.at_ → s.least = t.least → s.pos = t.pos → (s.unit ≠ 0 → 0 < s.used) →
    ((ms.map fullM).foldl (msStep pk) s).at_ = (ms.foldl (msStep pk) t).at_ ∧ ((ms.map fullM).foldl (msStep pk) s).least = (ms.foldl (msStep pk) t).least ∧ ((ms.map fullM).foldl (msStep pk) s).pos = (ms.foldl (msStep pk) t).pos
  | [], s, t, _, h1, h2, h3, _ => ⟨h1, h2, h3⟩
  | m :: ms, s, t, hpl, h1, h2, h3, h4 => by
    obtain ⟨hn, hk, hb⟩ := hpl m List.mem_cons_self
    have hr : ∀ x ∈ ms, plainM x := fun x hx => hpl x (List.mem_cons_of_mem _ hx)
    have hkd := fullM_kd m
    rw [List.map_cons, List.foldl_cons, List.foldl_cons]
    rcases full_cases ⟨hn, hk, hb⟩ with hf | ⟨n, sg, hkn, hnn, hf⟩
    · refine ms_full_fold hp ms _ _ hr ?_ ?_ ?_ ?_
      · simp only [msStep, hf, hb, hkd, h1]
      · simp only [msStep, hf, hb, hkd, h2]
      · simp only [msStep, hf, hb, hkd, h1, h3]
      · intro hx
        simp only [msStep, hf] at hx
        exact absurd rfl hx
    · have hsz : m.kd.size = n := by rw [hkn] <;> rfl
      unfold okN at hnn
      have hno : ¬ (s.unit = m.kd.size ∧ ¬ (8 * m.kd.size < s.used + 8 * n)) := by
        rintro ⟨ha, hc⟩
        have := h4 (by omega)
        omega
      refine ms_full_fold hp ms _ _ hr ?_ ?_ ?_ ?_
      · simp only [msStep, hf, hb, hkd, if_neg hno, h1]
      · simp only [msStep, hf, hb, hkd, if_neg hno, h2]
      · simp only [msStep, hf, hb, hkd, if_neg hno, h1, h3]
        congr 2
        omega
      · intro _
        simp only [msStep, hf, hkd, if_neg hno]
        omega
theorem mu_full_fold {pk : Option Int} : ∀ (ms : List Mem) (s : US), (ms.map fullM).foldl (muStep pk) s = ms.foldl (muStep pk) s
  | [], _ => rfl
  | m :: ms, s => by
    have e : muStep pk s (fullM m) = muStep pk s m := by
      simp only [muStep, fullM_kd]
    rw [List.map_cons, List.foldl_cons, List.foldl_cons, e]
    exact mu_full_fold ms _
theorem laid_full_ms {pk : Option Int} {u : Bool} {ms : List Mem} (hp : okPack pk) (hpl : ∀ m ∈ ms, plainM m) : laidOf "msvc" u pk (ms.map fullM) = laidOf "msvc" u pk ms := by
  unfold laidOf
  rw [if_pos rfl, if_pos rfl, List.length_map]
  cases u with
  | true =>
    simp only [if_true]
    have e : muFold pk (ms.map fullM) = muFold pk ms := mu_full_fold ms _
    rw [e]
  | false =>
    simp only [Bool.false_eq_true, if_false]
    obtain ⟨h1, h2, h3⟩ := ms_full_fold hp ms ⟨0, 1, 0, 0, []⟩ ⟨0, 1, 0, 0, []⟩ hpl rfl rfl rfl (fun h => absurd rfl h)
    have h1 : (msFold pk (ms.map fullM)).at_ = (msFold pk ms).at_ := h1
    have h2 : (msFold pk (ms.map fullM)).least = (msFold pk ms).least := h2
    have h3 : (msFold pk (ms.map fullM)).pos = (msFold pk ms).pos := h3
    rw [h1, h2, h3]
theorem ss_full_step {s : SS} {m : Mem} (h : plainM m) : ssStep none s (fullM m) = ssStep none s m := by
  obtain ⟨hn, hk, hb⟩ := h
  have hkd := fullM_kd m
  rcases full_cases ⟨hn, hk, hb⟩ with hf | ⟨n, sg, hkn, hnn, hf⟩
  · simp only [ssStep, ssAt, hf, hb, hkd]
  · have hsz : m.kd.size = n := by rw [hkn] <;> rfl
    have hstp : stepOf m.kd none = n := by rw [hkn] <;> rfl
    unfold okN at hnn
    have hat : ssAt none s (fullM m) = ssAt none s m := by
      simp only [ssAt, hf, hb, hkd, hstp]
      have hn0 : ¬ (8 * n = 0) := by omega
      by_cases hq : s.at_ / (8 * n) = (s.at_ + 8 * n - 1) / (8 * n)
      · rw [if_neg (by simp [moved, hsz, hn0, hq]), up_same (by omega) hq]
      · rw [if_pos (by simp [moved, hsz, hn0, hq])]
    simp only [ssStep, hat, hf, hb, hkd, hsz]
theorem su_full_step {pk : Option Int} {s : US} {m : Mem} (h : plainM m) : suStep pk s (fullM m) = suStep pk s m := by
  obtain ⟨hn, hk, hb⟩ := h
  have hkd := fullM_kd m
  rcases full_cases ⟨hn, hk, hb⟩ with hf | ⟨n, sg, hkn, hnn, hf⟩
  · simp only [suStep, hf, hb, hkd]
  · have hsz : m.kd.size = n := by rw [hkn] <;> rfl
    simp only [suStep, hf, hb, hkd, hsz, up_88]
theorem fold_same {σ : Type} (f : σ → Mem → σ) : ∀ (ms : List Mem) (s : σ), (∀ s m, m ∈ ms → f s (fullM m) = f s m) → (ms.map fullM).foldl f s = ms.foldl f s
  | [], _, _ => rfl
  | m :: ms, s, h => by
    rw [List.map_cons, List.foldl_cons, List.foldl_cons, h s m List.mem_cons_self]
    exact fold_same f ms _ fun s x hx => h s x (List.mem_cons_of_mem _ hx)
theorem laid_full_ss {u : Bool} {ms : List Mem} (hpl : ∀ m ∈ ms, plainM m) : laidOf "sysv" u none (ms.map fullM) = laidOf "sysv" u none ms := by
  have e1 : suFold none (ms.map fullM) = suFold none ms := fold_same _ ms _ fun s m hm => su_full_step (hpl m hm)
  have e2 : ssFold none (ms.map fullM) = ssFold none ms := fold_same _ ms _ fun s m hm => ss_full_step (hpl m hm)
  unfold laidOf
  rw [if_neg ne_sm, if_neg ne_sm, List.length_map, e1, e2]
/-! ### the integers are the same -/
theorem full_ents {m : Mem} (h : plainM m) (p : Int) : ((fullM m).ents p).map Ent.view = (m.ents p).map Ent.view := by
  obtain ⟨nm, kd, bt⟩ := m
  obtain ⟨h1, h2, h3⟩ := h
  have h3 : bt = none := h3
  subst h3
  cases kd with
  | int n s =>
    show [([V.str nm], p, 8 * n, s)] = [([V.str nm], p + 0, 8 * n, s)]
    rw [Int.add_zero]
  | arr k c => rfl
theorem full_zip : ∀ {ms : List Mem} {pos : List Int}, (∀ m ∈ ms, plainM m) → (((ms.map fullM).zip pos).flatMap fun q => q.1.ents q.2).map Ent.view = ((ms.zip pos).flatMap fun q => q.1.ents q.2).map Ent.view
  | [], _, _ => by simp
  | _ :: _, [], _ => by simp
  | m :: ms, p :: pos, h => by
    rw [List.map_cons, List.zip_cons_cons, List.zip_cons_cons, List.flatMap_cons, List.flatMap_cons, List.map_append, List.map_append, full_ents (h m List.mem_cons_self), full_zip fun x hx => h x (List.mem_cons_of_mem _ hx)]
theorem alike_of {c1 c2 : Str} {pk al : Option Int} {e : Str} {u : Bool} {ms ms' : List Mem} (h : laidOf c1 u pk ms' = laidOf c2 u pk ms) (hv : ∀ pos, ((ms'.zip pos).flatMap fun q => q.1.ents q.2).map Ent.view = ((ms.zip pos).flatMap fun q => q.1.ents q.2).map Ent.view) :
    Alike (layOf c1 pk al e u ms') (layOf c2 pk al e u ms) := by
  refine ⟨?_, ?_, rfl, ?_⟩
  · show up (laidOf c1 u pk ms').2.1 (stepAl (laidOf c1 u pk ms').2.2 al) = up (laidOf c2 u pk ms).2.1 (stepAl (laidOf c2 u pk ms).2.2 al)
    rw [h]
  · show stepAl (laidOf c1 u pk ms').2.2 al = stepAl (laidOf c2 u pk ms).2.2 al
    rw [h]
  · show ((ms'.zip (laidOf c1 u pk ms').1).flatMap fun q => q.1.ents q.2).map Ent.view = ((ms.zip (laidOf c2 u pk ms).1).flatMap fun q => q.1.ents q.2).map Ent.view
    rw [h]
    exact hv _
theorem laid_len {conv : Str} {u : Bool} {pk : Option Int} {ms : List Mem} : (laidOf conv u pk ms).1.length = ms.length := by
  unfold laidOf
  split
  · split
    · exact List.length_replicate
    · exact msFold_len
  · split
    · exact List.length_replicate
    · exact ssFold_len
theorem lay_ok {conv : Str} {pk al : Option Int} {e : Str} {u : Bool} {ms : List Mem} (h1 : ms.length ≤ 12) (h2 : ∀ m ∈ ms, m.ok) (h3 : (ms.map (·.nm)).Nodup) : (layOf conv pk al e u ms).ok := ⟨laid_len, h1, h2, h3⟩
theorem plain_bt {L : Lay} (h : ∀ m ∈ L.ms, plainM m) : ∀ e ∈ L.ents, e.bt = none := by
  intro e he
  obtain ⟨j, m, p, hj, _, hm⟩ := L.ents_mem he
  have hb := (h m (List.mem_of_getElem? hj)).2.2
  unfold Mem.ents at hm
  rw [hb] at hm
  obtain ⟨e0, he0, rfl⟩ := List.mem_map.mp hm
  show e0.bt = none
  exact ents_bt he0
theorem full_nd {ms : List Mem} (h : (ms.map (·.nm)).Nodup) : ((ms.map fullM).map (·.nm)).Nodup := by
  rw [List.map_map]
  have : ((fun m : Mem => m.nm) ∘ fullM) = fun m => m.nm := funext fullM_nm
  rw [this]
  exact h
/-! ### the third layout -/
def thirdMs (n b : Int) (s : Bool) : List Mem := [⟨"a", .int 1 false, none⟩, ⟨"b", .int n s, some b⟩, ⟨"c", .int n s, none⟩]
theorem third_pos {n b : Int} {s : Bool} (hn : okN n) : (laidOf "msvc" false none (thirdMs n b s)).1 = [0, 8 * n, 16 * n] := by
  unfold okN at hn
  unfold laidOf
  rw [if_pos rfl]
  simp only [Bool.false_eq_true, if_false]
  rcases hn with rfl | rfl | rfl | rfl
  all_goals
    simp [msFold, thirdMs, msStep, stepOf, Kd.step, Kd.size, up, mxI]
theorem third_ok {n b : Int} {s : Bool} (hn : okN n) (h0 : 0 < b) (h8 : b ≤ 8) : (∀ m ∈ thirdMs n b s, m.ok) ∧ ((thirdMs n b s).map (·.nm)).Nodup := by
  constructor
  · intro m hm
    have hb : b ≤ 8 * n := by
      unfold okN at hn
      omega
    simp only [thirdMs, List.mem_cons, List.not_mem_nil, or_false] at hm
    rcases hm with rfl | rfl | rfl
    · exact ⟨⟨97, by decide, by decide, rfl⟩, .inl rfl, fun b h => nomatch h⟩
    · exact ⟨⟨98, by decide, by decide, rfl⟩, hn, fun b' h => ⟨n, s, rfl, by cases h; exact ⟨h0, hb⟩⟩⟩
    · exact ⟨⟨99, by decide, by decide, rfl⟩, hn, fun b h => nomatch h⟩
  · show [("a" : Str), "b", "c"].Nodup
    decide +kernel
theorem third_ents {n b : Int} {s : Bool} {al : Option Int} {e : Str} (hn : okN n) : (layOf "msvc" none al e false (thirdMs n b s)).ents = [⟨[.str "a"], 1, false, none, 0 + 0⟩, ⟨[.str "b"], n, s, some b, 8 * n⟩, ⟨[.str "c"], n, s, none, 16 * n + 0⟩] := by
  show ((thirdMs n b s).zip (laidOf "msvc" false none (thirdMs n b s)).1).flatMap (fun q => q.1.ents q.2) = _
  rw [third_pos hn]
  rfl
theorem little_bits {p b : Int} : (bitsL p b "little").map V.int = rgV p (p + b) := by
  unfold bitsL rgV
  rw [if_pos rfl, List.map_map]
  have e : p + b - p = b := by omega
  rw [e]
  apply List.map_congr_left
  intro i _
  show V.int (bitAt (p + (0 + (i : Int))) "little") = V.int (p + (i : Int))
  unfold bitAt
  rw [if_pos rfl, Int.zero_add]
theorem big_bits {n b : Int} (h0 : 0 < b) (h8 : b ≤ 8) {z : Str} (hz : ¬ z = "little") : (bitsL (8 * n) b z).map V.int = rgV (8 * n + (8 - b)) (8 * n + (8 - b) + b) := by
  unfold bitsL rgV
  rw [if_neg hz]
  have e : 8 * n + (8 - b) + b - (8 * n + (8 - b)) = b := by omega
  rw [e]
  apply List.ext_getElem
  · simp
  · intro i h1 h2
    have hi : i < b.toNat := by simpa using h2
    simp only [List.getElem_map, List.getElem_reverse, List.getElem_range, List.length_map, List.length_range]
    unfold bitAt
    rw [if_neg hz]
    congr 1
    omega
end K32
/-! M2: the law, walked. -/
namespace K32
open PySem PySem.Spec PyProof.Rows L2
/-! one look: what stands written is read -/
local macro_rules | `(tactic| lk) => `(tactic| try simp only [tCB, tCons, tNil, tC, tVar, tOp, tUn, tTest, tB, tNot, tAndV, tOrV, tNotV, tAnd, tOr, tRet, tSeq, tAsg, gName, tDrop, tNext, tIfS, tIf, tCall, tCmp, rI0, rI, rEq, rNe, tPar, tPar3, tTup, tLst,
  tDGet, tSl, tPart, tNoPart, sDPut, tDisp, tPairs, tLstRg, tRg2, tCallN, tRevL, sFld, tFld, tMeth, tProp, tMake, tBM, tBM0, tNevE, tNever, tRetN, tBreak, tCont, gCons, gNil, gSub, tAug, ipI, wipe, iList, iTup, iRng1, iRng2, iStr, iEnum, RZ.iZipA, rU,
  L2.start, List.map_cons, List.map_nil, List.length_cons, List.length_nil, Nat.reduceAdd, Nat.reduceSub, List.replicate_succ, List.replicate_zero, List.cons_append, List.nil_append, List.append_nil,
  List.getElem?_cons_zero, List.getElem?_cons_succ, List.set_cons_zero, List.set_cons_succ, List.cons.injEq, Option.some.injEq, V.int.injEq, V.bl.injEq, V.str.injEq, V.ref.injEq, exists_eq_left', exists_eq_left, exists_eq', exists_and_left, and_assoc, true_and, and_true,
  if_true, Bool.false_eq_true, if_false, sc_ii, sc_ss, sc_ni, sc_in, sc_sn, sc_ns, sc_bb, eq_self, decide_eq_true_eq, Bool.not_eq_true', decide_eq_false_iff_not, ite_not, ne_ia', ne_ai', Int.reduceEq, Int.reduceLT, Int.reduceLE, reduceCtorEq, decide_true, decide_false, Bool.not_true, Bool.not_false, cxK, oV_n, oV_s, cast_lit])
theorem StAt.ned {H : Hp} {s q a : Addr} {n : Nat} {kvs : List (Key × V)} (h : StAt H s q n) (ha : H a = some (.dK kvs)) : a ≠ s ∧ a ≠ q := by
  obtain ⟨xs, h1⟩ := h.s
  obtain ⟨ys, h2⟩ := h.q
  refine ⟨fun e => ?_, fun e => ?_⟩
  · subst e
    rw [h1] at ha
    cases ha
  · subst e
    rw [h2] at ha
    cases ha
/-- a plan's dict and its members -/
structure PG (H : Hp) (d m : Addr) (kvs : List (Key × V)) (ms : List Mem) : Prop where
  d : H d = some (.dK kvs)
  m : ∃ vs, H m = some (.lst vs) ∧ Al2 (RowAt H) vs ms
section
variable {H H' : Hp} {s q d m p : Addr} {n : Nat} {kvs kvs' : List (Key × V)} {ms : List Mem}
theorem PG.mono (e : Ex H H') (h : PG H d m kvs ms) : PG H' d m kvs ms := ⟨e _ _ h.d, let ⟨vs, h1, h2⟩ := h.m; ⟨vs, e _ _ h1, h2.imp fun _ _ => RowAt.mono e⟩⟩
theorem PG.fx (f : Fx s q H H') (st : StAt H s q n) (h1 : m ≠ s) (h2 : m ≠ q) (h : PG H d m kvs ms) : PG H' d m kvs ms :=
  ⟨f.t st _ _ h.d (fun _ z => nomatch z), let ⟨vs, g1, g2⟩ := h.m; ⟨vs, f _ _ g1 h1 h2, g2.imp fun _ _ => RowAt.monoT (f.t st)⟩⟩
theorem PG.other {o : HO} {more : List (Key × V)} (h : PG H d m kvs ms) (hp : H p = some (.dK more)) (hne : d ≠ p) : PG (upd H p o) d m kvs ms :=
  ⟨(upd_ne hne).trans h.d, let ⟨vs, g1, g2⟩ := h.m; ⟨vs, (upd_ne (fun e => by
    subst e
    rw [hp] at g1
    cases g1)).trans g1, g2.imp fun _ _ => RowAt.monoP (ExP.dict hp)⟩⟩
theorem PG.set (h : PG H d m kvs ms) : PG (upd H d (.dK kvs')) d m kvs' ms :=
  ⟨upd_same, let ⟨vs, g1, g2⟩ := h.m; ⟨vs, (upd_ne (fun e => by
    have hd := h.d
    subst e
    rw [hd] at g1
    cases g1)).trans g1, g2.imp fun _ _ => RowAt.monoP (ExP.dict h.d)⟩⟩
theorem PG.F {conv : Str} {pk al : Option Int} {e : Str} {u : Bool} (h : PG H d m kvs ms) (hk : Pk kvs m conv pk al e u) : PlanF H d conv pk al e u ms := let ⟨vs, g1, g2⟩ := h.m; ⟨kvs, m, vs, h.d, hk, g1, g2⟩
end
theorem merge_two {k1 k2 : Str} (h : ¬ k2 = k1) (x y : V) (kvs : List (Key × V)) : mergeK kvs (mergeK ([] : List (Key × V)) [(Sum.inr k1, x), (Sum.inr k2, y)]) = putK (putK kvs (Sum.inr k1) x) (Sum.inr k2) y := by
  have e : mergeK ([] : List (Key × V)) [(Sum.inr k1, x), (Sum.inr k2, y)] = [(Sum.inr k1, x), (Sum.inr k2, y)] := by
    show putK (putK ([] : List (Key × V)) (Sum.inr k1) x) (Sum.inr k2) y = _
    rw [putK_new x valV_nil]
    refine (putK_new y ?_).trans rfl
    exact (valV_neg (ne_key fun z => h z.symm)).trans valV_nil
  rw [e]
  rfl
theorem pick_pk {x : V} (h : x ∈ [V.non, V.non, V.int 1, V.int 2, V.int 4, V.int 8, V.int 16]) : ∃ pk, x = oV pk ∧ okPack pk := by
  simp only [List.mem_cons, List.not_mem_nil, or_false] at h
  rcases h with rfl | rfl | rfl | rfl | rfl | rfl | rfl
  · exact ⟨none, rfl, trivial⟩
  · exact ⟨none, rfl, trivial⟩
  · exact ⟨some 1, rfl, by unfold okPack; decide⟩
  · exact ⟨some 2, rfl, by unfold okPack; decide⟩
  · exact ⟨some 4, rfl, by unfold okPack; decide⟩
  · exact ⟨some 8, rfl, by unfold okPack; decide⟩
  · exact ⟨some 16, rfl, by unfold okPack; decide⟩
theorem pick_al {x : V} (h : x ∈ [V.non, V.int 1, V.int 8, V.int 32]) : ∃ al, x = oV al ∧ okAlign al := by
  simp only [List.mem_cons, List.not_mem_nil, or_false] at h
  rcases h with rfl | rfl | rfl | rfl
  · exact ⟨none, rfl, trivial⟩
  · exact ⟨some 1, rfl, by unfold okAlign; decide⟩
  · exact ⟨some 8, rfl, by unfold okAlign; decide⟩
  · exact ⟨some 32, rfl, by unfold okAlign; decide⟩
theorem pick_en {x : V} (h : x ∈ [V.str "little", V.str "big"]) : ∃ e, x = V.str e ∧ okEnds e := by
  simp only [List.mem_cons, List.not_mem_nil, or_false] at h
  rcases h with rfl | rfl
  · exact ⟨_, rfl, by unfold okEnds; decide +kernel⟩
  · exact ⟨_, rfl, by unfold okEnds; decide +kernel⟩
theorem ok_sysv : okConv "sysv" := by unfold okConv; decide +kernel
theorem ok_msvc : okConv "msvc" := by unfold okConv; decide +kernel
def LawI (s q : Addr) (i : Nat) (σ : L2.St) (H' : Hp) : Prop := ∃ x0 x2 x3 x4 x5 x6 x7 x8 x9, σ = [x0, some (.ref s), x2, x3, x4, x5, x6, x7, x8, x9] ∧ StAt H' s q (100 * i)
section
variable {P : Program} {w : World} {K : PySem.W.Frag} {mg : Str → Option Value} {base : Heap}
theorem third_if {pk al : Option Int} {ed : Str} {u : Bool} {ms : List Mem} {H : Hp} {d : Addr} {one : V} {Qf R : Hp → Prop} {E1 E2 : XK} (hF : PlanF H d "sysv" pk al ed u ms) (hone : LayAt K H one (layOf "sysv" pk al ed u ms)) (hlen : ms.length ≤ 12) (hpl : ∀ x ∈ ms, plainM x) (hnd : (ms.map (·.nm)).Nodup)
    (hpk : okPack pk) (hal : okAlign al) (hed : okEnds ed) (hR : ∀ H', Ex H H' → R H') :
    if oV pk = V.non then spWith K [.ref d, .str "sysv", .bl true] H (fun x H1 => spAlike K [x, one, .bl false] H1 (fun x H1 => ∃ b, x = .bl b ∧ if b = false then Qf H1 else R H1) E1) E2 else R H := by
  have hlenf : (ms.map fullM).length ≤ 12 := by rw [List.length_map]; exact hlen
  have hoksf : ∀ x ∈ ms.map fullM, x.ok := fun x hx => by
    obtain ⟨y, hy, rfl⟩ := List.mem_map.mp hx
    exact full_ok (hpl y hy)
  cases pk with
  | some z => exact hR H (Ex.refl H)
  | none =>
    rw [if_pos oV_n]
    refine ⟨d, "sysv", none, al, ed, u, ms, "sysv", true, rfl, hF, hlen, hpl, hnd, ok_sysv, hpk, hal, hed, fun thr H15 e16 hthr => ?_⟩
    refine ⟨thr, one, false, _, _, rfl, hthr, hone.mono e16, lay_ok hlenf hoksf (full_nd hnd), lay_ok hlen (fun x hx => plain_ok (hpl x hx)) hnd, alike_of (laid_full_ss hpl) (fun _ => full_zip hpl), (fun z => nomatch z), fun H16 e17 => ?_⟩
    exact ⟨true, rfl, hR _ (e16.trans e17)⟩
theorem third_bits {n b : Int} (h0 : 0 < b) (h8 : b ≤ 8) (z : Str) : (bitsL (8 * n) b z).map V.int = rgV (8 * n + (if z = "little" then 0 else 8 - b)) ((8 * n + (if z = "little" then 0 else 8 - b)) + b) := by
  by_cases hz : z = "little"
  · rw [if_pos hz, hz, little_bits, Int.add_zero]
  · rw [if_neg hz, big_bits h0 h8 hz]
abbrev spLaw (K : PySem.W.Frag) : Sp := fun vs H Q _ => ∃ (a : Addr) (ns : List Int), vs = [.ref a] ∧ SqL K H a (ns.map V.int) ∧ ns.length ≤ 63 ∧ ∀ H', Q (.bl true) H'
abbrev s_law : Stmt := top 81
abbrev N_law : List Str := ["_law_script", "_law_s", "_law_turn", "_law_plan_here", "_law_three", "_law_low", "_law_one", "_law_two", "_law_kind", "_law_bits_here"]
abbrev P_law : List Str := ["_law_script"]
theorem sc_law : FnScope N_law P_law (defScope s_law) := ⟨rfl, rfl, rfl, by decide +kernel, rfl, by decide +kernel, by decide +kernel⟩
theorem bb_law : BindsBy "law" s_law P_law := fun _ _ _ _ _ _ us hl => match us, hl with | [_], _ => rfl
theorem fn_law (c : Ctx K mg) {f : Addr} {fd : FuncData} (F : FunD K "law" "law" (defArgs s_law) (defBody s_law) (defScope s_law) [] [] f fd) : FnOk P w K mg base CX0 13 f fd P_law (spLaw K) := by
  have D_law_draw := ok_law_draw (P := P) (w := w) (base := base) c
  have D_law_pick := ok_law_pick (P := P) (w := w) (base := base) c
  have D_law_plan := ok_law_plan (P := P) (w := w) (base := base) c
  have D_law_with := ok_law_with (P := P) (w := w) (base := base) c
  have D_law_are_alike := ok_law_are_alike (P := P) (w := w) (base := base) c
  have D_law_number_kind := ok_law_number_kind (P := P) (w := w) (base := base) c
  have D_law_same := ok_law_same (P := P) (w := w) (base := base) c 3
  have D_struct_c_e := D_struct_two (P := P) (w := w) (base := base) c
  have M_berth := ok_berth (P := P) (w := w) (base := base) c
  have M_octet_at := ok_octet_at (P := P) (w := w) (base := base) c
  refine F.ok sc_law (fun vs H Q E h => ?_) (fun cdv A outer s0 H vs Q E hr h => ?_)
  · obtain ⟨a, ns, rfl, _⟩ := h
    rfl
  · obtain ⟨a, ns, rfl, ha, hns, k⟩ := h
    suffices hh : ∃ t, PSs (cxOf CX0 P w K mg base N_law "law" (defScope s_law) f cdv A outer s0 H E).nox (defBody s_law) t ∧ t { nx := fun _ H' => Q .non H', rt := Q } (L2.start N_law [.ref a]) H from
      let ⟨t, h1, h2⟩ := hh
      ⟨t, h1.nox, h2⟩
    -- 0 _law_script, 1 _law_s, 2 _law_turn, 3 _law_plan_here, 4 _law_three, 5 _law_low, 6 _law_one, 7 _law_two, 8 _law_kind, 9 _law_bits_here
    refine ⟨_, (pss_cons (ps_set (i := 1) sc_law.nd rfl (Or.inl rfl) (pe_lst (pa_cons (pe_callTy call_list_of (by rfl) c.no_list (by decide +kernel) (pa_cons (pv 0) pa_nil)) (pa_cons pe_int (pa_cons pe_int (pa_cons pe_int pa_nil))))))
        (pss_cons (ps_for PassesOwn.never rfl (pi_range1 rfl c.no_range (pa_cons pe_int pa_nil)) (pg_name (i := 2) sc_law.nd rfl (Or.inl rfl)) (pss_cons (ps_set (i := 3) sc_law.nd rfl (Or.inl rfl) (pe_df D_law_plan (hr.mono (by omega)) (by rfl) (pa_cons (pv 1) (pa_cons (pe_lst (pa_cons pe_str (pa_cons pe_str (pa_cons pe_str pa_nil)))) (pa_cons pe_int (pa_cons pe_str (pa_cons (pe_df D_law_pick (hr.mono (by omega)) (by rfl) (pa_cons (pv 1) (pa_cons (pe_lst (pa_cons pe_non (pa_cons pe_non (pa_cons pe_int (pa_cons pe_int (pa_cons pe_int (pa_cons pe_int (pa_cons pe_int pa_nil)))))))) pa_nil))) pa_nil)))))))
        (pss_cons (ps_expr (pe_bm PySem.F.plainAttrs_dict PySem.F.slot_dict_update PySem.F.type_dict_update mt_update (pv 3) (pa_cons (pe_disp (pps_cons pe_str (pe_df D_law_pick (hr.mono (by omega)) (by rfl) (pa_cons (pv 1) (pa_cons (pe_lst (pa_cons pe_non (pa_cons pe_int (pa_cons pe_int (pa_cons pe_int pa_nil))))) pa_nil))) (pps_cons pe_str (pe_cmpR op_eq (pe_df D_law_draw (hr.mono (by omega)) (by rfl) (pa_cons (pv 1) (pa_cons pe_int pa_nil))) pe_int (nomark _)) pps_nil)) (by rfl) (by rfl) (fun z => by cases z) (by decide)) pa_nil)))
        (pss_cons (ps_dput (hu_of hr) (pv 3) pe_str (pe_df D_law_pick (hr.mono (by omega)) (by rfl) (pa_cons (pv 1) (pa_cons (pe_lst (pa_cons pe_str (pa_cons pe_str pa_nil))) pa_nil))) rfl)
        (pss_cons (ps_par (i := 6) (j := 7) (by rfl) sc_law.nd rfl rfl (by decide) rfl rfl (pa_cons (pe_df D_law_with (hr.mono (by omega)) (by rfl) (pa_cons (pv 3) (pa_cons pe_str (pa_cons pe_bl pa_nil)))) (pa_cons (pe_df D_law_with (hr.mono (by omega)) (by rfl) (pa_cons (pv 3) (pa_cons pe_str (pa_cons pe_bl pa_nil)))) pa_nil)) (by rfl))
        (pss_cons (ps_if (pt_not (pt_val (pe_df D_law_are_alike (hr.mono (by omega)) (by rfl) (pa_cons (pv 6) (pa_cons (pv 7) (pa_cons pe_bl pa_nil)))))) (pss_one (ps_ret pe_bl)) pss_nil)
        (pss_cons (ps_if (pt_not (pt_val (pe_df D_law_are_alike (hr.mono (by omega)) (by rfl) (pa_cons (pe_df D_law_with (hr.mono (by omega)) (by rfl) (pa_cons (pv 3) (pa_cons pe_str (pa_cons pe_bl pa_nil)))) (pa_cons (pv 7) (pa_cons pe_bl pa_nil)))))) (pss_one (ps_ret pe_bl)) pss_nil)
        (pss_cons (ps_if (PW.pt (pw_and (pt_cmpR op_isN (pe_dget (hu_of hr) (pv 3) pe_str (fun _ _ => rfl)) pe_non (nomark _)) (pw_and1 (pt_not (pt_val (pe_df D_law_are_alike (hr.mono (by omega)) (by rfl) (pa_cons (pe_df D_law_with (hr.mono (by omega)) (by rfl) (pa_cons (pv 3) (pa_cons pe_str (pa_cons pe_bl pa_nil)))) (pa_cons (pv 6) (pa_cons pe_bl pa_nil))))))))) (pss_one (ps_ret pe_bl)) pss_nil)
        (pss_cons (ps_par (i := 8) (j := 9) (by rfl) sc_law.nd rfl rfl (by decide) rfl rfl (pa_cons (pe_df D_law_number_kind (hr.mono (by omega)) (by rfl) (pa_cons (pv 1) pa_nil)) (pa_cons (pe_op op_add pe_int (pe_df D_law_draw (hr.mono (by omega)) (by rfl) (pa_cons (pv 1) (pa_cons pe_int pa_nil)))) pa_nil)) (by rfl))
        (pss_cons (ps_set (i := 4) sc_law.nd rfl (Or.inl rfl) (pe_dk D_struct_c_e (hr.mono (by omega)) (by rfl) (pa_cons (pe_lst (pa_cons (pe_tup (pa_cons pe_str (pa_cons (pe_tup (pa_cons pe_str (pa_cons pe_int (pa_cons pe_bl pa_nil)))) pa_nil))) (pa_cons (pe_tup (pa_cons pe_str (pa_cons (pv 8) (pa_cons (pv 9) pa_nil)))) (pa_cons (pe_tup (pa_cons pe_str (pa_cons (pv 8) pa_nil))) pa_nil)))) pa_nil) (pk_cons pe_str (pk_cons (pe_dget (hu_of hr) (pv 3) pe_str (fun _ _ => rfl)) pk_nil))))
        (pss_cons (ps_set (i := 5) sc_law.nd rfl (Or.inl rfl) (pe_op op_add (pe_op op_mul pe_int (pe_ix ix_tup (pv 8) pe_int (fun _ _ => rfl))) (pe_cut (pe_ifExp (pt_cmpR op_eq (pe_dget (hu_of hr) (pv 3) pe_str (fun _ _ => rfl)) pe_str (nomark _)) pe_int (pe_op op_sub pe_int (pv 9))))))
        (pss_cons (ps_if (pt_not (pt_val (pe_df D_law_same (hr.mono (by omega)) (by rfl) (pa_cons (pe_mt (pv 4) c.cl c.m_berth M_berth (hr.mono (by omega)) (pa_cons (pe_tup (pa_cons pe_str pa_nil)) pa_nil)) (pa_cons (pe_tup (pa_cons (pe_callTy call_tuple_of (by rfl) c.no_tuple (by decide +kernel) (pa_cons (pe_listRg rfl (by rfl) c.no_list (prg_2 (by rfl) c.no_range (pv 5) (pe_op op_add (pv 5) (pv 9))) rfl) pa_nil)) (pa_cons (pe_ix ix_tup (pv 8) pe_int (fun _ _ => rfl)) pa_nil))) pa_nil))))) (pss_one (ps_ret pe_bl)) pss_nil)
        (pss_one (ps_if (pt_cmpR op_ne (pe_mt (pv 4) c.cl c.m_octet_at M_octet_at (hr.mono (by omega)) (pa_cons (pe_tup (pa_cons pe_str pa_nil)) pa_nil)) (pe_op op_mul pe_int (pe_ix ix_tup (pv 8) pe_int (fun _ _ => rfl))) (nomark _)) (pss_one (ps_ret pe_bl)) pss_nil))))))))))))))
        (pss_one (ps_ret pe_bl)))), ?_⟩
    lk
    refine ⟨_, .inl ha, fun q hq => ?_⟩
    lk
    refine ⟨by decide, fun s hs => ?_⟩
    refine for_ok ?_
    lk
    refine ⟨by decide, by decide, ?_⟩
    refine ForOk.range (n := 8) (LawI s q) ⟨_, _, _, _, _, _, _, _, _, rfl, ns, 0, 0, 0, upd_same, Ex.new hs _ _ upd_same, hns, by omega, by omega, by omega, by omega, by omega⟩ ?_ ?_
    · rintro i σ H1 hi ⟨x0, x2, x3, x4, x5, x6, x7, x8, x9, rfl, hst⟩
      have hi : i < 8 := hi
      lk
      refine ⟨by decide, fun menu hmenu => ?_⟩
      have hfr := hst.fresh hmenu
      have hst1 := hst.mono (Ex.new (o := .lst [.str "int", .str "int", .str "array"]) hmenu) (Nat.le_refl _)
      have hmenu1 : upd H1 menu (.lst [.str "int", .str "int", .str "array"]) menu = some (.lst [.str "int", .str "int", .str "array"]) := upd_same
      generalize upd H1 menu (.lst [.str "int", .str "int", .str "array"]) = H2 at hst1 hmenu1 ⊢
      refine ⟨by decide, fun l1 hl1 => ?_⟩
      have hfr1 := hst1.fresh hl1
      refine ⟨s, q, l1, 100 * i, _, rfl, hst1.mono (Ex.new hl1) (Nat.le_refl _), by omega, upd_same, hfr1.1, hfr1.2, by simp, by simp, fun x H3 hx hst3 hf3 => ?_⟩
      obtain ⟨pk, rfl, hpk⟩ := pick_pk hx
      have hmenu3 := hf3 _ _ (Ex.new hl1 _ _ hmenu1) hfr.1 hfr.2
      lk
      refine ⟨s, q, menu, 100 * i + 1, pk, rfl, hst3, by omega, hmenu3, hfr.1, hfr.2, hpk, fun d m ms H4 hst4 hms hmq hpa hdr => ?_⟩
      obtain ⟨kvs, vs, hd, hk, hm, hrow⟩ := hpa
      have g4 : PG H4 d m kvs ms := ⟨hd, vs, hm, hrow⟩
      lk
      refine ⟨.inr (.inr (.inl ⟨rfl, .inl ⟨_, hd⟩⟩)), fun p hp => ?_⟩
      refine ⟨by decide, fun l2 hl2 => ?_⟩
      have e5 := (Ex.new (o := .dK []) hp).trans (Ex.new (o := .lst [.non, .int 1, .int 8, .int 32]) hl2)
      have hst5 := hst4.mono e5 (Nat.le_refl _)
      have g5 := g4.mono e5
      have hp5 := Ex.new (o := .lst [.non, .int 1, .int 8, .int 32]) hl2 p (.dK []) upd_same
      have hfr2 := (hst4.mono (Ex.new (o := .dK []) hp) (Nat.le_refl _)).fresh hl2
      have hdp : d ≠ p := ne_of_none hd hp
      refine ⟨s, q, l2, 100 * i + 1 + 80, _, rfl, hst5, by omega, upd_same, hfr2.1, hfr2.2, by simp, by simp, fun y H6 hy hst6 hf6 => ?_⟩
      obtain ⟨al, rfl, hal⟩ := pick_al hy
      have g6 := g5.fx hf6 hst5 hms hmq
      have hp6 := hf6.t hst5 _ _ hp5 (fun _ z => nomatch z)
      refine ⟨s, q, 4, 100 * i + 82, rfl, hst6, by omega, by decide, by decide, fun dd H7 hd0 hd1 hst7 hf7 => ?_⟩
      have g7 := g6.fx hf7 hst6 hms hmq
      have hp7 := hf7.t hst6 _ _ hp6 (fun _ z => nomatch z)
      lk
      refine ⟨hp7, [(Sum.inr ("align" : Str), oV al), (Sum.inr ("union" : Str), .bl (decide (dd = 0)))], rfl, by simp, ?_⟩
      have g8 := g7.other (o := .dK (mergeK [] [(Sum.inr ("align" : Str), oV al), (Sum.inr ("union" : Str), .bl (decide (dd = 0)))])) hp7 hdp
      have hs7 := hst7.ned hp7
      have hst8 := hst7.upd (o := .dK (mergeK [] [(Sum.inr ("align" : Str), oV al), (Sum.inr ("union" : Str), .bl (decide (dd = 0)))])) hs7.1 hs7.2
      refine ⟨d, p, kvs, _, rfl, rfl, g8.d, upd_same, hdp, Nat.le_trans (Nat.add_le_add hk.len (length_mergeK _ _)) (by simp; decide), ?_⟩
      rw [merge_two (by decide +kernel)]
      generalize decide (dd = 0) = u at g8 hst8 ⊢
      have g9 := g8.set (kvs' := putK (putK kvs (Sum.inr ("align" : Str)) (oV al)) (Sum.inr ("union" : Str)) (.bl u))
      have hs8 := hst8.ned g8.d
      have hst9 := hst8.upd (o := .dK (putK (putK kvs (Sum.inr ("align" : Str)) (oV al)) (Sum.inr ("union" : Str)) (.bl u))) hs8.1 hs8.2
      have hk9 := (hk.put_align al).put_union u
      generalize putK (putK kvs (Sum.inr ("align" : Str)) (oV al)) (Sum.inr ("union" : Str)) (.bl u) = kvs9 at g9 hst9 hk9 ⊢
      generalize upd (upd H7 p (.dK (mergeK [] [(Sum.inr ("align" : Str), oV al), (Sum.inr ("union" : Str), .bl u)]))) d (.dK kvs9) = H9 at g9 hst9 ⊢
      refine ⟨by decide, fun l3 hl3 => ?_⟩
      have hfr3 := hst9.fresh hl3
      refine ⟨s, q, l3, 100 * i + 83, _, rfl, hst9.mono (Ex.new hl3) (by omega), by omega, upd_same, hfr3.1, hfr3.2, by simp, by simp, fun y H10 hy hst10 hf10 => ?_⟩
      obtain ⟨ed, rfl, hed⟩ := pick_en hy
      have g10 := (g9.mono (Ex.new hl3)).fx hf10 (hst9.mono (Ex.new hl3) (Nat.le_refl _)) hms hmq
      refine ⟨_, dpk g10.d hk9.len, ?_⟩
      have hs10 := hst10.ned g10.d
      have g11 := g10.set (kvs' := putK kvs9 (Sum.inr ("ends" : Str)) (.str ed))
      have hst11 := hst10.upd (o := .dK (putK kvs9 (Sum.inr ("ends" : Str)) (.str ed))) hs10.1 hs10.2
      have hk11 := hk9.put_ends ed
      generalize putK kvs9 (Sum.inr ("ends" : Str)) (.str ed) = kvs11 at g11 hst11 hk11 ⊢
      generalize upd H10 d (.dK kvs11) = H11 at g11 hst11 ⊢
      -- the plan stands
      have hlen : ms.length ≤ 12 := by have := hdr.few; omega
      have hpl := hdr.pl
      have hoks : ∀ x ∈ ms, x.ok := fun x hx => plain_ok (hpl x hx)
      have hnd := hdr.nd
      have hlenf : (ms.map fullM).length ≤ 12 := by rw [List.length_map]; exact hlen
      have hoksf : ∀ x ∈ ms.map fullM, x.ok := fun x hx => by
        obtain ⟨y, hy, rfl⟩ := List.mem_map.mp hx
        exact full_ok (hpl y hy)
      have hndf := full_nd hnd
      refine ⟨d, "sysv", pk, al, ed, u, ms, "sysv", false, rfl, g11.F hk11, hlen, hpl, hnd, ok_sysv, hpk, hal, hed, fun one H12 e12 hone => ?_⟩
      refine ⟨d, "sysv", pk, al, ed, u, ms, "msvc", false, rfl, (g11.mono e12).F hk11, hlen, hpl, hnd, ok_msvc, hpk, hal, hed, fun two H13 e13 htwo => ?_⟩
      have hone2 := hone.mono e13
      refine ⟨one, two, true, _, _, rfl, hone2, htwo, lay_ok hlen hoks hnd, lay_ok hlen hoks hnd, alike_of (laid_conv hpk hpl) (fun _ => rfl), fun _ => ⟨plain_bt hpl, plain_bt hpl⟩, fun H14 e14 => ?_⟩
      lk
      have e15 := (e12.trans e13).trans e14
      refine ⟨d, "sysv", pk, al, ed, u, ms, "msvc", true, rfl, (g11.mono e15).F hk11, hlen, hpl, hnd, ok_msvc, hpk, hal, hed, fun thr H15 e16 hthr => ?_⟩
      refine ⟨thr, two, false, _, _, rfl, hthr, (htwo.mono e14).mono e16, lay_ok hlenf hoksf hndf, lay_ok hlen hoks hnd, alike_of (laid_full_ms hpk hpl) (fun _ => full_zip hpl), (fun z => nomatch z), fun H16 e17 => ?_⟩
      lk
      have e18 := (e15.trans e16).trans e17
      have hk11e := hk11.pack
      refine ⟨_, dgk (g11.mono e18).d hk11.pack, ?_⟩
      refine third_if ((g11.mono e18).F hk11) (((hone2.mono e14).mono e16).mono e17) hlen hpl hnd hpk hal hed fun H17 e19 => ?_
      have g17 := (g11.mono e18).mono e19
      have hst17 := hst11.mono (e18.trans e19) (Nat.le_refl _)
      refine ⟨s, q, 100 * i + 84, rfl, hst17.mono (Ex.refl _) (by omega), by omega, fun kv n b H18 hkd hn hst18 hf18 => ?_⟩
      have g18 := g17.fx hf18 hst17 hms hmq
      refine ⟨s, q, 8, 100 * i + 86, rfl, hst18, by omega, by decide, by decide, fun dd H19 hd0 hd1 hst19 hf19 => ?_⟩
      have g19 := g18.fx hf19 hst18 hms hmq
      have hkd19 := hkd.monoT (hf19.t hst18)
      lk
      refine ⟨by decide, fun p1 hp1 => ?_⟩
      refine ⟨by decide, fun p2 hp2 => ?_⟩
      refine ⟨by decide, fun p3 hp3 => ?_⟩
      refine ⟨by decide, fun p4 hp4 => ?_⟩
      refine ⟨by decide, fun p5 hp5 => ?_⟩
      have a1 := Ex.new (o := .tup [.str "int", .int 1, .bl false]) hp1
      have a2 := Ex.new (o := .tup [.str "a", .ref p1]) hp2
      have a3 := Ex.new (o := .tup [.str "b", kv, .int (1 + dd)]) hp3
      have a4 := Ex.new (o := .tup [.str "c", kv]) hp4
      have a5 := Ex.new (o := .lst [.ref p2, .ref p3, .ref p4]) hp5
      have a45 := a4.trans a5
      have a35 := a3.trans a45
      have a25 := a2.trans a35
      have a15 := a1.trans a25
      have k1 := a25 p1 _ upd_same
      have k2 := a35 p2 _ upd_same
      have k3 := a45 p3 _ upd_same
      have k4 := a5 p4 _ upd_same
      have k5 : upd (upd (upd (upd (upd H19 p1 (.tup [.str "int", .int 1, .bl false])) p2 (.tup [.str "a", .ref p1])) p3 (.tup [.str "b", kv, .int (1 + dd)])) p4 (.tup [.str "c", kv])) p5 (.lst [.ref p2, .ref p3, .ref p4]) p5 = some (.lst [.ref p2, .ref p3, .ref p4]) := upd_same
      clear a1 a2 a3 a4 a5 a45 a35 a25
      generalize upd (upd (upd (upd (upd H19 p1 (.tup [.str "int", .int 1, .bl false])) p2 (.tup [.str "a", .ref p1])) p3 (.tup [.str "b", kv, .int (1 + dd)])) p4 (.tup [.str "c", kv])) p5 (.lst [.ref p2, .ref p3, .ref p4]) = H20 at a15 k1 k2 k3 k4 k5 ⊢
      have hkd20 := hkd19.mono a15
      have hmems : MemsAt H20 (.ref p5) (thirdMs n (1 + dd) b) := by
        refine ⟨p5, _, rfl, k5, rfl, fun i v x hv hx => ?_⟩
        match i, hv, hx with
        | 0, hv, hx =>
          cases hv
          cases hx
          exact ⟨p2, .ref p1, rfl, ⟨p1, rfl, k1⟩, k2⟩
        | 1, hv, hx =>
          cases hv
          cases hx
          exact ⟨p3, kv, rfl, hkd20, k3⟩
        | 2, hv, hx =>
          cases hv
          cases hx
          exact ⟨p4, kv, rfl, hkd20, k4⟩
      have hok3 := third_ok (s := b) hn (by omega : 0 < 1 + dd) (by omega)
      have g20 := g19.mono a15
      refine ⟨_, dgk g20.d hk11.ends, ?_⟩
      refine ⟨rfl, _, "msvc", none, none, ed, _, rfl, hmems, by show 3 ≤ 12; decide, hok3.1, hok3.2, ok_msvc, trivial, trivial, hed, fun three H21 e21 hL => ?_⟩
      have okL : (layOf "msvc" none none ed false (thirdMs n (1 + dd) b)).ok := lay_ok (by show 3 ≤ 12; decide) hok3.1 hok3.2
      have hents := third_ents (b := 1 + dd) (s := b) (al := none) (e := ed) hn
      obtain ⟨ka, rfl, hka⟩ := hkd20.mono e21
      obtain ⟨la, dx, ra, pa, rfl, hla, _⟩ := id hL
      have hn' := hn
      unfold okN at hn'
      lk
      refine ix_1 hka ?_
      lk
      refine ⟨.inl ⟨by decide, by decide⟩, ?_⟩
      refine ⟨fun v H' => H' = H21 ∧ v = .int (if ed = "little" then 0 else 8 - (1 + dd)), ?_, ?_⟩
      · lk
        refine ⟨_, dgk (g20.mono e21).d hk11.ends, ?_⟩
        lk
        by_cases he : ed = "little"
        · rw [if_pos he, if_pos he]
        · rw [if_neg he, if_neg he]
      · rintro H22 _ ⟨rfl, rfl⟩
        lk
        refine ⟨dx, _, hla, layF_no (by decide +kernel) (by decide +kernel) (by decide +kernel) (by decide +kernel) (by decide +kernel) (by decide +kernel), by decide, fun pb hpb => ?_⟩
        refine ⟨_, pb, _, ⟨[.str "b"], n, b, some (1 + dd), 8 * n⟩, rfl, hL.mono (Ex.new hpb), okL, by rw [hents]; simp, upd_same, fun v t H23 e23 hv ht => ?_⟩
        have ht : TupAt H23 t ((bitsL (8 * n) (1 + dd) ed).map V.int) := ht
        rw [third_bits (by omega) (by omega)] at ht
        have hlo : 0 ≤ (if ed = "little" then 0 else 8 - (1 + dd)) ∧ (if ed = "little" then 0 else 8 - (1 + dd)) ≤ 8 := by
          split <;> omega
        generalize (if ed = "little" then 0 else 8 - (1 + dd)) = lo at ht hlo ⊢
        refine ⟨RgOk.of_le (by omega) (by omega) (by omega) (by omega), fun r hr0 => ?_⟩
        refine ⟨_, .inl ⟨SqL.of upd_same, fun t2 ht2 => ?_⟩⟩
        have e24 := (Ex.new (o := .lst (rgV (8 * n + lo) (8 * n + lo + (1 + dd)))) hr0).trans (Ex.new (o := .tup (rgV (8 * n + lo) (8 * n + lo + (1 + dd)))) ht2)
        have e25 := ((Ex.new (o := .tup [.str "b"]) hpb).trans e23).trans e24
        refine ix_2 (e25 _ _ hka) ?_
        refine ⟨by decide, fun t3 ht3 => ?_⟩
        have e26 := Ex.new (o := .tup [.ref t2, .bl b]) ht3
        refine ⟨v, .ref t3, rfl, ?_, fun H24 e27 => ?_⟩
        · obtain ⟨va, rfl, hva⟩ := hv
          have hva2 := e26 _ _ (e24 _ _ hva)
          refine .inr ⟨va, t3, _, _, rfl, rfl, .inr ⟨hva2, upd_same⟩, rfl, by simp, fun j u w' hu hw => ?_⟩
          match j, hu, hw with
          | 0, hu, hw =>
            cases hu
            cases hw
            refine same_tup (d := 0) (ht.mono (e24.trans e26)) ⟨t2, rfl, e26 _ _ upd_same⟩ ?_ ?_
            · rw [rgV_length]
              omega
            · intro y hy
              unfold rgV at hy
              obtain ⟨z, _, rfl⟩ := List.mem_map.mp hy
              exact .inl ⟨_, rfl⟩
          | 1, hu, hw =>
            cases hu
            cases hw
            exact .inl ⟨rfl, .inr (.inl ⟨_, rfl⟩)⟩
        · lk
          have e28 := (e25.trans e26).trans e27
          refine ⟨dx, _, e28 _ _ hla, layF_no (by decide +kernel) (by decide +kernel) (by decide +kernel) (by decide +kernel) (by decide +kernel) (by decide +kernel), by decide, fun pc hpc => ?_⟩
          refine ⟨_, pc, _, ⟨[.str "c"], n, b, none, 16 * n + 0⟩, rfl, (hL.mono e28).mono (Ex.new hpc), okL, by rw [hents]; simp, rfl, upd_same, fun H25 e29 => ?_⟩
          have e30 := (e28.trans (Ex.new (o := .tup [.str "c"]) hpc)).trans e29
          refine ix_1 (e30 _ _ hka) ?_
          have hoff : (16 * n + 0) / 8 = 2 * n := by omega
          lk
          rw [hoff]
          refine ⟨.inl ⟨by decide, by decide⟩, ?_⟩
          lk
          exact ⟨_, _, _, _, _, _, _, _, _, rfl, hst19.mono ((a15.trans e21).trans e30) (by omega)⟩
    · rintro σ H1 ⟨x0, x2, x3, x4, x5, x6, x7, x8, x9, rfl, hst⟩
      lk
      exact k _
end
end K32
/-! M3: the head's run, the law joined to the row. -/
namespace K32
open PySem PySem.Spec PyProof.Rows L2
theorem facts {P : Program} {w : World} {K : PySem.W.Frag} {h : Heap} {mg : Str → Option Value} {f : Addr} (X : K.In h) (G : h.Ns mainGlobals mg) (hfa : mg ("law" : Str) = some (.ref f)) (hs : obsM K = valM) :
    ∃ fd : FuncData, (∀ (s : Shared) (v : Value), BindsTo s fd ⟨[v], []⟩ [("_law_script", v)]) ∧ ∀ base : Heap, K.In base → base.Ns mainGlobals mg → FnOk P w K mg base CX0 13 f fd ["_law_script"] (spLaw K) := by
  have c : Ctx K mg := ⟨⟨h, X, G⟩, hs⟩
  obtain ⟨f', fd, F, hm⟩ := c.h_law.ex
  have e := hfa.symm.trans hm
  cases e
  have b := FunD.bindsA (ps := P_law) F fun _ _ _ _ _ _ us hl => match us, hl with | [_], _ => rfl
  exact ⟨fd, fun s v => b s [v] rfl, fun base _ _ => fn_law c F⟩
theorem run (w : World) : HandSHeadRun.RunEq R (PySem.W.view R.prog [81]) hk ob 12000 loose w := by
  intro os
  kernel_rfl
end K32
open PySem PySem.W PySem.Calls PyProof.Rows
theorem PySem.Challenge.cw_fieldberth_k32_whole_conventions_agree_holds : PySem.Challenge.rw_fieldberth_k32_whole_conventions_agree.Holds := by
  w_on; o_law
  refine HandSHeadRun.head_any (r := OpenLaw.row PySem.Challenge.rw_fieldberth_k32_whole_conventions_agree) (q := view (OpenLaw.row PySem.Challenge.rw_fieldberth_k32_whole_conventions_agree).prog [81]) (H := K32.hk) (ob := K32.ob) (M := 12000) (loose := K32.loose)
    (d := HandSHeadRun.topDef (OpenLaw.row PySem.Challenge.rw_fieldberth_k32_whole_conventions_agree).prog 81) (kwd := []) K32.ob_eq
    (by kernel_rfl) (fun s => by kernel_rfl) K32.run (by kernel_rfl) (by kernel_rfl) (by kernel_rfl) (by rfl) (by first | assumption | decide +kernel) (by decide +kernel) ⟨rfl, rfl, rfl, rfl, rfl, by decide +kernel⟩ ?hw ?hc
  case hw => w_witness2
  case hc =>
    refine L2.walk_ofE (l := PySem.Challenge.rw_fieldberth_k32_whole_conventions_agree) (n := 63) (k := 13) (x := "_law_script") (CX := L2.CX0) rfl (by decide) (by kernel_rfl) ⟨rfl, by decide, by decide⟩ ?F (fun _ _ _ _ z => z)
    intro w mg fa h Y G hmg0
    obtain ⟨K, KX, hs⟩ := Y
    have hmg : mg ("law" : PySem.Str) = some (.ref fa) := by
      have e : (HandSHeadRun.topDef (OpenLaw.row PySem.Challenge.rw_fieldberth_k32_whole_conventions_agree).prog 81).name = ("law" : PySem.Str) := by kernel_rfl
      rw [← e]
      exact hmg0
    obtain ⟨fd, hb, hF⟩ := K32.facts (P := (PySem.Challenge.rw_fieldberth_k32_whole_conventions_agree).prog) (w := w) KX G hmg hs
    exact ⟨K, fd, K32.spLaw K, KX, hb, fun H a ns hl _ hS => ⟨a, ns, rfl, hS, hl, fun _ => rfl⟩, hF⟩
