import PyProof.Rows.All
import Wide.All
import OpenK.AllK
import Wide.FinOn
import HandS.ForMost
import PySem.Challenge.RW_outlast_k17_whole_any_program
import KE.KStateDown
import HandS.Defaults
import HandS.Head0
import HandS.Head1
import HandS.Head2
import HandS.HeadEnd
import HandS.HeadHook1
import HandS.HeadHook2
import HandS.NoneIn
import HandS.Flow
import HandS.IsInst
import HandS.TupAny
import HandS.SetFor
import HandS.Remove
import HandS.Wide
set_option Elab.async false
set_option linter.all false
set_option maxRecDepth 100000
/-! the text by places -/
namespace L2.K17
open PySem PySem.Spec PyProof.Rows L2
def top (i : Nat) : Stmt := PySem.Challenge.pw_outlast_k17_whole_any_program.main.body.getD i (.Pass ⟨0, 0, 0, 0⟩)
abbrev s_kept : Stmt := top 3
abbrev s_as_number : Stmt := top 5
abbrev s_joined_by : Stmt := top 6
abbrev s_worth_of : Stmt := top 7
abbrev s_is_true : Stmt := top 11
abbrev s_block_of : Stmt := top 12
abbrev sR_init : Stmt := inClass (top 13) 0
abbrev sR_take : Stmt := inClass (top 13) 1
abbrev sR_take_done : Stmt := inClass (top 13) 2
abbrev sR_take_letter : Stmt := inClass (top 13) 3
abbrev sR_first_letter : Stmt := inClass (top 13) 4
abbrev sR_statement_here : Stmt := inClass (top 13) 5
abbrev sR_go_behind : Stmt := inClass (top 13) 6
abbrev sR_says : Stmt := inClass (top 13) 7
abbrev sR_go_on : Stmt := inClass (top 13) 8
abbrev sR_do_next : Stmt := inClass (top 13) 9
abbrev sR_do_look : Stmt := inClass (top 13) 10
abbrev sR_do_wait : Stmt := inClass (top 13) 11
abbrev sR_do_hear : Stmt := inClass (top 13) 12
abbrev sR_do_end : Stmt := inClass (top 13) 13
abbrev sR_do_plain : Stmt := inClass (top 13) 14
abbrev sR_new_ticket : Stmt := inClass (top 13) 15
abbrev sR_do_drop : Stmt := inClass (top 13) 16
abbrev sR_waits : Stmt := inClass (top 13) 17
abbrev sR_open_tickets : Stmt := inClass (top 13) 18
abbrev sR_state : Stmt := inClass (top 13) 19
abbrev s_law_cell_at : Stmt := top 15
abbrev s_law_deck : Stmt := top 16
abbrev s_law_pick : Stmt := top 17
abbrev s_law_name : Stmt := top 18
abbrev s_law_worth : Stmt := top 19
abbrev s_law_saying : Stmt := top 20
abbrev s_law_plain : Stmt := top 21
abbrev s_law_simple : Stmt := top 22
abbrev s_law_closed : Stmt := top 23
abbrev s_law_program : Stmt := top 24
abbrev s_law_bounded : Stmt := top 25
abbrev s_law_says : Stmt := top 26
abbrev s_law_flat : Stmt := top 27
abbrev s_law_new : Stmt := top 28
abbrev s_law_ticket : Stmt := top 29
abbrev s_law_ended : Stmt := top 30
abbrev s_law_do_plain : Stmt := top 31
abbrev s_law_do_wait : Stmt := top 32
abbrev s_law_do_hear : Stmt := top 33
abbrev s_law_go : Stmt := top 34
abbrev s_law_goes_behind : Stmt := top 35
abbrev s_law_takes : Stmt := top 36
abbrev s_law_waits : Stmt := top 37
abbrev s_law_happening : Stmt := top 38
abbrev s_law_row : Stmt := top 39
abbrev s_law_alike : Stmt := top 40
abbrev s_law : Stmt := top 41
end L2.K17

set_option maxHeartbeats 0
/-! the head by facts: each def, each name -/
namespace L2.K17
open PySem PySem.Spec PyProof.Rows L2
def d_kept : He.DefD := ⟨("kept", none), "kept", "kept", defArgs s_kept, defBody s_kept, defScope s_kept, [], []⟩
def d_as_number : He.DefD := ⟨("as_number", none), "as_number", "as_number", defArgs s_as_number, defBody s_as_number, defScope s_as_number, [], []⟩
def d_joined_by : He.DefD := ⟨("joined_by", none), "joined_by", "joined_by", defArgs s_joined_by, defBody s_joined_by, defScope s_joined_by, [], []⟩
def d_worth_of : He.DefD := ⟨("worth_of", none), "worth_of", "worth_of", defArgs s_worth_of, defBody s_worth_of, defScope s_worth_of, [], []⟩
def d_is_true : He.DefD := ⟨("is_true", none), "is_true", "is_true", defArgs s_is_true, defBody s_is_true, defScope s_is_true, [], []⟩
def d_block_of : He.DefD := ⟨("block_of", none), "block_of", "block_of", defArgs s_block_of, defBody s_block_of, defScope s_block_of, [], []⟩
def d_law_cell_at : He.DefD := ⟨("_law_cell_at", none), "_law_cell_at", "_law_cell_at", defArgs s_law_cell_at, defBody s_law_cell_at, defScope s_law_cell_at, [], []⟩
def d_law_deck : He.DefD := ⟨("_law_deck", none), "_law_deck", "_law_deck", defArgs s_law_deck, defBody s_law_deck, defScope s_law_deck, [], []⟩
def d_law_pick : He.DefD := ⟨("_law_pick", none), "_law_pick", "_law_pick", defArgs s_law_pick, defBody s_law_pick, defScope s_law_pick, [], []⟩
def d_law_name : He.DefD := ⟨("_law_name", none), "_law_name", "_law_name", defArgs s_law_name, defBody s_law_name, defScope s_law_name, [], []⟩
def d_law_worth : He.DefD := ⟨("_law_worth", none), "_law_worth", "_law_worth", defArgs s_law_worth, defBody s_law_worth, defScope s_law_worth, [], []⟩
def d_law_saying : He.DefD := ⟨("_law_saying", none), "_law_saying", "_law_saying", defArgs s_law_saying, defBody s_law_saying, defScope s_law_saying, [], []⟩
def d_law_plain : He.DefD := ⟨("_law_plain", none), "_law_plain", "_law_plain", defArgs s_law_plain, defBody s_law_plain, defScope s_law_plain, [], []⟩
def d_law_simple : He.DefD := ⟨("_law_simple", none), "_law_simple", "_law_simple", defArgs s_law_simple, defBody s_law_simple, defScope s_law_simple, [], []⟩
def d_law_closed : He.DefD := ⟨("_law_closed", none), "_law_closed", "_law_closed", defArgs s_law_closed, defBody s_law_closed, defScope s_law_closed, [], []⟩
def d_law_program : He.DefD := ⟨("_law_program", none), "_law_program", "_law_program", defArgs s_law_program, defBody s_law_program, defScope s_law_program, [], []⟩
def d_law_bounded : He.DefD := ⟨("_law_bounded", none), "_law_bounded", "_law_bounded", defArgs s_law_bounded, defBody s_law_bounded, defScope s_law_bounded, [], []⟩
def d_law_says : He.DefD := ⟨("_law_says", none), "_law_says", "_law_says", defArgs s_law_says, defBody s_law_says, defScope s_law_says, [], []⟩
def d_law_flat : He.DefD := ⟨("_law_flat", none), "_law_flat", "_law_flat", defArgs s_law_flat, defBody s_law_flat, defScope s_law_flat, [], []⟩
def d_law_new : He.DefD := ⟨("_law_new", none), "_law_new", "_law_new", defArgs s_law_new, defBody s_law_new, defScope s_law_new, [], []⟩
def d_law_ticket : He.DefD := ⟨("_law_ticket", none), "_law_ticket", "_law_ticket", defArgs s_law_ticket, defBody s_law_ticket, defScope s_law_ticket, [], []⟩
def d_law_ended : He.DefD := ⟨("_law_ended", none), "_law_ended", "_law_ended", defArgs s_law_ended, defBody s_law_ended, defScope s_law_ended, [], []⟩
def d_law_do_plain : He.DefD := ⟨("_law_do_plain", none), "_law_do_plain", "_law_do_plain", defArgs s_law_do_plain, defBody s_law_do_plain, defScope s_law_do_plain, [], []⟩
def d_law_do_wait : He.DefD := ⟨("_law_do_wait", none), "_law_do_wait", "_law_do_wait", defArgs s_law_do_wait, defBody s_law_do_wait, defScope s_law_do_wait, [], []⟩
def d_law_do_hear : He.DefD := ⟨("_law_do_hear", none), "_law_do_hear", "_law_do_hear", defArgs s_law_do_hear, defBody s_law_do_hear, defScope s_law_do_hear, [], []⟩
def d_law_go : He.DefD := ⟨("_law_go", none), "_law_go", "_law_go", defArgs s_law_go, defBody s_law_go, defScope s_law_go, [], []⟩
def d_law_goes_behind : He.DefD := ⟨("_law_goes_behind", none), "_law_goes_behind", "_law_goes_behind", defArgs s_law_goes_behind, defBody s_law_goes_behind, defScope s_law_goes_behind, [], []⟩
def d_law_takes : He.DefD := ⟨("_law_takes", none), "_law_takes", "_law_takes", defArgs s_law_takes, defBody s_law_takes, defScope s_law_takes, [], []⟩
def d_law_waits : He.DefD := ⟨("_law_waits", none), "_law_waits", "_law_waits", defArgs s_law_waits, defBody s_law_waits, defScope s_law_waits, [], []⟩
def d_law_happening : He.DefD := ⟨("_law_happening", none), "_law_happening", "_law_happening", defArgs s_law_happening, defBody s_law_happening, defScope s_law_happening, [], []⟩
def d_law_row : He.DefD := ⟨("_law_row", none), "_law_row", "_law_row", defArgs s_law_row, defBody s_law_row, defScope s_law_row, [], []⟩
def d_law_alike : He.DefD := ⟨("_law_alike", none), "_law_alike", "_law_alike", defArgs s_law_alike, defBody s_law_alike, defScope s_law_alike, [], []⟩
def d_law : He.DefD := ⟨("law", none), "law", "law", defArgs s_law, defBody s_law, defScope s_law, [], []⟩
def dR_init : He.DefD := ⟨("Run", some "__init__"), "__init__", "Run.__init__", defArgs sR_init, defBody sR_init, defScope sR_init, [], []⟩
def dR_take : He.DefD := ⟨("Run", some "take"), "take", "Run.take", defArgs sR_take, defBody sR_take, defScope sR_take, [], []⟩
def dR_take_done : He.DefD := ⟨("Run", some "take_done"), "take_done", "Run.take_done", defArgs sR_take_done, defBody sR_take_done, defScope sR_take_done, [], []⟩
def dR_take_letter : He.DefD := ⟨("Run", some "take_letter"), "take_letter", "Run.take_letter", defArgs sR_take_letter, defBody sR_take_letter, defScope sR_take_letter, [], []⟩
def dR_first_letter : He.DefD := ⟨("Run", some "first_letter"), "first_letter", "Run.first_letter", defArgs sR_first_letter, defBody sR_first_letter, defScope sR_first_letter, [], []⟩
def dR_statement_here : He.DefD := ⟨("Run", some "statement_here"), "statement_here", "Run.statement_here", defArgs sR_statement_here, defBody sR_statement_here, defScope sR_statement_here, [], []⟩
def dR_go_behind : He.DefD := ⟨("Run", some "go_behind"), "go_behind", "Run.go_behind", defArgs sR_go_behind, defBody sR_go_behind, defScope sR_go_behind, [], []⟩
def dR_says : He.DefD := ⟨("Run", some "says"), "says", "Run.says", defArgs sR_says, defBody sR_says, defScope sR_says, [], []⟩
def dR_go_on : He.DefD := ⟨("Run", some "go_on"), "go_on", "Run.go_on", defArgs sR_go_on, defBody sR_go_on, defScope sR_go_on, [], []⟩
def dR_do_next : He.DefD := ⟨("Run", some "do_next"), "do_next", "Run.do_next", defArgs sR_do_next, defBody sR_do_next, defScope sR_do_next, [], []⟩
def dR_do_look : He.DefD := ⟨("Run", some "do_look"), "do_look", "Run.do_look", defArgs sR_do_look, defBody sR_do_look, defScope sR_do_look, [], []⟩
def dR_do_wait : He.DefD := ⟨("Run", some "do_wait"), "do_wait", "Run.do_wait", defArgs sR_do_wait, defBody sR_do_wait, defScope sR_do_wait, [], []⟩
def dR_do_hear : He.DefD := ⟨("Run", some "do_hear"), "do_hear", "Run.do_hear", defArgs sR_do_hear, defBody sR_do_hear, defScope sR_do_hear, [], []⟩
def dR_do_end : He.DefD := ⟨("Run", some "do_end"), "do_end", "Run.do_end", defArgs sR_do_end, defBody sR_do_end, defScope sR_do_end, [], []⟩
def dR_do_plain : He.DefD := ⟨("Run", some "do_plain"), "do_plain", "Run.do_plain", defArgs sR_do_plain, defBody sR_do_plain, defScope sR_do_plain, [], []⟩
def dR_new_ticket : He.DefD := ⟨("Run", some "new_ticket"), "new_ticket", "Run.new_ticket", defArgs sR_new_ticket, defBody sR_new_ticket, defScope sR_new_ticket, [], []⟩
def dR_do_drop : He.DefD := ⟨("Run", some "do_drop"), "do_drop", "Run.do_drop", defArgs sR_do_drop, defBody sR_do_drop, defScope sR_do_drop, [], []⟩
def dR_waits : He.DefD := ⟨("Run", some "waits"), "waits", "Run.waits", defArgs sR_waits, defBody sR_waits, defScope sR_waits, [], []⟩
def dR_open_tickets : He.DefD := ⟨("Run", some "open_tickets"), "open_tickets", "Run.open_tickets", defArgs sR_open_tickets, defBody sR_open_tickets, defScope sR_open_tickets, [], []⟩
def dR_state : He.DefD := ⟨("Run", some "state"), "state", "Run.state", defArgs sR_state, defBody sR_state, defScope sR_state, [], []⟩
def fn : List He.DefD := [d_kept, d_as_number, d_joined_by, d_worth_of, d_is_true, d_block_of, d_law_cell_at, d_law_deck, d_law_pick, d_law_name, d_law_worth, d_law_saying, d_law_plain, d_law_simple, d_law_closed, d_law_program, d_law_bounded, d_law_says, d_law_flat, d_law_new, d_law_ticket, d_law_ended, d_law_do_plain, d_law_do_wait, d_law_do_hear, d_law_go, d_law_goes_behind, d_law_takes, d_law_waits, d_law_happening, d_law_row, d_law_alike, d_law,
  dR_init, dR_take, dR_take_done, dR_take_letter, dR_first_letter, dR_statement_here, dR_go_behind, dR_says, dR_go_on, dR_do_next, dR_do_look, dR_do_wait, dR_do_hear, dR_do_end, dR_do_plain, dR_new_ticket, dR_do_drop, dR_waits, dR_open_tickets]
def fa : List He.Fa := [.glo "kept", .glo "as_number", .glo "joined_by", .glo "worth_of", .glo "is_true", .glo "block_of", .glo "_law_cell_at", .glo "_law_deck", .glo "_law_pick", .glo "_law_name", .glo "_law_worth", .glo "_law_saying", .glo "_law_plain", .glo "_law_simple", .glo "_law_closed", .glo "_law_program", .glo "_law_bounded", .glo "_law_says", .glo "_law_flat", .glo "_law_new", .glo "_law_ticket", .glo "_law_ended", .glo "_law_do_plain", .glo "_law_do_wait", .glo "_law_do_hear", .glo "_law_go", .glo "_law_goes_behind", .glo "_law_takes", .glo "_law_waits", .glo "_law_happening", .glo "_law_row", .glo "_law_alike", .glo "law", .glo "Run", .free "len", .free "max", .free "min", .free "int", .free "dict", .free "range", .free "tuple", .free "list", .free "isinstance", .free "bool", .int "MOST" 1000000000, .int "MOST_STATEMENTS" 300, .int "MOST_MOMENT" 1000000000000, .cls "Run", .mkr "Run", .noat "Run" "statements", .noat "Run" "mode", .noat "Run" "path", .noat "Run" "known", .noat "Run" "arg", .noat "Run" "today", .noat "Run" "made", .noat "Run" "not_done", .noat "Run" "answered", .noat "Run" "heard", .noat "Run" "awaited", .noat "Run" "outcome", .noat "Run" "orders", .noat "Run" "steps", .meth "Run" "take", .meth "Run" "take_done", .meth "Run" "take_letter", .meth "Run" "first_letter", .meth "Run" "statement_here", .meth "Run" "go_behind", .meth "Run" "says", .meth "Run" "go_on", .meth "Run" "do_next", .meth "Run" "do_look", .meth "Run" "do_wait", .meth "Run" "do_hear", .meth "Run" "do_end", .meth "Run" "do_plain", .meth "Run" "new_ticket", .meth "Run" "do_drop", .meth "Run" "waits", .meth "Run" "open_tickets"]
def loose1 : List Str := ["_wall", "MOST", "kept", "as_number", "joined_by", "worth_of", "MOST_STATEMENTS", "MOST_MOMENT", "is_true", "block_of", "Run", "_law_cell_at", "_law_deck", "_law_pick", "_law_name", "_law_worth", "_law_saying", "_law_plain", "_law_simple", "_law_closed", "_law_program", "_law_bounded", "_law_says", "_law_flat", "_law_new", "_law_ticket", "_law_ended", "_law_do_plain", "_law_do_wait", "_law_do_hear"]
def loose2 : List Str := ["_law_go", "_law_goes_behind", "_law_takes", "_law_waits", "_law_happening", "_law_row", "_law_alike"]
def loose : List Str := loose1 ++ loose2
abbrev R : PySem.W.OpenRow := PySem.W.OpenLaw.row PySem.Challenge.rw_outlast_k17_whole_any_program
abbrev hk : PySem.W.Hook := He.hookD 5 fa fn
def ob (s : PySem.W.SharedT) : He.AlD := He.obsDG 5 fa fn (HandSHeadRun.getT s)
theorem ob_eq (s : PySem.W.SharedT) : ob s = hk.obs s.abs := He.obsDG_eq (HandSHeadRun.getT_eq s)
theorem run (w : World) : HandSHeadRun.RunEq R (PySem.W.view R.prog [41]) hk ob 6000 loose w := by
  intro os
  kernel_rfl
end L2.K17

set_option maxHeartbeats 1000000
/-! further rules -/
namespace L2.K17
open PySem PySem.Spec PyProof.Rows L2
section
variable {X : Cx} {pins : List (Addr × Obj)} {σ : St} {H : Hp} {s : Shared} {a : Addr} {kvs : List (Key × V)} {A : Around} {E : Value → Shared → Prop}
/-! ### d.get(None) -/
theorem d_getNone {Q : Value → Shared → Prop} (I : Inv X pins σ H s) (e : Rd H a (.dK kvs)) (h : ∀ s', Inv X pins σ H s' → Q .none s') : wpAny (model X.prog X.w) A (call (.builtin "dict.get") [.ref a, .none]) Q E s := by
  obtain ⟨_, hd, vs, _, dd⟩ := dk_rd I.hok e
  obtain ⟨f, hm, hf⟩ := none_map dd
  refine call_meetsIn PySem.F.slot_dict_get dd.typeIs PySem.F.entry_dict_get (PySem.F.args_dict_get_2 _ _) (meets_dict_get (noneKind X.prog X.w) a (show (noneKind X.prog X.w).is none .none = true from rfl) hd) ⟨_, hm, ?_⟩
  rw [hf]
  exact h _ (I.tok _)
end
section
variable {X : Cx} {td ty : TE} {o e : Expr} {apos cpos : Pos}
/-- d.get(y); y may be None -/
def tDGetN (td ty : TE) : TE := fun σ H Q => td σ H fun x H1 => ∃ a kvs, x = .ref a ∧ Rd H1 a (.dK kvs) ∧ ty σ H1 fun y H2 => ∃ kvs, Rd H2 a (.dK kvs) ∧ ((∃ k, y = kV k ∧ Q ((valV kvs k).getD .non) H2) ∨ (y = .non ∧ Q .non H2))
theorem pe_dgetN (hu : X.A.units + 1 < cLine) (ho : PE X o td) (he : PE X e ty) (m : M1 X o "get" apos e cpos) : PE X (.Call (.Attribute o "get" apos) [e] [] cpos) (tDGetN td ty) := by
  refine ⟨fun pins s σ H Q I h => ?_⟩
  refine wpAny_Call_method m.base m.few m.line PySem.F.plainAttrs_dict PySem.F.slot_dict_get PySem.F.type_dict_get (thn (ho.run pins s σ H _ I h) fun u s1 ⟨x, H1, I1, rx, a, kvs, ex, d, q1⟩ => ?_)
  subst ex
  obtain rfl : u = Value.ref a := rx
  obtain ⟨t1, t2, _⟩ := isD_at I1 (.inl ⟨kvs, d⟩)
  refine ⟨t1, t2, ?_⟩
  rw [m.trees]
  refine Calls.callWith_builtin rfl (Calls.evalArgs_plain (Calls.spliced_cons (thn (he.run pins s1 σ H1 _ I1 q1) fun iv s2 ⟨y, H2, I2, ry, kvs2, d2, q2⟩ => Calls.spliced_nil ?_)))
  rcases q2 with ⟨k, ey, q2⟩ | ⟨ey, q2⟩
  · subst ey
    exact d_get1 hu I2 (.inl ⟨kvs2, k, d2, rfl, rfl⟩) ry fun w' s3 I3 rw' => ⟨_, H2, I3, rw', q2⟩
  · subst ey
    obtain rfl : iv = Value.none := ry
    exact d_getNone I2 d2 fun s3 I3 => ⟨.non, H2, I3, rfl, q2⟩
/-! ### dict(d) -/
theorem call_dict_copy : CallR X (.type "dict") (fun xs H Q => ∃ a kvs, xs = [.ref a] ∧ Rd H a (.dK kvs) ∧ ∀ p, H p = none → Q (.ref p) (upd H p (.dK kvs))) := by
  intro pins s σ H xs us Q I r h
  obtain ⟨a, kvs, rfl, e, q⟩ := h
  obtain ⟨u, rfl, ru⟩ := vals1 r
  cases ru
  exact d_copyOf I e fun p s' hp I' => ⟨.ref p, _, I', rfl, q p hp⟩
/-! ### o[i] op= e of a list -/
theorem get_list : PGet X (rIxL X.K) := by
  intro pins s σ H x y v u Q I rx ry h
  obtain ⟨p, xs, i, z, rfl, rfl, hq, he, q⟩ := h
  cases rx
  obtain ⟨t, rfl⟩ := ry
  obtain ⟨its, r, pl, hz⟩ := I.list hq
  obtain ⟨j, h1, h2, h3, h4, h5⟩ := atI_get he
  obtain ⟨w, ew, rw'⟩ := r.get h2
  have hl := r.length
  have hn := line63
  have fin : EP X pins σ Q w s := ⟨z, H, I, rw', q⟩
  have h6 : i < 2 ^ 63 := by
    have h7 : (xs.length : Int) < 2 ^ 63 := by omega
    omega
  have h8 : -(2 ^ 63) ≤ i := by
    have h7 : (xs.length : Int) < 2 ^ 63 := by omega
    omega
  by_cases h0 : 0 ≤ i
  · have hj : i.toNat = j := by
      rw [seqIndex_of h0 h5] at h1
      exact Option.some.inj h1
    exact wpAny_getItem_list pl.isList h0 h6 (by rw [hj]; simpa using ew) fin
  · have hj : (i + (its.toArray.size : Int)).toNat = j := by
      rw [seqIndex_neg (by omega) h4] at h1
      rw [List.size_toArray, ← hl]
      exact Option.some.inj h1
    exact wpAny_getItem_list_neg pl.isList (by omega) (by rw [List.size_toArray] <;> omega) h8 (by rw [hj]; simpa using ew) fin
end
/-! ### xs[a:b:c] of a list, c written and positive -/
theorem vals_pick {xs : List V} {its : List Value} (r : Vals xs its) : ∀ ks : List Nat, Vals (ks.filterMap fun (k : Nat) => xs[k]?) (ks.filterMap fun (k : Nat) => its.toArray[k]?)
  | [] => .nil
  | k :: ks => by
    have ih := vals_pick r ks
    cases e : xs[k]? with
    | none =>
      have e2 : its.toArray[k]? = none := by simpa using r.none_of e
      rw [List.filterMap_cons, e, List.filterMap_cons, e2]
      exact ih
    | some x =>
      obtain ⟨u, eu, ru⟩ := r.get e
      have e2 : its.toArray[k]? = some u := by simpa using eu
      rw [List.filterMap_cons, e, List.filterMap_cons, e2]
      exact .cons ru ih
section
variable {X : Cx}
def tSlS (K : PySem.W.Frag) (te : TE) (tl th : TO) : TE := fun σ H Q => te σ H fun x H1 => tl σ H1 fun _ H2 => th σ H2 fun _ H3 => ∃ a xs, x = .ref a ∧ SqL K H3 a xs ∧ ∀ p ys, H3 p = none → ys.length ≤ xs.length → (∀ v ∈ ys, v ∈ xs) → Q (.ref p) (upd H3 p (.lst ys))
theorem bounds_pos {lo hi : Option Int} {c : Int} {n : Nat} (hc : 0 < c) : 0 ≤ (sliceBounds lo hi (some c) n).1 ∧ (sliceBounds lo hi (some c) n).2.1 ≤ n := by
  unfold sliceBounds
  simp only [Option.getD_some]
  refine ⟨?_, ?_⟩
  · cases lo with
    | none => simp only [show c > 0 from hc, if_true]; omega
    | some i => simp only [show c > 0 from hc, if_true]; omega
  · cases hi with
    | none => simp only [show c > 0 from hc, if_true]; omega
    | some i => simp only [show c > 0 from hc, if_true]; omega
end
end L2.K17

set_option maxHeartbeats 1000000
/-! the mathematics: sayings, programs, what a run does -/
namespace L2.K17
open PySem L2

/-! ### worths and sayings -/
def wv : Option Int → V
  | none => .non
  | some n => .int n
theorem wv_inj : ∀ {a b : Option Int}, wv a = wv b → a = b
  | none, none, _ => rfl
  | some a, some b, h => by
    have e : a = b := V.int.inj h
    rw [e]
  | none, some _, h => nomatch h
  | some _, none, h => nomatch h
def num0 (o : Option Int) : Int := match o with
  | none => 0
  | some n => n
def kept (n : Int) : Int :=
  let m := if n < 1000000000 then n else 1000000000
  if m > -1000000000 then m else -1000000000
theorem kept_lo (n : Int) : -1000000000 ≤ kept n := by
  unfold kept
  simp only
  split <;> split <;> omega
theorem kept_hi (n : Int) : kept n ≤ 1000000000 := by
  unfold kept
  simp only
  split <;> split <;> omega
def b2n (b : Bool) : Int := if b then 1 else 0
inductive Op where
  | add | sub | mul | lt | eq
  deriving DecidableEq
def Op.str : Op → Str
  | .add => "+"
  | .sub => "-"
  | .mul => "*"
  | .lt => "<"
  | .eq => "="
inductive Say where
  | num (n : Int) | non | name (x : Str) | arg | now
  | ans (a : Say) | neg (a : Say) | bin (o : Op) (a b : Say)
def opV (o : Op) (a b : Option Int) : Int := match o with
  | .eq => b2n (decide (a = b))
  | .lt => b2n (decide (num0 a < num0 b))
  | .add => kept (num0 a + num0 b)
  | .sub => kept (num0 a - num0 b)
  | .mul => kept (num0 a * num0 b)
/-- a later pair of the same ticket wins -/
def lk : Option Int → List (Int × Option Int) → Int → Option Int
  | d, [], _ => d
  | d, p :: r, k => lk (if p.1 = k then p.2 else d) r k
def sayV (nm : Str → Option Int) (arg : Option Int) (now : Int) (dn : List (Int × Option Int)) : Say → Option Int
  | .num n => some n
  | .non => none
  | .name x => nm x
  | .arg => arg
  | .now => some (kept now)
  | .ans a => match sayV nm arg now dn a with
    | none => none
    | some t => lk none dn t
  | .neg a => some (b2n (decide (num0 (sayV nm arg now dn a) = 0)))
  | .bin o a b => some (opV o (sayV nm arg now dn a) (sayV nm arg now dn b))
def Say.depth : Say → Nat
  | .ans a => a.depth + 1
  | .neg a => a.depth + 1
  | .bin _ a b => max a.depth b.depth + 1
  | _ => 1
theorem Say.depth_pos : ∀ e : Say, 0 < e.depth
  | .num _ => Nat.one_pos
  | .non => Nat.one_pos
  | .name _ => Nat.one_pos
  | .arg => Nat.one_pos
  | .now => Nat.one_pos
  | .ans _ => Nat.succ_pos _
  | .neg _ => Nat.succ_pos _
  | .bin _ _ _ => Nat.succ_pos _
/-- small -/
def Sm (o : Option Int) : Prop := ∀ n, o = some n → -1000000000 ≤ n ∧ n ≤ 1000000000
theorem Sm.none : Sm none := fun _ h => nomatch h
theorem Sm.some {n : Int} (h1 : -1000000000 ≤ n) (h2 : n ≤ 1000000000) : Sm (some n) := fun m e => by
  cases e
  exact ⟨h1, h2⟩
theorem Sm.num0 {o : Option Int} (h : Sm o) : -1000000000 ≤ num0 o ∧ num0 o ≤ 1000000000 := by
  cases o with
  | none => exact ⟨by decide, by decide⟩
  | some n => exact h n rfl
def Say.ok : Say → Prop
  | .num n => -1000000000 ≤ n ∧ n ≤ 1000000000
  | .ans a => a.ok
  | .neg a => a.ok
  | .bin _ a b => a.ok ∧ b.ok
  | _ => True
theorem b2n_sm (b : Bool) : Sm (some (b2n b)) := by
  cases b
  · exact Sm.some (by decide) (by decide)
  · exact Sm.some (by decide) (by decide)
theorem opV_sm (o : Op) (a b : Option Int) : Sm (some (opV o a b)) := by
  cases o
  · exact Sm.some (kept_lo _) (kept_hi _)
  · exact Sm.some (kept_lo _) (kept_hi _)
  · exact Sm.some (kept_lo _) (kept_hi _)
  · exact b2n_sm _
  · exact b2n_sm _
theorem lk_sm : ∀ {dn : List (Int × Option Int)} {d : Option Int} {k : Int}, Sm d → (∀ p ∈ dn, Sm p.2) → Sm (lk d dn k)
  | [], _, _, h, _ => h
  | p :: r, d, k, h, hr => by
    unfold lk
    refine lk_sm ?_ fun q hq => hr q (List.mem_cons_of_mem _ hq)
    split
    · exact hr p (List.mem_cons_self ..)
    · exact h
theorem say_sm {nm : Str → Option Int} {arg : Option Int} {now : Int} {dn : List (Int × Option Int)} (h1 : ∀ x, Sm (nm x)) (h2 : Sm arg) (h3 : ∀ p ∈ dn, Sm p.2) : ∀ e : Say, e.ok → Sm (sayV nm arg now dn e)
  | .num n, h => Sm.some h.1 h.2
  | .non, _ => Sm.none
  | .name x, _ => h1 x
  | .arg, _ => h2
  | .now, _ => Sm.some (kept_lo _) (kept_hi _)
  | .ans a, _ => by
    unfold sayV
    split
    · exact Sm.none
    · exact lk_sm Sm.none h3
  | .neg a, _ => b2n_sm _
  | .bin o a b, _ => opV_sm o _ _

/-! ### programs -/
inductive Simp where
  | set (x : Str) (e : Say) | order (c : Bool) (x w : Str) (e : Say) | timer (x : Str) (e : Say) | send (e : Say) (k : Str) (e2 : Say) | drop (e : Say)
  | wait (x : Str) (es : List Say) | hear (x k : Str) | fin (e : Say)
inductive Blk where
  | nil
  | one (s : Simp) (r : Blk)
  | ite (c : Say) (a b r : Blk)
  | whl (c : Say) (a r : Blk)
namespace Blk
def app : Blk → Blk → Blk
  | nil, t => t
  | one s r, t => one s (r.app t)
  | ite c a b r, t => ite c a b (r.app t)
  | whl c a r, t => whl c a (r.app t)
theorem app_nil : ∀ b : Blk, b.app nil = b
  | nil => rfl
  | one s r => congrArg (one s) (app_nil r)
  | ite c a b r => congrArg (ite c a b) (app_nil r)
  | whl c a r => congrArg (whl c a) (app_nil r)
theorem app_assoc : ∀ a b c : Blk, (a.app b).app c = a.app (b.app c)
  | nil, _, _ => rfl
  | one s r, b, c => congrArg (one s) (app_assoc r b c)
  | ite d x y r, b, c => congrArg (ite d x y) (app_assoc r b c)
  | whl d x r, b, c => congrArg (whl d x) (app_assoc r b c)
def len : Blk → Nat
  | nil => 0
  | one _ r => r.len + 1
  | ite _ _ _ r => r.len + 1
  | whl _ _ r => r.len + 1
/-- the size of its flat code -/
def size : Blk → Nat
  | nil => 0
  | one _ r => r.size + 1
  | ite _ a b r => a.size + b.size + r.size + 2
  | whl _ a r => a.size + r.size + 2
def depth : Blk → Nat
  | nil => 0
  | one _ r => r.depth
  | ite _ a b r => max (max a.depth b.depth + 1) r.depth
  | whl _ a r => max (a.depth + 1) r.depth
/-- the rest from the i-th statement on -/
def suf : Nat → Blk → Option Blk
  | 0, b => some b
  | i + 1, one _ r => suf i r
  | i + 1, ite _ _ _ r => suf i r
  | i + 1, whl _ _ r => suf i r
  | _ + 1, nil => none
/-- the inner block, and what stands behind it -/
def sub : Nat → Blk → Option (Blk × Blk)
  | 0, whl c a r => some (a, whl c a r)
  | 0, ite _ a _ r => some (a, r)
  | 1, ite _ _ b r => some (b, r)
  | _, _ => none
end Blk
/-- small numbers, not deep -/
def Say.fit (e : Say) : Prop := e.ok ∧ e.depth ≤ 4
def Simp.ok : Simp → Prop
  | .set _ e => e.fit
  | .order _ _ _ e => e.fit
  | .timer _ e => e.fit
  | .send e _ e2 => e.fit ∧ e2.fit
  | .drop e => e.fit
  | .wait _ es => (∀ e ∈ es, e.fit) ∧ es.length ≤ 4
  | .hear _ _ => True
  | .fin e => e.fit
def Blk.ok : Blk → Prop
  | .nil => True
  | .one s r => s.ok ∧ r.ok
  | .ite c a b r => c.fit ∧ a.ok ∧ b.ok ∧ r.ok
  | .whl c a r => c.fit ∧ a.ok ∧ r.ok
theorem Blk.ok_app : ∀ {a b : Blk}, a.ok → b.ok → (a.app b).ok
  | .nil, _, _, h => h
  | .one s r, b, h, k => ⟨h.1, Blk.ok_app h.2 k⟩
  | .ite c x y r, b, h, k => ⟨h.1, h.2.1, h.2.2.1, Blk.ok_app h.2.2.2 k⟩
  | .whl c x r, b, h, k => ⟨h.1, h.2.1, Blk.ok_app h.2.2 k⟩

/-! ### what a run does -/
inductive Mode where
  | new | on | wait | hear | ended | worn
  deriving DecidableEq
def Mode.str : Mode → Str
  | .new => "new"
  | .on => "on"
  | .wait => "wait"
  | .hear => "hear"
  | .ended => "ended"
  | .worn => "worn"
structure AS where
  K : Blk
  mode : Mode
  names : Str → Option Int
  arg : Option Int
  now : Int
  made : Nat
  opn : List Int
  done : List (Int × Option Int)
  lets : Str → List (Option Int)
  awaited : List Int
  outcome : Option Int
abbrev Cmd := List V
namespace AS
def say (S : AS) (e : Say) : Option Int := sayV S.names S.arg S.now S.done e
def setK (S : AS) (b : Blk) : AS := { S with K := b }
def setM (S : AS) (m : Mode) : AS := { S with mode := m }
def setW (S : AS) (aw : List Int) : AS := { S with awaited := aw }
def setMade (S : AS) (n : Nat) : AS := { S with made := n }
def setO (S : AS) (ol : List Int) : AS := { S with opn := ol }
def setOut (S : AS) (w : Option Int) : AS := { S with outcome := w }
def setNow (S : AS) (n : Int) : AS := { S with now := n }
def setArg (S : AS) (w : Option Int) : AS := { S with arg := w }
def setDone (S : AS) (dn : List (Int × Option Int)) : AS := { S with done := dn }
def setN (S : AS) (x : Str) (w : Option Int) : AS := { S with names := fun y => if y = x then w else S.names y }
def ticket (S : AS) (x : Str) : AS := ((S.setMade (S.made + 1)).setO (S.opn ++ [(S.made : Int)])).setN x (some S.made)
def ended (S : AS) (w : Option Int) : AS := ((S.setM .ended).setOut w).setO []
def worn (S : AS) : AS := (S.setM .worn).setO []
def truth (S : AS) (e : Say) : Bool := decide (num0 (S.say e) ≠ 0)
def ready (S : AS) (es : List Say) : List Int := (S.done.filter fun p => decide (some p.1 ∈ es.map S.say)).map (·.1)
def await (S : AS) (es : List Say) : List Int := S.opn.filter fun t => decide (some t ∈ es.map S.say)
def setL (S : AS) (k : Str) (ws : List (Option Int)) : AS := { S with lets := fun y => if y = k then ws else S.lets y }
def due (S : AS) (e : Say) : Int :=
  let m := S.now + (if num0 (S.say e) > 0 then num0 (S.say e) else 0)
  if m < 1000000000000 then m else 1000000000000
end AS
def mkW (c : Bool) : Str := if c then "child" else "order"
def AS.rmO (S : AS) (t : Int) : AS := S.setO (S.opn.erase t)
def doDrop (S : AS) (w : Option Int) : AS × List Cmd := match w with
  | none => (S, [])
  | some t => if t ∈ S.opn then (S.rmO t, [[.str "drop", .int t]]) else (S, [])
/-- a statement done at once -/
def doPlain (S : AS) : Simp → AS × List Cmd
  | .set x e => (S.setN x (S.say e), [])
  | .order c x w e => (S.ticket x, [[.str (mkW c), .int S.made, .str w, wv (S.say e)]])
  | .timer x e => (S.ticket x, [[.str "timer", .int S.made, .int (S.due e)]])
  | .send e k e2 => (S, [[.str "send", wv (S.say e), .str k, wv (S.say e2)]])
  | .drop e => doDrop S (S.say e)
  | _ => (S, [])
inductive Rs where
  | go (S : AS) (cs : List Cmd)
  | stop (S : AS) (cs : List Cmd)
def stepWait (S : AS) (r : Blk) (x : Str) (es : List Say) : Rs := match S.ready es with
  | t :: _ => .go (((S.setW (S.await es)).setN x (some t)).setK r) []
  | [] => match S.await es with
    | [] => .go (((S.setW []).setN x none).setK r) []
    | a :: aw => .stop ((S.setW (a :: aw)).setM .wait) []
def stepHear (S : AS) (r : Blk) (x k : Str) : Rs := match S.lets k with
  | w :: ws => .go (((S.setL k ws).setN x w).setK r) []
  | [] => .stop (S.setM .hear) []
/-- one statement -/
def step1 (S : AS) (r : Blk) : Simp → Rs
  | .wait x es => stepWait S r x es
  | .hear x k => stepHear S r x k
  | .fin e => .stop (S.ended (S.say e)) [[.str "end", wv (S.say e)]]
  | s => .go ((doPlain S s).1.setK r) (doPlain S s).2
def step (S : AS) : Rs := match S.K with
  | .nil => .stop (S.ended none) [[.str "end", .non]]
  | .one s r => step1 S r s
  | .ite c a b r => .go (S.setK (if S.truth c then a.app r else b.app r)) []
  | .whl c a r => .go (S.setK (if S.truth c then a.app (.whl c a r) else r)) []
def go : Nat → AS → AS × List Cmd
  | 0, S => match S.K with
    | .nil => (S.ended none, [[.str "end", .non]])
    | _ => (S.worn, [[.str "worn"]])
  | n + 1, S => match step S with
    | .stop S1 c => (S1, c)
    | .go S1 c => ((go n S1).1, c ++ (go n S1).2)
theorem go_nil {n : Nat} {S : AS} (h : S.K = .nil) : go n S = (S.ended none, [[.str "end", .non]]) := by
  cases n with
  | zero =>
    unfold go
    rw [h]
  | succ n =>
    unfold go step
    rw [h]
theorem go_zero {S : AS} (h : S.K ≠ .nil) : go 0 S = (S.worn, [[.str "worn"]]) := by
  unfold go
  split
  · exact absurd (by assumption) h
  · rfl
theorem go_stop {n : Nat} {S S1 : AS} {c : List Cmd} (h : step S = .stop S1 c) : go (n + 1) S = (S1, c) := by
  show (match step S with
    | .stop S1 c => (S1, c)
    | .go S1 c => ((go n S1).1, c ++ (go n S1).2)) = _
  rw [h]
theorem go_go {n : Nat} {S S1 : AS} {c : List Cmd} (h : step S = .go S1 c) : go (n + 1) S = ((go n S1).1, c ++ (go n S1).2) := by
  show (match step S with
    | .stop S1 c => (S1, c)
    | .go S1 c => ((go n S1).1, c ++ (go n S1).2)) = _
  rw [h]

/-! ### happenings -/
inductive Hap where
  | begin (m : Int) (w : Option Int)
  | done (m t : Int) (w : Option Int)
  | letter (m : Int) (k : Str) (w : Option Int)
def Hap.ok : Hap → Prop
  | .begin m w => 0 ≤ m ∧ Sm w
  | .done m _ w => 0 ≤ m ∧ Sm w
  | .letter m _ w => 0 ≤ m ∧ Sm w
def later (a b : Int) : Int := if b > a then b else a
namespace AS
/-- the name of the statement at which it waits gets a worth, and it goes on -/
def behind (S : AS) (w : Option Int) : AS × List Cmd := match S.K with
  | .one (.wait x _) r => go 300 (((S.setN x w).setK r).setM .on)
  | .one (.hear x _) r => go 300 (((S.setN x w).setK r).setM .on)
  | _ => (S, [])
def began (S : AS) (m : Int) (w : Option Int) : AS := (S.setNow (later S.now m)).setArg w
def did (S : AS) (m t : Int) (w : Option Int) : AS := ((S.setNow (later S.now m)).setO (S.opn.erase t)).setDone (S.done ++ [(t, w)])
def heard (S : AS) (m : Int) (k : Str) (w : Option Int) : AS := (S.setNow (later S.now m)).setL k (S.lets k ++ [w])
/-- the key that it hears -/
def hears (S : AS) : Option Str := match S.K with
  | .one (.hear _ k) _ => some k
  | _ => none
def takeB (S : AS) (m : Int) (w : Option Int) : AS × List Cmd := if S.mode = .new then go 300 ((S.began m w).setM .on) else (S, [])
def takeD (S : AS) (m t : Int) (w : Option Int) : AS × List Cmd :=
  if (S.mode = .wait ∨ S.mode = .hear) ∧ t ∈ S.opn then
    if S.mode = .wait ∧ t ∈ S.awaited then (S.did m t w).behind (some t) else (S.did m t w, [])
  else (S, [])
def takeL (S : AS) (m : Int) (k : Str) (w : Option Int) : AS × List Cmd :=
  if S.mode = .wait ∨ S.mode = .hear then
    if S.mode = .hear ∧ S.hears = some k then ((S.heard m k w).setL k ((S.lets k ++ [w]).drop 1)).behind ((S.lets k ++ [w]).headD none)
    else (S.heard m k w, [])
  else (S, [])
def take (S : AS) : Hap → AS × List Cmd
  | .begin m w => S.takeB m w
  | .done m t w => S.takeD m t w
  | .letter m k w => S.takeL m k w
end AS
def fresh (b : Blk) : AS := { K := b, mode := .new, names := fun _ => none, arg := none, now := 0, made := 0, opn := [], done := [], lets := fun _ => [], awaited := [], outcome := none }
/-- what holds between two happenings -/
structure Rest (S : AS) : Prop where
  on : S.mode ≠ .on
  wt : S.mode = .wait → ∃ x es r, S.K = .one (.wait x es) r
  hr : S.mode = .hear → ∃ x k r, S.K = .one (.hear x k) r
  nw : S.mode = .new → S.now = 0
  op : S.opn ≠ [] → S.mode = .wait ∨ S.mode = .hear
/-- bounds -/
structure Bnd (B : Nat) (S : AS) : Prop where
  nm : ∀ x, Sm (S.names x)
  ag : Sm S.arg
  dn : ∀ p ∈ S.done, Sm p.2
  lt : ∀ k, ∀ w ∈ S.lets k, Sm w
  md : S.made ≤ B
  op : S.opn.length ≤ B
  ot : ∀ t ∈ S.opn, Sm (some t)
  dl : S.done.length ≤ B
  ll : ∀ k, (S.lets k).length ≤ B
  ko : S.K.ok
end L2.K17

set_option maxHeartbeats 1000000
/-! the mathematics, further: bounds; places in the program and in the flat code -/
namespace L2.K17
open PySem L2
section
variable {B : Nat} {S S1 : AS} {c : List Cmd}
theorem Bnd.mono {B' : Nat} (h : Bnd B S) (hb : B ≤ B') : Bnd B' S :=
  ⟨h.nm, h.ag, h.dn, h.lt, Nat.le_trans h.md hb, Nat.le_trans h.op hb, h.ot, Nat.le_trans h.dl hb, fun k => Nat.le_trans (h.ll k) hb, h.ko⟩
theorem Bnd.say (h : Bnd B S) {e : Say} (he : e.fit) : Sm (S.say e) := say_sm h.nm h.ag h.dn e he.1
theorem Bnd.setN (h : Bnd B S) {x : Str} {w : Option Int} (hw : Sm w) : Bnd B (S.setN x w) :=
  ⟨fun y => by
    show Sm (if y = x then w else S.names y)
    split
    · exact hw
    · exact h.nm y, h.ag, h.dn, h.lt, h.md, h.op, h.ot, h.dl, h.ll, h.ko⟩
theorem Bnd.setK (h : Bnd B S) {K : Blk} (hk : K.ok) : Bnd B (S.setK K) := ⟨h.nm, h.ag, h.dn, h.lt, h.md, h.op, h.ot, h.dl, h.ll, hk⟩
theorem Bnd.setM (h : Bnd B S) {m : Mode} : Bnd B (S.setM m) := ⟨h.nm, h.ag, h.dn, h.lt, h.md, h.op, h.ot, h.dl, h.ll, h.ko⟩
theorem Bnd.setW (h : Bnd B S) {aw : List Int} : Bnd B (S.setW aw) := ⟨h.nm, h.ag, h.dn, h.lt, h.md, h.op, h.ot, h.dl, h.ll, h.ko⟩
theorem Bnd.setL (h : Bnd B S) {k : Str} {ws : List (Option Int)} (hw : ∀ w ∈ ws, Sm w) (hl : ws.length ≤ B) : Bnd B (S.setL k ws) :=
  ⟨h.nm, h.ag, h.dn, fun y w hy => by
    have hy : w ∈ (if y = k then ws else S.lets y) := hy
    split at hy
    · exact hw w hy
    · exact h.lt y w hy, h.md, h.op, h.ot, h.dl, fun y => by
    show (if y = k then ws else S.lets y).length ≤ B
    split
    · exact hl
    · exact h.ll y, h.ko⟩
theorem Bnd.ended (h : Bnd B S) (w : Option Int) : Bnd B (S.ended w) := ⟨h.nm, h.ag, h.dn, h.lt, h.md, Nat.zero_le _, fun t ht => (by cases ht), h.dl, h.ll, h.ko⟩
theorem Bnd.worn (h : Bnd B S) : Bnd B S.worn := ⟨h.nm, h.ag, h.dn, h.lt, h.md, Nat.zero_le _, fun t ht => (by cases ht), h.dl, h.ll, h.ko⟩
theorem Bnd.ticket (h : Bnd B S) (hB : B ≤ 1000000000) (x : Str) : Bnd (B + 1) (S.ticket x) := by
  have hm := h.md
  have q := (h.mono (Nat.le_succ B)).setN (x := x) (w := some (S.made : Int)) (Sm.some (by omega) (by omega))
  exact ⟨q.nm, q.ag, q.dn, q.lt, Nat.succ_le_succ hm, by
    show (S.opn ++ [(S.made : Int)]).length ≤ B + 1
    rw [List.length_append]
    exact Nat.succ_le_succ h.op, fun t ht => by
    rcases List.mem_append.mp ht with z | z
    · exact h.ot t z
    · cases List.mem_singleton.mp z
      exact Sm.some (by omega) (by omega), q.dl, q.ll, q.ko⟩
theorem Bnd.drop (h : Bnd B S) (t : Int) : Bnd B (S.rmO t) :=
  ⟨h.nm, h.ag, h.dn, h.lt, h.md, Nat.le_trans (List.length_erase_le ..) h.op, fun u hu => h.ot u (List.mem_of_mem_erase hu), h.dl, h.ll, h.ko⟩
theorem Bnd.plain (h : Bnd B S) (hB : B ≤ 1000000000) {s : Simp} (hs : s.ok) : Bnd (B + 1) (doPlain S s).1 := by
  have h1 := h.mono (Nat.le_succ B)
  cases s with
  | set x e => exact h1.setN (h.say hs)
  | order c x w e => exact h.ticket hB x
  | timer x e => exact h.ticket hB x
  | send e k e2 => exact h1
  | drop e =>
    show Bnd (B + 1) (doDrop S (S.say e)).1
    unfold doDrop
    split
    · exact h1
    · split
      · exact h1.drop _
      · exact h1
  | wait x es => exact h1
  | hear x k => exact h1
  | fin e => exact h1
theorem ready_mem {es : List Say} {t : Int} (h : t ∈ S.ready es) : some t ∈ es.map S.say := by
  obtain ⟨p, hp, e⟩ := List.mem_map.mp h
  have q := of_decide_eq_true (List.mem_filter.mp hp).2
  rw [e] at q
  exact q
theorem await_le {es : List Say} : (S.await es).length ≤ S.opn.length := List.length_filter_le _ _
theorem Bnd.step1 (h : Bnd B S) (hB : B ≤ 1000000000) {s : Simp} {r : Blk} (hs : s.ok) (hr : r.ok) :
    match step1 S r s with
    | .go S1 _ => Bnd (B + 1) S1
    | .stop S1 _ => Bnd (B + 1) S1 := by
  have h1 := h.mono (Nat.le_succ B)
  cases s with
  | set x e => exact (h.plain hB (s := .set x e) hs).setK hr
  | order c x w e => exact (h.plain hB (s := .order c x w e) hs).setK hr
  | timer x e => exact (h.plain hB (s := .timer x e) hs).setK hr
  | send e k e2 => exact (h.plain hB (s := .send e k e2) hs).setK hr
  | drop e => exact (h.plain hB (s := .drop e) hs).setK hr
  | wait x es =>
    show (match stepWait S r x es with
    | .go S1 _ => Bnd (B + 1) S1
    | .stop S1 _ => Bnd (B + 1) S1)
    unfold stepWait
    cases e1 : S.ready es with
    | cons t l =>
      simp only
      have m := ready_mem (S := S) (es := es) (t := t) (by rw [e1]; exact List.mem_cons_self ..)
      obtain ⟨e, he, ee⟩ := List.mem_map.mp m
      have sm := h.say (hs.1 e he)
      rw [ee] at sm
      exact ((h1.setW (aw := S.await es)).setN sm).setK hr
    | nil =>
      cases e2 : S.await es with
      | nil => exact ((h1.setW (aw := [])).setN Sm.none).setK hr
      | cons a aw => exact (h1.setW (aw := a :: aw)).setM
  | hear x k =>
    show (match stepHear S r x k with
    | .go S1 _ => Bnd (B + 1) S1
    | .stop S1 _ => Bnd (B + 1) S1)
    unfold stepHear
    cases e1 : S.lets k with
    | nil => exact h1.setM
    | cons w ws =>
      have hl : ∀ v ∈ w :: ws, Sm v := fun v hv => h.lt k v (by rw [e1]; exact hv)
      have hn := h.ll k
      rw [e1] at hn
      exact ((h1.setL (k := k) (ws := ws) (fun v hv => hl v (List.mem_cons_of_mem _ hv)) (by have := hn; rw [List.length_cons] at this; omega)).setN (hl w (List.mem_cons_self ..))).setK hr
  | fin e => exact h1.ended _
theorem Bnd.step (h : Bnd B S) (hB : B ≤ 1000000000) :
    match step S with
    | .go S1 _ => Bnd (B + 1) S1
    | .stop S1 _ => Bnd (B + 1) S1 := by
  have h1 := h.mono (Nat.le_succ B)
  have ko := h.ko
  unfold K17.step
  cases eK : S.K with
  | nil => exact h1.ended _
  | one s r =>
    rw [eK] at ko
    exact h.step1 hB ko.1 ko.2
  | ite c a b r =>
    rw [eK] at ko
    refine h1.setK ?_
    split
    · exact Blk.ok_app ko.2.1 ko.2.2.2
    · exact Blk.ok_app ko.2.2.1 ko.2.2.2
  | whl c a r =>
    rw [eK] at ko
    refine h1.setK ?_
    split
    · exact Blk.ok_app ko.2.1 ⟨ko.1, ko.2.1, ko.2.2⟩
    · exact ko.2.2
theorem Bnd.go_ : ∀ (n : Nat) {B : Nat} {S : AS}, Bnd B S → B + n ≤ 1000000000 → Bnd (B + n) (go n S).1
  | 0, B, S, h, _ => by
    by_cases e : S.K = .nil
    · rw [go_nil e]
      exact h.ended _
    · rw [go_zero e]
      exact h.worn
  | n + 1, B, S, h, hB => by
    have q := h.step (by omega)
    cases e : K17.step S with
    | stop S1 c =>
      rw [e] at q
      rw [go_stop e]
      exact Bnd.mono q (by omega)
    | go S1 c =>
      rw [e] at q
      rw [go_go e]
      have z := Bnd.go_ n (B := B + 1) q (by omega)
      exact z.mono (by omega)
/-! ### rest -/
theorem Rest.ended (w : Option Int) : Rest (S.ended w) :=
  ⟨by show Mode.ended ≠ Mode.on; decide, fun h => (nomatch h), fun h => (nomatch h), fun h => (nomatch h), fun h => absurd rfl h⟩
theorem Rest.worn : Rest S.worn :=
  ⟨by show Mode.worn ≠ Mode.on; decide, fun h => (nomatch h), fun h => (nomatch h), fun h => (nomatch h), fun h => absurd rfl h⟩
theorem Rest.step (h : K17.step S = .stop S1 c) : Rest S1 := by
  unfold K17.step at h
  cases eK : S.K with
  | nil =>
    rw [eK] at h
    cases h
    exact Rest.ended _
  | ite c a b r =>
    rw [eK] at h
    cases h
  | whl c a r =>
    rw [eK] at h
    cases h
  | one s r =>
    rw [eK] at h
    cases s with
    | fin e =>
      cases h
      exact Rest.ended _
    | wait x es =>
      have h : stepWait S r x es = .stop S1 c := h
      unfold stepWait at h
      cases e1 : S.ready es with
      | cons t l =>
        rw [e1] at h
        cases h
      | nil =>
        cases e2 : S.await es with
        | nil =>
          rw [e1, e2] at h
          cases h
        | cons a aw =>
          rw [e1, e2] at h
          cases h
          exact ⟨by show Mode.wait ≠ Mode.on; decide, fun _ => ⟨x, es, r, eK⟩, fun h => (nomatch h), fun h => (nomatch h), fun _ => .inl rfl⟩
    | hear x k =>
      have h : stepHear S r x k = .stop S1 c := h
      unfold stepHear at h
      cases e1 : S.lets k with
      | cons t l =>
        rw [e1] at h
        cases h
      | nil =>
        rw [e1] at h
        cases h
        exact ⟨by show Mode.hear ≠ Mode.on; decide, fun h => (nomatch h), fun _ => ⟨x, k, r, eK⟩, fun h => (nomatch h), fun _ => .inr rfl⟩
    | set _ _ => cases h
    | order _ _ _ _ => cases h
    | timer _ _ => cases h
    | send _ _ _ => cases h
    | drop _ => cases h
theorem Rest.go_ : ∀ (n : Nat) (S : AS), Rest (go n S).1
  | 0, S => by
    by_cases e : S.K = .nil
    · rw [go_nil e]
      exact Rest.ended _
    · rw [go_zero e]
      exact Rest.worn
  | n + 1, S => by
    cases e : K17.step S with
    | stop S1 c =>
      rw [go_stop e]
      exact Rest.step e
    | go S1 c =>
      rw [go_go e]
      exact Rest.go_ n S1
theorem Rest.fresh (b : Blk) : Rest (fresh b) := ⟨by show Mode.new ≠ Mode.on; decide, fun h => (nomatch h), fun h => (nomatch h), fun _ => rfl, fun h => absurd rfl h⟩
theorem Bnd.fresh {b : Blk} (h : b.ok) : Bnd 0 (fresh b) := ⟨fun _ => Sm.none, Sm.none, fun p h => (by cases h), fun k w h => (by cases h), Nat.le_refl _, Nat.le_refl _, fun t h => (by cases h), Nat.le_refl _, fun _ => Nat.le_refl _, h⟩
theorem Bnd.began (h : Bnd B S) {n : Int} {w : Option Int} (hw : Sm w) : Bnd B (S.began n w) := ⟨h.nm, hw, h.dn, h.lt, h.md, h.op, h.ot, h.dl, h.ll, h.ko⟩
theorem Bnd.did (h : Bnd B S) {n t : Int} {w : Option Int} (hw : Sm w) : Bnd (B + 1) (S.did n t w) :=
  ⟨h.nm, h.ag, fun p hp => by
    rcases List.mem_append.mp hp with q | q
    · exact h.dn p q
    · cases List.mem_singleton.mp q
      exact hw, h.lt, Nat.le_succ_of_le h.md, Nat.le_succ_of_le (Nat.le_trans (List.length_erase_le ..) h.op), fun u hu => h.ot u (List.mem_of_mem_erase hu), by
    show (S.done ++ [(t, w)]).length ≤ B + 1
    rw [List.length_append]
    exact Nat.succ_le_succ h.dl, fun k => Nat.le_succ_of_le (h.ll k), h.ko⟩
theorem Bnd.setNow (h : Bnd B S) {n : Int} : Bnd B (S.setNow n) := ⟨h.nm, h.ag, h.dn, h.lt, h.md, h.op, h.ot, h.dl, h.ll, h.ko⟩
theorem lets_sm (h : Bnd B S) {k : Str} {w : Option Int} (hw : Sm w) : ∀ v ∈ S.lets k ++ [w], Sm v := fun v hv => by
  rcases List.mem_append.mp hv with q | q
  · exact h.lt k v q
  · cases List.mem_singleton.mp q
    exact hw
theorem Bnd.heard (h : Bnd B S) {n : Int} {k : Str} {w : Option Int} (hw : Sm w) : Bnd (B + 1) (S.heard n k w) :=
  ((h.mono (Nat.le_succ B)).setNow (n := later S.now n)).setL (lets_sm h hw) (by
    rw [List.length_append]
    exact Nat.succ_le_succ (h.ll k))
theorem Bnd.behind (h : Bnd B S) (hB : B + 300 ≤ 1000000000) {w : Option Int} (hw : Sm w) : Bnd (B + 300) (S.behind w).1 := by
  have ko := h.ko
  unfold AS.behind
  split
  · rename_i x es r eK
    rw [eK] at ko
    exact Bnd.go_ 300 (((h.setN (x := x) hw).setK ko.2).setM (m := .on)) hB
  · rename_i x es r eK
    rw [eK] at ko
    exact Bnd.go_ 300 (((h.setN (x := x) hw).setK ko.2).setM (m := .on)) hB
  · exact h.mono (by omega)
theorem Bnd.heard2 (h : Bnd B S) {n : Int} {k : Str} {w : Option Int} (hw : Sm w) : Bnd (B + 1) ((S.heard n k w).setL k ((S.lets k ++ [w]).drop 1)) ∧ Sm ((S.lets k ++ [w]).headD none) := by
  have sm := lets_sm h (k := k) hw
  refine ⟨(h.heard (n := n) (k := k) hw).setL (k := k) (ws := (S.lets k ++ [w]).drop 1) (fun v hv => sm v (List.mem_of_mem_drop hv)) ?_, ?_⟩
  · rw [List.length_drop, List.length_append]
    have := h.ll k
    show (S.lets k).length + 1 - 1 ≤ B + 1
    omega
  · cases e : S.lets k with
    | nil => exact hw
    | cons a r => exact sm a (by rw [e]; exact List.mem_cons_self ..)
theorem Bnd.take (h : Bnd B S) (hB : B + 301 ≤ 1000000000) : ∀ {p : Hap}, p.ok → Bnd (B + 301) (S.take p).1
  | .begin m w, hp => by
    show Bnd (B + 301) (S.takeB m w).1
    unfold AS.takeB
    split
    · exact (Bnd.go_ 300 ((h.began (n := m) hp.2).setM (m := .on)) (by omega)).mono (by omega)
    · exact h.mono (by omega)
  | .done m t w, hp => by
    show Bnd (B + 301) (S.takeD m t w).1
    unfold AS.takeD
    split
    · rename_i c1
      split
      · exact (h.did (n := m) (t := t) hp.2).behind (by omega) (h.ot t c1.2)
      · exact (h.did (n := m) (t := t) hp.2).mono (by omega)
    · exact h.mono (by omega)
  | .letter m k w, hp => by
    show Bnd (B + 301) (S.takeL m k w).1
    unfold AS.takeL
    split
    · split
      · have sm := lets_sm h (k := k) hp.2
        refine ((h.heard (n := m) (k := k) hp.2).setL (k := k) (ws := (S.lets k ++ [w]).drop 1) (fun v hv => sm v (List.mem_of_mem_drop hv)) ?_).behind (by omega) ?_
        · rw [List.length_drop, List.length_append]
          have := h.ll k
          show (S.lets k).length + 1 - 1 ≤ B + 1
          omega
        · cases e : S.lets k with
          | nil => exact hp.2
          | cons a r => exact sm a (by rw [e]; exact List.mem_cons_self ..)
      · exact (h.heard (n := m) (k := k) hp.2).mono (by omega)
    · exact h.mono (by omega)
theorem Rest.same {T : AS} (h : Rest S) (e1 : T.mode = S.mode) (e2 : T.K = S.K) (c : S.mode = .wait ∨ S.mode = .hear) : Rest T :=
  ⟨by rw [e1]; exact h.on, by rw [e1, e2]; exact h.wt, by rw [e1, e2]; exact h.hr, fun e => (by
    rw [e1] at e
    rcases c with z | z <;> rw [e] at z <;> cases z), fun _ => by rw [e1]; exact c⟩
theorem Rest.take (h : Rest S) (p : Hap) : Rest (S.take p).1 := by
  have bh : ∀ (T : AS) (w : Option Int), Rest T → Rest (T.behind w).1 := fun T w hT => by
    unfold AS.behind
    split
    · exact Rest.go_ _ _
    · exact Rest.go_ _ _
    · exact hT
  cases p with
  | «begin» m w =>
    show Rest (S.takeB m w).1
    unfold AS.takeB
    split
    · exact Rest.go_ _ _
    · exact h
  | done m t w =>
    show Rest (S.takeD m t w).1
    unfold AS.takeD
    split
    · rename_i c
      have q : Rest (S.did m t w) := h.same rfl rfl c.1
      split
      · exact bh _ _ q
      · exact q
    · exact h
  | letter m k w =>
    show Rest (S.takeL m k w).1
    unfold AS.takeL
    split
    · rename_i c
      have q0 : Rest (S.heard m k w) := h.same rfl rfl c
      split
      · exact bh _ _ (h.same rfl rfl c)
      · exact q0
    · exact h
end
end L2.K17

set_option maxHeartbeats 1000000
/-! places: a path in the program; a place in the flat code -/
namespace L2.K17
open PySem L2

/-! ### a path: the pairs (number in the block, which inner block), innermost first -/
def posAt (root : Blk) : List (Nat × Nat) → Option (Blk × Blk)
  | [] => some (root, .nil)
  | p :: ps => match posAt root ps with
    | none => none
    | some bt => match Blk.suf p.1 bt.1 with
      | none => none
      | some q => match Blk.sub p.2 q with
        | none => none
        | some aa => some (aa.1, aa.2.app bt.2)
def pathL : List (Nat × Nat) → List Nat
  | [] => []
  | p :: ps => pathL ps ++ [p.1, p.2]
theorem pathL_length : ∀ ps, (pathL ps).length = 2 * ps.length
  | [] => rfl
  | p :: ps => by
    show (pathL ps ++ [p.1, p.2]).length = 2 * (ps.length + 1)
    rw [List.length_append, pathL_length ps]
    show 2 * ps.length + 2 = _
    omega
theorem posAt_cons {root : Blk} {p : Nat × Nat} {ps : List (Nat × Nat)} {b t q a aft : Blk} (h : posAt root ps = some (b, t)) (hq : Blk.suf p.1 b = some q) (hs : Blk.sub p.2 q = some (a, aft)) :
    posAt root (p :: ps) = some (a, aft.app t) := by
  unfold posAt
  rw [h]
  simp only
  rw [hq]
  simp only
  rw [hs]
theorem posAt_inv {root : Blk} {p : Nat × Nat} {ps : List (Nat × Nat)} {a u : Blk} (h : posAt root (p :: ps) = some (a, u)) :
    ∃ b t q aft, posAt root ps = some (b, t) ∧ Blk.suf p.1 b = some q ∧ Blk.sub p.2 q = some (a, aft) ∧ u = aft.app t := by
  unfold posAt at h
  split at h
  · cases h
  · rename_i bt e1
    split at h
    · cases h
    · rename_i q e2
      split at h
      · cases h
      · rename_i aa e3
        cases h
        exact ⟨bt.1, bt.2, q, aa.2, e1, e2, e3, rfl⟩
theorem posAt_drop {root : Blk} : ∀ {m : Nat} {ps : List (Nat × Nat)} {bt : Blk × Blk}, posAt root ps = some bt → ∃ bt', posAt root (ps.drop m) = some bt'
  | 0, ps, bt, h => ⟨bt, h⟩
  | m + 1, [], bt, h => ⟨bt, h⟩
  | m + 1, p :: ps, bt, h => by
    obtain ⟨b, t, q, aft, h1, _⟩ := posAt_inv (a := bt.1) (u := bt.2) h
    exact posAt_drop (m := m) h1
theorem suf_depth : ∀ {i : Nat} {b q : Blk}, Blk.suf i b = some q → q.depth ≤ b.depth
  | 0, b, q, h => by
    cases h
    exact Nat.le_refl _
  | i + 1, .nil, q, h => by cases h
  | i + 1, .one s r, q, h => suf_depth (i := i) (b := r) h
  | i + 1, .ite c x y r, q, h => Nat.le_trans (suf_depth (i := i) (b := r) h) (Nat.le_max_right ..)
  | i + 1, .whl c x r, q, h => Nat.le_trans (suf_depth (i := i) (b := r) h) (Nat.le_max_right ..)
theorem sub_depth : ∀ {k : Nat} {q a aft : Blk}, Blk.sub k q = some (a, aft) → a.depth + 1 ≤ q.depth
  | 0, .whl c x r, a, aft, h => by
    cases h
    exact Nat.le_max_left ..
  | 0, .ite c x y r, a, aft, h => by
    cases h
    exact Nat.le_trans (Nat.succ_le_succ (Nat.le_max_left ..)) (Nat.le_max_left ..)
  | 1, .ite c x y r, a, aft, h => by
    cases h
    exact Nat.le_trans (Nat.succ_le_succ (Nat.le_max_right ..)) (Nat.le_max_left ..)
  | 0, .nil, a, aft, h => by cases h
  | 0, .one _ _, a, aft, h => by cases h
  | 1, .nil, a, aft, h => by cases h
  | 1, .one _ _, a, aft, h => by cases h
  | 1, .whl _ _ _, a, aft, h => by cases h
  | _ + 2, .nil, a, aft, h => by cases h
  | _ + 2, .one _ _, a, aft, h => by cases h
  | _ + 2, .ite _ _ _ _, a, aft, h => by cases h
  | _ + 2, .whl _ _ _, a, aft, h => by cases h
theorem posAt_depth {root : Blk} : ∀ {ps : List (Nat × Nat)} {b t : Blk}, posAt root ps = some (b, t) → b.depth + ps.length ≤ root.depth
  | [], b, t, h => by
    cases h
    exact Nat.le_refl _
  | p :: ps, a, u, h => by
    obtain ⟨b, t, q, aft, h1, h2, h3, _⟩ := posAt_inv h
    have d1 := posAt_depth h1
    have d2 := suf_depth h2
    have d3 := sub_depth h3
    show a.depth + (ps.length + 1) ≤ _
    omega
theorem suf_len : ∀ {i : Nat} {b q : Blk}, Blk.suf i b = some q → b.len = i + q.len
  | 0, b, q, h => by
    cases h
    exact (Nat.zero_add _).symm
  | i + 1, .nil, q, h => by cases h
  | i + 1, .one s r, q, h => by
    have := suf_len (i := i) (b := r) h
    show r.len + 1 = _
    omega
  | i + 1, .ite c x y r, q, h => by
    have := suf_len (i := i) (b := r) h
    show r.len + 1 = _
    omega
  | i + 1, .whl c x r, q, h => by
    have := suf_len (i := i) (b := r) h
    show r.len + 1 = _
    omega
/-- the rest behind the first statement -/
def Blk.tl : Blk → Blk
  | .nil => .nil
  | .one _ r => r
  | .ite _ _ _ r => r
  | .whl _ _ r => r
theorem suf_succ : ∀ {i : Nat} {b q : Blk}, Blk.suf i b = some q → q ≠ .nil → Blk.suf (i + 1) b = some q.tl
  | 0, .nil, q, h, hn => by
    cases h
    exact absurd rfl hn
  | 0, .one s r, q, h, hn => by
    cases h
    rfl
  | 0, .ite c x y r, q, h, hn => by
    cases h
    rfl
  | 0, .whl c x r, q, h, hn => by
    cases h
    rfl
  | i + 1, .nil, q, h, hn => by cases h
  | i + 1, .one s r, q, h, hn => suf_succ (i := i) (b := r) h hn
  | i + 1, .ite c x y r, q, h, hn => suf_succ (i := i) (b := r) h hn
  | i + 1, .whl c x r, q, h, hn => suf_succ (i := i) (b := r) h hn
theorem len_zero : ∀ {b : Blk}, b.len = 0 → b = .nil
  | .nil, _ => rfl
  | .one _ _, h => by cases h
  | .ite _ _ _ _, h => by cases h
  | .whl _ _ _, h => by cases h

/-! ### the flat code -/
inductive CE where
  | st (q : Blk) (w : Option Nat)
  | jump (w : Nat)
  | hole
def flatOf : Blk → Nat → List CE
  | .nil, _ => []
  | .one s r, n => .st (.one s .nil) none :: flatOf r (n + 1)
  | .ite c a b r, n => .st (.ite c a b .nil) (some (n + 2 + a.size)) :: (flatOf a (n + 1) ++ (.jump (n + 2 + a.size + b.size) :: (flatOf b (n + 2 + a.size) ++ flatOf r (n + 2 + a.size + b.size))))
  | .whl c a r, n => .st (.whl c a .nil) (some (n + 2 + a.size)) :: (flatOf a (n + 1) ++ (.jump n :: flatOf r (n + 2 + a.size)))
theorem flat_length : ∀ (b : Blk) (n : Nat), (flatOf b n).length = b.size
  | .nil, _ => rfl
  | .one s r, n => congrArg Nat.succ (flat_length r _)
  | .ite c a b r, n => by
    show (flatOf a (n + 1) ++ (CE.jump _ :: (flatOf b _ ++ flatOf r _))).length + 1 = a.size + b.size + r.size + 2
    rw [List.length_append, List.length_cons, List.length_append, flat_length a, flat_length b, flat_length r]
    omega
  | .whl c a r, n => by
    show (flatOf a (n + 1) ++ (CE.jump _ :: flatOf r _)).length + 1 = a.size + r.size + 2
    rw [List.length_append, List.length_cons, flat_length a, flat_length r]
    omega
def Seg (code : List CE) : Blk → Nat → Prop
  | .nil, _ => True
  | .one s r, i => code[i]? = some (.st (.one s .nil) none) ∧ Seg code r (i + 1)
  | .ite c a b r, i => code[i]? = some (.st (.ite c a b .nil) (some (i + 2 + a.size))) ∧ Seg code a (i + 1) ∧ code[i + 1 + a.size]? = some (.jump (i + 2 + a.size + b.size)) ∧ Seg code b (i + 2 + a.size) ∧ Seg code r (i + 2 + a.size + b.size)
  | .whl c a r, i => code[i]? = some (.st (.whl c a .nil) (some (i + 2 + a.size))) ∧ Seg code a (i + 1) ∧ code[i + 1 + a.size]? = some (.jump i) ∧ Seg code r (i + 2 + a.size)
theorem get_mid {α : Type} {pre post : List α} {x : α} {n : Nat} (h : pre.length = n) : (pre ++ x :: post)[n]? = some x := by
  subst h
  simp
theorem seg_flat : ∀ (b : Blk) (pre post : List CE) {n : Nat}, pre.length = n → Seg (pre ++ (flatOf b n ++ post)) b n
  | .nil, _, _, _, _ => True.intro
  | .one s r, pre, post, n, h => by
    refine ⟨get_mid h, ?_⟩
    have q := seg_flat r (pre ++ [.st (.one s .nil) none]) post (n := n + 1) (by rw [List.length_append, h]; rfl)
    rw [List.append_assoc] at q
    exact q
  | .ite c a b r, pre, post, n, h => by
    have la := flat_length a (n + 1)
    have lb := flat_length b (n + 2 + a.size)
    refine ⟨get_mid h, ?_, ?_, ?_, ?_⟩
    · have q := seg_flat a (pre ++ [.st (.ite c a b .nil) (some (n + 2 + a.size))]) ((.jump (n + 2 + a.size + b.size) :: (flatOf b (n + 2 + a.size) ++ flatOf r (n + 2 + a.size + b.size))) ++ post) (n := n + 1) (by rw [List.length_append, h]; rfl)
      simpa [flatOf, List.append_assoc] using q
    · have e : pre ++ (flatOf (.ite c a b r) n ++ post) = (pre ++ (.st (.ite c a b .nil) (some (n + 2 + a.size)) :: flatOf a (n + 1))) ++ .jump (n + 2 + a.size + b.size) :: ((flatOf b (n + 2 + a.size) ++ flatOf r (n + 2 + a.size + b.size)) ++ post) := by
        simp [flatOf, List.append_assoc]
      rw [e]
      exact get_mid (by rw [List.length_append, List.length_cons, la, h]; omega)
    · have e : pre ++ (flatOf (.ite c a b r) n ++ post) = (pre ++ (.st (.ite c a b .nil) (some (n + 2 + a.size)) :: (flatOf a (n + 1) ++ [.jump (n + 2 + a.size + b.size)]))) ++ (flatOf b (n + 2 + a.size) ++ (flatOf r (n + 2 + a.size + b.size) ++ post)) := by
        simp [flatOf, List.append_assoc]
      rw [e]
      exact seg_flat b _ _ (by rw [List.length_append, List.length_cons, List.length_append, la, h, List.length_singleton]; omega)
    · have e : pre ++ (flatOf (.ite c a b r) n ++ post) = (pre ++ (.st (.ite c a b .nil) (some (n + 2 + a.size)) :: (flatOf a (n + 1) ++ (.jump (n + 2 + a.size + b.size) :: flatOf b (n + 2 + a.size))))) ++ (flatOf r (n + 2 + a.size + b.size) ++ post) := by
        simp [flatOf, List.append_assoc]
      rw [e]
      exact seg_flat r _ _ (by rw [List.length_append, List.length_cons, List.length_append, List.length_cons, la, lb, h]; omega)
  | .whl c a r, pre, post, n, h => by
    have la := flat_length a (n + 1)
    refine ⟨get_mid h, ?_, ?_, ?_⟩
    · have q := seg_flat a (pre ++ [.st (.whl c a .nil) (some (n + 2 + a.size))]) ((.jump n :: flatOf r (n + 2 + a.size)) ++ post) (n := n + 1) (by rw [List.length_append, h]; rfl)
      simpa [flatOf, List.append_assoc] using q
    · have e : pre ++ (flatOf (.whl c a r) n ++ post) = (pre ++ (.st (.whl c a .nil) (some (n + 2 + a.size)) :: flatOf a (n + 1))) ++ .jump n :: (flatOf r (n + 2 + a.size) ++ post) := by
        simp [flatOf, List.append_assoc]
      rw [e]
      exact get_mid (by rw [List.length_append, List.length_cons, la, h]; omega)
    · have e : pre ++ (flatOf (.whl c a r) n ++ post) = (pre ++ (.st (.whl c a .nil) (some (n + 2 + a.size)) :: (flatOf a (n + 1) ++ [.jump n]))) ++ (flatOf r (n + 2 + a.size) ++ post) := by
        simp [flatOf, List.append_assoc]
      rw [e]
      exact seg_flat r _ _ (by rw [List.length_append, List.length_cons, List.length_append, la, h, List.length_singleton]; omega)
/-- what stands behind a block's end at e; n bounds the jumps -/
inductive Tail (code : List CE) (D : Nat) : Nat → Blk → Nat → Prop where
  | root : Tail code D code.length .nil 0
  | body {e i n : Nat} {c : Say} {a r t : Blk} : code[e]? = some (.jump i) → Seg code (.whl c a r) i → Tail code D (i + (Blk.whl c a r).size) t n → (Blk.whl c a r).depth + n ≤ D → Tail code D e ((Blk.whl c a r).app t) (n + 1)
  | jmp {e w n : Nat} {r t : Blk} : code[e]? = some (.jump w) → Seg code r w → Tail code D (w + r.size) t n → r.depth + n ≤ D → Tail code D e (r.app t) (n + 1)
  | fall {e n : Nat} {r t : Blk} : Seg code r e → Tail code D (e + r.size) t n → r.depth + n ≤ D → Tail code D e (r.app t) (n + 1)
/-- at the place `at` the run goes on with K; m bounds the jumps ahead of the next statement -/
def At (code : List CE) (D : Nat) (i : Nat) (K : Blk) (m : Nat) : Prop :=
  ∃ b t n, Seg code b i ∧ Tail code D (i + b.size) t n ∧ K = b.app t ∧ b.depth + n ≤ D ∧ (b = .nil → n ≤ m)
theorem At.start {b : Blk} : At (flatOf b 0) b.depth 0 b b.depth := by
  have s := seg_flat b [] [] (n := 0) rfl
  have e : [] ++ (flatOf b 0 ++ []) = flatOf b 0 := by simp
  rw [e] at s
  have l := flat_length b 0
  exact ⟨b, .nil, 0, s, by rw [Nat.zero_add, ← l]; exact .root, (Blk.app_nil b).symm, Nat.le_refl _, fun _ => Nat.zero_le _⟩
/-- what may stand there -/
inductive AtCase (code : List CE) (D : Nat) (i : Nat) (K : Blk) (m : Nat) : Prop where
  | fin (h : i = code.length) (hk : K = .nil)
  | jump (w m' : Nat) (h : code[i]? = some (.jump w)) (hm : m' < m) (hd : m' ≤ D) (ha : At code D w K m')
  | one (s : Simp) (r : Blk) (h : code[i]? = some (.st (.one s .nil) none)) (hk : K = .one s r) (ha : At code D (i + 1) r D)
  | ite (c : Say) (a b r : Blk) (w : Nat) (h : code[i]? = some (.st (.ite c a b .nil) (some w))) (hk : K = .ite c a b r) (ha : At code D (i + 1) (a.app r) D) (hb : At code D w (b.app r) D)
  | whl (c : Say) (a r : Blk) (w : Nat) (h : code[i]? = some (.st (.whl c a .nil) (some w))) (hk : K = .whl c a r) (ha : At code D (i + 1) (a.app (.whl c a r)) D) (hb : At code D w r D)
theorem At.case_nn {code : List CE} {D i m : Nat} {b t : Blk} {n : Nat} (hs : Seg code b i) (ht : Tail code D (i + b.size) t n) (hd : b.depth + n ≤ D) (hb : b ≠ .nil) : AtCase code D i (b.app t) m := by
  cases b with
  | nil => exact absurd rfl hb
  | one s r =>
    obtain ⟨h1, h2⟩ := hs
    have ht : Tail code D (i + (r.size + 1)) t n := ht
    have hd : r.depth + n ≤ D := hd
    exact .one s (r.app t) h1 rfl ⟨r, t, n, h2, by rw [show i + 1 + r.size = i + (r.size + 1) by omega]; exact ht, rfl, hd, fun _ => by omega⟩
  | ite c a b r =>
    obtain ⟨h1, h2, h3, h4, h5⟩ := hs
    have ht : Tail code D (i + (a.size + b.size + r.size + 2)) t n := ht
    have hd : max (max a.depth b.depth + 1) r.depth + n ≤ D := hd
    have dr : r.depth + n ≤ D := by omega
    have hr : Tail code D (i + 2 + a.size + b.size + r.size) t n := by rw [show i + 2 + a.size + b.size + r.size = i + (a.size + b.size + r.size + 2) by omega]; exact ht
    refine .ite c a b (r.app t) (i + 2 + a.size) h1 rfl ⟨a, r.app t, n + 1, h2, ?_, rfl, by omega, fun _ => by omega⟩ ⟨b, r.app t, n + 1, h4, .fall h5 hr dr, rfl, by omega, fun _ => by omega⟩
    exact .jmp h3 h5 hr dr
  | whl c a r =>
    have hs0 := hs
    obtain ⟨h1, h2, h3, h4⟩ := hs
    have ht0 := ht
    have hd0 := hd
    have ht : Tail code D (i + (a.size + r.size + 2)) t n := ht
    have hd : max (a.depth + 1) r.depth + n ≤ D := hd
    have dr : r.depth + n ≤ D := by omega
    have hr : Tail code D (i + 2 + a.size + r.size) t n := by rw [show i + 2 + a.size + r.size = i + (a.size + r.size + 2) by omega]; exact ht
    exact .whl c a (r.app t) (i + 2 + a.size) h1 rfl ⟨a, (Blk.whl c a r).app t, n + 1, h2, .body h3 hs0 ht0 hd0, rfl, by omega, fun _ => by omega⟩ ⟨r, t, n, h4, hr, rfl, dr, fun _ => by omega⟩
theorem tail_case {code : List CE} {D : Nat} : ∀ {n i m : Nat} {t : Blk}, Tail code D i t n → n ≤ m → n ≤ D → AtCase code D i t m
  | n, i, m, t, h, hm, hD => by
    cases h with
    | root => exact .fin rfl rfl
    | @body e i' n' c a r t' h1 h2 h3 h4 => exact .jump i' 0 h1 (by omega) (Nat.zero_le _) ⟨.whl c a r, t', n', h2, h3, rfl, h4, fun z => nomatch z⟩
    | @jmp e w n' r t' h1 h2 h3 h4 => exact .jump w n' h1 (by omega) (by omega) ⟨r, t', n', h2, h3, rfl, h4, fun _ => Nat.le_refl _⟩
    | @fall e n' r t' h1 h2 h3 =>
      by_cases hr : r = .nil
      · subst hr
        exact tail_case (n := n') (m := m) h2 (by omega) (by omega)
      · exact At.case_nn h1 h2 h3 hr
termination_by n => n
theorem At.case {code : List CE} {D i m : Nat} {K : Blk} (h : At code D i K m) : AtCase code D i K m := by
  obtain ⟨b, t, n, h1, h2, rfl, h4, h5⟩ := h
  by_cases hb : b = .nil
  · subst hb
    have hd : 0 + n ≤ D := h4
    exact tail_case (n := n) h2 (h5 rfl) (by omega)
  · exact At.case_nn h1 h2 h4 hb
end L2.K17

set_option maxHeartbeats 1000000
/-! the data as they stand in the heap -/
namespace L2.K17
open PySem L2

/-! ### heaps that grow -/
def TupS (H H' : Hp) : Prop := ∀ a xs, H a = some (.tup xs) → H' a = some (.tup xs)
theorem TupS.refl (H : Hp) : TupS H H := fun _ _ h => h
theorem TupS.trans {H H1 H2 : Hp} (a : TupS H H1) (b : TupS H1 H2) : TupS H H2 := fun c xs h => b c xs (a c xs h)
theorem TupS.of_same {H H' : Hp} (h : Same H H') : TupS H H' := fun a xs e => h a _ e
theorem same_new {H : Hp} {p : Addr} (h : H p = none) (o : HO) : Same H (upd H p o) := fun b u q => by rw [upd_ne (ne_of_none q h)]; exact q
theorem TupS.new {H : Hp} {p : Addr} {o : HO} (h : H p = none) : TupS H (upd H p o) := TupS.of_same (same_new h o)
theorem TupS.lst {H : Hp} {p : Addr} {o : HO} {xs : List V} (h : H p = some (.lst xs)) : TupS H (upd H p o) := fun a ys e => by
  rw [upd_ne (ne_of e h (by intro z; cases z))]
  exact e
theorem TupS.dK {H : Hp} {p : Addr} {o : HO} {kvs : List (Key × V)} (h : H p = some (.dK kvs)) : TupS H (upd H p o) := fun a ys e => by
  rw [upd_ne (ne_of e h (by intro z; cases z))]
  exact e
theorem TupS.ins {H : Hp} {p : Addr} {o : HO} {C dx : Addr} {fs : List (Str × V)} (h : H p = some (.ins C dx fs)) : TupS H (upd H p o) := fun a ys e => by
  rw [upd_ne (ne_of e h (by intro z; cases z))]
  exact e

theorem same_mut {H H1 : Hp} {p : Addr} {o : HO} (s : Same H H1) (h : H p = none) : Same H (upd H1 p o) := fun b u e => by
  rw [upd_ne (ne_of_none e h)]
  exact s _ _ e
/-! ### sayings and programs: tuples -/
def SayH (H : Hp) : Say → V → Prop
  | .num n, v => ∃ p, v = .ref p ∧ H p = some (.tup [.str "number", .int n])
  | .non, v => ∃ p, v = .ref p ∧ H p = some (.tup [.str "none"])
  | .name x, v => ∃ p, v = .ref p ∧ H p = some (.tup [.str "name", .str x])
  | .arg, v => ∃ p, v = .ref p ∧ H p = some (.tup [.str "arg"])
  | .now, v => ∃ p, v = .ref p ∧ H p = some (.tup [.str "now"])
  | .ans a, v => ∃ p u, v = .ref p ∧ H p = some (.tup [.str "answer", u]) ∧ SayH H a u
  | .neg a, v => ∃ p u, v = .ref p ∧ H p = some (.tup [.str "not", u]) ∧ SayH H a u
  | .bin o a b, v => ∃ p u w, v = .ref p ∧ H p = some (.tup [.str o.str, u, w]) ∧ SayH H a u ∧ SayH H b w
def SaysH (H : Hp) : List Say → List V → Prop
  | [], vs => vs = []
  | e :: es, vs => ∃ u us, vs = u :: us ∧ SayH H e u ∧ SaysH H es us
def SimpH (H : Hp) : Simp → List V → Prop
  | .set x e, vs => ∃ u, vs = [.str "set", .str x, u] ∧ SayH H e u
  | .order c x w e, vs => ∃ u, vs = [.str (mkW c), .str x, .str w, u] ∧ SayH H e u
  | .timer x e, vs => ∃ u, vs = [.str "timer", .str x, u] ∧ SayH H e u
  | .send e k e2, vs => ∃ u w, vs = [.str "send", u, .str k, w] ∧ SayH H e u ∧ SayH H e2 w
  | .drop e, vs => ∃ u, vs = [.str "drop", u] ∧ SayH H e u
  | .wait x es, vs => ∃ p us, vs = [.str "wait", .str x, .ref p] ∧ H p = some (.tup us) ∧ SaysH H es us
  | .hear x k, vs => vs = [.str "hear", .str x, .str k]
  | .fin e, vs => ∃ u, vs = [.str "end", u] ∧ SayH H e u
def BlkH (H : Hp) : Blk → List V → Prop
  | .nil, vs => vs = []
  | .one s r, vs => ∃ p us vr, vs = .ref p :: vr ∧ H p = some (.tup us) ∧ SimpH H s us ∧ BlkH H r vr
  | .ite c a b r, vs => ∃ p u pa pb va vb vr, vs = .ref p :: vr ∧ H p = some (.tup [.str "if", u, .ref pa, .ref pb]) ∧ SayH H c u ∧ H pa = some (.tup va) ∧ BlkH H a va ∧ H pb = some (.tup vb) ∧ BlkH H b vb ∧ BlkH H r vr
  | .whl c a r, vs => ∃ p u pa va vr, vs = .ref p :: vr ∧ H p = some (.tup [.str "while", u, .ref pa]) ∧ SayH H c u ∧ H pa = some (.tup va) ∧ BlkH H a va ∧ BlkH H r vr
section
variable {H H' : Hp}
theorem SayH.mono (k : TupS H H') : ∀ {e : Say} {v : V}, SayH H e v → SayH H' e v
  | .num n, v, ⟨p, h1, h2⟩ => ⟨p, h1, k _ _ h2⟩
  | .non, v, ⟨p, h1, h2⟩ => ⟨p, h1, k _ _ h2⟩
  | .name n, v, ⟨p, h1, h2⟩ => ⟨p, h1, k _ _ h2⟩
  | .arg, v, ⟨p, h1, h2⟩ => ⟨p, h1, k _ _ h2⟩
  | .now, v, ⟨p, h1, h2⟩ => ⟨p, h1, k _ _ h2⟩
  | .ans a, v, ⟨p, u, h1, h2, h3⟩ => ⟨p, u, h1, k _ _ h2, SayH.mono k h3⟩
  | .neg a, v, ⟨p, u, h1, h2, h3⟩ => ⟨p, u, h1, k _ _ h2, SayH.mono k h3⟩
  | .bin o a b, v, ⟨p, u, w, h1, h2, h3, h4⟩ => ⟨p, u, w, h1, k _ _ h2, SayH.mono k h3, SayH.mono k h4⟩
theorem SaysH.mono (k : TupS H H') : ∀ {es : List Say} {vs : List V}, SaysH H es vs → SaysH H' es vs
  | [], _, h => h
  | e :: es, vs, ⟨u, us, h1, h2, h3⟩ => ⟨u, us, h1, h2.mono k, SaysH.mono k h3⟩
theorem SimpH.mono (k : TupS H H') : ∀ {s : Simp} {vs : List V}, SimpH H s vs → SimpH H' s vs
  | .set x e, vs, ⟨u, h1, h2⟩ => ⟨u, h1, h2.mono k⟩
  | .order c x w e, vs, ⟨u, h1, h2⟩ => ⟨u, h1, h2.mono k⟩
  | .timer x e, vs, ⟨u, h1, h2⟩ => ⟨u, h1, h2.mono k⟩
  | .send e y e2, vs, ⟨u, w, h1, h2, h3⟩ => ⟨u, w, h1, h2.mono k, h3.mono k⟩
  | .drop e, vs, ⟨u, h1, h2⟩ => ⟨u, h1, h2.mono k⟩
  | .wait x es, vs, ⟨p, us, h1, h2, h3⟩ => ⟨p, us, h1, k _ _ h2, h3.mono k⟩
  | .hear x y, vs, h => h
  | .fin e, vs, ⟨u, h1, h2⟩ => ⟨u, h1, h2.mono k⟩
theorem BlkH.mono (k : TupS H H') : ∀ {b : Blk} {vs : List V}, BlkH H b vs → BlkH H' b vs
  | .nil, _, h => h
  | .one s r, vs, ⟨p, us, vr, h1, h2, h3, h4⟩ => ⟨p, us, vr, h1, k _ _ h2, h3.mono k, BlkH.mono k h4⟩
  | .ite c a b r, vs, ⟨p, u, pa, pb, va, vb, vr, h1, h2, h3, h4, h5, h6, h7, h8⟩ => ⟨p, u, pa, pb, va, vb, vr, h1, k _ _ h2, h3.mono k, k _ _ h4, BlkH.mono k h5, k _ _ h6, BlkH.mono k h7, BlkH.mono k h8⟩
  | .whl c a r, vs, ⟨p, u, pa, va, vr, h1, h2, h3, h4, h5, h6⟩ => ⟨p, u, pa, va, vr, h1, k _ _ h2, h3.mono k, k _ _ h4, BlkH.mono k h5, BlkH.mono k h6⟩
theorem BlkH.length : ∀ {b : Blk} {vs : List V}, BlkH H b vs → vs.length = b.len
  | .nil, _, h => by
    cases h
    rfl
  | .one s r, vs, ⟨p, us, vr, h1, h2, h3, h4⟩ => by
    subst h1
    exact congrArg Nat.succ (BlkH.length h4)
  | .ite c a b r, vs, ⟨p, u, pa, pb, va, vb, vr, h1, h2, h3, h4, h5, h6, h7, h8⟩ => by
    subst h1
    exact congrArg Nat.succ (BlkH.length h8)
  | .whl c a r, vs, ⟨p, u, pa, va, vr, h1, h2, h3, h4, h5, h6⟩ => by
    subst h1
    exact congrArg Nat.succ (BlkH.length h6)
theorem BlkH.suf : ∀ {i : Nat} {b q : Blk} {vs : List V}, BlkH H b vs → Blk.suf i b = some q → BlkH H q (vs.drop i)
  | 0, b, q, vs, h, e => by
    cases e
    exact h
  | i + 1, .nil, q, vs, h, e => by cases e
  | i + 1, .one s r, q, vs, ⟨p, us, vr, h1, h2, h3, h4⟩, e => by
    subst h1
    exact BlkH.suf (i := i) h4 e
  | i + 1, .ite c a b r, q, vs, ⟨p, u, pa, pb, va, vb, vr, h1, h2, h3, h4, h5, h6, h7, h8⟩, e => by
    subst h1
    exact BlkH.suf (i := i) h8 e
  | i + 1, .whl c a r, q, vs, ⟨p, u, pa, va, vr, h1, h2, h3, h4, h5, h6⟩, e => by
    subst h1
    exact BlkH.suf (i := i) h6 e
theorem SaysH.length : ∀ {es : List Say} {vs : List V}, SaysH H es vs → vs.length = es.length
  | [], _, h => by
    cases h
    rfl
  | e :: es, vs, ⟨u, us, h1, h2, h3⟩ => by
    subst h1
    exact congrArg Nat.succ (SaysH.length h3)
theorem SaysH.get : ∀ {es : List Say} {vs : List V} {i : Nat} {v : V}, SaysH H es vs → vs[i]? = some v → ∃ e, es[i]? = some e ∧ SayH H e v
  | [], _, i, v, h, e => by
    cases h
    simp at e
  | e :: es, vs, 0, v, ⟨u, us, h1, h2, h3⟩, q => by
    subst h1
    cases q
    exact ⟨e, rfl, h2⟩
  | e :: es, vs, i + 1, v, ⟨u, us, h1, h2, h3⟩, q => by
    subst h1
    exact SaysH.get (i := i) h3 q
end
/-- a block as a value -/
def ProgH (H : Hp) (b : Blk) (p : Addr) : Prop := ∃ vs, H p = some (.tup vs) ∧ BlkH H b vs
theorem ProgH.mono {H H' : Hp} {b : Blk} {p : Addr} (k : TupS H H') : ProgH H b p → ProgH H' b p := fun ⟨vs, h1, h2⟩ => ⟨vs, k _ _ h1, h2.mono k⟩

/-! ### who owns what -/
inductive Tag where
  | non | box | nm | op | dn | lt | le (k : Str) | aw | od | pa | co
  deriving DecidableEq
abbrev Tg := Addr → Tag
def setT (T : Tg) (p : Addr) (t : Tag) : Tg := fun b => if b = p then t else T b
theorem setT_same {T : Tg} {p : Addr} {t : Tag} : setT T p t p = t := by unfold setT; rw [if_pos rfl]
theorem setT_ne {T : Tg} {p b : Addr} {t : Tag} (h : b ≠ p) : setT T p t b = T b := by unfold setT; rw [if_neg h]
theorem ne_tag {T : Tg} {a b : Addr} {s t : Tag} (h1 : T a = s) (h2 : T b = t) (h : s ≠ t) : a ≠ b := fun e => h (by rw [← h1, ← h2, e])
/-- from T, H to T', H': what is tagged may change, new things may be tagged, all else stays -/
structure Evo (T : Tg) (H : Hp) (T' : Tg) (H' : Hp) : Prop where
  out : ∀ b o, H b = some o → T b = .non → H' b = some o
  tag : ∀ b, T' b ≠ .non → T b ≠ .non ∨ (H b = none ∧ H' b ≠ none)
  tup : TupS H H'
  free : ∀ b, H' b = none → H b = none
section
variable {T T1 T2 : Tg} {H H1 H2 : Hp} {p : Addr} {o : HO} {t : Tag}
theorem Evo.refl (T : Tg) (H : Hp) : Evo T H T H := ⟨fun _ _ h _ => h, fun _ h => .inl h, TupS.refl H, fun _ h => h⟩
theorem Evo.trans (a : Evo T H T1 H1) (b : Evo T1 H1 T2 H2) : Evo T H T2 H2 where
  out := fun c o h ht => b.out c o (a.out c o h ht) (Classical.byContradiction fun z => by
    rcases a.tag c z with q | q
    · exact q ht
    · rw [q.1] at h
      cases h)
  tag := fun c h => by
    rcases b.tag c h with q | q
    · rcases a.tag c q with z | z
      · exact .inl z
      · exact .inr ⟨z.1, fun e => z.2 (b.free c e)⟩
    · exact .inr ⟨a.free c q.1, q.2⟩
  tup := a.tup.trans b.tup
  free := fun c h => a.free c (b.free c h)
theorem Evo.same (h : Same H H1) : Evo T H T H1 := ⟨fun b o e _ => h b o e, fun _ h => .inl h, TupS.of_same h, fun b e => h.free e⟩
theorem Evo.put (ht : T p ≠ .non) (hp : H p ≠ none) (hm : ∀ xs, H p ≠ some (.tup xs)) : Evo T H T (upd H p o) where
  out := fun b u e hb => by
    rw [upd_ne fun z => ht (by rw [← z]; exact hb)]
    exact e
  tag := fun _ h => .inl h
  tup := fun a xs e => by
    rw [upd_ne fun z => hm xs (by rw [← z]; exact e)]
    exact e
  free := fun b e => by
    by_cases z : b = p
    · rw [z, upd_same] at e
      cases e
    · rw [upd_ne z] at e
      exact e
theorem Evo.new (hp : H p = none) : Evo T H (setT T p t) (upd H p o) where
  out := fun b u e _ => same_new hp o b u e
  tag := fun b h => by
    by_cases z : b = p
    · exact .inr ⟨by rw [z]; exact hp, by rw [z, upd_same]; exact fun q => nomatch q⟩
    · rw [setT_ne z] at h
      exact .inl h
  tup := TupS.new hp
  free := fun b e => (same_new hp o).free e
theorem Evo.newS (hp : H p = none) (s : Same H H1) (h1 : H1 p = some o) : Evo T H (setT T p t) H1 where
  out := fun b u e _ => s b u e
  tag := fun b h => by
    by_cases z : b = p
    · exact .inr ⟨by rw [z]; exact hp, by rw [z, h1]; exact fun q => nomatch q⟩
    · rw [setT_ne z] at h
      exact .inl h
  tup := TupS.of_same s
  free := fun b e => s.free e
theorem Evo.putL {xs : List V} (ht : T p = t) (h0 : t ≠ .non) (hp : H p = some (.lst xs)) : Evo T H T (upd H p o) :=
  Evo.put (by rw [ht]; exact h0) (by rw [hp]; exact fun z => nomatch z) fun ys => by rw [hp]; exact fun z => nomatch z
theorem Evo.putK_ {kvs : List (Key × V)} (ht : T p = t) (h0 : t ≠ .non) (hp : H p = some (.dK kvs)) : Evo T H T (upd H p o) :=
  Evo.put (by rw [ht]; exact h0) (by rw [hp]; exact fun z => nomatch z) fun ys => by rw [hp]; exact fun z => nomatch z
theorem Evo.putI {C dx : Addr} {fs : List (Str × V)} (ht : T p = t) (h0 : t ≠ .non) (hp : H p = some (.ins C dx fs)) : Evo T H T (upd H p o) :=
  Evo.put (by rw [ht]; exact h0) (by rw [hp]; exact fun z => nomatch z) fun ys => by rw [hp]; exact fun z => nomatch z
/-- what is tagged stands -/
def Trk (T : Tg) (H : Hp) : Prop := ∀ b, T b ≠ .non → H b ≠ none
theorem Evo.trk (a : Evo T H T1 H1) (h : Trk T H) : Trk T1 H1 := fun b hb => by
  rcases a.tag b hb with q | q
  · exact fun e => h b q (a.free b e)
  · exact q.2
end

/-! ### the parts that a run and its model share -/
def NamesH (H : Hp) (a : Addr) (B : Nat) (f : Str → Option Int) : Prop := ∃ kvs : List (Key × V), H a = some (.dK kvs) ∧ kvs.length ≤ B ∧ ∀ x, (valV kvs (Sum.inr x)).getD .non = wv (f x)
def PairsH (H : Hp) (as : List Addr) (ps : List (Int × Option Int)) : Prop := Paired (fun p (d : Int × Option Int) => H p = some (.tup [.int d.1, wv d.2])) as ps
def DoneH (H : Hp) (a : Addr) (ps : List (Int × Option Int)) : Prop := ∃ as : List Addr, H a = some (.lst (as.map V.ref)) ∧ PairsH H as ps
def OrdH (H : Hp) (a : Addr) (cs : List Cmd) : Prop := ∃ as : List Addr, H a = some (.lst (as.map V.ref)) ∧ Paired (fun p (c : Cmd) => H p = some (.tup c)) as cs
def LetsH (T : Tg) (H : Hp) (a : Addr) (B : Nat) (strict : Bool) (f : Str → List (Option Int)) : Prop :=
  ∃ kvs : List (Key × V), H a = some (.dK kvs) ∧ kvs.length ≤ B ∧ ∀ x, (valV kvs (Sum.inr x) = none ∧ f x = []) ∨
    ∃ l, valV kvs (Sum.inr x) = some (.ref l) ∧ T l = .le x ∧ H l = some (.lst ((f x).map wv)) ∧ (strict = true → f x ≠ [])
section
variable {T T1 : Tg} {H H1 : Hp} {a : Addr} {B : Nat}
theorem NamesH.frame {f : Str → Option Int} (h : NamesH H a B f) (e : ∀ o, H a = some o → H1 a = some o) : NamesH H1 a B f := by
  obtain ⟨kvs, h1, h2, h3⟩ := h
  exact ⟨kvs, e _ h1, h2, h3⟩
theorem NamesH.le {B' : Nat} {f : Str → Option Int} (h : NamesH H a B f) (hb : B ≤ B') : NamesH H a B' f := by
  obtain ⟨kvs, h1, h2, h3⟩ := h
  exact ⟨kvs, h1, Nat.le_trans h2 hb, h3⟩
theorem PairsH.mono (k : TupS H H1) {as : List Addr} {ps : List (Int × Option Int)} (h : PairsH H as ps) : PairsH H1 as ps := Paired.mapP h fun p d q => k _ _ q
theorem DoneH.frame {ps : List (Int × Option Int)} (h : DoneH H a ps) (k : TupS H H1) (e : ∀ o, H a = some o → H1 a = some o) : DoneH H1 a ps := by
  obtain ⟨as, h1, h2⟩ := h
  exact ⟨as, e _ h1, h2.mono k⟩
theorem OrdH.frame {cs : List Cmd} (h : OrdH H a cs) (k : TupS H H1) (e : ∀ o, H a = some o → H1 a = some o) : OrdH H1 a cs := by
  obtain ⟨as, h1, h2⟩ := h
  exact ⟨as, e _ h1, Paired.mapP h2 fun p d q => k _ _ q⟩
theorem LetsH.frame {strict : Bool} {f : Str → List (Option Int)} (h : LetsH T H a B strict f) (e : ∀ o, H a = some o → H1 a = some o) (k : ∀ l x o, T l = .le x → H l = some o → H1 l = some o ∧ T1 l = .le x) : LetsH T1 H1 a B strict f := by
  obtain ⟨kvs, h1, h2, h3⟩ := h
  refine ⟨kvs, e _ h1, h2, fun x => ?_⟩
  rcases h3 x with q | ⟨l, q1, q2, q3, q4⟩
  · exact .inl q
  · obtain ⟨z1, z2⟩ := k l x _ q2 q3
    exact .inr ⟨l, q1, z2, z1, q4⟩
theorem LetsH.le {B' : Nat} {strict : Bool} {f : Str → List (Option Int)} (h : LetsH T H a B strict f) (hb : B ≤ B') : LetsH T H a B' strict f := by
  obtain ⟨kvs, h1, h2, h3⟩ := h
  exact ⟨kvs, h1, Nat.le_trans h2 hb, h3⟩
end
/-- nm the names, op the open tickets (ol), dn the done ones, lt the letters, aw the awaited -/
structure Core (T : Tg) (H : Hp) (nm op dn lt aw : Addr) (B : Nat) (strict : Bool) (ol : List Int) (S : AS) : Prop where
  tn : T nm = .nm
  hn : NamesH H nm B S.names
  to : T op = .op
  ho : H op = some (.lst (ol.map V.int))
  td : T dn = .dn
  hd : DoneH H dn S.done
  tl : T lt = .lt
  hl : LetsH T H lt B strict S.lets
  tw : T aw = .aw
  hw : H aw = some (.lst (S.awaited.map V.int))
section
variable {T T1 : Tg} {H H1 : Hp} {nm op dn lt aw : Addr} {B : Nat} {st : Bool} {ol : List Int} {S : AS}
theorem Core.same (h : Core T H nm op dn lt aw B st ol S) (s : Same H H1) : Core T H1 nm op dn lt aw B st ol S :=
  ⟨h.tn, h.hn.frame fun o e => s _ _ e, h.to, s _ _ h.ho, h.td, h.hd.frame (TupS.of_same s) fun o e => s _ _ e, h.tl, h.hl.frame (fun o e => s _ _ e) fun l x o ht e => ⟨s _ _ e, ht⟩, h.tw, s _ _ h.hw⟩
/-- something else that is tagged is changed -/
theorem Core.other (h : Core T H nm op dn lt aw B st ol S) {p : Addr} {o : HO} (k : TupS H (upd H p o)) (t0 : T p ≠ .nm) (t1 : T p ≠ .op) (t2 : T p ≠ .dn) (t3 : T p ≠ .lt) (t4 : T p ≠ .aw) (t5 : ∀ x, T p ≠ .le x) : Core T (upd H p o) nm op dn lt aw B st ol S := by
  have ne : ∀ {a : Addr} {t : Tag}, T a = t → T p ≠ t → a ≠ p := fun ha hp e => hp (by rw [← e]; exact ha)
  have fr : ∀ {a : Addr} {t : Tag}, T a = t → T p ≠ t → ∀ u, H a = some u → upd H p o a = some u := fun ha hp u e => by rw [upd_ne (ne ha hp)]; exact e
  exact ⟨h.tn, h.hn.frame (fr h.tn t0), h.to, fr h.to t1 _ h.ho, h.td, h.hd.frame k (fr h.td t2), h.tl, h.hl.frame (fr h.tl t3) fun l x u ht e => ⟨fr ht (t5 x) _ e, ht⟩, h.tw, fr h.tw t4 _ h.hw⟩
theorem Core.box (h : Core T H nm op dn lt aw B st ol S) {p : Addr} {o : HO} {t : Tag} (ht : T p = t) (h0 : t = .box ∨ t = .od ∨ t = .pa ∨ t = .co) (k : TupS H (upd H p o)) : Core T (upd H p o) nm op dn lt aw B st ol S := by
  refine h.other k ?_ ?_ ?_ ?_ ?_ ?_
  all_goals
    rw [ht]
    rcases h0 with rfl | rfl | rfl | rfl <;> first | decide | (intro x z; cases z)
theorem Core.le {B' : Nat} (h : Core T H nm op dn lt aw B st ol S) (hb : B ≤ B') : Core T H nm op dn lt aw B' st ol S := ⟨h.tn, h.hn.le hb, h.to, h.ho, h.td, h.hd, h.tl, h.hl.le hb, h.tw, h.hw⟩
/-- the fields that the parts do not tell -/
theorem Core.as {S1 : AS} (h : Core T H nm op dn lt aw B st ol S) (e1 : S1.names = S.names) (e2 : S1.done = S.done) (e3 : S1.lets = S.lets) (e4 : S1.awaited = S.awaited) : Core T H nm op dn lt aw B st ol S1 :=
  ⟨h.tn, by rw [e1]; exact h.hn, h.to, h.ho, h.td, by rw [e2]; exact h.hd, h.tl, by rw [e3]; exact h.hl, h.tw, by rw [e4]; exact h.hw⟩
/-- something new is tagged -/
theorem Core.new (h : Core T H nm op dn lt aw B st ol S) {p : Addr} {o : HO} {t : Tag} (hp : H p = none) : Core (setT T p t) (upd H p o) nm op dn lt aw B st ol S := by
  have s := same_new hp o
  have fr : ∀ {a : Addr} {t' : Tag} {u : HO}, T a = t' → H a = some u → setT T p t a = t' := fun ha e => by rw [setT_ne (ne_of_none e hp)]; exact ha
  obtain ⟨_, hn1, _⟩ := h.hn
  obtain ⟨_, hd1, _⟩ := h.hd
  obtain ⟨_, hl1, _⟩ := h.hl
  exact ⟨fr h.tn hn1, h.hn.frame fun o e => s _ _ e, fr h.to h.ho, s _ _ h.ho, fr h.td hd1, h.hd.frame (TupS.of_same s) fun o e => s _ _ e, fr h.tl hl1, h.hl.frame (fun o e => s _ _ e) fun l x o ht e => ⟨s _ _ e, fr ht e⟩, fr h.tw h.hw, s _ _ h.hw⟩
/-- a list that was made is tagged -/
theorem Core.newS (h : Core T H nm op dn lt aw B st ol S) {p : Addr} {t : Tag} (hp : H p = none) (s : Same H H1) : Core (setT T p t) H1 nm op dn lt aw B st ol S := by
  have fr : ∀ {a : Addr} {t' : Tag} {u : HO}, T a = t' → H a = some u → setT T p t a = t' := fun ha e => by rw [setT_ne (ne_of_none e hp)]; exact ha
  obtain ⟨_, hn1, _⟩ := h.hn
  obtain ⟨_, hd1, _⟩ := h.hd
  obtain ⟨_, hl1, _⟩ := h.hl
  exact ⟨fr h.tn hn1, h.hn.frame fun o e => s _ _ e, fr h.to h.ho, s _ _ h.ho, fr h.td hd1, h.hd.frame (TupS.of_same s) fun o e => s _ _ e, fr h.tl hl1, h.hl.frame (fun o e => s _ _ e) fun l x o ht e => ⟨s _ _ e, fr ht e⟩, fr h.tw h.hw, s _ _ h.hw⟩
/-- a name is given a worth -/
theorem Core.setN (h : Core T H nm op dn lt aw B st ol S) {kvs : List (Key × V)} (e : H nm = some (.dK kvs)) (x : Str) (w : Option Int) : Core T (upd H nm (.dK (putK kvs (Sum.inr x) (wv w)))) nm op dn lt aw (B + 1) st ol (S.setN x w) := by
  obtain ⟨kvs', e', h2, h3⟩ := h.hn
  rw [e] at e'
  cases e'
  have k : TupS H (upd H nm (.dK (putK kvs (Sum.inr x) (wv w)))) := TupS.dK e
  have ne : ∀ {a : Addr} {t : Tag}, T a = t → Tag.nm ≠ t → a ≠ nm := fun ha hp e => hp (by rw [← ha, e]; exact h.tn.symm)
  have fr : ∀ {a : Addr} {t : Tag}, T a = t → Tag.nm ≠ t → ∀ u, H a = some u → upd H nm (.dK (putK kvs (Sum.inr x) (wv w))) a = some u := fun ha hp u e => by rw [upd_ne (ne ha hp)]; exact e
  refine ⟨h.tn, ⟨_, upd_same, Nat.le_trans (length_putK _ _ _) (Nat.succ_le_succ h2), fun y => ?_⟩, h.to, fr h.to (by decide) _ h.ho, h.td, h.hd.frame k (fr h.td (by decide)), h.tl, (h.hl.frame (fr h.tl (by decide)) fun l x u ht e => ⟨fr ht (by intro z; cases z) _ e, ht⟩).le (Nat.le_succ B), h.tw, fr h.tw (by decide) _ h.hw⟩
  rw [valV_put]
  show _ = wv (if y = x then w else S.names y)
  by_cases c : y = x
  · rw [if_pos (by rw [c]), if_pos c]
    rfl
  · rw [if_neg (fun z => c (Sum.inr.inj z)), if_neg c]
    exact h3 y
/-- the open tickets are changed -/
theorem Core.setO (h : Core T H nm op dn lt aw B st ol S) (ol' : List Int) : Core T (upd H op (.lst (ol'.map V.int))) nm op dn lt aw B st ol' S := by
  have k : TupS H (upd H op (.lst (ol'.map V.int))) := TupS.lst h.ho
  have ne : ∀ {a : Addr} {t : Tag}, T a = t → Tag.op ≠ t → a ≠ op := fun ha hp e => hp (by rw [← ha, e]; exact h.to.symm)
  have fr : ∀ {a : Addr} {t : Tag}, T a = t → Tag.op ≠ t → ∀ u, H a = some u → upd H op (.lst (ol'.map V.int)) a = some u := fun ha hp u e => by rw [upd_ne (ne ha hp)]; exact e
  exact ⟨h.tn, h.hn.frame (fr h.tn (by decide)), h.to, upd_same, h.td, h.hd.frame k (fr h.td (by decide)), h.tl, h.hl.frame (fr h.tl (by decide)) fun l x u ht e => ⟨fr ht (by intro z; cases z) _ e, ht⟩, h.tw, fr h.tw (by decide) _ h.hw⟩
/-- a list of its own for the open ones -/
theorem Core.newO (h : Core T H nm op dn lt aw B st ol S) {p : Addr} (hp : H p = none) (ol' : List Int) : Core (setT T p .op) (upd H p (.lst (ol'.map V.int))) nm p dn lt aw B st ol' S := by
  have q := h.new (o := .lst (ol'.map V.int)) (t := .op) hp
  exact ⟨q.tn, q.hn, setT_same, upd_same, q.td, q.hd, q.tl, q.hl, q.tw, q.hw⟩
theorem Core.newW (h : Core T H nm op dn lt aw B st ol S) {p : Addr} (hp : H p = none) (ws : List Int) : Core (setT T p .aw) (upd H p (.lst (ws.map V.int))) nm op dn lt p B st ol (S.setW ws) := by
  have q := h.new (o := .lst (ws.map V.int)) (t := .aw) hp
  exact ⟨q.tn, q.hn, q.to, q.ho, q.td, q.hd, q.tl, q.hl, setT_same, upd_same⟩
end
end L2.K17

set_option maxHeartbeats 1000000
/-! the defs as data; calls by name -/
namespace L2.K17
open PySem PySem.Spec PyProof.Rows L2
structure Tx (K : PySem.W.Frag) (mg : Str → Option Value) : Prop where
  X : ∃ h : Heap, K.In h ∧ h.Ns mainGlobals mg
  c : He.SaysD fa fn K
section
variable {P : Program} {w : World} {K : PySem.W.Frag} {mg : Str → Option Value} {base : Heap} {k : Nat}
theorem Tx.glo (T : Tx K mg) (i : Nat) {x : Str} (h : fa[i]? = some (.glo x)) : mg x = some (.ref (He.ga K x)) := by
  obtain ⟨h0, X, G⟩ := T.X
  exact He.glo_ok X G (T.c.fact i h)
theorem Tx.free (T : Tx K mg) (i : Nat) {x : Str} (h : fa[i]? = some (.free x)) : mg x = none := by
  obtain ⟨h0, X, G⟩ := T.X
  exact He.free_ok X G (T.c.fact i h)
theorem Tx.int (T : Tx K mg) (i : Nat) {x : Str} {n : Int} (h : fa[i]? = some (.int x n)) : ∃ t, mg x = some (.int n t) := by
  obtain ⟨h0, X, G⟩ := T.X
  exact He.int_ok X G (T.c.fact i h)
abbrev CR (K : PySem.W.Frag) : Addr := He.ga K "Run"
theorem Tx.cls (T : Tx K mg) (i : Nat) (h : fa[i]? = some (.cls "Run")) : Cls K (CR K) := He.cls_ok (T.c.fact i h)
theorem Tx.noat (T : Tx K mg) (i : Nat) {f : Str} (h : fa[i]? = some (.noat "Run" f)) : NoAttr K (CR K) f := He.noat_ok (T.c.fact i h)
theorem Tx.meth (T : Tx K mg) (i : Nat) {m : Str} (h : fa[i]? = some (.meth "Run" m)) : Meth K (CR K) m (He.ma K (CR K) m) := He.meth_ok (T.c.fact i h)
theorem Tx.mkr (T : Tx K mg) (i : Nat) (h : fa[i]? = some (.mkr "Run")) : Mk K (CR K) (He.ma K (CR K) "__init__") := He.mkr_ok (T.c.fact i h)
theorem funD_fun {x q : Str} {st : Stmt} {f : Addr} {fd : FuncData} (F : FunD K x q (defArgs st) (defBody st) (defScope st) [] [] f fd) : Fun K x q st f fd := by
  obtain ⟨⟨oc, od, dV, kV, doc, pm, an, cdv, ct, osl, h1, h2, h3, h4, h5⟩, kp⟩ := F
  have e : dV = .none := by
    rcases h4 with ⟨_, e⟩ | ⟨e, _⟩
    · exact e
    · exact absurd rfl e
  subst e
  exact ⟨⟨oc, od, kV, doc, pm, an, cdv, ct, osl, h1, h2, h3⟩, kp⟩
/-- a def of the module, called by its name -/
structure Def1 (P : Program) (w : World) (K : PySem.W.Frag) (mg : Str → Option Value) (base : Heap) (k : Nat) (x : Str) (ps : List Str) (sp : Sp) : Prop where
  ok : ∃ fd, FnOk P w K mg base CX0 k (He.ga K x) fd ps sp ∧ Binds K fd ps []
  mx : mg x = some (.ref (He.ga K x))
  kp : PySem.W.keepIn K (.ref (He.ga K x)) = true
structure DefM (P : Program) (w : World) (K : PySem.W.Frag) (mg : Str → Option Value) (base : Heap) (k : Nat) (m : Str) (ps : List Str) (sp : Sp) : Prop where
  ok : ∃ fd, FnOk P w K mg base CX0 k (He.ma K (CR K) m) fd ps sp ∧ Binds K fd ps []
theorem Def1.mono {j : Nat} {x : Str} {ps : List Str} {sp : Sp} (D : Def1 P w K mg base j x ps sp) (h : j ≤ k) : Def1 P w K mg base k x ps sp := by
  obtain ⟨⟨fd, F, b⟩, m, kp⟩ := D
  exact ⟨⟨fd, F.mono h, b⟩, m, kp⟩
theorem DefM.mono {j : Nat} {x : Str} {ps : List Str} {sp : Sp} (D : DefM P w K mg base j x ps sp) (h : j ≤ k) : DefM P w K mg base k x ps sp := by
  obtain ⟨fd, F, b⟩ := D
  exact ⟨fd, F.mono h, b⟩
theorem Tx.mk1 (T : Tx K mg) {N ps : List Str} {sp : Sp} {x : Str} {st : Stmt} (i j : Nat) (hd : fn[i]? = some ⟨(x, none), x, x, defArgs st, defBody st, defScope st, [], []⟩) (hj : fa[j]? = some (.glo x)) (S : FnScope N ps (defScope st))
    (hb : ∀ (kV doc pm : Value) (an : Option Addr) (cdv ct : Value) (us : List Value), us.length = ps.length → bindArgs (PySem.W.fnOf x x (defArgs st) (defBody st) (defScope st) .none kV doc pm an cdv ct) ⟨us, []⟩ = pure (ps.zip us))
    (len : ∀ vs H Q E, sp vs H Q E → vs.length = ps.length)
    (hbody : ∀ (cdv : Value) (A : Around) (outer : List Env) (s : Shared) (H : Hp) (vs : List V) (Q : VK) (E : XK), Room k (A.deeper (envOfC x (defScope st) s.heap.objs.size (He.ga K x) cdv)) → sp vs H Q E →
      ∃ t, PSs (cxOf CX0 P w K mg base N x (defScope st) (He.ga K x) cdv A outer s H E).nox (defBody st) t ∧ t { nx := fun _ H' => Q .non H', rt := Q } (start N vs) H) : Def1 P w K mg base (k + 1) x ps sp := by
  obtain ⟨fd, F0⟩ := T.c.def_ i hd
  have F : Fun K x x st (He.ga K x) fd := funD_fun F0
  exact ⟨⟨fd, F.ok S len hbody, F.binds hb⟩, T.glo j hj, F.kp⟩
theorem Tx.mkM (T : Tx K mg) {N ps : List Str} {sp : Sp} {m q : Str} {st : Stmt} (i : Nat) (hd : fn[i]? = some ⟨("Run", some m), m, q, defArgs st, defBody st, defScope st, [], []⟩) (S : FnScope N ps (defScope st))
    (hb : ∀ (kV doc pm : Value) (an : Option Addr) (cdv ct : Value) (us : List Value), us.length = ps.length → bindArgs (PySem.W.fnOf m q (defArgs st) (defBody st) (defScope st) .none kV doc pm an cdv ct) ⟨us, []⟩ = pure (ps.zip us))
    (len : ∀ vs H Q E, sp vs H Q E → vs.length = ps.length)
    (hbody : ∀ (cdv : Value) (A : Around) (outer : List Env) (s : Shared) (H : Hp) (vs : List V) (Q : VK) (E : XK), Room k (A.deeper (envOfC q (defScope st) s.heap.objs.size (He.ma K (CR K) m) cdv)) → sp vs H Q E →
      ∃ t, PSs (cxOf CX0 P w K mg base N q (defScope st) (He.ma K (CR K) m) cdv A outer s H E).nox (defBody st) t ∧ t { nx := fun _ H' => Q .non H', rt := Q } (start N vs) H) : DefM P w K mg base (k + 1) m ps sp := by
  obtain ⟨fd, F0⟩ := T.c.def_ i hd
  have F : Fun K m q st (He.ma K (CR K) m) fd := funD_fun F0
  exact ⟨fd, F.ok S len hbody, F.binds hb⟩
end
section
variable {X : Cx} {k : Nat} {x m : Str} {ps : List Str} {sp : Sp} {e o : Expr} {es : List Expr} {t : TA} {ta : TE} {p pos apos : Pos}
theorem pe_c (D : Def1 X.prog X.w X.K X.mg X.base k x ps sp) (hr : Room k X.A) (ha : PA X (e :: es) t) (hg : Gl X x := by rfl) (hdb : (x == ("__debug__" : Str)) = false := by decide)
    (he : starEach (e :: es) X.env = (false, eval e X.env) :: starEach es X.env := by rfl) (hpl : (backTo pos (starEach es X.env)).any (·.1) = false := by rfl) : PE X (.Call (.Name x p) (e :: es) [] pos) (tCall sp [] E0 t) := by
  obtain ⟨⟨fd, F, b⟩, m, kp⟩ := D
  exact pe_call F hr hg m kp b .nil pass0 ha hdb he hpl
theorem pe_m {pl : Sem Bool} (D : DefM X.prog X.w X.K X.mg X.base k m ps sp) (c : Cls X.K (CR X.K)) (hm : Meth X.K (CR X.K) m (He.ma X.K (CR X.K) m)) (hr : Room k X.A) (he : PE X o ta) (ha : PA X (e :: es) t)
    (hst : starEach (e :: es) X.env = (false, eval e X.env) :: starEach es X.env := by rfl) (hpl : (backTo pos (starEach es X.env)).any (·.1) = false := by rfl)
    (ht : eval (.Call (.Attribute o m apos) (e :: es) [] pos) X.env = (do
      let ov ← eval o X.env
      standAt apos.atName
      let (f, first) ← holding [ov] (getMethod ov m pl)
      callWith pos f first (backTo pos (starEach (e :: es) X.env)) (backToKw pos (keywordEach [] X.env))) := by rfl) :
    PE X (.Call (.Attribute o m apos) (e :: es) [] pos) (tMeth (CR X.K) m sp [] E0 ta t) := by
  obtain ⟨fd, F, b⟩ := D
  exact pe_meth he c hm F hr b .nil pass0 ha hst hpl ht
theorem pe_m0 {pl : Sem Bool} (D : DefM X.prog X.w X.K X.mg X.base k m ps sp) (c : Cls X.K (CR X.K)) (hm : Meth X.K (CR X.K) m (He.ma X.K (CR X.K) m)) (hr : Room k X.A) (he : PE X o ta)
    (ht : eval (.Call (.Attribute o m apos) [] [] pos) X.env = (do
      let ov ← eval o X.env
      standAt apos.atName
      let (f, first) ← holding [ov] (getMethod ov m pl)
      callWith pos f first (backTo pos (starEach [] X.env)) (backToKw pos (keywordEach [] X.env))) := by rfl) :
    PE X (.Call (.Attribute o m apos) [] [] pos) (tMeth (CR X.K) m sp [] E0 ta tNil) := by
  obtain ⟨fd, F, b⟩ := D
  exact pe_meth0 he c hm F hr b .nil pass0 ht
end
end L2.K17

set_option maxHeartbeats 1000000
/-! the facts by names -/
namespace L2.K17
open PySem L2
variable {K : PySem.W.Frag} {mg : Str → Option Value}
theorem Tx.f_len (T : Tx K mg) : mg "len" = none := T.free 34 rfl
theorem Tx.f_max (T : Tx K mg) : mg "max" = none := T.free 35 rfl
theorem Tx.f_min (T : Tx K mg) : mg "min" = none := T.free 36 rfl
theorem Tx.f_int (T : Tx K mg) : mg "int" = none := T.free 37 rfl
theorem Tx.f_dict (T : Tx K mg) : mg "dict" = none := T.free 38 rfl
theorem Tx.f_range (T : Tx K mg) : mg "range" = none := T.free 39 rfl
theorem Tx.f_tuple (T : Tx K mg) : mg "tuple" = none := T.free 40 rfl
theorem Tx.f_list (T : Tx K mg) : mg "list" = none := T.free 41 rfl
theorem Tx.f_isinstance (T : Tx K mg) : mg "isinstance" = none := T.free 42 rfl
theorem Tx.f_bool (T : Tx K mg) : mg "bool" = none := T.free 43 rfl
theorem Tx.i_MOST (T : Tx K mg) : ∃ t, mg "MOST" = some (.int 1000000000 t) := T.int 44 rfl
theorem Tx.i_MOST_STATEMENTS (T : Tx K mg) : ∃ t, mg "MOST_STATEMENTS" = some (.int 300 t) := T.int 45 rfl
theorem Tx.i_MOST_MOMENT (T : Tx K mg) : ∃ t, mg "MOST_MOMENT" = some (.int 1000000000000 t) := T.int 46 rfl
theorem Tx.cl (T : Tx K mg) : Cls K (CR K) := T.cls 47 rfl
theorem Tx.mkRun (T : Tx K mg) : Mk K (CR K) (He.ma K (CR K) "__init__") := T.mkr 48 rfl
theorem Tx.g_Run (T : Tx K mg) : mg "Run" = some (.ref (CR K)) := T.glo 33 rfl
theorem Tx.n_statements (T : Tx K mg) : NoAttr K (CR K) "statements" := T.noat 49 rfl
theorem Tx.n_mode (T : Tx K mg) : NoAttr K (CR K) "mode" := T.noat 50 rfl
theorem Tx.n_path (T : Tx K mg) : NoAttr K (CR K) "path" := T.noat 51 rfl
theorem Tx.n_known (T : Tx K mg) : NoAttr K (CR K) "known" := T.noat 52 rfl
theorem Tx.n_arg (T : Tx K mg) : NoAttr K (CR K) "arg" := T.noat 53 rfl
theorem Tx.n_today (T : Tx K mg) : NoAttr K (CR K) "today" := T.noat 54 rfl
theorem Tx.n_made (T : Tx K mg) : NoAttr K (CR K) "made" := T.noat 55 rfl
theorem Tx.n_not_done (T : Tx K mg) : NoAttr K (CR K) "not_done" := T.noat 56 rfl
theorem Tx.n_answered (T : Tx K mg) : NoAttr K (CR K) "answered" := T.noat 57 rfl
theorem Tx.n_heard (T : Tx K mg) : NoAttr K (CR K) "heard" := T.noat 58 rfl
theorem Tx.n_awaited (T : Tx K mg) : NoAttr K (CR K) "awaited" := T.noat 59 rfl
theorem Tx.n_outcome (T : Tx K mg) : NoAttr K (CR K) "outcome" := T.noat 60 rfl
theorem Tx.n_orders (T : Tx K mg) : NoAttr K (CR K) "orders" := T.noat 61 rfl
theorem Tx.n_steps (T : Tx K mg) : NoAttr K (CR K) "steps" := T.noat 62 rfl
theorem Tx.m_take (T : Tx K mg) : Meth K (CR K) "take" (He.ma K (CR K) "take") := T.meth 63 rfl
theorem Tx.m_take_done (T : Tx K mg) : Meth K (CR K) "take_done" (He.ma K (CR K) "take_done") := T.meth 64 rfl
theorem Tx.m_take_letter (T : Tx K mg) : Meth K (CR K) "take_letter" (He.ma K (CR K) "take_letter") := T.meth 65 rfl
theorem Tx.m_first_letter (T : Tx K mg) : Meth K (CR K) "first_letter" (He.ma K (CR K) "first_letter") := T.meth 66 rfl
theorem Tx.m_statement_here (T : Tx K mg) : Meth K (CR K) "statement_here" (He.ma K (CR K) "statement_here") := T.meth 67 rfl
theorem Tx.m_go_behind (T : Tx K mg) : Meth K (CR K) "go_behind" (He.ma K (CR K) "go_behind") := T.meth 68 rfl
theorem Tx.m_says (T : Tx K mg) : Meth K (CR K) "says" (He.ma K (CR K) "says") := T.meth 69 rfl
theorem Tx.m_go_on (T : Tx K mg) : Meth K (CR K) "go_on" (He.ma K (CR K) "go_on") := T.meth 70 rfl
theorem Tx.m_do_next (T : Tx K mg) : Meth K (CR K) "do_next" (He.ma K (CR K) "do_next") := T.meth 71 rfl
theorem Tx.m_do_look (T : Tx K mg) : Meth K (CR K) "do_look" (He.ma K (CR K) "do_look") := T.meth 72 rfl
theorem Tx.m_do_wait (T : Tx K mg) : Meth K (CR K) "do_wait" (He.ma K (CR K) "do_wait") := T.meth 73 rfl
theorem Tx.m_do_hear (T : Tx K mg) : Meth K (CR K) "do_hear" (He.ma K (CR K) "do_hear") := T.meth 74 rfl
theorem Tx.m_do_end (T : Tx K mg) : Meth K (CR K) "do_end" (He.ma K (CR K) "do_end") := T.meth 75 rfl
theorem Tx.m_do_plain (T : Tx K mg) : Meth K (CR K) "do_plain" (He.ma K (CR K) "do_plain") := T.meth 76 rfl
theorem Tx.m_new_ticket (T : Tx K mg) : Meth K (CR K) "new_ticket" (He.ma K (CR K) "new_ticket") := T.meth 77 rfl
theorem Tx.m_do_drop (T : Tx K mg) : Meth K (CR K) "do_drop" (He.ma K (CR K) "do_drop") := T.meth 78 rfl
theorem Tx.m_waits (T : Tx K mg) : Meth K (CR K) "waits" (He.ma K (CR K) "waits") := T.meth 79 rfl
theorem Tx.m_open_tickets (T : Tx K mg) : Meth K (CR K) "open_tickets" (He.ma K (CR K) "open_tickets") := T.meth 80 rfl
end L2.K17

set_option maxHeartbeats 4000000
/-! sayings, in the program -/
namespace L2.K17
open PySem L2
section
variable {P : Program} {w : World} {K : PySem.W.Frag} {mg : Str → Option Value} {base : Heap}
def spInt (f : Int → Int) : Sp := fun vs H Q _ => ∃ n, vs = [.int n] ∧ Q (.int (f n)) H
theorem sc_kept : FnScope ["number"] ["number"] (defScope s_kept) := ⟨rfl, rfl, rfl, by decide +kernel, rfl, by decide +kernel, by decide +kernel⟩
theorem D_kept (T : Tx K mg) : Def1 P w K mg base 1 "kept" ["number"] (spInt kept) := by
  obtain ⟨t0, h_MOST⟩ := T.i_MOST
  refine T.mk1 (st := s_kept) 0 0 rfl rfl sc_kept (fun _ _ _ _ _ _ us hl => match us, hl with | [_], _ => rfl) (fun vs H Q E h => ?_) (fun cdv A outer s H vs Q E hr h => ?_)
  · obtain ⟨n, rfl, _⟩ := h
    rfl
  · obtain ⟨n, rfl, k⟩ := h
    refine ⟨_, (pss_one (ps_ret (pe_callB (call_max2 rfl) (by rfl) T.f_max (by decide +kernel) (pa_cons (pe_op op_sub pe_int (pe_glob (v := .int 1000000000) rfl h_MOST ⟨_, rfl⟩)) (pa_cons (pe_callB (call_min2 rfl) (by rfl) T.f_min (by decide +kernel) (pa_cons (pe_glob (v := .int 1000000000) rfl h_MOST ⟨_, rfl⟩) (pa_cons (pv 0) pa_nil))) pa_nil))))), ?_⟩
    exact ⟨_, _, rfl, rfl, _, rfl, _, _, rfl, _, _, rfl, k⟩
def spNum0 : Sp := fun vs H Q _ => ∃ o, vs = [wv o] ∧ Q (.int (num0 o)) H
theorem sc_as_number : FnScope ["worth"] ["worth"] (defScope s_as_number) := ⟨rfl, rfl, rfl, by decide +kernel, rfl, by decide +kernel, by decide +kernel⟩
theorem D_as_number (T : Tx K mg) : Def1 P w K mg base 1 "as_number" ["worth"] spNum0 := by
  refine T.mk1 (st := s_as_number) 1 1 rfl rfl sc_as_number (fun _ _ _ _ _ _ us hl => match us, hl with | [_], _ => rfl) (fun vs H Q E h => ?_) (fun cdv A outer s H vs Q E hr h => ?_)
  · obtain ⟨n, rfl, _⟩ := h
    rfl
  · obtain ⟨o, rfl, k⟩ := h
    refine ⟨_, (pss_cons (ps_if (pt_cmpR op_isN (pv 0) pe_non (nomark _)) (pss_one (ps_ret pe_int)) pss_nil)
    (pss_one (ps_ret (pv 0)))), ?_⟩
    cases o with
    | none =>
      refine ⟨_, rfl, rfl, _, rfl, ?_⟩
      exact k
    | some n =>
      refine ⟨_, rfl, rfl, _, rfl, ?_⟩
      exact ⟨_, rfl, k⟩
def spJoin : Sp := fun vs H Q _ => ∃ o a b, vs = [.str (Op.str o), wv a, wv b] ∧ Sm a ∧ Q (.int (opV o a b)) H
theorem scal_w : ∀ a b : Option Int, scal (wv a) (wv b) = true
  | none, none => rfl
  | none, some _ => rfl
  | some _, none => rfl
  | some _, some _ => rfl
theorem dec_w (a b : Option Int) : decide (wv a = wv b) = decide (a = b) := by
  by_cases e : a = b
  · rw [e, decide_eq_true rfl, decide_eq_true rfl]
  · rw [decide_eq_false e, decide_eq_false fun q => e (wv_inj q)]
theorem sc_joined_by : FnScope ["sign", "one", "other", "first", "second"] ["sign", "one", "other"] (defScope s_joined_by) := ⟨rfl, rfl, rfl, by decide +kernel, rfl, by decide +kernel, by decide +kernel⟩
theorem D_joined_by (T : Tx K mg) : Def1 P w K mg base 2 "joined_by" ["sign", "one", "other"] spJoin := by
  have D_kept : Def1 P w K mg base 1 "kept" ["number"] (spInt kept) := D_kept T
  have D_as_number : Def1 P w K mg base 1 "as_number" ["worth"] spNum0 := D_as_number T
  refine T.mk1 (st := s_joined_by) 2 2 rfl rfl sc_joined_by (fun _ _ _ _ _ _ us hl => match us, hl with | [_, _, _], _ => rfl) (fun vs H Q E h => ?_) (fun cdv A outer s H vs Q E hr h => ?_)
  · obtain ⟨o, a, b, rfl, _⟩ := h
    rfl
  · obtain ⟨o, a, b, rfl, sa, k⟩ := h
    refine ⟨_, (pss_cons (ps_if (pt_cmpR op_eq (pv 0) pe_str (nomark _)) (pss_one (ps_ret (pe_callTy call_int1 (by rfl) T.f_int (by decide +kernel) (pa_cons (pe_cmpR op_eq (pv 1) (pv 2) (nomark _)) pa_nil)))) pss_nil)
    (pss_cons (ps_set (i := 3) sc_joined_by.nd rfl (Or.inl rfl) (pe_c D_as_number (hr.mono (by omega)) (pa_cons (pv 1) pa_nil)))
    (pss_cons (ps_set (i := 4) sc_joined_by.nd rfl (Or.inl rfl) (pe_c D_as_number (hr.mono (by omega)) (pa_cons (pv 2) pa_nil)))
    (pss_cons (ps_if (pt_cmpR op_eq (pv 0) pe_str (nomark _)) (pss_one (ps_ret (pe_callTy call_int1 (by rfl) T.f_int (by decide +kernel) (pa_cons (pe_cmpR op_lt (pv 3) (pv 4) (nomark _)) pa_nil)))) pss_nil)
    (pss_cons (ps_if (pt_cmpR op_eq (pv 0) pe_str (nomark _)) (pss_one (ps_ret (pe_c D_kept (hr.mono (by omega)) (pa_cons (pe_op op_add (pv 3) (pv 4)) pa_nil)))) pss_nil)
    (pss_cons (ps_if (pt_cmpR op_eq (pv 0) pe_str (nomark _)) (pss_one (ps_ret (pe_c D_kept (hr.mono (by omega)) (pa_cons (pe_op op_sub (pv 3) (pv 4)) pa_nil)))) pss_nil)
    (pss_one (ps_ret (pe_c D_kept (hr.mono (by omega)) (pa_cons (pe_op op_mul (pv 3) (pv 4)) pa_nil)))))))))), ?_⟩
    cases o with
    | eq =>
      refine ⟨_, rfl, rfl, _, rfl, ?_⟩
      refine ⟨_, rfl, _, rfl, scal_w a b, .inr ⟨_, rfl, ?_⟩⟩
      rw [dec_w]
      exact k
    | lt =>
      refine ⟨_, rfl, rfl, _, rfl, ?_⟩
      refine ⟨_, rfl, a, rfl, _, rfl, b, rfl, ?_⟩
      refine ⟨_, rfl, rfl, _, rfl, ?_⟩
      exact ⟨_, rfl, _, rfl, _, _, rfl, rfl, .inr ⟨_, rfl, k⟩⟩
    | add =>
      refine ⟨_, rfl, rfl, _, rfl, ?_⟩
      refine ⟨_, rfl, a, rfl, _, rfl, b, rfl, ?_⟩
      refine ⟨_, rfl, rfl, _, rfl, ?_⟩
      refine ⟨_, rfl, rfl, _, rfl, ?_⟩
      exact ⟨_, rfl, _, rfl, _, _, rfl, rfl, _, rfl, k⟩
    | sub =>
      refine ⟨_, rfl, rfl, _, rfl, ?_⟩
      refine ⟨_, rfl, a, rfl, _, rfl, b, rfl, ?_⟩
      refine ⟨_, rfl, rfl, _, rfl, ?_⟩
      refine ⟨_, rfl, rfl, _, rfl, ?_⟩
      refine ⟨_, rfl, rfl, _, rfl, ?_⟩
      exact ⟨_, rfl, _, rfl, _, _, rfl, rfl, _, rfl, k⟩
    | mul =>
      refine ⟨_, rfl, rfl, _, rfl, ?_⟩
      refine ⟨_, rfl, a, rfl, _, rfl, b, rfl, ?_⟩
      refine ⟨_, rfl, rfl, _, rfl, ?_⟩
      refine ⟨_, rfl, rfl, _, rfl, ?_⟩
      refine ⟨_, rfl, rfl, _, rfl, ?_⟩
      have q := sa.num0
      exact ⟨_, rfl, _, rfl, _, _, rfl, rfl, .inl ⟨by omega, by omega⟩, _, rfl, k⟩
end
end L2.K17

set_option maxHeartbeats 4000000
/-! what a saying tells, in the program -/
namespace L2.K17
open PySem L2
/-- a dict of the done ones -/
def AnsH (H : Hp) (a : Addr) (dn : List (Int × Option Int)) : Prop := ∃ kvs : List (Key × V), H a = some (.dK kvs) ∧ ∀ k, (valV kvs (Sum.inl k)).getD .non = wv (lk none dn k)
theorem dget_o {H : Hp} {a : Addr} {kvs : List (Key × V)} {x : Str} (e : H a = some (.dK kvs)) : DGet H a (.str x) (valV kvs (Sum.inr x)) := DGet.k (k := Sum.inr x) e
theorem dget_s {H : Hp} {a : Addr} {kvs : List (Key × V)} {x : Str} {v : V} (e : H a = some (.dK kvs)) (h : valV kvs (Sum.inr x) = some v) : DGet H a (.str x) (some v) := by
  rw [← h]
  exact dget_o e
section
variable {P : Program} {w : World} {K : PySem.W.Frag} {mg : Str → Option Value} {base : Heap}
def spWorth (n : Nat) : Sp := fun vs H Q _ => ∃ (e : Say) (v : V) (a b : Addr) (B : Nat) (f : Str → Option Int) (ag : Option Int) (now : Int) (dn : List (Int × Option Int)),
  vs = [v, .ref a, wv ag, .int now, .ref b] ∧ SayH H e v ∧ e.depth ≤ n ∧ e.ok ∧ NamesH H a B f ∧ AnsH H b dn ∧ (∀ x, Sm (f x)) ∧ Sm ag ∧ (∀ p ∈ dn, Sm p.2) ∧ Q (wv (sayV f ag now dn e)) H
theorem sc_worth_of : FnScope ["saying", "names", "arg", "now", "answers", "word", "one"] ["saying", "names", "arg", "now", "answers"] (defScope s_worth_of) := ⟨rfl, rfl, rfl, by decide +kernel, rfl, by decide +kernel, by decide +kernel⟩
theorem D_worth_of (T : Tx K mg) : ∀ n : Nat, Def1 P w K mg base (n + 2) "worth_of" ["saying", "names", "arg", "now", "answers"] (spWorth n)
  | 0 => by
    refine T.mk1 (st := s_worth_of) 3 3 rfl rfl sc_worth_of (fun _ _ _ _ _ _ us hl => match us, hl with | [_, _, _, _, _], _ => rfl) (fun vs H Q E h => ?_) (fun cdv A outer s H vs Q E hr h => ?_)
    · obtain ⟨e, v, a, b, B, f, ag, now, dn, rfl, _⟩ := h
      rfl
    · obtain ⟨e, v, a, b, B, f, ag, now, dn, rfl, h1, h2, _⟩ := h
      have := e.depth_pos
      omega
  | n + 1 => by
    have D_worth_of : Def1 P w K mg base (n + 2) "worth_of" ["saying", "names", "arg", "now", "answers"] (spWorth n) := D_worth_of T n
    have D_kept : Def1 P w K mg base 1 "kept" ["number"] (spInt kept) := D_kept T
    have D_as_number : Def1 P w K mg base 1 "as_number" ["worth"] spNum0 := D_as_number T
    have D_joined_by : Def1 P w K mg base 2 "joined_by" ["sign", "one", "other"] spJoin := D_joined_by T
    refine T.mk1 (st := s_worth_of) 3 3 rfl rfl sc_worth_of (fun _ _ _ _ _ _ us hl => match us, hl with | [_, _, _, _, _], _ => rfl) (fun vs H Q E h => ?_) (fun cdv A outer s H vs Q E hr h => ?_)
    · obtain ⟨e, v, a, b, B, f, ag, now, dn, rfl, _⟩ := h
      rfl
    obtain ⟨e, v, a, b, B, f, ag, now, dn, rfl, hs, hd, ho, hn, ha, s1, s2, s3, k⟩ := h
    have hu := hu_of hr
    refine ⟨_, (pss_cons (ps_set (i := 5) sc_worth_of.nd rfl (Or.inl rfl) (pe_ix ix_tup (pv 0) pe_int (fun _ _ => rfl)))
    (pss_cons (ps_if (pt_cmpR op_eq (pv 5) pe_str (nomark _)) (pss_one (ps_ret (pe_ix ix_tup (pv 0) pe_int (fun _ _ => rfl)))) pss_nil)
    (pss_cons (ps_if (pt_cmpR op_eq (pv 5) pe_str (nomark _)) (pss_one (ps_ret pe_non)) pss_nil)
    (pss_cons (ps_if (pt_cmpR op_eq (pv 5) pe_str (nomark _)) (pss_one (ps_ret (pe_dget1 hu (pv 1) (pe_ix ix_tup (pv 0) pe_int (fun _ _ => rfl)) ⟨rfl, rfl, rfl, rfl⟩))) pss_nil)
    (pss_cons (ps_if (pt_cmpR op_eq (pv 5) pe_str (nomark _)) (pss_one (ps_ret (pv 2))) pss_nil)
    (pss_cons (ps_if (pt_cmpR op_eq (pv 5) pe_str (nomark _)) (pss_one (ps_ret (pe_c D_kept (hr.mono (by omega)) (pa_cons (pv 3) pa_nil)))) pss_nil)
    (pss_cons (ps_set (i := 6) sc_worth_of.nd rfl (Or.inl rfl) (pe_c D_worth_of (hr.mono (by omega)) (pa_cons (pe_ix ix_tup (pv 0) pe_int (fun _ _ => rfl)) (pa_cons (pv 1) (pa_cons (pv 2) (pa_cons (pv 3) (pa_cons (pv 4) pa_nil)))))))
    (pss_cons (ps_if (pt_cmpR op_eq (pv 5) pe_str (nomark _)) (pss_one (ps_ret (pe_dgetN hu (pv 4) (pv 6) ⟨rfl, rfl, rfl, rfl⟩))) pss_nil)
    (pss_cons (ps_if (pt_cmpR op_eq (pv 5) pe_str (nomark _)) (pss_one (ps_ret (pe_callTy call_int1 (by rfl) T.f_int (by decide +kernel) (pa_cons (pe_cmpR op_eq (pe_c D_as_number (hr.mono (by omega)) (pa_cons (pv 6) pa_nil)) pe_int (nomark _)) pa_nil)))) pss_nil)
    (pss_one (ps_ret (pe_c D_joined_by (hr.mono (by omega)) (pa_cons (pv 5) (pa_cons (pv 6) (pa_cons (pe_c D_worth_of (hr.mono (by omega)) (pa_cons (pe_ix ix_tup (pv 0) pe_int (fun _ _ => rfl)) (pa_cons (pv 1) (pa_cons (pv 2) (pa_cons (pv 3) (pa_cons (pv 4) pa_nil)))))) pa_nil))))))))))))))), ?_⟩
    cases e with
    | num z =>
      obtain ⟨p, rfl, hp⟩ := hs
      refine ⟨_, rfl, p, _, _, _, rfl, rfl, SqT.of hp, rfl, ?_⟩
      refine ⟨_, rfl, rfl, _, rfl, ?_⟩
      exact ⟨_, rfl, p, _, _, _, rfl, rfl, SqT.of hp, rfl, k⟩
    | non =>
      obtain ⟨p, rfl, hp⟩ := hs
      refine ⟨_, rfl, p, _, _, _, rfl, rfl, SqT.of hp, rfl, ?_⟩
      refine ⟨_, rfl, rfl, _, rfl, ?_⟩
      refine ⟨_, rfl, rfl, _, rfl, ?_⟩
      exact k
    | name x =>
      obtain ⟨p, rfl, hp⟩ := hs
      obtain ⟨kvs, hn1, _, hn3⟩ := hn
      refine ⟨_, rfl, p, _, _, _, rfl, rfl, SqT.of hp, rfl, ?_⟩
      refine ⟨_, rfl, rfl, _, rfl, ?_⟩
      refine ⟨_, rfl, rfl, _, rfl, ?_⟩
      refine ⟨_, rfl, rfl, _, rfl, ?_⟩
      refine ⟨_, rfl, a, rfl, .inl ⟨kvs, .inl hn1⟩, _, rfl, p, _, _, _, rfl, rfl, SqT.of hp, rfl, _, dget_o hn1, ?_⟩
      rw [hn3]
      exact k
    | arg =>
      obtain ⟨p, rfl, hp⟩ := hs
      refine ⟨_, rfl, p, _, _, _, rfl, rfl, SqT.of hp, rfl, ?_⟩
      refine ⟨_, rfl, rfl, _, rfl, ?_⟩
      refine ⟨_, rfl, rfl, _, rfl, ?_⟩
      refine ⟨_, rfl, rfl, _, rfl, ?_⟩
      refine ⟨_, rfl, rfl, _, rfl, ?_⟩
      exact ⟨_, rfl, k⟩
    | now =>
      obtain ⟨p, rfl, hp⟩ := hs
      refine ⟨_, rfl, p, _, _, _, rfl, rfl, SqT.of hp, rfl, ?_⟩
      refine ⟨_, rfl, rfl, _, rfl, ?_⟩
      refine ⟨_, rfl, rfl, _, rfl, ?_⟩
      refine ⟨_, rfl, rfl, _, rfl, ?_⟩
      refine ⟨_, rfl, rfl, _, rfl, ?_⟩
      refine ⟨_, rfl, rfl, _, rfl, ?_⟩
      exact ⟨_, rfl, _, rfl, k⟩
    | ans e =>
      obtain ⟨p, u, rfl, hp, hq⟩ := hs
      have hd : e.depth + 1 ≤ n + 1 := hd
      refine ⟨_, rfl, p, _, _, _, rfl, rfl, SqT.of hp, rfl, ?_⟩
      refine ⟨_, rfl, rfl, _, rfl, ?_⟩
      refine ⟨_, rfl, rfl, _, rfl, ?_⟩
      refine ⟨_, rfl, rfl, _, rfl, ?_⟩
      refine ⟨_, rfl, rfl, _, rfl, ?_⟩
      refine ⟨_, rfl, rfl, _, rfl, ?_⟩
      refine ⟨_, rfl, p, _, _, _, rfl, rfl, SqT.of hp, rfl, _, rfl, _, rfl, _, rfl, _, rfl, ?_⟩
      refine ⟨e, u, a, b, B, f, ag, now, dn, rfl, hq, by omega, ho, hn, ha, s1, s2, s3, ?_⟩
      refine ⟨_, rfl, rfl, _, rfl, ?_⟩
      obtain ⟨kvs, ha1, ha2⟩ := ha
      refine ⟨_, rfl, b, kvs, rfl, .inl ha1, _, rfl, kvs, .inl ha1, ?_⟩
      unfold sayV at k
      cases q : sayV f ag now dn e with
      | none =>
        rw [q] at k
        exact .inr ⟨rfl, k⟩
      | some t =>
        rw [q] at k
        refine .inl ⟨Sum.inl t, rfl, ?_⟩
        rw [ha2]
        exact k
    | neg e =>
      obtain ⟨p, u, rfl, hp, hq⟩ := hs
      have hd : e.depth + 1 ≤ n + 1 := hd
      refine ⟨_, rfl, p, _, _, _, rfl, rfl, SqT.of hp, rfl, ?_⟩
      refine ⟨_, rfl, rfl, _, rfl, ?_⟩
      refine ⟨_, rfl, rfl, _, rfl, ?_⟩
      refine ⟨_, rfl, rfl, _, rfl, ?_⟩
      refine ⟨_, rfl, rfl, _, rfl, ?_⟩
      refine ⟨_, rfl, rfl, _, rfl, ?_⟩
      refine ⟨_, rfl, p, _, _, _, rfl, rfl, SqT.of hp, rfl, _, rfl, _, rfl, _, rfl, _, rfl, ?_⟩
      refine ⟨e, u, a, b, B, f, ag, now, dn, rfl, hq, by omega, ho, hn, ha, s1, s2, s3, ?_⟩
      refine ⟨_, rfl, rfl, _, rfl, ?_⟩
      refine ⟨_, rfl, rfl, _, rfl, ?_⟩
      refine ⟨_, rfl, _, rfl, rfl, .inr ⟨_, rfl, ?_⟩⟩
      have e1 : decide (V.int (num0 (sayV f ag now dn e)) = V.int 0) = decide (num0 (sayV f ag now dn e) = 0) := by
        rw [dec_int, Bool.beq_eq_decide_eq]
      rw [e1]
      exact k
    | bin o e1 e2 =>
      obtain ⟨p, u1, u2, rfl, hp, hq1, hq2⟩ := hs
      have hd : max e1.depth e2.depth + 1 ≤ n + 1 := hd
      refine ⟨_, rfl, p, _, _, _, rfl, rfl, SqT.of hp, rfl, ?_⟩
      have k0 : ∀ x : Str, (∀ o : Op, o.str ≠ x) → decide (V.str o.str = V.str x) = false := fun x h => decide_eq_false fun z => h o (V.str.inj z)
      refine ⟨_, rfl, rfl, _, rfl, ?_⟩
      rw [k0 _ (by intro o; cases o <;> decide +kernel)]
      refine iteF ?_
      refine ⟨_, rfl, rfl, _, rfl, ?_⟩
      rw [k0 _ (by intro o; cases o <;> decide +kernel)]
      refine iteF ?_
      refine ⟨_, rfl, rfl, _, rfl, ?_⟩
      rw [k0 _ (by intro o; cases o <;> decide +kernel)]
      refine iteF ?_
      refine ⟨_, rfl, rfl, _, rfl, ?_⟩
      rw [k0 _ (by intro o; cases o <;> decide +kernel)]
      refine iteF ?_
      refine ⟨_, rfl, rfl, _, rfl, ?_⟩
      rw [k0 _ (by intro o; cases o <;> decide +kernel)]
      refine iteF ?_
      refine ⟨_, rfl, p, _, _, _, rfl, rfl, SqT.of hp, rfl, _, rfl, _, rfl, _, rfl, _, rfl, ?_⟩
      refine ⟨e1, u1, a, b, B, f, ag, now, dn, rfl, hq1, by omega, ho.1, hn, ha, s1, s2, s3, ?_⟩
      refine ⟨_, rfl, rfl, _, rfl, ?_⟩
      rw [k0 _ (by intro o; cases o <;> decide +kernel)]
      refine iteF ?_
      refine ⟨_, rfl, rfl, _, rfl, ?_⟩
      rw [k0 _ (by intro o; cases o <;> decide +kernel)]
      refine iteF ?_
      refine ⟨_, rfl, _, rfl, _, rfl, p, _, _, _, rfl, rfl, SqT.of hp, rfl, _, rfl, _, rfl, _, rfl, _, rfl, ?_⟩
      refine ⟨e2, u2, a, b, B, f, ag, now, dn, rfl, hq2, by omega, ho.2, hn, ha, s1, s2, s3, ?_⟩
      exact ⟨o, _, _, rfl, say_sm s1 s2 s3 e1 ho.1, k⟩
end
end L2.K17

set_option maxHeartbeats 4000000
/-! what a saying tells, in the law's model -/
namespace L2.K17
open PySem L2
def runD (code at_ mode names arg now made opn done lets aw out : V) : List (Key × V) :=
  [(Sum.inr "code", code), (Sum.inr "at", at_), (Sum.inr "mode", mode), (Sum.inr "names", names), (Sum.inr "arg", arg), (Sum.inr "now", now), (Sum.inr "made", made), (Sum.inr "open", opn),
   (Sum.inr "done", done), (Sum.inr "letters", lets), (Sum.inr "awaited", aw), (Sum.inr "outcome", out)]
theorem valV_merge_done : ∀ (dn : List (Int × Option Int)) (kvs : List (Key × V)) (d : Option Int) (k : Int), (valV kvs (Sum.inl k)).getD .non = wv d →
    (valV (mergeK kvs (dn.map fun p => (Sum.inl p.1, wv p.2))) (Sum.inl k)).getD .non = wv (lk d dn k)
  | [], kvs, d, k, h => h
  | p :: r, kvs, d, k, h => by
    show (valV (mergeK (putK kvs (Sum.inl p.1) (wv p.2)) (r.map fun p => (Sum.inl p.1, wv p.2))) (Sum.inl k)).getD .non = wv (lk (if p.1 = k then p.2 else d) r k)
    refine valV_merge_done r _ _ k ?_
    rw [valV_put]
    by_cases c : p.1 = k
    · rw [if_pos (by rw [c]), if_pos c]
      rfl
    · rw [if_neg (fun z => c (Sum.inl.inj z).symm), if_neg c]
      exact h
theorem pairs_kv {K : PySem.W.Frag} {H : Hp} : ∀ {as : List Addr} {dn : List (Int × Option Int)}, PairsH H as dn → Paired (fun p (kv : Key × V) => SqT K H p [kV kv.1, kv.2]) as (dn.map fun p => (Sum.inl p.1, wv p.2))
  | _, _, .nil => .nil
  | _, _, .cons h t => .cons (SqT.of h) (pairs_kv t)
/-- what the sayings are told from -/
def MEnv (H : Hp) (m : Addr) (S : AS) : Prop := ∃ (c at_ md mk op lt aw out : V) (nm dn : Addr) (B : Nat), H m = some (.dK (runD c at_ md (.ref nm) (wv S.arg) (.int S.now) mk op (.ref dn) lt aw out)) ∧ NamesH H nm B S.names ∧ DoneH H dn S.done
theorem MEnv.same {H H' : Hp} {m : Addr} {S : AS} (h : MEnv H m S) (s : Same H H') : MEnv H' m S := by
  obtain ⟨c, at_, md, mk, op, lt, aw, out, nm, dn, B, h1, h2, h3⟩ := h
  exact ⟨c, at_, md, mk, op, lt, aw, out, nm, dn, B, s _ _ h1, h2.frame fun o e => s _ _ e, h3.frame (TupS.of_same s) fun o e => s _ _ e⟩
/-- what is small enough for the sayings -/
structure SmS (S : AS) : Prop where
  nm : ∀ x, Sm (S.names x)
  ag : Sm S.arg
  dn : ∀ p ∈ S.done, Sm p.2
theorem Bnd.sm {B : Nat} {S : AS} (h : Bnd B S) : SmS S := ⟨h.nm, h.ag, h.dn⟩
theorem SmS.say {S : AS} (h : SmS S) {e : Say} (he : e.ok) : Sm (S.say e) := say_sm h.nm h.ag h.dn e he
section
variable {P : Program} {w : World} {K : PySem.W.Frag} {mg : Str → Option Value} {base : Heap}
theorem sc_law_bounded : FnScope ["number"] ["number"] (defScope s_law_bounded) := ⟨rfl, rfl, rfl, by decide +kernel, rfl, by decide +kernel, by decide +kernel⟩
theorem D_law_bounded (T : Tx K mg) : Def1 P w K mg base 1 "_law_bounded" ["number"] (spInt kept) := by
  refine T.mk1 (st := s_law_bounded) 16 16 rfl rfl sc_law_bounded (fun _ _ _ _ _ _ us hl => match us, hl with | [_], _ => rfl) (fun vs H Q E h => ?_) (fun cdv A outer s H vs Q E hr h => ?_)
  · obtain ⟨n, rfl, _⟩ := h
    rfl
  · obtain ⟨n, rfl, k⟩ := h
    refine ⟨_, (pss_one (ps_ret (pe_callB (call_max2 rfl) (by rfl) T.f_max (by decide +kernel) (pa_cons (pe_un un_neg (pe_op op_pow pe_int pe_int)) (pa_cons (pe_callB (call_min2 rfl) (by rfl) T.f_min (by decide +kernel) (pa_cons (pe_op op_pow pe_int pe_int) (pa_cons (pv 0) pa_nil))) pa_nil))))), ?_⟩
    exact ⟨_, _, rfl, rfl, ⟨by decide, by decide, by decide⟩, _, rfl, _, _, rfl, rfl, ⟨by decide, by decide, by decide⟩, _, rfl, _, _, rfl, _, _, rfl, k⟩
def spLSays (n : Nat) : Sp := fun vs H Q _ => ∃ (e : Say) (v : V) (m : Addr) (S : AS), vs = [v, .ref m] ∧ SayH H e v ∧ e.depth ≤ n ∧ e.ok ∧ MEnv H m S ∧ SmS S ∧ ∀ H', Same H H' → Q (wv (S.say e)) H'
theorem tru_w {K : PySem.W.Frag} {H : Hp} : ∀ o : Option Int, TruV K (wv o) H (decide (num0 o ≠ 0))
  | none => by
    show decide ((0 : Int) ≠ 0) = false
    decide
  | some n => by
    show decide (n ≠ 0) = (n != 0)
    rw [bne, Bool.beq_eq_decide_eq, decide_not]
theorem asg_or {K : PySem.W.Frag} {i j : Nat} {o : Option Int} {D : Ends} {σ : St} {H : Hp} (hv : σ[i]? = some (some (wv o))) (k : D.nx (σ.set j (some (.int (num0 o)))) H) : tAsg (tOrT K (tVar i) (tC (.int 0))) (gName j) D σ H := by
  refine ⟨_, hv, _, tru_w o, ?_⟩
  cases o with
  | none => exact iteF k
  | some n =>
    have k : D.nx (σ.set j (some (.int n))) H := k
    by_cases c : n = 0
    · subst c
      exact iteF k
    · have e : decide (num0 (some n) ≠ 0) = true := decide_eq_true c
      rw [e]
      exact iteT k
theorem sc_law_says : FnScope ["saying", "run", "word", "one", "other", "left", "right"] ["saying", "run"] (defScope s_law_says) := ⟨rfl, rfl, rfl, by decide +kernel, rfl, by decide +kernel, by decide +kernel⟩
theorem D_law_says (T : Tx K mg) : ∀ n : Nat, Def1 P w K mg base (n + 1) "_law_says" ["saying", "run"] (spLSays n)
  | 0 => by
    refine T.mk1 (st := s_law_says) 17 17 rfl rfl sc_law_says (fun _ _ _ _ _ _ us hl => match us, hl with | [_, _], _ => rfl) (fun vs H Q E h => ?_) (fun cdv A outer s H vs Q E hr h => ?_)
    · obtain ⟨e, v, m, S, rfl, _⟩ := h
      rfl
    · obtain ⟨e, v, m, S, rfl, h1, h2, _⟩ := h
      have := e.depth_pos
      omega
  | n + 1 => by
    have D_law_says : Def1 P w K mg base (n + 1) "_law_says" ["saying", "run"] (spLSays n) := D_law_says T n
    have D_law_bounded : Def1 P w K mg base 1 "_law_bounded" ["number"] (spInt kept) := D_law_bounded T
    refine T.mk1 (st := s_law_says) 17 17 rfl rfl sc_law_says (fun _ _ _ _ _ _ us hl => match us, hl with | [_, _], _ => rfl) (fun vs H Q E h => ?_) (fun cdv A outer s H vs Q E hr h => ?_)
    · obtain ⟨e, v, m, S, rfl, _⟩ := h
      rfl
    obtain ⟨e, v, m, S, rfl, hs, hd, ho, hm, sm, k⟩ := h
    have hu := hu_of hr
    refine ⟨_, (pss_cons (ps_set (i := 2) sc_law_says.nd rfl (Or.inl rfl) (pe_ix ix_tup (pv 0) pe_int (fun _ _ => rfl)))
    (pss_cons (ps_if (pt_cmpR op_eq (pv 2) pe_str (nomark _)) (pss_one (ps_ret (pe_ix ix_tup (pv 0) pe_int (fun _ _ => rfl)))) pss_nil)
    (pss_cons (ps_if (pt_cmpR op_eq (pv 2) pe_str (nomark _)) (pss_one (ps_ret pe_non)) pss_nil)
    (pss_cons (ps_if (pt_cmpR op_eq (pv 2) pe_str (nomark _)) (pss_one (ps_ret (pe_dget1 hu (pe_dget hu (pv 1) pe_str (fun _ _ => rfl)) (pe_ix ix_tup (pv 0) pe_int (fun _ _ => rfl)) ⟨rfl, rfl, rfl, rfl⟩))) pss_nil)
    (pss_cons (ps_if (pt_cmpR op_eq (pv 2) pe_str (nomark _)) (pss_one (ps_ret (pe_dget hu (pv 1) pe_str (fun _ _ => rfl)))) pss_nil)
    (pss_cons (ps_if (pt_cmpR op_eq (pv 2) pe_str (nomark _)) (pss_one (ps_ret (pe_c D_law_bounded (hr.mono (by omega)) (pa_cons (pe_dget hu (pv 1) pe_str (fun _ _ => rfl)) pa_nil)))) pss_nil)
    (pss_cons (ps_set (i := 3) sc_law_says.nd rfl (Or.inl rfl) (pe_c D_law_says (hr.mono (by omega)) (pa_cons (pe_ix ix_tup (pv 0) pe_int (fun _ _ => rfl)) (pa_cons (pv 1) pa_nil))))
    (pss_cons (ps_if (pt_cmpR op_eq (pv 2) pe_str (nomark _)) (pss_one (ps_ret (pe_dgetN hu (pe_callTy (call_dictP rfl) (by rfl) T.f_dict (by decide +kernel) (pa_cons (pe_dget hu (pv 1) pe_str (fun _ _ => rfl)) pa_nil)) (pv 3) ⟨rfl, rfl, rfl, rfl⟩))) pss_nil)
    (pss_cons (ps_if (pt_cmpR op_eq (pv 2) pe_str (nomark _)) (pss_one (ps_ret (pe_callTy call_int1 (by rfl) T.f_int (by decide +kernel) (pa_cons (pe_or (pe_cmpR op_isN (pv 3) pe_non (nomark _)) (pe_one (pe_cmpR op_eq (pv 3) pe_int (nomark _)))) pa_nil)))) pss_nil)
    (pss_cons (ps_set (i := 4) sc_law_says.nd rfl (Or.inl rfl) (pe_c D_law_says (hr.mono (by omega)) (pa_cons (pe_ix ix_tup (pv 0) pe_int (fun _ _ => rfl)) (pa_cons (pv 1) pa_nil))))
    (pss_cons (ps_if (pt_cmpR op_eq (pv 2) pe_str (nomark _)) (pss_one (ps_ret (pe_callTy call_int1 (by rfl) T.f_int (by decide +kernel) (pa_cons (pe_cmpR op_eq (pv 3) (pv 4) (nomark _)) pa_nil)))) pss_nil)
    (pss_cons (ps_set (i := 5) sc_law_says.nd rfl (Or.inl rfl) (pe_orT (pv 3) (pe_one pe_int)))
    (pss_cons (ps_set (i := 6) sc_law_says.nd rfl (Or.inl rfl) (pe_orT (pv 4) (pe_one pe_int)))
    (pss_cons (ps_if (pt_cmpR op_eq (pv 2) pe_str (nomark _)) (pss_one (ps_ret (pe_callTy call_int1 (by rfl) T.f_int (by decide +kernel) (pa_cons (pe_cmpR op_lt (pv 5) (pv 6) (nomark _)) pa_nil)))) pss_nil)
    (pss_one (ps_ret (pe_c D_law_bounded (hr.mono (by omega)) (pa_cons (pe_dget hu (pe_disp (pps_cons pe_str (pe_op op_add (pv 5) (pv 6)) (pps_cons pe_str (pe_op op_sub (pv 5) (pv 6)) (pps_cons pe_str (pe_op op_mul (pv 5) (pv 6)) pps_nil))) (by rfl) (by rfl) (fun z => by cases z) (by decide)) (pv 2) (fun _ _ => rfl)) pa_nil)))))))))))))))))), ?_⟩
    have hm0 := hm
    obtain ⟨c, at_, md, mk, op, lt, aw, out, nm, dn, B, hm1, hn, hdn⟩ := hm
    cases e with
    | num z =>
      obtain ⟨p, rfl, hp⟩ := hs
      refine ⟨_, rfl, p, _, _, _, rfl, rfl, SqT.of hp, rfl, ?_⟩
      refine ⟨_, rfl, rfl, _, rfl, ?_⟩
      exact ⟨_, rfl, p, _, _, _, rfl, rfl, SqT.of hp, rfl, k H (Same.refl H)⟩
    | non =>
      obtain ⟨p, rfl, hp⟩ := hs
      refine ⟨_, rfl, p, _, _, _, rfl, rfl, SqT.of hp, rfl, ?_⟩
      refine ⟨_, rfl, rfl, _, rfl, ?_⟩
      refine ⟨_, rfl, rfl, _, rfl, ?_⟩
      exact k H (Same.refl H)
    | name x =>
      obtain ⟨p, rfl, hp⟩ := hs
      obtain ⟨kvs, hn1, _, hn3⟩ := hn
      refine ⟨_, rfl, p, _, _, _, rfl, rfl, SqT.of hp, rfl, ?_⟩
      refine ⟨_, rfl, rfl, _, rfl, ?_⟩
      refine ⟨_, rfl, rfl, _, rfl, ?_⟩
      refine ⟨_, rfl, rfl, _, rfl, ?_⟩
      refine ⟨_, rfl, m, _, rfl, dget_s hm1 rfl, nm, rfl, .inl ⟨kvs, .inl hn1⟩, _, rfl, p, _, _, _, rfl, rfl, SqT.of hp, rfl, _, dget_o hn1, ?_⟩
      rw [hn3]
      exact k H (Same.refl H)
    | arg =>
      obtain ⟨p, rfl, hp⟩ := hs
      refine ⟨_, rfl, p, _, _, _, rfl, rfl, SqT.of hp, rfl, ?_⟩
      refine ⟨_, rfl, rfl, _, rfl, ?_⟩
      refine ⟨_, rfl, rfl, _, rfl, ?_⟩
      refine ⟨_, rfl, rfl, _, rfl, ?_⟩
      refine ⟨_, rfl, rfl, _, rfl, ?_⟩
      exact ⟨_, rfl, m, _, rfl, dget_s hm1 rfl, k H (Same.refl H)⟩
    | now =>
      obtain ⟨p, rfl, hp⟩ := hs
      refine ⟨_, rfl, p, _, _, _, rfl, rfl, SqT.of hp, rfl, ?_⟩
      refine ⟨_, rfl, rfl, _, rfl, ?_⟩
      refine ⟨_, rfl, rfl, _, rfl, ?_⟩
      refine ⟨_, rfl, rfl, _, rfl, ?_⟩
      refine ⟨_, rfl, rfl, _, rfl, ?_⟩
      refine ⟨_, rfl, rfl, _, rfl, ?_⟩
      exact ⟨_, rfl, m, _, rfl, dget_s hm1 rfl, _, rfl, k H (Same.refl H)⟩
    | ans e =>
      obtain ⟨p, u, rfl, hp, hq⟩ := hs
      have hd : e.depth + 1 ≤ n + 1 := hd
      refine ⟨_, rfl, p, _, _, _, rfl, rfl, SqT.of hp, rfl, ?_⟩
      refine ⟨_, rfl, rfl, _, rfl, ?_⟩
      refine ⟨_, rfl, rfl, _, rfl, ?_⟩
      refine ⟨_, rfl, rfl, _, rfl, ?_⟩
      refine ⟨_, rfl, rfl, _, rfl, ?_⟩
      refine ⟨_, rfl, rfl, _, rfl, ?_⟩
      refine ⟨_, rfl, p, _, _, _, rfl, rfl, SqT.of hp, rfl, _, rfl, ?_⟩
      refine ⟨e, u, m, S, rfl, hq, by omega, ho, hm0, sm, fun H1 g1 => ?_⟩
      refine ⟨_, rfl, rfl, _, rfl, ?_⟩
      have hdn1 := hdn.frame (TupS.of_same g1) fun o e => g1 _ _ e
      obtain ⟨as, hd1, hd2⟩ := hdn1
      refine ⟨_, rfl, m, _, rfl, dget_s (g1 _ _ hm1) rfl, dn, as, _, rfl, SqL.of hd1, pairs_kv hd2, fun q hq0 => ?_⟩
      refine ⟨q, _, rfl, .inl upd_same, _, rfl, _, .inl upd_same, ?_⟩
      have g2 : Same H (upd H1 q (.dK (mergeK [] (S.done.map fun p => (Sum.inl p.1, wv p.2))))) := g1.trans (same_new hq0 _)
      have k := k _ g2
      unfold AS.say sayV at k
      cases q : S.say e with
      | none =>
        have q : sayV S.names S.arg S.now S.done e = none := q
        rw [q] at k
        exact .inr ⟨rfl, k⟩
      | some t =>
        have q : sayV S.names S.arg S.now S.done e = some t := q
        rw [q] at k
        refine .inl ⟨Sum.inl t, rfl, ?_⟩
        rw [valV_merge_done S.done [] none t rfl]
        exact k
    | neg e =>
      obtain ⟨p, u, rfl, hp, hq⟩ := hs
      have hd : e.depth + 1 ≤ n + 1 := hd
      refine ⟨_, rfl, p, _, _, _, rfl, rfl, SqT.of hp, rfl, ?_⟩
      refine ⟨_, rfl, rfl, _, rfl, ?_⟩
      refine ⟨_, rfl, rfl, _, rfl, ?_⟩
      refine ⟨_, rfl, rfl, _, rfl, ?_⟩
      refine ⟨_, rfl, rfl, _, rfl, ?_⟩
      refine ⟨_, rfl, rfl, _, rfl, ?_⟩
      refine ⟨_, rfl, p, _, _, _, rfl, rfl, SqT.of hp, rfl, _, rfl, ?_⟩
      refine ⟨e, u, m, S, rfl, hq, by omega, ho, hm0, sm, fun H1 g1 => ?_⟩
      refine ⟨_, rfl, rfl, _, rfl, ?_⟩
      refine ⟨_, rfl, rfl, _, rfl, ?_⟩
      have k := k H1 g1
      have e1 : S.say (.neg e) = some (b2n (decide (num0 (S.say e) = 0))) := rfl
      rw [e1] at k
      cases q : S.say e with
      | none =>
        rw [q] at k
        exact ⟨_, rfl, rfl, _, rfl, iteT (.inr ⟨_, rfl, k⟩)⟩
      | some t =>
        rw [q] at k
        refine ⟨_, rfl, rfl, _, rfl, iteF ⟨_, rfl, rfl, .inr ⟨_, rfl, ?_⟩⟩⟩
        have e2 : decide (V.int t = V.int 0) = decide (t = 0) := by
          rw [dec_int, Bool.beq_eq_decide_eq]
        show Q (V.int (if decide (wv (some t) = V.int 0) = true then 1 else 0)) H1
        rw [show decide (wv (some t) = V.int 0) = decide (t = 0) from e2]
        exact k
    | bin o e1 e2 =>
      obtain ⟨p, u1, u2, rfl, hp, hq1, hq2⟩ := hs
      have hd : max e1.depth e2.depth + 1 ≤ n + 1 := hd
      refine ⟨_, rfl, p, _, _, _, rfl, rfl, SqT.of hp, rfl, ?_⟩
      have k0 : ∀ x : Str, (∀ o : Op, o.str ≠ x) → decide (V.str o.str = V.str x) = false := fun x h => decide_eq_false fun z => h o (V.str.inj z)
      refine ⟨_, rfl, rfl, _, rfl, ?_⟩
      rw [k0 _ (by intro o; cases o <;> decide +kernel)]
      refine iteF ?_
      refine ⟨_, rfl, rfl, _, rfl, ?_⟩
      rw [k0 _ (by intro o; cases o <;> decide +kernel)]
      refine iteF ?_
      refine ⟨_, rfl, rfl, _, rfl, ?_⟩
      rw [k0 _ (by intro o; cases o <;> decide +kernel)]
      refine iteF ?_
      refine ⟨_, rfl, rfl, _, rfl, ?_⟩
      rw [k0 _ (by intro o; cases o <;> decide +kernel)]
      refine iteF ?_
      refine ⟨_, rfl, rfl, _, rfl, ?_⟩
      rw [k0 _ (by intro o; cases o <;> decide +kernel)]
      refine iteF ?_
      refine ⟨_, rfl, p, _, _, _, rfl, rfl, SqT.of hp, rfl, _, rfl, ?_⟩
      refine ⟨e1, u1, m, S, rfl, hq1, by omega, ho.1, hm0, sm, fun H1 g1 => ?_⟩
      refine ⟨_, rfl, rfl, _, rfl, ?_⟩
      rw [k0 _ (by intro o; cases o <;> decide +kernel)]
      refine iteF ?_
      refine ⟨_, rfl, rfl, _, rfl, ?_⟩
      rw [k0 _ (by intro o; cases o <;> decide +kernel)]
      refine iteF ?_
      refine ⟨_, rfl, p, _, _, _, rfl, rfl, SqT.of (g1 _ _ hp), rfl, _, rfl, ?_⟩
      refine ⟨e2, u2, m, S, rfl, hq2.mono (TupS.of_same g1), by omega, ho.2, hm0.same g1, sm, fun H2 g2 => ?_⟩
      have g := g1.trans g2
      have s1 := (sm.say ho.1).num0
      have k1 : S.say (.bin o e1 e2) = some (opV o (S.say e1) (S.say e2)) := rfl
      rw [k1] at k
      refine ⟨_, rfl, rfl, _, rfl, ?_⟩
      cases o with
      | eq =>
        refine iteT ⟨_, rfl, _, rfl, scal_w _ _, .inr ⟨_, rfl, ?_⟩⟩
        rw [dec_w]
        exact k H2 g
      | lt =>
        refine iteF (asg_or (o := S.say e1) rfl (asg_or (o := S.say e2) rfl ?_))
        refine ⟨_, rfl, rfl, _, rfl, ?_⟩
        exact ⟨_, rfl, _, rfl, _, _, rfl, rfl, .inr ⟨_, rfl, k H2 g⟩⟩
      | add =>
        refine iteF (asg_or (o := S.say e1) rfl (asg_or (o := S.say e2) rfl ?_))
        refine ⟨_, rfl, rfl, _, rfl, ?_⟩
        refine fun q hq0 => ⟨_, rfl, _, rfl, _, _, rfl, rfl, _, rfl, _, rfl, _, _, rfl, rfl, _, rfl, _, rfl, _, _, rfl, rfl, .inl ⟨by omega, by omega⟩, upd_same, [(Sum.inr "+", _), (Sum.inr "-", _), (Sum.inr "*", _)], rfl, (by show 3 ≤ 15; decide), ?_⟩
        exact ⟨_, rfl, q, _, rfl, dget_s upd_same rfl, _, rfl, k _ (g.trans (by rw [upd_upd]; exact same_new hq0 _))⟩
      | sub =>
        refine iteF (asg_or (o := S.say e1) rfl (asg_or (o := S.say e2) rfl ?_))
        refine ⟨_, rfl, rfl, _, rfl, ?_⟩
        refine fun q hq0 => ⟨_, rfl, _, rfl, _, _, rfl, rfl, _, rfl, _, rfl, _, _, rfl, rfl, _, rfl, _, rfl, _, _, rfl, rfl, .inl ⟨by omega, by omega⟩, upd_same, [(Sum.inr "+", _), (Sum.inr "-", _), (Sum.inr "*", _)], rfl, (by show 3 ≤ 15; decide), ?_⟩
        exact ⟨_, rfl, q, _, rfl, dget_s upd_same rfl, _, rfl, k _ (g.trans (by rw [upd_upd]; exact same_new hq0 _))⟩
      | mul =>
        refine iteF (asg_or (o := S.say e1) rfl (asg_or (o := S.say e2) rfl ?_))
        refine ⟨_, rfl, rfl, _, rfl, ?_⟩
        refine fun q hq0 => ⟨_, rfl, _, rfl, _, _, rfl, rfl, _, rfl, _, rfl, _, _, rfl, rfl, _, rfl, _, rfl, _, _, rfl, rfl, .inl ⟨by omega, by omega⟩, upd_same, [(Sum.inr "+", _), (Sum.inr "-", _), (Sum.inr "*", _)], rfl, (by show 3 ≤ 15; decide), ?_⟩
        exact ⟨_, rfl, q, _, rfl, dget_s upd_same rfl, _, rfl, k _ (g.trans (by rw [upd_upd]; exact same_new hq0 _))⟩
end
end L2.K17

set_option maxHeartbeats 4000000
/-! the law's model in the heap -/
namespace L2.K17
open PySem L2
def mdD (c : Addr) (a : Int) (nm op dn lt aw : Addr) (S : AS) : List (Key × V) :=
  runD (.ref c) (.int a) (.str S.mode.str) (.ref nm) (wv S.arg) (.int S.now) (.int S.made) (.ref op) (.ref dn) (.ref lt) (.ref aw) (wv S.outcome)
def Simp.word : Simp → Str
  | .set _ _ => "set"
  | .order c _ _ _ => mkW c
  | .timer _ _ => "timer"
  | .send _ _ _ => "send"
  | .drop _ => "drop"
  | .wait _ _ => "wait"
  | .hear _ _ => "hear"
  | .fin _ => "end"
def headW : Blk → Str
  | .nil => ""
  | .one s _ => s.word
  | .ite _ _ _ _ => "if"
  | .whl _ _ _ => "while"
def whereV : Option Nat → V
  | none => .non
  | some n => .int n
/-- an entry of the flat code: a list of four -/
def EntH (T : Tg) (H : Hp) (e : Addr) : CE → Prop
  | .st q w => T e = .co ∧ ∃ v p : Addr, H e = some (.lst [.str (headW q), .ref v, .ref p, whereV w]) ∧ BlkH H q [.ref v]
  | .jump w => T e = .co ∧ ∃ p : Addr, H e = some (.lst [.str "jump", .non, .ref p, .int w])
  | .hole => T e = .co ∧ ∃ p : Addr, H e = some (.lst [.str "jump", .non, .ref p, .non])
def CodeH (T : Tg) (H : Hp) (c : Addr) (code : List CE) : Prop := T c = .co ∧ ∃ es : List Addr, H c = some (.lst (es.map V.ref)) ∧ Paired (EntH T H) es code
structure Mdl (T : Tg) (H : Hp) (m c nm op dn lt aw : Addr) (a : Int) (B : Nat) (code : List CE) (S : AS) : Prop where
  tm : T m = .box
  hm : H m = some (.dK (mdD c a nm op dn lt aw S))
  co : Core T H nm op dn lt aw B false S.opn S
  cd : CodeH T H c code
def OrdT (T : Tg) (H : Hp) (od : Addr) (cs : List Cmd) : Prop := T od = .od ∧ OrdH H od cs
section
variable {T T1 : Tg} {H H1 : Hp} {m c nm op dn lt aw od : Addr} {a : Int} {B : Nat} {code : List CE} {S : AS} {cs : List Cmd}
theorem EntH.frame {e : Addr} {x : CE} (h : EntH T H e x) (k : TupS H H1) (ht : T1 e = T e) (e1 : ∀ o, H e = some o → H1 e = some o) : EntH T1 H1 e x := by
  cases x with
  | st q w =>
    obtain ⟨h0, v, p, h1, h2⟩ := h
    exact ⟨ht.trans h0, v, p, e1 _ h1, h2.mono k⟩
  | jump w =>
    obtain ⟨h0, p, h1⟩ := h
    exact ⟨ht.trans h0, p, e1 _ h1⟩
  | hole =>
    obtain ⟨h0, p, h1⟩ := h
    exact ⟨ht.trans h0, p, e1 _ h1⟩
theorem EntH.tag {e : Addr} {x : CE} (h : EntH T H e x) : T e = .co ∧ ∃ xs, H e = some (.lst xs) := by
  cases x with
  | st q w =>
    obtain ⟨h0, v, p, h1, h2⟩ := h
    exact ⟨h0, _, h1⟩
  | jump w =>
    obtain ⟨h0, p, h1⟩ := h
    exact ⟨h0, _, h1⟩
  | hole =>
    obtain ⟨h0, p, h1⟩ := h
    exact ⟨h0, _, h1⟩
theorem CodeH.frame (h : CodeH T H c code) (k : TupS H H1) (ht : ∀ b xs, T b = .co → H b = some (.lst xs) → T1 b = .co ∧ H1 b = some (.lst xs)) : CodeH T1 H1 c code := by
  obtain ⟨h0, es, h1, h2⟩ := h
  obtain ⟨z1, z2⟩ := ht c _ h0 h1
  refine ⟨z1, es, z2, Paired.mapP h2 fun e x q => ?_⟩
  obtain ⟨q1, xs, q2⟩ := q.tag
  obtain ⟨z3, z4⟩ := ht e xs q1 q2
  refine q.frame k (z3.trans q1.symm) fun o eo => ?_
  rw [q2] at eo
  cases eo
  exact z4
theorem CodeH.other (h : CodeH T H c code) {p : Addr} {o : HO} (k : TupS H (upd H p o)) (t0 : T p ≠ .co) : CodeH T (upd H p o) c code :=
  h.frame k fun b xs hb e => ⟨hb, by rw [upd_ne fun z => t0 (by rw [← z]; exact hb)]; exact e⟩
theorem CodeH.new (h : CodeH T H c code) {p : Addr} {o : HO} {t : Tag} (hp : H p = none) : CodeH (setT T p t) (upd H p o) c code :=
  h.frame (TupS.new hp) fun b xs hb e => ⟨by rw [setT_ne (ne_of_none e hp)]; exact hb, same_new hp o _ _ e⟩
theorem CodeH.same (h : CodeH T H c code) (s : Same H H1) : CodeH T H1 c code := h.frame (TupS.of_same s) fun b xs hb e => ⟨hb, s _ _ e⟩
theorem OrdT.same (h : OrdT T H od cs) (s : Same H H1) : OrdT T H1 od cs := ⟨h.1, h.2.frame (TupS.of_same s) fun o e => s _ _ e⟩
theorem OrdT.other (h : OrdT T H od cs) {p : Addr} {o : HO} (k : TupS H (upd H p o)) (t0 : T p ≠ .od) : OrdT T (upd H p o) od cs :=
  ⟨h.1, h.2.frame k fun u e => by rw [upd_ne fun z => t0 (by rw [← z]; exact h.1)]; exact e⟩
theorem OrdT.new (h : OrdT T H od cs) {p : Addr} {o : HO} {t : Tag} (hp : H p = none) : OrdT (setT T p t) (upd H p o) od cs := by
  obtain ⟨h0, as, h1, h2⟩ := h
  exact ⟨by rw [setT_ne (ne_of_none h1 hp)]; exact h0, as, same_new hp o _ _ h1, Paired.mapP h2 fun _ _ q => same_new hp o _ _ q⟩
theorem Paired.snoc {α β : Type} {F : α → β → Prop} {x : α} {y : β} (h : F x y) : ∀ {l : List α} {r : List β}, Paired F l r → Paired F (l ++ [x]) (r ++ [y])
  | _, _, .nil => .cons h .nil
  | _, _, .cons q t => .cons q (Paired.snoc h t)
theorem Paired.len {α β : Type} {F : α → β → Prop} : ∀ {l : List α} {r : List β}, Paired F l r → l.length = r.length
  | _, _, .nil => rfl
  | _, _, .cons q t => congrArg Nat.succ (Paired.len t)
theorem Paired.get_ {α β : Type} {F : α → β → Prop} : ∀ {l : List α} {r : List β} {i : Nat} {y : β}, Paired F l r → r[i]? = some y → ∃ x, l[i]? = some x ∧ F x y
  | _, _, i, y, .nil, e => by simp at e
  | _, _, 0, y, .cons q t, e => by
    cases e
    exact ⟨_, rfl, q⟩
  | _, _, i + 1, y, .cons q t, e => Paired.get_ (i := i) t e
theorem Paired.get_l {α β : Type} {F : α → β → Prop} : ∀ {l : List α} {r : List β} {i : Nat} {x : α}, Paired F l r → l[i]? = some x → ∃ y, r[i]? = some y ∧ F x y
  | _, _, i, y, .nil, e => by simp at e
  | _, _, 0, y, .cons q t, e => by
    cases e
    exact ⟨_, rfl, q⟩
  | _, _, i + 1, y, .cons q t, e => Paired.get_l (i := i) t e
/-- the list of orders as it stands -/
theorem OrdT.lst (h : OrdT T H od cs) : ∃ as : List Addr, H od = some (.lst (as.map V.ref)) ∧ as.length = cs.length := by
  obtain ⟨_, as, h1, h2⟩ := h
  exact ⟨as, h1, Paired.len h2⟩
theorem OrdT.add (h : OrdT T H od cs) {as : List Addr} {p : Addr} {c : Cmd} (e : H od = some (.lst (as.map V.ref))) (hp : H p = some (.tup c)) : OrdT T (upd H od (.lst (as.map V.ref ++ [V.ref p]))) od (cs ++ [c]) := by
  obtain ⟨h0, as', h1, h2⟩ := h
  rw [e] at h1
  have e2 : as = as' := by
    have z : as.map V.ref = as'.map V.ref := by injection h1 with h1; injection h1
    exact (List.map_inj_right (fun x y q => by injection q)).mp z
  subst e2
  have k : TupS H (upd H od (.lst (as.map V.ref ++ [V.ref p]))) := TupS.lst e
  have z : Paired (fun q (c : Cmd) => upd H od (.lst (as.map V.ref ++ [V.ref p])) q = some (.tup c)) as cs := Paired.mapP h2 fun _ _ q => k _ _ q
  exact ⟨h0, as ++ [p], by rw [upd_same, List.map_append]; rfl, Paired.snoc (F := fun q (c : Cmd) => upd H od (.lst (as.map V.ref ++ [V.ref p])) q = some (.tup c)) (k _ _ hp) z⟩
theorem Mdl.same (h : Mdl T H m c nm op dn lt aw a B code S) (s : Same H H1) : Mdl T H1 m c nm op dn lt aw a B code S := ⟨h.tm, s _ _ h.hm, h.co.same s, h.cd.same s⟩
theorem Mdl.le {B' : Nat} (h : Mdl T H m c nm op dn lt aw a B code S) (hb : B ≤ B') : Mdl T H m c nm op dn lt aw a B' code S := ⟨h.tm, h.hm, h.co.le hb, h.cd⟩
theorem Mdl.env (h : Mdl T H m c nm op dn lt aw a B code S) : MEnv H m S := ⟨_, _, _, _, _, _, _, _, nm, dn, B, h.hm, h.co.hn, h.co.hd⟩
/-- the box itself -/
theorem Mdl.put (h : Mdl T H m c nm op dn lt aw a B code S) {kvs : List (Key × V)} (a' : Int) (S' : AS) (e : kvs = mdD c a' nm op dn lt aw S') (e1 : S'.names = S.names := by rfl) (e2 : S'.done = S.done := by rfl) (e3 : S'.lets = S.lets := by rfl) (e4 : S'.awaited = S.awaited := by rfl) (e5 : S'.opn = S.opn := by rfl) :
    Mdl T (upd H m (.dK kvs)) m c nm op dn lt aw a' B code S' := by
  subst e
  have k : TupS H (upd H m (.dK (mdD c a' nm op dn lt aw S'))) := TupS.dK h.hm
  refine ⟨h.tm, upd_same, ?_, h.cd.other k (by rw [h.tm]; decide)⟩
  have q := (h.co.box h.tm (.inl rfl) k).as (S1 := S') e1 e2 e3 e4
  rw [e5]
  exact q
theorem Mdl.putE (h : Mdl T H m c nm op dn lt aw a B code S) {o : HO} : Evo T H T (upd H m o) := Evo.putK_ h.tm (by decide) h.hm
theorem Mdl.putO (h : Mdl T H m c nm op dn lt aw a B code S) (ho : OrdT T H od cs) {kvs : List (Key × V)} : OrdT T (upd H m (.dK kvs)) od cs := ho.other (TupS.dK h.hm) (by rw [h.tm]; decide)
theorem Mdl.setK (h : Mdl T H m c nm op dn lt aw a B code S) (b : Blk) : Mdl T H m c nm op dn lt aw a B code (S.setK b) := ⟨h.tm, h.hm, h.co.as rfl rfl rfl rfl, h.cd⟩
/-- a name -/
theorem Mdl.setN (h : Mdl T H m c nm op dn lt aw a B code S) {kvs : List (Key × V)} (e : H nm = some (.dK kvs)) (x : Str) (w : Option Int) : Mdl T (upd H nm (.dK (putK kvs (Sum.inr x) (wv w)))) m c nm op dn lt aw a (B + 1) code (S.setN x w) := by
  have k : TupS H (upd H nm (.dK (putK kvs (Sum.inr x) (wv w)))) := TupS.dK e
  exact ⟨h.tm, by rw [upd_ne (ne_tag h.tm h.co.tn (by decide))]; exact h.hm, h.co.setN e x w, h.cd.other k (by rw [h.co.tn]; decide)⟩
theorem Mdl.nmE (h : Mdl T H m c nm op dn lt aw a B code S) {o : HO} : Evo T H T (upd H nm o) := by
  obtain ⟨_, e, _⟩ := h.co.hn
  exact Evo.putK_ h.co.tn (by decide) e
theorem Mdl.nmO (h : Mdl T H m c nm op dn lt aw a B code S) (ho : OrdT T H od cs) {kvs : List (Key × V)} : OrdT T (upd H nm (.dK kvs)) od cs := by
  obtain ⟨_, e, _⟩ := h.co.hn
  exact ho.other (TupS.dK e) (by rw [h.co.tn]; decide)
/-- the open tickets -/
theorem Mdl.setO (h : Mdl T H m c nm op dn lt aw a B code S) (ol : List Int) : Mdl T (upd H op (.lst (ol.map V.int))) m c nm op dn lt aw a B code (S.setO ol) := by
  have k : TupS H (upd H op (.lst (ol.map V.int))) := TupS.lst h.co.ho
  exact ⟨h.tm, by rw [upd_ne (ne_tag h.tm h.co.to (by decide))]; exact h.hm, (h.co.setO ol).as rfl rfl rfl rfl, h.cd.other k (by rw [h.co.to]; decide)⟩
theorem Mdl.addO (h : Mdl T H m c nm op dn lt aw a B code S) (t : Int) : Mdl T (upd H op (.lst (S.opn.map V.int ++ [V.int t]))) m c nm op dn lt aw a B code (S.setO (S.opn ++ [t])) := by
  have e : S.opn.map V.int ++ [V.int t] = (S.opn ++ [t]).map V.int := by
    rw [List.map_append]
    rfl
  rw [e]
  exact h.setO _
theorem Mdl.opE (h : Mdl T H m c nm op dn lt aw a B code S) {o : HO} : Evo T H T (upd H op o) := Evo.putL h.co.to (by decide) h.co.ho
theorem Mdl.opO (h : Mdl T H m c nm op dn lt aw a B code S) (ho : OrdT T H od cs) {o : HO} : OrdT T (upd H op o) od cs := ho.other (TupS.lst h.co.ho) (by rw [h.co.to]; decide)
/-- a command -/
theorem Mdl.ord (h : Mdl T H m c nm op dn lt aw a B code S) (ho : OrdT T H od cs) {o : HO} : Mdl T (upd H od o) m c nm op dn lt aw a B code S := by
  obtain ⟨as, e, _⟩ := ho.lst
  have k : TupS H (upd H od o) := TupS.lst e
  exact ⟨h.tm, by rw [upd_ne (ne_tag h.tm ho.1 (by decide))]; exact h.hm, h.co.box ho.1 (.inr (.inl rfl)) k, h.cd.other k (by rw [ho.1]; decide)⟩
theorem OrdT.evo (ho : OrdT T H od cs) {o : HO} : Evo T H T (upd H od o) := by
  obtain ⟨as, e, _⟩ := ho.lst
  exact Evo.putL ho.1 (by decide) e
/-- run[..] = a new list -/
theorem Mdl.newO (h : Mdl T H m c nm op dn lt aw a B code S) {p : Addr} (hp : H p = none) {kvs : List (Key × V)} (ol : List Int) (e : kvs = mdD c a nm p dn lt aw S) : Mdl (setT T p .op) (upd (upd H p (.lst (ol.map V.int))) m (.dK kvs)) m c nm p dn lt aw a B code (S.setO ol) := by
  subst e
  have q := h.co.newO hp ol
  have tm : setT T p .op m = .box := by rw [setT_ne (ne_of_none h.hm hp)]; exact h.tm
  have hm : upd H p (.lst (ol.map V.int)) m = some (.dK (mdD c a nm op dn lt aw S)) := same_new hp _ _ _ h.hm
  have k : TupS (upd H p (.lst (ol.map V.int))) (upd (upd H p (.lst (ol.map V.int))) m (.dK (mdD c a nm p dn lt aw S))) := TupS.dK hm
  exact ⟨tm, upd_same, (q.box tm (.inl rfl) k).as rfl rfl rfl rfl, (h.cd.new hp).other k (by rw [tm]; decide)⟩
theorem Mdl.newW (h : Mdl T H m c nm op dn lt aw a B code S) {p : Addr} (hp : H p = none) {kvs : List (Key × V)} (ws : List Int) (e : kvs = mdD c a nm op dn lt p S) : Mdl (setT T p .aw) (upd (upd H p (.lst (ws.map V.int))) m (.dK kvs)) m c nm op dn lt p a B code (S.setW ws) := by
  subst e
  have q := h.co.newW hp ws
  have tm : setT T p .aw m = .box := by rw [setT_ne (ne_of_none h.hm hp)]; exact h.tm
  have hm : upd H p (.lst (ws.map V.int)) m = some (.dK (mdD c a nm op dn lt aw S)) := same_new hp _ _ _ h.hm
  have k : TupS (upd H p (.lst (ws.map V.int))) (upd (upd H p (.lst (ws.map V.int))) m (.dK (mdD c a nm op dn lt p S))) := TupS.dK hm
  exact ⟨tm, upd_same, q.box tm (.inl rfl) k, (h.cd.new hp).other k (by rw [tm]; decide)⟩
theorem CodeH.newS (h : CodeH T H c code) {p : Addr} {t : Tag} (hp : H p = none) (s : Same H H1) : CodeH (setT T p t) H1 c code :=
  h.frame (TupS.of_same s) fun b xs hb e => ⟨by rw [setT_ne (ne_of_none e hp)]; exact hb, s _ _ e⟩
theorem OrdT.newS (h : OrdT T H od cs) {p : Addr} {t : Tag} (hp : H p = none) (s : Same H H1) : OrdT (setT T p t) H1 od cs := by
  obtain ⟨h0, as, h1, h2⟩ := h
  exact ⟨by rw [setT_ne (ne_of_none h1 hp)]; exact h0, as, s _ _ h1, Paired.mapP h2 fun _ _ q => s _ _ q⟩
/-- run["awaited"] = a list that was made -/
theorem Mdl.newWS (h : Mdl T H m c nm op dn lt aw a B code S) (ho : OrdT T H od cs) {p : Addr} (hp : H p = none) (s : Same H H1) {kvs : List (Key × V)} (ws : List Int) (h1 : H1 p = some (.lst (ws.map V.int))) (e : kvs = mdD c a nm op dn lt p S) :
    Mdl (setT T p .aw) (upd H1 m (.dK kvs)) m c nm op dn lt p a B code (S.setW ws) ∧ OrdT (setT T p .aw) (upd H1 m (.dK kvs)) od cs ∧ Evo T H (setT T p .aw) (upd H1 m (.dK kvs)) := by
  subst e
  have q0 := h.co.newS (t := .aw) hp s
  have q : Core (setT T p .aw) H1 nm op dn lt p B false S.opn (S.setW ws) := ⟨q0.tn, q0.hn, q0.to, q0.ho, q0.td, q0.hd, q0.tl, q0.hl, setT_same, h1⟩
  have tm : setT T p .aw m = .box := by rw [setT_ne (ne_of_none h.hm hp)]; exact h.tm
  have hm := s _ _ h.hm
  have k : TupS H1 (upd H1 m (.dK (mdD c a nm op dn lt p S))) := TupS.dK hm
  exact ⟨⟨tm, upd_same, q.box tm (.inl rfl) k, (h.cd.newS hp s).other k (by rw [tm]; decide)⟩, (ho.newS hp s).other k (by rw [tm]; decide), (Evo.newS hp s h1).trans (Evo.putK_ (t := .box) tm (by decide) hm)⟩
theorem Mdl.newE (h : Mdl T H m c nm op dn lt aw a B code S) {p : Addr} (hp : H p = none) {t : Tag} {o u : HO} : Evo T H (setT T p t) (upd (upd H p o) m u) :=
  (Evo.new hp).trans (Evo.putK_ (t := .box) (by rw [setT_ne (ne_of_none h.hm hp)]; exact h.tm) (by decide) (same_new hp _ _ _ h.hm))
theorem Mdl.newR (h : Mdl T H m c nm op dn lt aw a B code S) (ho : OrdT T H od cs) {p : Addr} (hp : H p = none) {t : Tag} {o : HO} {kvs : List (Key × V)} : OrdT (setT T p t) (upd (upd H p o) m (.dK kvs)) od cs :=
  (ho.new hp).other (TupS.dK (same_new hp _ _ _ h.hm)) (by rw [setT_ne (ne_of_none h.hm hp), h.tm]; decide)
end
/-- the model at m, its orders at od -/
def MdO (T : Tg) (H : Hp) (m od : Addr) (a : Int) (B : Nat) (code : List CE) (S : AS) (cs : List Cmd) : Prop := ∃ c nm op dn lt aw, Mdl T H m c nm op dn lt aw a B code S ∧ OrdT T H od cs
end L2.K17

set_option maxHeartbeats 4000000
/-! small helps: in, ==, lists -/
namespace L2.K17
open PySem L2
theorem eqV_w : ∀ a b : Option Int, eqV (wv a) (wv b) = decide (a = b)
  | none, none => rfl
  | none, some _ => rfl
  | some _, none => rfl
  | some a, some b => by
    show (a == b) = decide (some a = some b)
    rw [Bool.beq_eq_decide_eq]
    by_cases c : a = b
    · rw [c, decide_eq_true rfl, decide_eq_true rfl]
    · rw [decide_eq_false c, decide_eq_false fun z => c (Option.some.inj z)]
theorem inV_w (o : Option Int) : ∀ ws : List (Option Int), inV (wv o) (ws.map wv) = decide (o ∈ ws)
  | [] => (decide_eq_false fun h => nomatch h).symm
  | a :: r => by
    have ih := inV_w o r
    show (eqV (wv a) (wv o) || inV (wv o) (r.map wv)) = _
    rw [ih, eqV_w]
    by_cases c : a = o
    · rw [decide_eq_true c, decide_eq_true (List.mem_cons.mpr (.inl c.symm))]
      rfl
    · rw [decide_eq_false c]
      by_cases d : o ∈ r
      · rw [decide_eq_true d, decide_eq_true (List.mem_cons.mpr (.inr d))]
        rfl
      · rw [decide_eq_false d, decide_eq_false fun z => (List.mem_cons.mp z).elim (fun q => c q.symm) d]
        rfl
theorem flat_w : ∀ o : Option Int, flatV (wv o) = true
  | none => rfl
  | some _ => rfl
theorem flat_ws : ∀ ws : List (Option Int), (ws.map wv).all flatV = true
  | [] => rfl
  | a :: r => by
    show (flatV (wv a) && (r.map wv).all flatV) = true
    rw [flat_w, flat_ws r]
    rfl
theorem ints_w (ns : List Int) : ns.map V.int = (ns.map some).map wv := by
  rw [List.map_map]
  rfl
theorem inV_i (o : Option Int) (ns : List Int) : inV (wv o) (ns.map V.int) = decide (o ∈ ns.map some) := by
  rw [ints_w, inV_w]
theorem inV_t (t : Int) (ns : List Int) : inV (.int t) (ns.map V.int) = decide (t ∈ ns) := by
  have h := inV_i (some t) ns
  rw [show inV (.int t) (ns.map V.int) = inV (wv (some t)) (ns.map V.int) from rfl, h]
  by_cases c : t ∈ ns
  · rw [decide_eq_true c, decide_eq_true (List.mem_map.mpr ⟨t, c, rfl⟩)]
  · rw [decide_eq_false c, decide_eq_false fun z => by
      obtain ⟨u, hu, e⟩ := List.mem_map.mp z
      cases e
      exact c hu]
theorem flat_is (ns : List Int) : (ns.map V.int).all flatV = true := by
  rw [ints_w]
  exact flat_ws _
/-! == with [] -/
def pd : Option Int → PyData
  | none => .none
  | some n => .int n
theorem dpAll {K : PySem.W.Frag} {H : Hp} : ∀ ws : List (Option Int), DpAll K H (ws.map wv) (ws.map pd)
  | [] => .nil
  | none :: r => .cons .non (dpAll r)
  | some n :: r => .cons (.int n) (dpAll r)
theorem lay_ws : ∀ ws : List (Option Int), PyData.canLayAll0 (ws.map pd) = true
  | [] => rfl
  | none :: r => by
    show (true && PyData.canLayAll0 (r.map pd)) = true
    rw [lay_ws r]
    rfl
  | some n :: r => by
    show (true && PyData.canLayAll0 (r.map pd)) = true
    rw [lay_ws r]
    rfl
theorem dep_ws : ∀ ws : List (Option Int), PyData.depthAll (ws.map pd) = 0
  | [] => rfl
  | none :: r => by
    show max 0 (PyData.depthAll (r.map pd)) = 0
    rw [dep_ws r]
    rfl
  | some n :: r => by
    show max 0 (PyData.depthAll (r.map pd)) = 0
    rw [dep_ws r]
    rfl
theorem shaped_ws (ws : List (Option Int)) : SeqAt.shaped (.list (ws.map pd)) = true := by
  show (PyData.canLayAll0 (ws.map pd) && decide (PyData.depthAll (ws.map pd) + 1 ≤ 64)) = true
  rw [lay_ws, dep_ws]
  rfl
theorem eqv_nil (ws : List (Option Int)) : PyData.eqv (.list (ws.map pd)) (.list []) = decide (ws = []) := by
  cases ws with
  | nil => rfl
  | cons a r => rfl
theorem eq_nil {K : PySem.W.Frag} {H : Hp} {a b : Addr} {ws : List (Option Int)} {Q : VK} (ha : SqL K H a (ws.map wv)) (hb : SqL K H b []) (q : Q (.bl (decide (ws = []))) H) : rEqD K (.ref a) (.ref b) H Q := by
  refine ⟨.list (ws.map pd), .list [], .lst ha (dpAll ws), .lst hb .nil, shaped_ws ws, shaped_ws [], ?_⟩
  rw [eqv_nil]
  exact q
theorem ne_nil {K : PySem.W.Frag} {H : Hp} {a b : Addr} {ws : List (Option Int)} {Q : VK} (ha : SqL K H a (ws.map wv)) (hb : SqL K H b []) (q : Q (.bl (!decide (ws = []))) H) : rNeD K (.ref a) (.ref b) H Q := by
  refine ⟨.list (ws.map pd), .list [], .lst ha (dpAll ws), .lst hb .nil, shaped_ws ws, shaped_ws [], ?_⟩
  rw [eqv_nil]
  exact q
theorem eq_nilI {K : PySem.W.Frag} {H : Hp} {a b : Addr} {ns : List Int} {Q : VK} (ha : SqL K H a (ns.map V.int)) (hb : SqL K H b []) (q : Q (.bl (decide (ns = []))) H) : rEqD K (.ref a) (.ref b) H Q := by
  rw [ints_w] at ha
  refine eq_nil ha hb ?_
  have e : decide (ns.map some = []) = decide (ns = []) := by cases ns <;> rfl
  rw [e]
  exact q
theorem ne_nilI {K : PySem.W.Frag} {H : Hp} {a b : Addr} {ns : List Int} {Q : VK} (ha : SqL K H a (ns.map V.int)) (hb : SqL K H b []) (q : Q (.bl (!decide (ns = []))) H) : rNeD K (.ref a) (.ref b) H Q := by
  rw [ints_w] at ha
  refine ne_nil ha hb ?_
  have e : decide (ns.map some = []) = decide (ns = []) := by cases ns <;> rfl
  rw [e]
  exact q
/-! xs.remove(t), t there -/
theorem rem_i {l : Addr} {ns : List Int} {t : Int} {H : Hp} {Q : VK} (hl : H l = some (.lst (ns.map V.int))) (ht : t ∈ ns) (q : Q .non (upd H l (.lst ((ns.erase t).map V.int)))) : rRemI (.ref l) [.int t] H Q := by
  obtain ⟨j, h1, h2, h3, h4⟩ := first_at ht
  refine ⟨l, ns, t, j, rfl, rfl, hl, h2, fun m hm => h3 m hm, ?_⟩
  rw [h4]
  exact q
theorem szB {n : Nat} (h : n ≤ 100000) : n < sizeLine := Nat.lt_of_le_of_lt h (by decide)
theorem szL {n : Nat} (h : n ≤ 100000) : n ≤ sizeLine := Nat.le_of_lt (szB h)
end L2.K17

set_option maxHeartbeats 4000000
/-! the law's model: its small defs -/
namespace L2.K17
open PySem L2
section
variable {P : Program} {w : World} {K : PySem.W.Frag} {mg : Str → Option Value} {base : Heap}
theorem dput_s {H : Hp} {a : Addr} {kvs : List (Key × V)} {x : Str} {v : V} (e : H a = some (.dK kvs)) (h : kvs.length < sizeLine) : DPut H a (.str x) v (upd H a (.dK (putK kvs (Sum.inr x) v))) := DPut.k (k := Sum.inr x) e h
theorem dput_v {H : Hp} {a : Addr} {kvs : List (Key × V)} {x : Str} {v v' : V} (e : H a = some (.dK kvs)) (h : kvs.length < sizeLine) (hv : v = v') : DPut H a (.str x) v (upd H a (.dK (putK kvs (Sum.inr x) v'))) := by
  subst hv
  exact dput_s e h
theorem mdlen {c : Addr} {a : Int} {nm op dn lt aw : Addr} {S : AS} : (mdD c a nm op dn lt aw S).length < sizeLine := by
  show 12 < sizeLine
  decide
theorem tyL {K : PySem.W.Frag} {H : Hp} {l : Addr} {xs : List V} (h : H l = some (.lst xs)) : tyV K "list" (.ref l) H := .inl ⟨rfl, _, SqL.of h⟩
/-! run's ticket -/
def spTicket : Sp := fun vs H Q _ => ∃ (T : Tg) (m od : Addr) (a : Int) (B : Nat) (code : List CE) (S : AS) (cs : List Cmd) (x : Str), vs = [.ref m, .str x] ∧ MdO T H m od a B code S cs ∧ Bnd B S ∧ B ≤ 90000 ∧
  ∀ H', MdO T H' m od a (B + 1) code (S.ticket x) cs → Evo T H T H' → Q (.int S.made) H'
theorem sc_law_ticket : FnScope ["run", "name"] ["run", "name"] (defScope s_law_ticket) := ⟨rfl, rfl, rfl, by decide +kernel, rfl, by decide +kernel, by decide +kernel⟩
theorem D_law_ticket (T : Tx K mg) : Def1 P w K mg base 1 "_law_ticket" ["run", "name"] spTicket := by
  refine T.mk1 (st := s_law_ticket) 20 20 rfl rfl sc_law_ticket (fun _ _ _ _ _ _ us hl => match us, hl with | [_, _], _ => rfl) (fun vs H Q E h => ?_) (fun cdv A outer s H vs Q E hr h => ?_)
  · obtain ⟨_, _, _, _, _, _, _, _, _, rfl, _⟩ := h
    rfl
  obtain ⟨T, m, od, a, B, code, S, cs, x, rfl, ⟨c, nm, op, dn, lt, aw, h, ho⟩, hB, hB9, k⟩ := h
  have hu := hu_of hr
  refine ⟨_, (pss_cons (ps_dput hu (pv 0) pe_str (pe_op op_add (pe_dget hu (pv 0) pe_str (fun _ _ => rfl)) pe_int) rfl)
    (pss_cons (ps_expr (pe_bm PySem.F.plainAttrs_list PySem.F.slot_list_append PySem.F.type_list_append mt_append (pe_dget hu (pv 0) pe_str (fun _ _ => rfl)) (pa_cons (pe_op op_sub (pe_dget hu (pv 0) pe_str (fun _ _ => rfl)) pe_int) pa_nil)))
    (pss_cons (ps_dput hu (pe_dget hu (pv 0) pe_str (fun _ _ => rfl)) (pv 1) (pe_op op_sub (pe_dget hu (pv 0) pe_str (fun _ _ => rfl)) pe_int) rfl)
    (pss_one (ps_ret (pe_op op_sub (pe_dget hu (pv 0) pe_str (fun _ _ => rfl)) pe_int)))))), ?_⟩
  refine ⟨_, rfl, m, _, rfl, dget_s h.hm rfl, _, _, rfl, rfl, _, rfl, m, _, rfl, dput_s h.hm mdlen, ?_⟩
  have h1 := h.put a (S.setMade (S.made + 1)) (kvs := putK (mdD c a nm op dn lt aw S) (Sum.inr "made") (.int ((S.made : Int) + 1))) rfl
  have o1 := h.putO ho (kvs := putK (mdD c a nm op dn lt aw S) (Sum.inr "made") (.int ((S.made : Int) + 1)))
  have e0 : ((S.made + 1 : Nat) : Int) - 1 = (S.made : Int) := by omega
  refine ⟨_, rfl, m, _, rfl, dget_s h1.hm rfl, tyL h1.co.ho, _, rfl, m, _, rfl, dget_s h1.hm rfl, _, _, rfl, rfl, op, _, V.int S.made, rfl, congrArg (fun z => [V.int z]) e0, h1.co.ho, ?_, ?_⟩
  · have := hB.op
    show (S.opn.map V.int).length < sizeLine
    rw [List.length_map]
    exact szB (by omega)
  have h2 := h1.addO S.made
  have o2 := h1.opO o1 (o := .lst (S.opn.map V.int ++ [V.int S.made]))
  have h20 := h2
  obtain ⟨kvs, n1, n2, _⟩ := h20.co.hn
  have h3 := h2.setN n1 x (some (S.made : Int))
  have o3 := h2.nmO o2 (kvs := putK kvs (Sum.inr x) (.int S.made))
  refine ⟨_, rfl, m, _, rfl, dget_s h2.hm rfl, _, _, rfl, rfl, _, rfl, m, _, rfl, dget_s h2.hm rfl, _, rfl, nm, _, rfl, dput_v n1 (szB (by omega)) (congrArg V.int e0), ?_⟩
  refine ⟨_, rfl, m, _, rfl, dget_s h3.hm rfl, _, _, rfl, rfl, ?_⟩
  show Q (.int (((S.made + 1 : Nat) : Int) - 1)) _
  rw [e0]
  exact k _ ⟨c, nm, op, dn, lt, aw, h3, o3⟩ ((h.putE).trans ((h1.opE).trans h2.nmE))
/-! the end -/
def spEnded : Sp := fun vs H Q _ => ∃ (T : Tg) (m od : Addr) (a : Int) (B : Nat) (code : List CE) (S : AS) (cs : List Cmd) (o : Option Int), vs = [.ref m, wv o, .ref od] ∧ MdO T H m od a B code S cs ∧ cs.length ≤ 90000 ∧
  ∀ T' H', MdO T' H' m od a B code (S.ended o) (cs ++ [[.str "end", wv o]]) → Evo T H T' H' → Q .non H'
theorem sc_law_ended : FnScope ["run", "worth", "orders"] ["run", "worth", "orders"] (defScope s_law_ended) := ⟨rfl, rfl, rfl, by decide +kernel, rfl, by decide +kernel, by decide +kernel⟩
theorem D_law_ended (T : Tx K mg) : Def1 P w K mg base 1 "_law_ended" ["run", "worth", "orders"] spEnded := by
  refine T.mk1 (st := s_law_ended) 21 21 rfl rfl sc_law_ended (fun _ _ _ _ _ _ us hl => match us, hl with | [_, _, _], _ => rfl) (fun vs H Q E h => ?_) (fun cdv A outer s H vs Q E hr h => ?_)
  · obtain ⟨_, _, _, _, _, _, _, _, _, rfl, _⟩ := h
    rfl
  obtain ⟨T, m, od, a, B, code, S, cs, o, rfl, ⟨c, nm, op, dn, lt, aw, h, ho⟩, hl, k⟩ := h
  have hu := hu_of hr
  refine ⟨_, (pss_cons (ps_dput hu (pv 0) pe_str pe_str rfl)
    (pss_cons (ps_dput hu (pv 0) pe_str (pv 1) rfl)
    (pss_cons (ps_dput hu (pv 0) pe_str (pe_lst pa_nil) rfl)
    (pss_one (ps_expr (pe_bm PySem.F.plainAttrs_list PySem.F.slot_list_append PySem.F.type_list_append mt_append (pv 2) (pa_cons (pe_tup (pa_cons pe_str (pa_cons (pv 1) pa_nil))) pa_nil))))))), ?_⟩
  refine ⟨_, rfl, m, _, rfl, dput_s h.hm mdlen, ?_⟩
  have h1 := h.put a (S.setM .ended) (kvs := putK (mdD c a nm op dn lt aw S) (Sum.inr "mode") (.str "ended")) rfl
  have o1 := h.putO ho (kvs := putK (mdD c a nm op dn lt aw S) (Sum.inr "mode") (.str "ended"))
  refine ⟨_, rfl, _, rfl, m, _, rfl, dput_s h1.hm mdlen, ?_⟩
  have h2 := h1.put a ((S.setM .ended).setOut o) (kvs := putK (mdD c a nm op dn lt aw (S.setM .ended)) (Sum.inr "outcome") (wv o)) rfl
  have o2 := h1.putO o1 (kvs := putK (mdD c a nm op dn lt aw (S.setM .ended)) (Sum.inr "outcome") (wv o))
  refine ⟨Nat.zero_le _, fun p hp => ?_⟩
  have h3 := h2.newO hp (kvs := putK (mdD c a nm op dn lt aw ((S.setM .ended).setOut o)) (Sum.inr "open") (.ref p)) [] rfl
  have o3 := h2.newR o2 hp (t := .op) (o := .lst []) (kvs := putK (mdD c a nm op dn lt aw ((S.setM .ended).setOut o)) (Sum.inr "open") (.ref p))
  refine ⟨_, rfl, m, _, rfl, dput_s (same_new hp _ _ _ h2.hm) mdlen, ?_⟩
  obtain ⟨as, a1, a2⟩ := o3.lst
  refine ⟨_, rfl, tyL a1, _, rfl, by show 2 ≤ sizeLine; decide, fun q hq => ?_⟩
  have nq : od ≠ q := ne_of_none a1 hq
  refine ⟨od, _, _, rfl, rfl, same_new hq _ _ _ a1, ?_, ?_⟩
  · rw [List.length_map, a2]
    exact szB (by omega)
  have h4 := h3.same (same_new hq (.tup [.str "end", wv o]))
  have o4 := o3.same (same_new hq (.tup [.str "end", wv o]))
  have o5 := o4.add (same_new hq _ _ _ a1) upd_same
  refine k _ _ ⟨c, nm, p, dn, lt, aw, h4.ord o4, o5⟩ ((h.putE).trans ((h1.putE).trans ((h2.newE hp).trans ((Evo.same (same_new hq _)).trans o4.evo))))
end
end L2.K17

set_option maxHeartbeats 4000000
/-! the law's model: a statement done at once -/
namespace L2.K17
open PySem L2
section
variable {P : Program} {w : World} {K : PySem.W.Frag} {mg : Str → Option Value} {base : Heap}
def Simp.isPlain : Simp → Prop
  | .wait _ _ => False
  | .hear _ _ => False
  | .fin _ => False
  | _ => True
def spLPlain : Sp := fun vs H Q _ => ∃ (T : Tg) (m od sp : Addr) (a : Int) (B : Nat) (code : List CE) (S : AS) (cs : List Cmd) (s : Simp) (us : List V), vs = [.ref m, .ref sp, .ref od] ∧ H sp = some (.tup us) ∧ SimpH H s us ∧ s.ok ∧ s.isPlain ∧
  MdO T H m od a B code S cs ∧ Bnd B S ∧ B ≤ 90000 ∧ cs.length ≤ 90000 ∧
  ∀ H', MdO T H' m od a (B + 1) code (doPlain S s).1 (cs ++ (doPlain S s).2) → Evo T H T H' → Q .non H'
theorem num0_t {o : Option Int} (c : decide (num0 o ≠ 0) = true) : wv o = .int (num0 o) := by
  cases o with
  | none => exact absurd c (by decide)
  | some n => rfl
theorem num0_f {o : Option Int} (c : ¬ decide (num0 o ≠ 0) = true) : V.int 0 = .int (num0 o) := by
  by_cases h : num0 o = 0
  · rw [h]
  · exact absurd (decide_eq_true h) c
theorem sc_law_do_plain : FnScope ["run", "some", "orders", "word", "worth", "due"] ["run", "some", "orders"] (defScope s_law_do_plain) := ⟨rfl, rfl, rfl, by decide +kernel, rfl, by decide +kernel, by decide +kernel⟩
theorem D_law_do_plain (T : Tx K mg) : Def1 P w K mg base 6 "_law_do_plain" ["run", "some", "orders"] spLPlain := by
  have D_law_says : Def1 P w K mg base 5 "_law_says" ["saying", "run"] (spLSays 4) := D_law_says T 4
  have D_law_ticket : Def1 P w K mg base 1 "_law_ticket" ["run", "name"] spTicket := D_law_ticket T
  refine T.mk1 (st := s_law_do_plain) 22 22 rfl rfl sc_law_do_plain (fun _ _ _ _ _ _ us hl => match us, hl with | [_, _, _], _ => rfl) (fun vs H Q E h => ?_) (fun cdv A outer s H vs Q E hr h => ?_)
  · obtain ⟨_, _, _, _, _, _, _, _, _, _, _, rfl, _⟩ := h
    rfl
  obtain ⟨U, m, od, sp, a, B, code, S, cs, s, us, rfl, hsp, hs, hok, hpl, ⟨c, nm, op, dn, lt, aw, h, ho⟩, hB, hB9, hc9, k⟩ := h
  have hu := hu_of hr
  have sm := hB.sm
  refine ⟨_, (pss_cons (ps_set (i := 3) sc_law_do_plain.nd rfl (Or.inl rfl) (pe_ix ix_tup (pv 1) pe_int (fun _ _ => rfl)))
    (pss_cons (ps_set (i := 4) sc_law_do_plain.nd rfl (Or.inl rfl) (pe_c D_law_says (hr.mono (by omega)) (pa_cons (pe_ix ix_tup (pv 1) (pe_un un_neg pe_int) (fun _ _ => rfl)) (pa_cons (pv 0) pa_nil))))
    (pss_one (ps_if (pt_cmpR op_eq (pv 3) pe_str (nomark _)) (pss_one (ps_dput hu (pe_dget hu (pv 0) pe_str (fun _ _ => rfl)) (pe_ix ix_tup (pv 1) pe_int (fun _ _ => rfl)) (pv 4) rfl)) (pss_one (ps_if (pt_cmpR op_eq (pv 3) pe_str (nomark _)) (pss_cons (ps_set (i := 5) sc_law_do_plain.nd rfl (Or.inl rfl) (pe_callB (call_min2 rfl) (by rfl) T.f_min (by decide +kernel) (pa_cons (pe_op op_pow pe_int pe_int) (pa_cons (pe_op op_add (pe_dget hu (pv 0) pe_str (fun _ _ => rfl)) (pe_callB (call_max2 rfl) (by rfl) T.f_max (by decide +kernel) (pa_cons pe_int (pa_cons (pe_orT (pv 4) (pe_one pe_int)) pa_nil)))) pa_nil))))
    (pss_one (ps_expr (pe_bm PySem.F.plainAttrs_list PySem.F.slot_list_append PySem.F.type_list_append mt_append (pv 2) (pa_cons (pe_tup (pa_cons pe_str (pa_cons (pe_c D_law_ticket (hr.mono (by omega)) (pa_cons (pv 0) (pa_cons (pe_ix ix_tup (pv 1) pe_int (fun _ _ => rfl)) pa_nil))) (pa_cons (pv 5) pa_nil)))) pa_nil))))) (pss_one (ps_if (pt_cmpR op_eq (pv 3) pe_str (nomark _)) (pss_one (ps_expr (pe_bm PySem.F.plainAttrs_list PySem.F.slot_list_append PySem.F.type_list_append mt_append (pv 2) (pa_cons (pe_tup (pa_cons pe_str (pa_cons (pe_c D_law_says (hr.mono (by omega)) (pa_cons (pe_ix ix_tup (pv 1) pe_int (fun _ _ => rfl)) (pa_cons (pv 0) pa_nil))) (pa_cons (pe_ix ix_tup (pv 1) pe_int (fun _ _ => rfl)) (pa_cons (pv 4) pa_nil))))) pa_nil)))) (pss_one (ps_if (pt_cmpR op_eq (pv 3) pe_str (nomark _)) (pss_one (ps_if (pt_cmpR op_in_seq (pv 4) (pe_dget hu (pv 0) pe_str (fun _ _ => rfl)) rfl) (pss_cons (ps_expr (pe_bm PySem.F.plainAttrs_list PySem.F.slot_list_remove PySem.F.type_list_remove mt_remove (pe_dget hu (pv 0) pe_str (fun _ _ => rfl)) (pa_cons (pv 4) pa_nil)))
    (pss_one (ps_expr (pe_bm PySem.F.plainAttrs_list PySem.F.slot_list_append PySem.F.type_list_append mt_append (pv 2) (pa_cons (pe_tup (pa_cons pe_str (pa_cons (pv 4) pa_nil))) pa_nil))))) pss_nil)) (pss_one (ps_expr (pe_bm PySem.F.plainAttrs_list PySem.F.slot_list_append PySem.F.type_list_append mt_append (pv 2) (pa_cons (pe_tup (pa_cons (pv 3) (pa_cons (pe_c D_law_ticket (hr.mono (by omega)) (pa_cons (pv 0) (pa_cons (pe_ix ix_tup (pv 1) pe_int (fun _ _ => rfl)) pa_nil))) (pa_cons (pe_ix ix_tup (pv 1) pe_int (fun _ _ => rfl)) (pa_cons (pv 4) pa_nil))))) pa_nil)))))))))))))), ?_⟩
  cases s with
  | wait _ _ => exact hpl.elim
  | hear _ _ => exact hpl.elim
  | fin _ => exact hpl.elim
  | set x e =>
    obtain ⟨u, rfl, hq⟩ := hs
    refine ⟨_, rfl, sp, _, _, _, rfl, rfl, SqT.of hsp, rfl, ?_⟩
    refine ⟨_, rfl, _, rfl, sp, _, _, _, rfl, rfl, SqT.of hsp, rfl, _, rfl, ?_⟩
    refine ⟨e, u, m, S, rfl, hq, hok.2, hok.1, h.env, sm, fun H1 g1 => ?_⟩
    have h1 := h.same g1
    have o1 := ho.same g1
    have h10 := h1
    obtain ⟨kvs, n1, n2, _⟩ := h10.co.hn
    refine ⟨_, rfl, rfl, _, rfl, iteT ?_⟩
    refine ⟨_, rfl, _, rfl, m, _, rfl, dget_s h1.hm rfl, _, rfl, sp, _, _, _, rfl, rfl, SqT.of (g1 _ _ hsp), rfl, nm, _, rfl, dput_s n1 (szB (by omega)), ?_⟩
    refine k _ ?_ ((Evo.same g1).trans h1.nmE)
    show MdO U _ m od a (B + 1) code (S.setN x (S.say e)) (cs ++ [])
    rw [List.append_nil]
    exact ⟨c, nm, op, dn, lt, aw, h1.setN n1 x (S.say e), h1.nmO o1⟩
  | order b x y e =>
    obtain ⟨u, rfl, hq⟩ := hs
    refine ⟨_, rfl, sp, _, _, _, rfl, rfl, SqT.of hsp, rfl, ?_⟩
    refine ⟨_, rfl, _, rfl, sp, _, _, _, rfl, rfl, SqT.of hsp, rfl, _, rfl, ?_⟩
    refine ⟨e, u, m, S, rfl, hq, hok.2, hok.1, h.env, sm, fun H1 g1 => ?_⟩
    have h1 := h.same g1
    have o1 := ho.same g1
    obtain ⟨as1, a11, a12⟩ := o1.lst
    have kb : ∀ z : Str, mkW true ≠ z → mkW false ≠ z → decide (V.str (mkW b) = V.str z) = false := fun z q1 q2 => decide_eq_false fun q => by
      cases b
      · exact q2 (V.str.inj q)
      · exact q1 (V.str.inj q)
    refine ⟨_, rfl, rfl, _, rfl, ?_⟩
    rw [kb _ (by decide +kernel) (by decide +kernel)]
    refine iteF ⟨_, rfl, rfl, _, rfl, ?_⟩
    rw [kb _ (by decide +kernel) (by decide +kernel)]
    refine iteF ⟨_, rfl, rfl, _, rfl, ?_⟩
    rw [kb _ (by decide +kernel) (by decide +kernel)]
    refine iteF ⟨_, rfl, rfl, _, rfl, ?_⟩
    rw [kb _ (by decide +kernel) (by decide +kernel)]
    refine iteF ?_
    refine ⟨_, rfl, tyL a11, _, rfl, _, rfl, _, rfl, sp, _, _, _, rfl, rfl, SqT.of (g1 _ _ hsp), rfl, ?_⟩
    refine ⟨U, m, od, a, B, code, S, cs, x, rfl, ⟨c, nm, op, dn, lt, aw, h1, o1⟩, hB, hB9, fun H2 ⟨c', nm', op', dn', lt', aw', h2, o2⟩ e2 => ?_⟩
    obtain ⟨as, b1, b2⟩ := o2.lst
    refine ⟨_, rfl, sp, _, _, _, rfl, rfl, SqT.of (e2.tup _ _ (g1 _ _ hsp)), rfl, _, rfl, by show 4 ≤ sizeLine; decide, fun q hq => ?_⟩
    refine ⟨od, _, _, rfl, rfl, same_new hq _ _ _ b1, by rw [List.length_map, b2]; exact szB (by omega), ?_⟩
    have s3 := same_new hq (.tup [.str (mkW b), .int S.made, .str y, wv (S.say e)])
    have o3 := o2.same s3
    exact k _ ⟨c', nm', op', dn', lt', aw', (h2.same s3).ord o3, o3.add (s3 _ _ b1) upd_same⟩ ((Evo.same g1).trans (e2.trans ((Evo.same s3).trans o3.evo)))
  | timer x e =>
    obtain ⟨u, rfl, hq⟩ := hs
    refine ⟨_, rfl, sp, _, _, _, rfl, rfl, SqT.of hsp, rfl, ?_⟩
    refine ⟨_, rfl, _, rfl, sp, _, _, _, rfl, rfl, SqT.of hsp, rfl, _, rfl, ?_⟩
    refine ⟨e, u, m, S, rfl, hq, hok.2, hok.1, h.env, sm, fun H1 g1 => ?_⟩
    have h1 := h.same g1
    have o1 := ho.same g1
    obtain ⟨as1, a11, a12⟩ := o1.lst
    refine ⟨_, rfl, rfl, _, rfl, iteF ⟨_, rfl, rfl, _, rfl, iteT ?_⟩⟩
    refine ⟨_, _, rfl, rfl, ⟨by decide, by decide, by decide⟩, _, rfl, m, _, rfl, dget_s h1.hm rfl, _, rfl, _, tru_w _, ?_⟩
    refine ite2 (fun ct => ?_) (fun ct => ?_)
    · refine ⟨0, num0 (S.say e), by rw [num0_t ct], _, _, rfl, rfl, _, _, rfl, ?_⟩
      refine ⟨_, rfl, tyL a11, _, rfl, _, rfl, sp, _, _, _, rfl, rfl, SqT.of (g1 _ _ hsp), rfl, ?_⟩
      refine ⟨U, m, od, a, B, code, S, cs, x, rfl, ⟨c, nm, op, dn, lt, aw, h1, o1⟩, hB, hB9, fun H2 ⟨c', nm', op', dn', lt', aw', h2, o2⟩ e2 => ?_⟩
      obtain ⟨as, b1, b2⟩ := o2.lst
      refine ⟨_, rfl, by show 3 ≤ sizeLine; decide, fun q hq => ?_⟩
      refine ⟨od, _, _, rfl, rfl, same_new hq _ _ _ b1, by rw [List.length_map, b2]; exact szB (by omega), ?_⟩
      have s3 := same_new hq (.tup [.str "timer", .int S.made, .int (S.due e)])
      have o3 := o2.same s3
      exact k _ ⟨c', nm', op', dn', lt', aw', (h2.same s3).ord o3, o3.add (s3 _ _ b1) upd_same⟩ ((Evo.same g1).trans (e2.trans ((Evo.same s3).trans o3.evo)))
    · refine ⟨0, num0 (S.say e), by rw [num0_f ct], _, _, rfl, rfl, _, _, rfl, ?_⟩
      refine ⟨_, rfl, tyL a11, _, rfl, _, rfl, sp, _, _, _, rfl, rfl, SqT.of (g1 _ _ hsp), rfl, ?_⟩
      refine ⟨U, m, od, a, B, code, S, cs, x, rfl, ⟨c, nm, op, dn, lt, aw, h1, o1⟩, hB, hB9, fun H2 ⟨c', nm', op', dn', lt', aw', h2, o2⟩ e2 => ?_⟩
      obtain ⟨as, b1, b2⟩ := o2.lst
      refine ⟨_, rfl, by show 3 ≤ sizeLine; decide, fun q hq => ?_⟩
      refine ⟨od, _, _, rfl, rfl, same_new hq _ _ _ b1, by rw [List.length_map, b2]; exact szB (by omega), ?_⟩
      have s3 := same_new hq (.tup [.str "timer", .int S.made, .int (S.due e)])
      have o3 := o2.same s3
      exact k _ ⟨c', nm', op', dn', lt', aw', (h2.same s3).ord o3, o3.add (s3 _ _ b1) upd_same⟩ ((Evo.same g1).trans (e2.trans ((Evo.same s3).trans o3.evo)))
  | send e1 y e =>
    obtain ⟨u1, u, rfl, hq1, hq⟩ := hs
    refine ⟨_, rfl, sp, _, _, _, rfl, rfl, SqT.of hsp, rfl, ?_⟩
    refine ⟨_, rfl, _, rfl, sp, _, _, _, rfl, rfl, SqT.of hsp, rfl, _, rfl, ?_⟩
    refine ⟨e, u, m, S, rfl, hq, hok.2.2, hok.2.1, h.env, sm, fun H1 g1 => ?_⟩
    have h1 := h.same g1
    have o1 := ho.same g1
    obtain ⟨as1, a11, a12⟩ := o1.lst
    refine ⟨_, rfl, rfl, _, rfl, iteF ⟨_, rfl, rfl, _, rfl, iteF ⟨_, rfl, rfl, _, rfl, iteT ?_⟩⟩⟩
    refine ⟨_, rfl, tyL a11, _, rfl, sp, _, _, _, rfl, rfl, SqT.of (g1 _ _ hsp), rfl, _, rfl, ?_⟩
    refine ⟨e1, u1, m, S, rfl, hq1.mono (TupS.of_same g1), hok.1.2, hok.1.1, h1.env, sm, fun H2 g2 => ?_⟩
    have g := g1.trans g2
    have h2 := h.same g
    have o2 := ho.same g
    obtain ⟨as, b1, b2⟩ := o2.lst
    refine ⟨_, rfl, sp, _, _, _, rfl, rfl, SqT.of (g _ _ hsp), rfl, _, rfl, by show 4 ≤ sizeLine; decide, fun q hq => ?_⟩
    refine ⟨od, _, _, rfl, rfl, same_new hq _ _ _ b1, by rw [List.length_map, b2]; exact szB (by omega), ?_⟩
    have s3 := same_new hq (.tup [.str "send", wv (S.say e1), .str y, wv (S.say e)])
    have o3 := o2.same s3
    exact k _ ⟨c, nm, op, dn, lt, aw, ((h2.same s3).ord o3).le (Nat.le_succ B), o3.add (s3 _ _ b1) upd_same⟩ ((Evo.same g).trans ((Evo.same s3).trans o3.evo))
  | drop e =>
    obtain ⟨u, rfl, hq⟩ := hs
    refine ⟨_, rfl, sp, _, _, _, rfl, rfl, SqT.of hsp, rfl, ?_⟩
    refine ⟨_, rfl, _, rfl, sp, _, _, _, rfl, rfl, SqT.of hsp, rfl, _, rfl, ?_⟩
    refine ⟨e, u, m, S, rfl, hq, hok.2, hok.1, h.env, sm, fun H1 g1 => ?_⟩
    have h1 := h.same g1
    have o1 := ho.same g1
    refine ⟨_, rfl, rfl, _, rfl, iteF ⟨_, rfl, rfl, _, rfl, iteF ⟨_, rfl, rfl, _, rfl, iteF ⟨_, rfl, rfl, _, rfl, iteT ?_⟩⟩⟩⟩
    have kd : doPlain S (.drop e) = doDrop S (S.say e) := rfl
    rw [kd] at k
    refine ⟨_, rfl, _, rfl, m, _, rfl, dget_s h1.hm rfl, op, _, rfl, .inl (SqL.of h1.co.ho), flat_w _, flat_is _, _, rfl, ?_⟩
    cases hx : S.say e with
    | none =>
      rw [hx] at k
      rw [show inV (wv none) (S.opn.map V.int) = false by rw [inV_i]; exact decide_eq_false fun z => by simp at z]
      refine iteF ?_
      refine k _ ?_ (Evo.same g1)
      show MdO U _ m od a (B + 1) code S (cs ++ [])
      rw [List.append_nil]
      exact ⟨c, nm, op, dn, lt, aw, h1.le (Nat.le_succ B), o1⟩
    | some t =>
      rw [hx] at k
      rw [show inV (wv (some t)) (S.opn.map V.int) = decide (t ∈ S.opn) from inV_t t S.opn]
      by_cases ct : t ∈ S.opn
      · rw [decide_eq_true ct]
        obtain ⟨j, j1, j2, j3, j4⟩ := first_at ct
        have kt : doDrop S (some t) = (S.setO (S.opn.eraseIdx j), [[.str "drop", .int t]]) := by
          rw [j4]
          exact if_pos ct
        rw [kt] at k
        refine iteT ?_
        refine ⟨_, rfl, m, _, rfl, dget_s h1.hm rfl, tyL h1.co.ho, _, rfl, op, S.opn, t, j, rfl, rfl, h1.co.ho, j2, j3, ?_⟩
        have h2 := h1.setO (S.opn.eraseIdx j)
        have o2 := h1.opO o1 (o := .lst ((S.opn.eraseIdx j).map V.int))
        obtain ⟨as, b1, b2⟩ := o2.lst
        refine ⟨_, rfl, tyL b1, _, rfl, by show 2 ≤ sizeLine; decide, fun q hq => ?_⟩
        refine ⟨od, _, _, rfl, rfl, same_new hq _ _ _ b1, by rw [List.length_map, b2]; exact szB (by omega), ?_⟩
        have s3 := same_new hq (.tup [.str "drop", .int t])
        have o3 := o2.same s3
        exact k _ ⟨c, nm, op, dn, lt, aw, ((h2.same s3).ord o3).le (Nat.le_succ B), o3.add (s3 _ _ b1) upd_same⟩ ((Evo.same g1).trans (h1.opE.trans ((Evo.same s3).trans o3.evo)))
      · rw [decide_eq_false ct]
        have kt : doDrop S (some t) = (S, []) := if_neg ct
        rw [kt] at k
        refine iteF ?_
        refine k _ ?_ (Evo.same g1)
        show MdO U _ m od a (B + 1) code S (cs ++ [])
        rw [List.append_nil]
        exact ⟨c, nm, op, dn, lt, aw, h1.le (Nat.le_succ B), o1⟩
end
end L2.K17

set_option maxHeartbeats 4000000
/-! the law's model: wait -/
namespace L2.K17
open PySem L2
section
variable {P : Program} {w : World} {K : PySem.W.Frag} {mg : Str → Option Value} {base : Heap}
theorem take_succ {α : Type} {l : List α} {i : Nat} {x : α} (h : l[i]? = some x) : l.take (i + 1) = l.take i ++ [x] := by
  rw [List.take_succ, h]
  rfl
theorem SayH.same {H H' : Hp} {e : Say} {v : V} (h : SayH H e v) (s : Same H H') : SayH H' e v := h.mono (TupS.of_same s)
/-- what the worths' list holds at a turn -/
def WsAt (S : AS) (es : List Say) (H0 : Hp) (D : Addr) (i : Nat) (H : Hp) : Prop := Same H0 H ∧ H D = some (.lst (((es.take i).map S.say).map wv))
/-- the done ones that are asked for -/
def RdAt (S : AS) (es : List Say) (H0 : Hp) (D : Addr) (i : Nat) (H : Hp) : Prop := Same H0 H ∧ H D = some (.lst ((((S.done.take i).filter fun p => decide (some p.1 ∈ es.map S.say)).map (·.1)).map V.int))
/-- the open ones that are asked for -/
def AwAt (S : AS) (es : List Say) (H0 : Hp) (D : Addr) (i : Nat) (H : Hp) : Prop := Same H0 H ∧ H D = some (.lst (((S.opn.take i).filter fun t => decide (some t ∈ es.map S.say)).map V.int))
theorem WsAt.next {S : AS} {es : List Say} {H0 H H1 : Hp} {D : Addr} {i : Nat} {e : Say} (h0 : H0 D = none) (h : WsAt S es H0 D i H) (he : es[i]? = some e) (s : Same H H1) :
    H1 D = some (.lst (((es.take i).map S.say).map wv)) ∧ WsAt S es H0 D (i + 1) (upd H1 D (.lst (((es.take i).map S.say).map wv ++ [wv (S.say e)]))) := by
  refine ⟨s _ _ h.2, same_mut (h.1.trans s) h0, ?_⟩
  rw [upd_same, take_succ he, List.map_append, List.map_append]
  rfl
theorem RdAt.yes {S : AS} {es : List Say} {H0 H : Hp} {D : Addr} {i : Nat} {p : Int × Option Int} (h0 : H0 D = none) (h : RdAt S es H0 D i H) (hp : S.done[i]? = some p) (c : some p.1 ∈ es.map S.say) :
    RdAt S es H0 D (i + 1) (upd H D (.lst ((((S.done.take i).filter fun p => decide (some p.1 ∈ es.map S.say)).map (·.1)).map V.int ++ [V.int p.1]))) := by
  refine ⟨same_mut h.1 h0, ?_⟩
  rw [upd_same, take_succ hp, List.filter_append, List.filter_cons, if_pos (decide_eq_true c), List.map_append, List.map_append]
  rfl
theorem RdAt.no {S : AS} {es : List Say} {H0 H : Hp} {D : Addr} {i : Nat} {p : Int × Option Int} (h : RdAt S es H0 D i H) (hp : S.done[i]? = some p) (c : ¬ some p.1 ∈ es.map S.say) : RdAt S es H0 D (i + 1) H := by
  refine ⟨h.1, ?_⟩
  rw [h.2, take_succ hp, List.filter_append, List.filter_cons, if_neg (by rw [decide_eq_false c]; decide), List.map_append, List.map_append]
  simp
theorem AwAt.yes {S : AS} {es : List Say} {H0 H : Hp} {D : Addr} {i : Nat} {t : Int} (h0 : H0 D = none) (h : AwAt S es H0 D i H) (hp : S.opn[i]? = some t) (c : some t ∈ es.map S.say) :
    AwAt S es H0 D (i + 1) (upd H D (.lst (((S.opn.take i).filter fun t => decide (some t ∈ es.map S.say)).map V.int ++ [V.int t]))) := by
  refine ⟨same_mut h.1 h0, ?_⟩
  rw [upd_same, take_succ hp, List.filter_append, List.filter_cons, if_pos (decide_eq_true c), List.map_append]
  rfl
theorem AwAt.no {S : AS} {es : List Say} {H0 H : Hp} {D : Addr} {i : Nat} {t : Int} (h : AwAt S es H0 D i H) (hp : S.opn[i]? = some t) (c : ¬ some t ∈ es.map S.say) : AwAt S es H0 D (i + 1) H := by
  refine ⟨h.1, ?_⟩
  rw [h.2, take_succ hp, List.filter_append, List.filter_cons, if_neg (by rw [decide_eq_false c]; decide), List.map_append]
  simp
def spLWait : Sp := fun vs H Q _ => ∃ (T : Tg) (m od sp : Addr) (a : Int) (B : Nat) (code : List CE) (S : AS) (cs : List Cmd) (x : Str) (es : List Say) (us : List V) (r : Blk), vs = [.ref m, .ref sp] ∧ H sp = some (.tup us) ∧ SimpH H (.wait x es) us ∧ (Simp.wait x es).ok ∧
  MdO T H m od a B code S cs ∧ Bnd B S ∧ B ≤ 90000 ∧
  ∀ T' H', Evo T H T' H' → (match stepWait S r x es with
    | .go S1 _ => MdO T' H' m od (a + 1) (B + 1) code S1 cs
    | .stop S1 _ => MdO T' H' m od a (B + 1) code S1 cs) → Q .non H'
theorem sc_law_do_wait : FnScope ["run", "some", "worths", "ready", "saying", "ticket", "worth"] ["run", "some"] (defScope s_law_do_wait) := ⟨rfl, rfl, rfl, by decide +kernel, rfl, by decide +kernel, by decide +kernel⟩
theorem D_law_do_wait (T : Tx K mg) : Def1 P w K mg base 6 "_law_do_wait" ["run", "some"] spLWait := by
  have D_law_says : Def1 P w K mg base 5 "_law_says" ["saying", "run"] (spLSays 4) := D_law_says T 4
  refine T.mk1 (st := s_law_do_wait) 23 23 rfl rfl sc_law_do_wait (fun _ _ _ _ _ _ us hl => match us, hl with | [_, _], _ => rfl) (fun vs H Q E h => ?_) (fun cdv A outer s H vs Q E hr h => ?_)
  · obtain ⟨_, _, _, _, _, _, _, _, _, _, _, _, _, rfl, _⟩ := h
    rfl
  obtain ⟨U, m, od, sp, a, B, code, S, cs, x, es, us, r, rfl, hsp, hs, hok, ⟨c, nm, op, dn, lt, aw, h, ho⟩, hB, hB9, k⟩ := h
  have hu := hu_of hr
  have sm := hB.sm
  refine ⟨_, (pss_cons (ps_set (i := 2) sc_law_do_wait.nd rfl (Or.inr rfl) (pe_lc (own := [("saying", 4)]) (g := gName 4) rfl sc_law_do_wait.nd (pi_tup (pe_ix ix_tup (pv 1) pe_int (fun _ _ => rfl))) (blkOk_by (own := [("saying", 4)]) (N := ["run", "some", "worths", "ready", "saying", "ticket", "worth"]) (sc := defScope s_law_do_wait) (by decide +kernel)) (fun _ _ _ _ _ => (pg_name (i := 4) sc_law_do_wait.nd rfl (Or.inl rfl))) (fun _ _ _ _ _ => pts_nil) (fun _ _ _ _ _ => (pe_c D_law_says (hr.mono (by omega)) (pa_cons (pv 4) (pa_cons (pv 0) pa_nil))))))
    (pss_cons (ps_setLc (i := 3) (own := [("ticket", 5), ("worth", 6)]) (g := gTup K 2 (gCons (gName 5) (gCons (gName 6) gNil))) rfl sc_law_do_wait.nd rfl rfl (sw_true rfl rfl rfl (by decide +kernel)) (pi_list (pe_dget hu (pv 0) pe_str (fun _ _ => rfl))) (blkOk_by (own := [("ticket", 5), ("worth", 6)]) (N := ["run", "some", "worths", "ready", "saying", "ticket", "worth"]) (sc := defScope s_law_do_wait) (by decide +kernel)) (fun _ _ _ _ _ => (pg_tup rfl (pgs_cons (pg_name (i := 5) sc_law_do_wait.nd rfl (Or.inl rfl)) (pgs_cons (pg_name (i := 6) sc_law_do_wait.nd rfl (Or.inl rfl)) pgs_nil)))) (fun _ _ _ _ _ => (pts_one (pt_cmpR (r := rIn K false) op_in_seq (pv 5) (pv 2) rfl))) (fun _ _ _ _ _ => (pv 5)))
    (pss_cons (ps_dput hu (pv 0) pe_str (pe_lc (own := [("ticket", 5)]) (g := gName 5) rfl sc_law_do_wait.nd (pi_list (pe_dget hu (pv 0) pe_str (fun _ _ => rfl))) (blkOk_by (own := [("ticket", 5)]) (N := ["run", "some", "worths", "ready", "saying", "ticket", "worth"]) (sc := defScope s_law_do_wait) (by decide +kernel)) (fun _ _ _ _ _ => (pg_name (i := 5) sc_law_do_wait.nd rfl (Or.inl rfl))) (fun _ _ _ _ _ => (pts_one (pt_cmpR (r := rIn K false) op_in_seq (pv 5) (pv 2) rfl))) (fun _ _ _ _ _ => (pv 5))) rfl)
    (pss_cons (ps_if (PW.pt (pw_and (pt_cmpR (op_eqD hr.units) (pv 3) (pe_lst pa_nil) (nomark _)) (pw_and1 (pt_cmpR (op_neD hr.units) (pe_dget hu (pv 0) pe_str (fun _ _ => rfl)) (pe_lst pa_nil) (nomark _))))) (pss_cons (ps_dput hu (pv 0) pe_str pe_str rfl)
    (pss_one ps_retN)) pss_nil)
    (pss_cons (ps_dput hu (pe_dget hu (pv 0) pe_str (fun _ _ => rfl)) (pe_ix ix_tup (pv 1) pe_int (fun _ _ => rfl)) (pe_ix ix_list (pe_op op_cat (pv 3) (pe_lst (pa_cons pe_non pa_nil))) pe_int (fun _ _ => rfl)) rfl)
    (pss_one (ps_dput hu (pv 0) pe_str (pe_op op_add (pe_dget hu (pv 0) pe_str (fun _ _ => rfl)) pe_int) rfl))))))), ?_⟩
  obtain ⟨wp, ws, rfl, hwp, hws⟩ := hs
  have hwl := hws.length
  -- worths
  refine ⟨_, rfl, sp, _, _, _, rfl, rfl, SqT.of hsp, rfl, wp, rfl, ⟨_, SqT.of hwp⟩, fun D1 hD1 => lc_tup (K := K) (a := wp) (xs := ws) (WsAt S es H D1) ⟨same_mut (Same.refl H) hD1, upd_same⟩ (fun i H' _ p => SqT.of (p.1 _ _ hwp)) ?_ ?_⟩
  · intro i v H' hi p
    obtain ⟨e, he, hv⟩ := hws.get hi
    have hes := hok.2
    have fit := hok.1 e (List.mem_of_getElem? he)
    refine ⟨rfl, _, rfl, _, rfl, ?_⟩
    refine ⟨e, v, m, S, rfl, hv.same p.1, fit.2, fit.1, h.env.same p.1, sm, fun H1 g1 => ?_⟩
    obtain ⟨z1, z2⟩ := p.next hD1 he g1
    refine ⟨_, z1, ?_, z2⟩
    rw [List.length_map, List.length_map, List.length_take]
    exact szB (by omega)
  intro H1 p1
  have e1 : (es.take ws.length) = es := List.take_of_length_le (by omega)
  obtain ⟨g1, w1⟩ := p1
  rw [e1] at w1
  -- ready
  have hd1 := h.co.hd.frame (TupS.of_same g1) fun o e => g1 _ _ e
  obtain ⟨as, hd2, hd3⟩ := hd1
  have hal := Paired.len hd3
  have hm1 := g1 _ _ h.hm
  refine ⟨_, rfl, m, _, rfl, dget_s hm1 rfl, dn, rfl, ⟨_, SqL.of hd2⟩, fun D2 hD2 => lc_list (K := K) (a := dn) (xs := as.map V.ref) (RdAt S es H1 D2) ⟨same_mut (Same.refl H1) hD2, upd_same⟩ (fun i H' _ p => SqL.of (p.1 _ _ hd2)) ?_ ?_⟩
  · intro i v H' hi p
    rw [List.getElem?_map] at hi
    obtain ⟨q, hq, rfl⟩ := Option.map_eq_some_iff.mp hi
    obtain ⟨d, hd, hqd⟩ := Paired.get_l hd3 hq
    refine ⟨q, _, rfl, SqT.of (p.1 _ _ hqd), rfl, _, _, rfl, _, _, rfl, rfl, rfl, ?_⟩
    refine ⟨_, rfl, _, rfl, D1, _, rfl, .inl (SqL.of (p.1 _ _ w1)), rfl, flat_ws _, _, rfl, ?_⟩
    rw [show (if false = true then !inV (V.int d.1) ((es.map S.say).map wv) else inV (V.int d.1) ((es.map S.say).map wv)) = decide (some d.1 ∈ es.map S.say) from inV_w (some d.1) _]
    by_cases cc : some d.1 ∈ es.map S.say
    · rw [decide_eq_true cc]
      refine iteT ⟨_, rfl, _, p.2, ?_, p.yes hD2 hd cc⟩
      have := List.length_filter_le (fun p => decide (some p.1 ∈ es.map S.say)) (S.done.take i)
      have := hB.dl
      rw [List.length_map, List.length_map]
      rw [List.length_take] at *
      exact szB (by omega)
    · rw [decide_eq_false cc]
      exact iteF (p.no hd cc)
  intro H2 p2
  obtain ⟨g2, w2⟩ := p2
  rw [List.length_map, show S.done.take as.length = S.done from List.take_of_length_le (by omega)] at w2
  have w2 : H2 D2 = some (.lst ((S.ready es).map V.int)) := w2
  have g12 := g1.trans g2
  -- awaited
  refine ⟨_, rfl, m, _, rfl, dget_s (g12 _ _ h.hm) rfl, op, rfl, ⟨_, SqL.of (g12 _ _ h.co.ho)⟩, fun D3 hD3 => lc_list (K := K) (a := op) (xs := S.opn.map V.int) (AwAt S es H2 D3) ⟨same_mut (Same.refl H2) hD3, upd_same⟩ (fun i H' _ p => SqL.of (p.1 _ _ (g12 _ _ h.co.ho))) ?_ ?_⟩
  · intro i v H' hi p
    rw [List.getElem?_map] at hi
    obtain ⟨t, ht, rfl⟩ := Option.map_eq_some_iff.mp hi
    refine ⟨rfl, _, rfl, _, rfl, D1, _, rfl, .inl (SqL.of (p.1 _ _ (g2 _ _ w1))), rfl, flat_ws _, _, rfl, ?_⟩
    rw [show (if false = true then !inV (V.int t) ((es.map S.say).map wv) else inV (V.int t) ((es.map S.say).map wv)) = decide (some t ∈ es.map S.say) from inV_w (some t) _]
    by_cases cc : some t ∈ es.map S.say
    · rw [decide_eq_true cc]
      refine iteT ⟨_, rfl, _, p.2, ?_, p.yes hD3 ht cc⟩
      have := List.length_filter_le (fun t => decide (some t ∈ es.map S.say)) (S.opn.take i)
      have := hB.op
      rw [List.length_map]
      rw [List.length_take] at *
      exact szB (by omega)
    · rw [decide_eq_false cc]
      exact iteF (p.no ht cc)
  intro H3 p3
  obtain ⟨g3, w3⟩ := p3
  rw [List.length_map, show S.opn.take S.opn.length = S.opn from List.take_of_length_le (Nat.le_refl _)] at w3
  have w3 : H3 D3 = some (.lst ((S.await es).map V.int)) := w3
  have h2 := h.same g12
  have o2 := ho.same g12
  obtain ⟨h3, o3, e3⟩ := h2.newWS o2 hD3 g3 (kvs := putK (mdD c a nm op dn lt aw S) (Sum.inr "awaited") (.ref D3)) (S.await es) w3 rfl
  have n2 : D2 ≠ m := ne_of w2 h2.hm (by intro z; cases z)
  refine ⟨_, rfl, m, _, rfl, dput_s (g3 _ _ h2.hm) mdlen, ?_⟩
  -- the test
  have w2' : upd H3 m (.dK (putK (mdD c a nm op dn lt aw S) (Sum.inr "awaited") (.ref D3))) D2 = some (.lst ((S.ready es).map V.int)) := (upd_ne n2).trans (g3 _ _ w2)
  have hsp3 := e3.tup _ _ (g12 _ _ hsp)
  have e03 := (Evo.same g12).trans e3
  have kg : S.ready es ≠ [] ∨ S.await es = [] → ∀ T' H', Evo U H T' H' → MdO T' H' m od (a + 1) (B + 1) code (((S.setW (S.await es)).setN x (S.ready es).head?).setK r) cs → Q .non H' := by
    intro cg T' H' ev md
    refine k T' H' ev ?_
    unfold stepWait
    cases e1 : S.ready es with
    | cons t l =>
      rw [e1] at md
      exact md
    | nil =>
      rw [e1] at md cg
      have e2 : S.await es = [] := cg.resolve_left (fun z => z rfl)
      rw [e2] at md ⊢
      exact md
  have hrl : (S.ready es).length ≤ 90000 := by
    have := List.length_filter_le (fun p => decide (some p.1 ∈ es.map S.say)) S.done
    have := hB.dl
    show ((S.done.filter fun p => decide (some p.1 ∈ es.map S.say)).map (·.1)).length ≤ 90000
    rw [List.length_map]
    omega
  have hat : atI ((S.ready es).map V.int ++ [V.non]) 0 = some (wv (S.ready es).head?) := by
    cases S.ready es with
    | nil => rfl
    | cons t l => exact atI_nat (j := 0) rfl
  refine ⟨_, rfl, Nat.zero_le _, fun q1 hq1 => eq_nilI (SqL.of (same_new hq1 _ _ _ w2')) (SqL.of upd_same) ⟨_, rfl, ?_⟩⟩
  have s1 := same_new hq1 (.lst [])
  have h4 := h3.same s1
  have o4 := o3.same s1
  have e4 := e03.trans (Evo.same s1)
  have w4 := s1 _ _ w2'
  have p4 := s1 _ _ hsp3
  by_cases c1 : S.ready es = []
  · rw [decide_eq_true c1]
    refine iteT ?_
    refine ⟨_, rfl, m, _, rfl, dget_s h4.hm rfl, Nat.zero_le _, fun q2 hq2 => ne_nilI (SqL.of (same_new hq2 _ _ _ h4.co.hw)) (SqL.of upd_same) ⟨_, rfl, ?_⟩⟩
    have s2 := same_new hq2 (.lst [])
    have h5 := h4.same s2
    have o5 := o4.same s2
    have e5 := e4.trans (Evo.same s2)
    have w5 := s2 _ _ w4
    have p5 := s2 _ _ p4
    show if (!decide (S.await es = [])) = true then _ else _
    by_cases c2 : S.await es = []
    · rw [decide_eq_true c2]
      refine iteF ?_
      have cg : S.ready es ≠ [] ∨ S.await es = [] := .inr c2
      refine ⟨_, rfl, by show 1 ≤ sizeLine; decide, fun q hq => ?_⟩
      have s6 := same_new hq (.lst [.non])
      refine ⟨D2, q, _, _, rfl, rfl, s6 _ _ w5, upd_same, ?_, fun q' hq' => ?_⟩
      · rw [List.length_map]
        exact szL (by show (S.ready es).length + 1 ≤ 100000; omega)
      have s7 := s6.trans (same_new hq' (.lst ((S.ready es).map V.int ++ [.non])))
      have h7 := h5.same s7
      have o7 := o5.same s7
      have h70 := h7
      obtain ⟨kvs, n1, n2, _⟩ := h70.co.hn
      refine ⟨q', _, _, _, rfl, rfl, SqL.of upd_same, hat, ?_⟩
      refine ⟨_, rfl, m, _, rfl, dget_s h7.hm rfl, _, rfl, sp, _, _, _, rfl, rfl, SqT.of (s7 _ _ p5), rfl, nm, _, rfl, dput_s n1 (szB (by omega)), ?_⟩
      have h8 := h7.setN n1 x (S.ready es).head?
      have o8 := h7.nmO o7 (kvs := putK kvs (Sum.inr x) (wv (S.ready es).head?))
      refine ⟨_, rfl, m, _, rfl, dget_s h8.hm rfl, _, _, rfl, rfl, _, rfl, m, _, rfl, dput_s h8.hm mdlen, ?_⟩
      have h9 := (h8.put (a + 1) ((S.setW (S.await es)).setN x (S.ready es).head?) (kvs := putK (mdD c a nm op dn lt D3 ((S.setW (S.await es)).setN x (S.ready es).head?)) (Sum.inr "at") (.int (a + 1))) rfl).setK r
      have o9 := h8.putO o8 (kvs := putK (mdD c a nm op dn lt D3 ((S.setW (S.await es)).setN x (S.ready es).head?)) (Sum.inr "at") (.int (a + 1)))
      exact kg cg _ _ (e5.trans ((Evo.same s7).trans (h7.nmE.trans h8.putE))) ⟨c, nm, op, dn, lt, D3, h9, o9⟩
    · rw [decide_eq_false c2]
      refine iteT ?_
      refine ⟨_, rfl, m, _, rfl, dput_s h5.hm mdlen, ?_⟩
      have h6 := h5.put a ((S.setW (S.await es)).setM .wait) (kvs := putK (mdD c a nm op dn lt D3 (S.setW (S.await es))) (Sum.inr "mode") (.str "wait")) rfl
      have o6 := h5.putO o5 (kvs := putK (mdD c a nm op dn lt D3 (S.setW (S.await es))) (Sum.inr "mode") (.str "wait"))
      refine k _ _ (e5.trans h5.putE) ?_
      unfold stepWait
      rw [c1]
      cases e2 : S.await es with
      | nil => exact absurd e2 c2
      | cons t l =>
        rw [e2] at h6 o6
        exact ⟨c, nm, op, dn, lt, D3, h6.le (Nat.le_succ B), o6⟩
  · rw [decide_eq_false c1]
    refine iteF (iteF ?_)
    have h5 := h4
    have o5 := o4
    have e5 := e4
    have w5 := w4
    have p5 := p4
    have cg : S.ready es ≠ [] ∨ S.await es = [] := .inl c1
    refine ⟨_, rfl, by show 1 ≤ sizeLine; decide, fun q hq => ?_⟩
    have s6 := same_new hq (.lst [.non])
    refine ⟨D2, q, _, _, rfl, rfl, s6 _ _ w5, upd_same, ?_, fun q' hq' => ?_⟩
    · rw [List.length_map]
      exact szL (by show (S.ready es).length + 1 ≤ 100000; omega)
    have s7 := s6.trans (same_new hq' (.lst ((S.ready es).map V.int ++ [.non])))
    have h7 := h5.same s7
    have o7 := o5.same s7
    have h70 := h7
    obtain ⟨kvs, n1, n2, _⟩ := h70.co.hn
    refine ⟨q', _, _, _, rfl, rfl, SqL.of upd_same, hat, ?_⟩
    refine ⟨_, rfl, m, _, rfl, dget_s h7.hm rfl, _, rfl, sp, _, _, _, rfl, rfl, SqT.of (s7 _ _ p5), rfl, nm, _, rfl, dput_s n1 (szB (by omega)), ?_⟩
    have h8 := h7.setN n1 x (S.ready es).head?
    have o8 := h7.nmO o7 (kvs := putK kvs (Sum.inr x) (wv (S.ready es).head?))
    refine ⟨_, rfl, m, _, rfl, dget_s h8.hm rfl, _, _, rfl, rfl, _, rfl, m, _, rfl, dput_s h8.hm mdlen, ?_⟩
    have h9 := (h8.put (a + 1) ((S.setW (S.await es)).setN x (S.ready es).head?) (kvs := putK (mdD c a nm op dn lt D3 ((S.setW (S.await es)).setN x (S.ready es).head?)) (Sum.inr "at") (.int (a + 1))) rfl).setK r
    have o9 := h8.putO o8 (kvs := putK (mdD c a nm op dn lt D3 ((S.setW (S.await es)).setN x (S.ready es).head?)) (Sum.inr "at") (.int (a + 1)))
    exact kg cg _ _ (e5.trans ((Evo.same s7).trans (h7.nmE.trans h8.putE))) ⟨c, nm, op, dn, lt, D3, h9, o9⟩
end
end L2.K17

set_option maxHeartbeats 4000000
/-! letters in the heap -/
namespace L2.K17
open PySem L2
theorem valV_dropK {κ : Type} [DecidableEq κ] (k j : κ) : ∀ kvs : List (κ × V), valV (dropK kvs k) j = if j = k then none else valV kvs j
  | [] => by
    split <;> rfl
  | p :: r => by
    have ih := valV_dropK k j r
    by_cases c : p.1 = k
    · rw [dropK_pos c, ih]
      by_cases d : j = k
      · rw [if_pos d, if_pos d]
      · rw [if_neg d, if_neg d, valV_neg fun z => d (z.symm.trans c)]
    · rw [dropK_neg c]
      by_cases d : p.1 = j
      · rw [valV_pos d, valV_pos d, if_neg fun z => c (d.trans z)]
      · rw [valV_neg d, valV_neg d, ih]
section
variable {T T1 : Tg} {H H1 : Hp} {nm op dn lt aw : Addr} {B : Nat} {st : Bool} {ol : List Int} {S : AS}
theorem LetsH.at_ {f : Str → List (Option Int)} {a : Addr} (h : LetsH T H a B st f) {kvs : List (Key × V)} (e : H a = some (.dK kvs)) (k : Str) : (valV kvs (Sum.inr k) = none ∧ f k = []) ∨
    ∃ l, valV kvs (Sum.inr k) = some (.ref l) ∧ T l = .le k ∧ H l = some (.lst ((f k).map wv)) ∧ (st = true → f k ≠ []) := by
  obtain ⟨kvs', e', _, h3⟩ := h
  rw [e] at e'
  cases e'
  exact h3 k
/-- the list at a key is changed -/
theorem LetsH.getD_ {f : Str → List (Option Int)} {a : Addr} (h : LetsH T H a B st f) {kvs : List (Key × V)} (e : H a = some (.dK kvs)) {q : Addr} (hq : H q = none) (y : Str) :
    ∃ z, (valV kvs (Sum.inr y)).getD (.ref q) = .ref z ∧ upd H q (.lst []) z = some (.lst ((f y).map wv)) := by
  rcases h.at_ e y with ⟨e1, e2⟩ | ⟨l, e1, _, e3, _⟩
  · rw [e1, e2]
    exact ⟨q, rfl, upd_same⟩
  · rw [e1]
    exact ⟨l, rfl, same_new hq _ _ _ e3⟩
theorem Core.letsL (h : Core T H nm op dn lt aw B st ol S) {kvs : List (Key × V)} (e : H lt = some (.dK kvs)) {k : Str} {l : Addr} (hv : valV kvs (Sum.inr k) = some (.ref l)) (ws : List (Option Int)) (hs : st = true → ws ≠ []) :
    Core T (upd H l (.lst (ws.map wv))) nm op dn lt aw B st ol (S.setL k ws) ∧ T l = .le k ∧ ∃ xs, H l = some (.lst xs) := by
  have hat := h.hl.at_ e k
  rw [hv] at hat
  rcases hat with ⟨z, _⟩ | ⟨l', e1, tl, hl, hs0⟩
  · cases z
  cases e1
  have k0 : TupS H (upd H l (.lst (ws.map wv))) := TupS.lst hl
  have ne : ∀ {a : Addr} {t : Tag}, T a = t → Tag.le k ≠ t → a ≠ l := fun ha hp e => hp (by rw [← ha, e]; exact tl.symm)
  have fr : ∀ {a : Addr} {t : Tag}, T a = t → Tag.le k ≠ t → ∀ u, H a = some u → upd H l (.lst (ws.map wv)) a = some u := fun ha hp u e => by rw [upd_ne (ne ha hp)]; exact e
  have nn : ∀ t : Tag, (t = .nm ∨ t = .op ∨ t = .dn ∨ t = .lt ∨ t = .aw) → Tag.le k ≠ t := fun t ht z => by
    rcases ht with rfl | rfl | rfl | rfl | rfl <;> cases z
  obtain ⟨kvs', e', hl2, hl3⟩ := h.hl
  rw [e] at e'
  cases e'
  refine ⟨⟨h.tn, h.hn.frame (fr h.tn (nn _ (by simp))), h.to, fr h.to (nn _ (by simp)) _ h.ho, h.td, h.hd.frame k0 (fr h.td (nn _ (by simp))), h.tl, ⟨kvs, fr h.tl (nn _ (by simp)) _ e, hl2, fun x => ?_⟩, h.tw, fr h.tw (nn _ (by simp)) _ h.hw⟩, tl, _, hl⟩
  by_cases c : x = k
  · subst c
    have ef : (S.setL x ws).lets x = ws := if_pos rfl
    rw [ef]
    exact .inr ⟨l, hv, tl, upd_same, hs⟩
  · have ef : (S.setL k ws).lets x = S.lets x := if_neg c
    rw [ef]
    rcases hl3 x with q | ⟨l2, q1, q2, q3, q4⟩
    · exact .inl q
    · exact .inr ⟨l2, q1, q2, fr q2 (by intro z; injection z with z; exact c z.symm) _ q3, q4⟩
/-- a key is given a new list -/
theorem Core.letsP (h : Core T H nm op dn lt aw B st ol S) {kvs : List (Key × V)} (e : H lt = some (.dK kvs)) {p : Addr} (hp : H p = none) (k : Str) (ws : List (Option Int)) (hs : st = true → ws ≠ []) :
    Core (setT T p (.le k)) (upd (upd H p (.lst (ws.map wv))) lt (.dK (putK kvs (Sum.inr k) (.ref p)))) nm op dn lt aw (B + 1) st ol (S.setL k ws) := by
  have q := h.new (o := .lst (ws.map wv)) (t := .le k) hp
  have eh := same_new hp (.lst (ws.map wv)) _ _ e
  have k0 : TupS (upd H p (.lst (ws.map wv))) (upd (upd H p (.lst (ws.map wv))) lt (.dK (putK kvs (Sum.inr k) (.ref p)))) := TupS.dK eh
  have ne : ∀ {a : Addr} {t : Tag}, setT T p (.le k) a = t → Tag.lt ≠ t → a ≠ lt := fun ha hp e => hp (by rw [← ha, e]; exact q.tl.symm)
  have fr : ∀ {a : Addr} {t : Tag}, setT T p (.le k) a = t → Tag.lt ≠ t → ∀ u, upd H p (.lst (ws.map wv)) a = some u → upd (upd H p (.lst (ws.map wv))) lt (.dK (putK kvs (Sum.inr k) (.ref p))) a = some u := fun ha hp u e => by rw [upd_ne (ne ha hp)]; exact e
  have nl : p ≠ lt := fun z => by
    rw [← z, hp] at e
    cases e
  obtain ⟨kvs', e', hl2, hl3⟩ := h.hl
  rw [e] at e'
  cases e'
  refine ⟨q.tn, (q.hn.frame (fr q.tn (by decide))).le (Nat.le_succ B), q.to, fr q.to (by decide) _ q.ho, q.td, q.hd.frame k0 (fr q.td (by decide)), q.tl, ⟨_, upd_same, Nat.le_trans (length_putK _ _ _) (Nat.succ_le_succ hl2), fun x => ?_⟩, q.tw, fr q.tw (by decide) _ q.hw⟩
  rw [valV_put]
  by_cases c : x = k
  · subst c
    have ef : (S.setL x ws).lets x = ws := if_pos rfl
    rw [ef, if_pos rfl]
    exact .inr ⟨p, rfl, setT_same, by rw [upd_ne nl]; exact upd_same, hs⟩
  · have ef : (S.setL k ws).lets x = S.lets x := if_neg c
    rw [ef, if_neg (fun z => c (Sum.inr.inj z))]
    rcases hl3 x with q0 | ⟨l2, q1, q2, q3, q4⟩
    · exact .inl q0
    · have np : l2 ≠ p := ne_of_none q3 hp
      have n2 : l2 ≠ lt := ne_tag q2 h.tl (by intro z; cases z)
      exact .inr ⟨l2, q1, by rw [setT_ne np]; exact q2, by rw [upd_ne n2, upd_ne np]; exact q3, q4⟩
/-- a key whose letters are none is dropped -/
theorem Core.letsD (h : Core T H nm op dn lt aw B false ol S) {kvs : List (Key × V)} (e : H lt = some (.dK kvs)) {k : Str} (h0 : S.lets k = []) : Core T (upd H lt (.dK (dropK kvs (Sum.inr k)))) nm op dn lt aw B false ol S := by
  have k0 : TupS H (upd H lt (.dK (dropK kvs (Sum.inr k)))) := TupS.dK e
  have ne : ∀ {a : Addr} {t : Tag}, T a = t → Tag.lt ≠ t → a ≠ lt := fun ha hp e => hp (by rw [← ha, e]; exact h.tl.symm)
  have fr : ∀ {a : Addr} {t : Tag}, T a = t → Tag.lt ≠ t → ∀ u, H a = some u → upd H lt (.dK (dropK kvs (Sum.inr k))) a = some u := fun ha hp u e => by rw [upd_ne (ne ha hp)]; exact e
  obtain ⟨kvs', e', hl2, hl3⟩ := h.hl
  rw [e] at e'
  cases e'
  refine ⟨h.tn, h.hn.frame (fr h.tn (by decide)), h.to, fr h.to (by decide) _ h.ho, h.td, h.hd.frame k0 (fr h.td (by decide)), h.tl, ⟨_, upd_same, Nat.le_trans (dropK_le _ _) hl2, fun x => ?_⟩, h.tw, fr h.tw (by decide) _ h.hw⟩
  rw [valV_dropK]
  by_cases c : x = k
  · subst c
    rw [if_pos rfl]
    exact .inl ⟨rfl, h0⟩
  · rw [if_neg (fun z => c (Sum.inr.inj z))]
    rcases hl3 x with q | ⟨l2, q1, q2, q3, q4⟩
    · exact .inl q
    · exact .inr ⟨l2, q1, q2, fr q2 (by intro z; cases z) _ q3, q4⟩
/-- one more is done -/
theorem Core.addD (h : Core T H nm op dn lt aw B st ol S) {as : List Addr} (e : H dn = some (.lst (as.map V.ref))) {p : Addr} {t : Int} {w : Option Int} (hp : H p = some (.tup [.int t, wv w])) :
    Core T (upd H dn (.lst (as.map V.ref ++ [V.ref p]))) nm op dn lt aw B st ol (S.setDone (S.done ++ [(t, w)])) := by
  have k0 : TupS H (upd H dn (.lst (as.map V.ref ++ [V.ref p]))) := TupS.lst e
  have ne : ∀ {a : Addr} {t : Tag}, T a = t → Tag.dn ≠ t → a ≠ dn := fun ha hp e => hp (by rw [← ha, e]; exact h.td.symm)
  have fr : ∀ {a : Addr} {t : Tag}, T a = t → Tag.dn ≠ t → ∀ u, H a = some u → upd H dn (.lst (as.map V.ref ++ [V.ref p])) a = some u := fun ha hp u e => by rw [upd_ne (ne ha hp)]; exact e
  obtain ⟨as', h1, h2⟩ := h.hd
  rw [e] at h1
  have e2 : as = as' := by
    have z : as.map V.ref = as'.map V.ref := by injection h1 with h1; injection h1
    exact (List.map_inj_right (fun x y q => by injection q)).mp z
  subst e2
  refine ⟨h.tn, h.hn.frame (fr h.tn (by decide)), h.to, fr h.to (by decide) _ h.ho, h.td, ⟨as ++ [p], by rw [upd_same, List.map_append]; rfl, ?_⟩, h.tl, h.hl.frame (fr h.tl (by decide)) fun l x u ht e => ⟨fr ht (by intro z; cases z) _ e, ht⟩, h.tw, fr h.tw (by decide) _ h.hw⟩
  exact Paired.snoc (F := fun p (d : Int × Option Int) => upd H dn (.lst (as.map V.ref ++ [V.ref _])) p = some (.tup [.int d.1, wv d.2])) (y := (t, w)) (k0 _ _ hp) (h2.mono k0)
theorem Core.weak (h : Core T H nm op dn lt aw B st ol S) : Core T H nm op dn lt aw B false ol S := by
  obtain ⟨kvs, h1, h2, h3⟩ := h.hl
  refine ⟨h.tn, h.hn, h.to, h.ho, h.td, h.hd, h.tl, ⟨kvs, h1, h2, fun x => ?_⟩, h.tw, h.hw⟩
  rcases h3 x with q | ⟨l2, q1, q2, q3, q4⟩
  · exact .inl q
  · exact .inr ⟨l2, q1, q2, q3, fun z => nomatch z⟩
theorem Core.strict (h : Core T H nm op dn lt aw B false ol S) {kvs : List (Key × V)} (e : H lt = some (.dK kvs)) (hs : ∀ x, valV kvs (Sum.inr x) ≠ none → S.lets x ≠ []) : Core T H nm op dn lt aw B true ol S := by
  obtain ⟨kvs', h1, h2, h3⟩ := h.hl
  rw [e] at h1
  cases h1
  refine ⟨h.tn, h.hn, h.to, h.ho, h.td, h.hd, h.tl, ⟨kvs, e, h2, fun x => ?_⟩, h.tw, h.hw⟩
  rcases h3 x with q | ⟨l2, q1, q2, q3, q4⟩
  · exact .inl q
  · exact .inr ⟨l2, q1, q2, q3, fun _ => hs x (by rw [q1]; exact fun z => nomatch z)⟩
end
section
variable {T T1 : Tg} {H H1 : Hp} {m c nm op dn lt aw od : Addr} {a : Int} {B : Nat} {code : List CE} {S : AS} {cs : List Cmd}
theorem Mdl.addD (h : Mdl T H m c nm op dn lt aw a B code S) (ho : OrdT T H od cs) {as : List Addr} (e : H dn = some (.lst (as.map V.ref))) {p : Addr} {t : Int} {w : Option Int} (hp : H p = some (.tup [.int t, wv w])) :
    Mdl T (upd H dn (.lst (as.map V.ref ++ [V.ref p]))) m c nm op dn lt aw a B code (S.setDone (S.done ++ [(t, w)])) ∧ OrdT T (upd H dn (.lst (as.map V.ref ++ [V.ref p]))) od cs ∧ Evo T H T (upd H dn (.lst (as.map V.ref ++ [V.ref p]))) := by
  have k0 : TupS H (upd H dn (.lst (as.map V.ref ++ [V.ref p]))) := TupS.lst e
  exact ⟨⟨h.tm, by rw [upd_ne (ne_tag h.tm h.co.td (by decide))]; exact h.hm, h.co.addD e hp, h.cd.other k0 (by rw [h.co.td]; decide)⟩, ho.other k0 (by rw [h.co.td]; decide), Evo.putL h.co.td (by decide) e⟩
theorem Mdl.letsL (h : Mdl T H m c nm op dn lt aw a B code S) (ho : OrdT T H od cs) {kvs : List (Key × V)} (e : H lt = some (.dK kvs)) {k : Str} {l : Addr} (hv : valV kvs (Sum.inr k) = some (.ref l)) (ws : List (Option Int)) :
    Mdl T (upd H l (.lst (ws.map wv))) m c nm op dn lt aw a B code (S.setL k ws) ∧ OrdT T (upd H l (.lst (ws.map wv))) od cs ∧ Evo T H T (upd H l (.lst (ws.map wv))) := by
  obtain ⟨q, tl, xs, hl⟩ := h.co.letsL e hv ws (fun z => nomatch z)
  have k0 : TupS H (upd H l (.lst (ws.map wv))) := TupS.lst hl
  exact ⟨⟨h.tm, by rw [upd_ne (ne_tag h.tm tl (by intro z; cases z))]; exact h.hm, q, h.cd.other k0 (by rw [tl]; intro z; cases z)⟩, ho.other k0 (by rw [tl]; intro z; cases z), Evo.putL tl (by intro z; cases z) hl⟩
theorem Mdl.letsP (h : Mdl T H m c nm op dn lt aw a B code S) (ho : OrdT T H od cs) {kvs : List (Key × V)} (e : H lt = some (.dK kvs)) {p : Addr} (hp : H p = none) (k : Str) (ws : List (Option Int)) :
    Mdl (setT T p (.le k)) (upd (upd H p (.lst (ws.map wv))) lt (.dK (putK kvs (Sum.inr k) (.ref p)))) m c nm op dn lt aw a (B + 1) code (S.setL k ws) ∧ OrdT (setT T p (.le k)) (upd (upd H p (.lst (ws.map wv))) lt (.dK (putK kvs (Sum.inr k) (.ref p)))) od cs ∧
      Evo T H (setT T p (.le k)) (upd (upd H p (.lst (ws.map wv))) lt (.dK (putK kvs (Sum.inr k) (.ref p)))) := by
  have q := h.co.letsP e hp k ws (fun z => nomatch z)
  have s := same_new hp (.lst (ws.map wv))
  have eh := s _ _ e
  have k0 : TupS (upd H p (.lst (ws.map wv))) (upd (upd H p (.lst (ws.map wv))) lt (.dK (putK kvs (Sum.inr k) (.ref p)))) := TupS.dK eh
  have tm : setT T p (.le k) m = .box := by rw [setT_ne (ne_of_none h.hm hp)]; exact h.tm
  have tl : setT T p (.le k) lt = .lt := by rw [setT_ne (ne_of_none e hp)]; exact h.co.tl
  exact ⟨⟨tm, by rw [upd_ne (ne_tag tm tl (by decide))]; exact s _ _ h.hm, q, (h.cd.new hp).other k0 (by rw [tl]; decide)⟩, (ho.new hp).other k0 (by rw [tl]; decide), (Evo.new hp).trans (Evo.putK_ tl (by decide) eh)⟩
end
end L2.K17

set_option maxHeartbeats 4000000
/-! the law's model: hear -/
namespace L2.K17
open PySem L2
section
variable {P : Program} {w : World} {K : PySem.W.Frag} {mg : Str → Option Value} {base : Heap}
def spLHear : Sp := fun vs H Q _ => ∃ (T : Tg) (m od sp : Addr) (a : Int) (B : Nat) (code : List CE) (S : AS) (cs : List Cmd) (x y : Str) (r : Blk), vs = [.ref m, .ref sp] ∧ H sp = some (.tup [.str "hear", .str x, .str y]) ∧
  MdO T H m od a B code S cs ∧ Bnd B S ∧ B ≤ 90000 ∧
  ∀ H', Evo T H T H' → (match stepHear S r x y with
    | .go S1 _ => MdO T H' m od (a + 1) (B + 1) code S1 cs
    | .stop S1 _ => MdO T H' m od a (B + 1) code S1 cs) → Q .non H'
theorem sc_law_do_hear : FnScope ["run", "some"] ["run", "some"] (defScope s_law_do_hear) := ⟨rfl, rfl, rfl, by decide +kernel, rfl, by decide +kernel, by decide +kernel⟩
theorem D_law_do_hear (T : Tx K mg) : Def1 P w K mg base 1 "_law_do_hear" ["run", "some"] spLHear := by
  refine T.mk1 (st := s_law_do_hear) 24 24 rfl rfl sc_law_do_hear (fun _ _ _ _ _ _ us hl => match us, hl with | [_, _], _ => rfl) (fun vs H Q E h => ?_) (fun cdv A outer s H vs Q E hr h => ?_)
  · obtain ⟨_, _, _, _, _, _, _, _, _, _, _, _, rfl, _⟩ := h
    rfl
  obtain ⟨U, m, od, sp, a, B, code, S, cs, x, y, r, rfl, hsp, ⟨c, nm, op, dn, lt, aw, h, ho⟩, hB, hB9, k⟩ := h
  have hu := hu_of hr
  refine ⟨_, (pss_cons (ps_if (pt_cmpR (op_eqD hr.units) (pe_dget2 hu (pe_dget hu (pv 0) pe_str (fun _ _ => rfl)) (pe_ix ix_tup (pv 1) pe_int (fun _ _ => rfl)) (pe_lst pa_nil) ⟨rfl, rfl, rfl, rfl⟩) (pe_lst pa_nil) (nomark _)) (pss_cons (ps_dput hu (pv 0) pe_str pe_str rfl)
    (pss_one ps_retN)) pss_nil)
    (pss_cons (ps_dput hu (pe_dget hu (pv 0) pe_str (fun _ _ => rfl)) (pe_ix ix_tup (pv 1) pe_int (fun _ _ => rfl)) (pe_bm PySem.F.plainAttrs_list PySem.F.slot_list_pop PySem.F.type_list_pop mt_popAt (pe_dget hu (pe_dget hu (pv 0) pe_str (fun _ _ => rfl)) (pe_ix ix_tup (pv 1) pe_int (fun _ _ => rfl)) (fun _ _ => rfl)) (pa_cons pe_int pa_nil)) rfl)
    (pss_one (ps_dput hu (pv 0) pe_str (pe_op op_add (pe_dget hu (pv 0) pe_str (fun _ _ => rfl)) pe_int) rfl)))), ?_⟩
  have h0 := h
  obtain ⟨kvs, l1, l2, _⟩ := h0.co.hl
  refine ⟨_, rfl, m, _, rfl, dget_s h.hm rfl, lt, rfl, .inl ⟨kvs, .inl l1⟩, _, rfl, sp, _, _, _, rfl, rfl, SqT.of hsp, rfl, Nat.zero_le _, fun q hq => ⟨_, dget_o (same_new hq _ _ _ l1), Nat.zero_le _, fun q2 hq2 => ?_⟩⟩
  have s1 := same_new hq (.lst [])
  have s2 := s1.trans (same_new hq2 (.lst []))
  have h1 := h.same s2
  have o1 := ho.same s2
  have m1 := s2 _ _ l1
  have hat := h.co.hl.at_ l1 y
  obtain ⟨z, ez, hz⟩ : ∃ z, (valV kvs (Sum.inr y)).getD (.ref q) = .ref z ∧ upd (upd H q (.lst [])) q2 (.lst []) z = some (.lst ((S.lets y).map wv)) := by
    rcases hat with ⟨e1, e2⟩ | ⟨l, e1, _, e3, _⟩
    · rw [e1, e2]
      exact ⟨q, rfl, same_new hq2 _ _ _ upd_same⟩
    · rw [e1]
      exact ⟨l, rfl, s2 _ _ e3⟩
  show rEqD K ((valV kvs (Sum.inr y)).getD (.ref q)) (.ref q2) _ _
  rw [ez]
  refine eq_nil (SqL.of hz) (SqL.of upd_same) ⟨_, rfl, ?_⟩
  unfold stepHear at k
  cases el : S.lets y with
  | nil =>
    rw [el] at k
    refine iteT ?_
    refine ⟨_, rfl, m, _, rfl, dput_s h1.hm mdlen, ?_⟩
    have h2 := h1.put a (S.setM .hear) (kvs := putK (mdD c a nm op dn lt aw S) (Sum.inr "mode") (.str "hear")) rfl
    have o2 := h1.putO o1 (kvs := putK (mdD c a nm op dn lt aw S) (Sum.inr "mode") (.str "hear"))
    exact k _ ((Evo.same s2).trans h1.putE) ⟨c, nm, op, dn, lt, aw, h2.le (Nat.le_succ B), o2⟩
  | cons w1 ws =>
    rw [el] at k
    refine iteF ?_
    rcases hat with ⟨e1, e2⟩ | ⟨l, e1, tl, e3, _⟩
    · rw [el] at e2
      cases e2
    rw [el] at e3
    have e3 := s2 _ _ e3
    refine ⟨_, rfl, m, _, rfl, dget_s h1.hm rfl, _, rfl, sp, _, _, _, rfl, rfl, SqT.of (s2 _ _ hsp), rfl, lt, _, rfl, dget_s m1 e1, tyL e3, l, _, 0, 0, _, rfl, rfl, e3, by decide, by decide, ?_, rfl, ?_⟩
    · exact seqIndex_of (Int.le_refl 0) (by rw [List.length_map, List.length_cons]; omega)
    obtain ⟨h2, o2, v2⟩ := h1.letsL o1 m1 e1 ws
    have h20 := h2
    obtain ⟨kn, n1, n2, _⟩ := h20.co.hn
    refine ⟨_, rfl, m, _, rfl, dget_s h2.hm rfl, _, rfl, sp, _, _, _, rfl, rfl, SqT.of (v2.tup _ _ (s2 _ _ hsp)), rfl, nm, _, rfl, dput_s n1 (szB (by omega)), ?_⟩
    have h3 := h2.setN n1 x w1
    have o3 := h2.nmO o2 (kvs := putK kn (Sum.inr x) (wv w1))
    refine ⟨_, rfl, m, _, rfl, dget_s h3.hm rfl, _, _, rfl, rfl, _, rfl, m, _, rfl, dput_s h3.hm mdlen, ?_⟩
    have h4 := (h3.put (a + 1) ((S.setL y ws).setN x w1) (kvs := putK (mdD c a nm op dn lt aw ((S.setL y ws).setN x w1)) (Sum.inr "at") (.int (a + 1))) rfl).setK r
    have o4 := h3.putO o3 (kvs := putK (mdD c a nm op dn lt aw ((S.setL y ws).setN x w1)) (Sum.inr "at") (.int (a + 1)))
    exact k _ ((Evo.same s2).trans (v2.trans (h2.nmE.trans h3.putE))) ⟨c, nm, op, dn, lt, aw, h4, o4⟩
end
end L2.K17

set_option maxHeartbeats 4000000
/-! the law's model: it goes on -/
namespace L2.K17
open PySem L2
theorem plain_mode (S : AS) (s : Simp) : (doPlain S s).1.mode = S.mode := by
  cases s with
  | drop e =>
    show (doDrop S (S.say e)).1.mode = S.mode
    unfold doDrop
    split
    · rfl
    · split <;> rfl
  | _ => rfl
theorem plain_len (S : AS) (s : Simp) : (doPlain S s).2.length ≤ 1 := by
  cases s with
  | drop e =>
    show (doDrop S (S.say e)).2.length ≤ 1
    unfold doDrop
    split
    · exact Nat.zero_le _
    · split
      · exact Nat.le_refl _
      · exact Nat.zero_le _
  | set _ _ => exact Nat.zero_le _
  | wait _ _ => exact Nat.zero_le _
  | hear _ _ => exact Nat.zero_le _
  | fin _ => exact Nat.zero_le _
  | _ => exact Nat.le_refl _
theorem step_plain {S : AS} {s : Simp} {r : Blk} (h : S.K = .one s r) (hp : s.isPlain) : step S = .go ((doPlain S s).1.setK r) (doPlain S s).2 := by
  unfold step
  rw [h]
  cases s with
  | wait _ _ => exact hp.elim
  | hear _ _ => exact hp.elim
  | fin _ => exact hp.elim
  | _ => rfl
theorem step_wait {S : AS} {x : Str} {es : List Say} {r : Blk} (h : S.K = .one (.wait x es) r) : step S = stepWait S r x es := by
  unfold step
  rw [h]
  rfl
theorem step_hear {S : AS} {x k : Str} {r : Blk} (h : S.K = .one (.hear x k) r) : step S = stepHear S r x k := by
  unfold step
  rw [h]
  rfl
theorem step_fin {S : AS} {e : Say} {r : Blk} (h : S.K = .one (.fin e) r) : step S = .stop (S.ended (S.say e)) [[.str "end", wv (S.say e)]] := by
  unfold step
  rw [h]
  rfl
theorem step_ite {S : AS} {c : Say} {a b r : Blk} (h : S.K = .ite c a b r) : step S = .go (S.setK (if S.truth c then a.app r else b.app r)) [] := by
  unfold step
  rw [h]
theorem step_whl {S : AS} {c : Say} {a r : Blk} (h : S.K = .whl c a r) : step S = .go (S.setK (if S.truth c then a.app (.whl c a r) else r)) [] := by
  unfold step
  rw [h]
theorem wait_go {S S1 : AS} {r : Blk} {x : Str} {es : List Say} {c : List Cmd} (h : stepWait S r x es = .go S1 c) : S1.mode = S.mode ∧ S1.K = r ∧ c = [] := by
  unfold stepWait at h
  cases e1 : S.ready es with
  | cons t l =>
    rw [e1] at h
    cases h
    exact ⟨rfl, rfl, rfl⟩
  | nil =>
    rw [e1] at h
    cases e2 : S.await es with
    | nil =>
      rw [e2] at h
      cases h
      exact ⟨rfl, rfl, rfl⟩
    | cons a aw =>
      rw [e2] at h
      cases h
theorem wait_stop {S S1 : AS} {r : Blk} {x : Str} {es : List Say} {c : List Cmd} (h : stepWait S r x es = .stop S1 c) : S1.mode = .wait ∧ S1.K = S.K ∧ c = [] := by
  unfold stepWait at h
  cases e1 : S.ready es with
  | cons t l =>
    rw [e1] at h
    cases h
  | nil =>
    rw [e1] at h
    cases e2 : S.await es with
    | nil =>
      rw [e2] at h
      cases h
    | cons a aw =>
      rw [e2] at h
      cases h
      exact ⟨rfl, rfl, rfl⟩
theorem hear_go {S S1 : AS} {r : Blk} {x k : Str} {c : List Cmd} (h : stepHear S r x k = .go S1 c) : S1.mode = S.mode ∧ S1.K = r ∧ c = [] := by
  unfold stepHear at h
  cases e1 : S.lets k with
  | nil =>
    rw [e1] at h
    cases h
  | cons t l =>
    rw [e1] at h
    cases h
    exact ⟨rfl, rfl, rfl⟩
theorem hear_stop {S S1 : AS} {r : Blk} {x k : Str} {c : List Cmd} (h : stepHear S r x k = .stop S1 c) : S1.mode = .hear ∧ S1.K = S.K ∧ c = [] := by
  unfold stepHear at h
  cases e1 : S.lets k with
  | nil =>
    rw [e1] at h
    cases h
    exact ⟨rfl, rfl, rfl⟩
  | cons t l =>
    rw [e1] at h
    cases h
theorem MdO.le {T : Tg} {H : Hp} {m od : Addr} {a : Int} {B B' : Nat} {code : List CE} {S : AS} {cs : List Cmd} (h : MdO T H m od a B code S cs) (hb : B ≤ B') : MdO T H m od a B' code S cs := by
  obtain ⟨c, nm, op, dn, lt, aw, h, ho⟩ := h
  exact ⟨c, nm, op, dn, lt, aw, h.le hb, ho⟩
theorem MdO.setK {T : Tg} {H : Hp} {m od : Addr} {a : Int} {B : Nat} {code : List CE} {S : AS} {cs : List Cmd} (h : MdO T H m od a B code S cs) (b : Blk) : MdO T H m od a B code (S.setK b) cs := by
  obtain ⟨c, nm, op, dn, lt, aw, h, ho⟩ := h
  exact ⟨c, nm, op, dn, lt, aw, h.setK b, ho⟩
def pwords : List Str := ["set", "order", "child", "timer", "send", "drop"]
def words : List Str := ["set", "order", "child", "timer", "send", "drop", "wait", "hear", "end"]
theorem word_mem (s : Simp) : s.word ∈ words := by
  cases s with
  | order b _ _ _ => cases b <;> simp [Simp.word, mkW, words]
  | _ => simp [Simp.word, words]
theorem pword_mem {s : Simp} (h : s.isPlain) : s.word ∈ pwords := by
  cases s with
  | wait _ _ => exact h.elim
  | hear _ _ => exact h.elim
  | fin _ => exact h.elim
  | order b _ _ _ => cases b <;> simp [Simp.word, mkW, pwords]
  | _ => simp [Simp.word, pwords]
theorem word_ne (s : Simp) : decide (V.str s.word = V.str "jump") = false := decide_eq_false fun z => by
  have h : ∀ z ∈ words, z ≠ "jump" := by decide +kernel
  exact h _ (word_mem s) (V.str.inj z)
theorem word_in (s : Simp) : inV (.str s.word) [.str "if", .str "while"] = false := by
  have h : ∀ z ∈ words, ((("if" : Str) == z) || ((("while" : Str) == z) || false)) = false := by decide +kernel
  exact h _ (word_mem s)
theorem plain_word {s : Simp} (hp : s.isPlain) : decide (V.str s.word = V.str "wait") = false ∧ decide (V.str s.word = V.str "hear") = false ∧ decide (V.str s.word = V.str "end") = false := by
  have h : ∀ z ∈ pwords, z ≠ "wait" ∧ z ≠ "hear" ∧ z ≠ "end" := by decide +kernel
  obtain ⟨h1, h2, h3⟩ := h _ (pword_mem hp)
  exact ⟨decide_eq_false fun q => h1 (V.str.inj q), decide_eq_false fun q => h2 (V.str.inj q), decide_eq_false fun q => h3 (V.str.inj q)⟩
/-- the run stands at i: a place of its K -/
def Stands (code : List CE) (D : Nat) (i : Nat) (S : AS) : Prop := (S.mode = .wait ∨ S.mode = .hear) → ∃ s r, S.K = .one s r ∧ code[i]? = some (.st (.one s .nil) none) ∧ At code D (i + 1) r D
theorem stands_off {code : List CE} {D i : Nat} {S : AS} (h : S.mode ≠ .wait ∧ S.mode ≠ .hear) : Stands code D i S := fun z => z.elim (fun q => absurd q h.1) fun q => absurd q h.2
/-- the word of the loop: R and RC are what comes out -/
def GoW (U0 : Tg) (H0 : Hp) (m od : Addr) (B : Nat) (code : List CE) (D : Nat) (R : AS) (RC : List Cmd) (mm : Nat) (σ : L2.St) (H : Hp) : Prop :=
  ∃ (U : Tg) (S : AS) (cs : List Cmd) (n i j : Nat) (v3 v4 v5 v6 : Option V), σ = [some (.ref m), some (.ref od), some (.int ((300 - n : Nat) : Int)), v3, v4, v5, v6] ∧ Evo U0 H0 U H ∧ MdO U H m od (i : Int) (B + (300 - n)) code S cs ∧ n ≤ 300 ∧
    ((S.mode = .on ∧ Bnd (B + (300 - n)) S ∧ At code D i S.K j ∧ j ≤ D ∧ cs.length ≤ 300 - n ∧ R = (go n S).1 ∧ RC = cs ++ (go n S).2 ∧ mm = n * (D + 2) + j + 1) ∨
     (S.mode ≠ .on ∧ R = S ∧ RC = cs ∧ Stands code D i S ∧ mm = 0))
def spLGo (D : Nat) : Sp := fun vs H Q _ => ∃ (T : Tg) (m od : Addr) (i : Nat) (B : Nat) (code : List CE) (S : AS), vs = [.ref m, .ref od] ∧ MdO T H m od (i : Int) B code S [] ∧ Bnd B S ∧ B ≤ 80000 ∧ At code D i S.K D ∧ code.length ≤ 100000 ∧
  ∀ T' H' (i' : Nat), Evo T H T' H' → MdO T' H' m od (i' : Int) (B + 300) code (go 300 (S.setM .on)).1 (go 300 (S.setM .on)).2 → Stands code D i' (go 300 (S.setM .on)).1 → Q .non H'
section
variable {P : Program} {w : World} {K : PySem.W.Frag} {mg : Str → Option Value} {base : Heap}
theorem sc_law_go : FnScope ["run", "orders", "steps", "word", "some", "path", "where"] ["run", "orders"] (defScope s_law_go) := ⟨rfl, rfl, rfl, by decide +kernel, rfl, by decide +kernel, by decide +kernel⟩
theorem D_law_go (T : Tx K mg) (D : Nat) : Def1 P w K mg base 7 "_law_go" ["run", "orders"] (spLGo D) := by
  have D_law_says : Def1 P w K mg base 5 "_law_says" ["saying", "run"] (spLSays 4) := D_law_says T 4
  have D_law_ended : Def1 P w K mg base 1 "_law_ended" ["run", "worth", "orders"] spEnded := D_law_ended T
  have D_law_do_wait : Def1 P w K mg base 6 "_law_do_wait" ["run", "some"] spLWait := D_law_do_wait T
  have D_law_do_hear : Def1 P w K mg base 1 "_law_do_hear" ["run", "some"] spLHear := D_law_do_hear T
  have D_law_do_plain : Def1 P w K mg base 6 "_law_do_plain" ["run", "some", "orders"] spLPlain := D_law_do_plain T
  refine T.mk1 (st := s_law_go) 25 25 rfl rfl sc_law_go (fun _ _ _ _ _ _ us hl => match us, hl with | [_, _], _ => rfl) (fun vs H Q E h => ?_) (fun cdv A outer s H vs Q E hr h => ?_)
  · obtain ⟨_, _, _, _, _, _, _, rfl, _⟩ := h
    rfl
  obtain ⟨U, m, od, i, B, code, S, rfl, ⟨c, nm, op, dn, lt, aw, h, ho⟩, hB, hB9, hat, hcl, k⟩ := h
  have hu := hu_of hr
  refine ⟨_, (pss_cons (ps_set (i := 2) sc_law_go.nd rfl (Or.inl rfl) pe_int)
    (pss_cons (ps_dput hu (pv 0) pe_str pe_str rfl)
    (pss_one (ps_while PassesOwn.never (pt_cmpR op_eq (pe_dget hu (pv 0) pe_str (fun _ _ => rfl)) pe_str (nomark _)) (pss_cons (ps_if (pt_cmpR op_eq (pe_dget hu (pv 0) pe_str (fun _ _ => rfl)) (pe_callB call_len_seq (by rfl) T.f_len (by decide +kernel) (pa_cons (pe_dget hu (pv 0) pe_str (fun _ _ => rfl)) pa_nil)) (nomark _)) (pss_cons (ps_expr (pe_c D_law_ended (hr.mono (by omega)) (pa_cons (pv 0) (pa_cons pe_non (pa_cons (pv 1) pa_nil)))))
    (pss_one ps_retN)) pss_nil)
    (pss_cons (ps_asg (pe_ix ix_list (pe_dget hu (pv 0) pe_str (fun _ _ => rfl)) (pe_dget hu (pv 0) pe_str (fun _ _ => rfl)) (fun _ _ => rfl)) (pg_unl rfl (pgs_cons (pg_name (i := 3) sc_law_go.nd rfl (Or.inl rfl)) (pgs_cons (pg_name (i := 4) sc_law_go.nd rfl (Or.inl rfl)) (pgs_cons (pg_name (i := 5) sc_law_go.nd rfl (Or.inl rfl)) (pgs_cons (pg_name (i := 6) sc_law_go.nd rfl (Or.inl rfl)) pgs_nil))))))
    (pss_cons (ps_if (pt_cmpR op_eq (pv 3) pe_str (nomark _)) (pss_cons (ps_dput hu (pv 0) pe_str (pv 6) rfl)
    (pss_one ps_continue)) pss_nil)
    (pss_cons (ps_if (pt_cmpR op_eq (pv 2) pe_int (nomark _)) (pss_cons (ps_dput hu (pv 0) pe_str pe_str rfl)
    (pss_cons (ps_dput hu (pv 0) pe_str (pe_lst pa_nil) rfl)
    (pss_cons (ps_expr (pe_bm PySem.F.plainAttrs_list PySem.F.slot_list_append PySem.F.type_list_append mt_append (pv 1) (pa_cons (pe_tup (pa_cons pe_str pa_nil)) pa_nil)))
    (pss_one ps_retN)))) pss_nil)
    (pss_cons (ps_set (i := 2) sc_law_go.nd rfl (Or.inl rfl) (pe_op op_add (pv 2) pe_int))
    (pss_one (ps_if (pt_cmpR op_in_seq (pv 3) (pe_lst (pa_cons pe_str (pa_cons pe_str pa_nil))) rfl) (pss_one (ps_dput hu (pv 0) pe_str (pe_ix ix_list (pe_lst (pa_cons (pv 6) (pa_cons (pe_op op_add (pe_dget hu (pv 0) pe_str (fun _ _ => rfl)) pe_int) pa_nil))) (pe_callTy call_int1 (by rfl) T.f_int (by decide +kernel) (pa_cons (pe_cmpR op_ne (pe_orT (pe_c D_law_says (hr.mono (by omega)) (pa_cons (pe_ix ix_tup (pv 4) pe_int (fun _ _ => rfl)) (pa_cons (pv 0) pa_nil))) (pe_one pe_int)) pe_int (nomark _)) pa_nil)) (fun _ _ => rfl)) rfl)) (pss_one (ps_if (pt_cmpR op_eq (pv 3) pe_str (nomark _)) (pss_one (ps_expr (pe_c D_law_do_wait (hr.mono (by omega)) (pa_cons (pv 0) (pa_cons (pv 4) pa_nil))))) (pss_one (ps_if (pt_cmpR op_eq (pv 3) pe_str (nomark _)) (pss_one (ps_expr (pe_c D_law_do_hear (hr.mono (by omega)) (pa_cons (pv 0) (pa_cons (pv 4) pa_nil))))) (pss_one (ps_if (pt_cmpR op_eq (pv 3) pe_str (nomark _)) (pss_one (ps_expr (pe_c D_law_ended (hr.mono (by omega)) (pa_cons (pv 0) (pa_cons (pe_c D_law_says (hr.mono (by omega)) (pa_cons (pe_ix ix_tup (pv 4) pe_int (fun _ _ => rfl)) (pa_cons (pv 0) pa_nil))) (pa_cons (pv 1) pa_nil)))))) (pss_cons (ps_expr (pe_c D_law_do_plain (hr.mono (by omega)) (pa_cons (pv 0) (pa_cons (pv 4) (pa_cons (pv 1) pa_nil)))))
    (pss_one (ps_dput hu (pv 0) pe_str (pe_op op_add (pe_dget hu (pv 0) pe_str (fun _ _ => rfl)) pe_int) rfl)))))))))))))))))))), ?_⟩
  refine ⟨_, rfl, m, _, rfl, dput_s h.hm mdlen, ?_⟩
  have h1 := h.put (i : Int) (S.setM .on) (kvs := putK (mdD c (i : Int) nm op dn lt aw S) (Sum.inr "mode") (.str "on")) rfl
  have o1 := h.putO ho (kvs := putK (mdD c (i : Int) nm op dn lt aw S) (Sum.inr "mode") (.str "on"))
  have hB1 : Bnd B (S.setM .on) := hB.setM
  refine ⟨GoW U H m od B code D (go 300 (S.setM .on)).1 (go 300 (S.setM .on)).2, ⟨300 * (D + 2) + D + 1, U, S.setM .on, [], 300, i, D, none, none, none, none, rfl, h.putE, ⟨c, nm, op, dn, lt, aw, h1, o1⟩, Nat.le_refl _, .inl ⟨rfl, hB1, hat, Nat.le_refl _, Nat.zero_le _, rfl, rfl, rfl⟩⟩, ?_⟩
  rintro mm σ H1 ⟨U1, S1, cs, n, i1, j, v3, v4, v5, v6, rfl, ev, ⟨c, nm, op, dn, lt, aw, h, ho⟩, hn, hc⟩
  refine ⟨_, rfl, m, _, rfl, dget_s h.hm rfl, rfl, _, rfl, ?_⟩
  rcases hc with ⟨hon, hB2, ha, hj, hcs, hR, hRC, hmm⟩ | ⟨hoff, hR, hRC, hst, hmm⟩
  · -- on
    rw [show decide (V.str S1.mode.str = V.str "on") = true by rw [hon]; exact decide_eq_true rfl]
    refine iteT ⟨fun σ' H' => ∃ m', m' < mm ∧ GoW U H m od B code D (go 300 (S.setM .on)).1 (go 300 (S.setM .on)).2 m' σ' H', fun _ _ z => z, ?_⟩
    have hcd := h.cd
    obtain ⟨tc, es, c1, c2⟩ := hcd
    have hel : (es.map V.ref).length = code.length := by rw [List.length_map]; exact Paired.len c2
    have MO : MdO U1 H1 m od (i1 : Int) (B + (300 - n)) code S1 cs := ⟨c, nm, op, dn, lt, aw, h, ho⟩
    refine ⟨_, rfl, m, _, rfl, dget_s h.hm rfl, _, rfl, m, _, rfl, dget_s h.hm rfl, c, _, rfl, .inl (SqL.of c1), rfl, _, rfl, ?_⟩
    rw [hel]
    -- an entry: what is unpacked
    have noend : ∀ {x : CE}, code[i1]? = some x → decide (V.int ((i1 : Nat) : Int) = V.int ((code.length : Nat) : Int)) = false := fun hx => decide_eq_false fun z => by
      have z := V.int.inj z
      have := (List.getElem?_eq_some_iff.mp hx).1
      omega
    have ixe : ∀ {e : Addr}, es[i1]? = some e → atI (es.map V.ref) ((i1 : Nat) : Int) = some (.ref e) := fun he => atI_nat (by rw [List.getElem?_map, he]; rfl)
    cases ha.case with
    | fin hx hk =>
      rw [show decide (V.int ((i1 : Nat) : Int) = V.int ((code.length : Nat) : Int)) = true from decide_eq_true (by rw [hx])]
      refine iteT ?_
      refine ⟨_, rfl, _, rfl, U1, m, od, (i1 : Int), _, code, S1, cs, none, rfl, MO, by omega, fun U2 H2 M2 E2 => ?_⟩
      rw [go_nil hk] at hR hRC
      refine k U2 H2 i1 (ev.trans E2) ?_ ?_
      · rw [hR, hRC]
        exact M2.le (by omega)
      · rw [hR]
        intro z
        rcases z with z | z <;> cases z
    | jump w j' hx hj' hjD ha' =>
      rw [noend hx]
      refine iteF ?_
      obtain ⟨e, he, hen⟩ := Paired.get_ c2 hx
      obtain ⟨te, p, hee⟩ := hen
      refine ⟨_, rfl, m, _, rfl, dget_s h.hm rfl, _, rfl, m, _, rfl, dget_s h.hm rfl, c, _, _, _, rfl, rfl, SqL.of c1, ixe he, e, _, rfl, SqL.of hee, rfl, _, _, rfl, _, _, rfl, _, _, rfl, _, _, rfl, rfl, ?_⟩
      refine ⟨_, rfl, rfl, _, rfl, iteT ?_⟩
      refine ⟨_, rfl, _, rfl, m, _, rfl, dput_s h.hm mdlen, ?_⟩
      have h2 := h.put (w : Int) S1 (kvs := putK (mdD c (i1 : Int) nm op dn lt aw S1) (Sum.inr "at") (.int (w : Int))) rfl
      have o2 := h.putO ho (kvs := putK (mdD c (i1 : Int) nm op dn lt aw S1) (Sum.inr "at") (.int (w : Int)))
      exact ⟨n * (D + 2) + j' + 1, by omega, U1, S1, cs, n, w, j', _, _, _, _, rfl, ev.trans h.putE, ⟨c, nm, op, dn, lt, aw, h2, o2⟩, hn, .inl ⟨hon, hB2, ha', hjD, hcs, hR, hRC, rfl⟩⟩
    | one s r hx hk ha' =>
      rw [noend hx]
      refine iteF ?_
      obtain ⟨e, he, hen⟩ := Paired.get_ c2 hx
      obtain ⟨te, v, p, hee, hb⟩ := hen
      obtain ⟨sp, us, vr, eq, hsp, hs, _⟩ := hb
      injection eq with eq _
      injection eq with eq
      subst eq
      refine ⟨_, rfl, m, _, rfl, dget_s h.hm rfl, _, rfl, m, _, rfl, dget_s h.hm rfl, c, _, _, _, rfl, rfl, SqL.of c1, ixe he, e, _, rfl, SqL.of hee, rfl, _, _, rfl, _, _, rfl, _, _, rfl, _, _, rfl, rfl, ?_⟩
      refine ⟨_, rfl, rfl, _, rfl, ?_⟩
      rw [show decide (V.str (headW (.one s .nil)) = V.str "jump") = false from word_ne s]
      refine iteF ?_
      -- too many
      refine ⟨_, rfl, rfl, _, rfl, ?_⟩
      by_cases hn0 : n = 0
      · subst hn0
        rw [show decide (V.int (((300 - 0 : Nat)) : Int) = V.int 300) = true from rfl]
        refine iteT ?_
        refine ⟨_, rfl, m, _, rfl, dput_s h.hm mdlen, ?_⟩
        have h2 := h.put (i1 : Int) (S1.setM .worn) (kvs := putK (mdD c (i1 : Int) nm op dn lt aw S1) (Sum.inr "mode") (.str "worn")) rfl
        have o2 := h.putO ho (kvs := putK (mdD c (i1 : Int) nm op dn lt aw S1) (Sum.inr "mode") (.str "worn"))
        refine ⟨Nat.zero_le _, fun p hp => ?_⟩
        have h3 := h2.newO hp (kvs := putK (mdD c (i1 : Int) nm op dn lt aw (S1.setM .worn)) (Sum.inr "open") (.ref p)) [] rfl
        have o3 := h2.newR o2 hp (t := .op) (o := .lst []) (kvs := putK (mdD c (i1 : Int) nm op dn lt aw (S1.setM .worn)) (Sum.inr "open") (.ref p))
        refine ⟨_, rfl, m, _, rfl, dput_s (same_new hp _ _ _ h2.hm) mdlen, ?_⟩
        obtain ⟨as, a1, a2⟩ := o3.lst
        refine ⟨_, rfl, tyL a1, by show 1 ≤ sizeLine; decide, fun q hq => ?_⟩
        refine ⟨od, _, _, rfl, rfl, same_new hq _ _ _ a1, by rw [List.length_map, a2]; exact szB (by omega), ?_⟩
        have s4 := same_new hq (.tup [.str "worn"])
        have h4 := h3.same s4
        have o4 := o3.same s4
        have o5 := o4.add (s4 _ _ a1) upd_same
        have eR : go 0 S1 = (S1.worn, [[.str "worn"]]) := go_zero (by rw [hk]; exact fun z => nomatch z)
        rw [eR] at hR hRC
        refine k _ _ i1 (ev.trans ((h.putE).trans ((h2.newE hp).trans ((Evo.same s4).trans o4.evo)))) ?_ ?_
        · rw [hR, hRC]
          exact ⟨c, nm, p, dn, lt, aw, (h4.ord o4).le (by omega), o5⟩
        · rw [hR]
          intro z
          rcases z with z | z <;> cases z
      obtain ⟨n', rfl⟩ : ∃ n', n = n' + 1 := ⟨n - 1, by omega⟩
      have en : ((300 - (n' + 1) : Nat) : Int) + 1 = ((300 - n' : Nat) : Int) := by omega
      have eB : B + (300 - (n' + 1)) + 1 = B + (300 - n') := by omega
      rw [show decide (V.int ((300 - (n' + 1) : Nat) : Int) = V.int 300) = false from decide_eq_false fun z => by
        have z := V.int.inj z
        omega]
      refine iteF ?_
      refine ⟨_, rfl, _, _, rfl, rfl, ?_⟩
      have ko := hB2.ko
      rw [hk] at ko
      have less : n' * (D + 2) + D + 1 < mm := by
        rw [hmm, Nat.add_mul]
        omega
      refine ⟨_, rfl, by show 2 ≤ sizeLine; decide, fun q hq => ⟨q, _, rfl, .inl (SqL.of upd_same), rfl, rfl, _, rfl, ?_⟩⟩
      have s2 := same_new hq (.lst [.str "if", .str "while"])
      have h2 := h.same s2
      have o2 := ho.same s2
      rw [show (if false = true then !inV (V.str (headW (.one s .nil))) [.str "if", .str "while"] else inV (V.str (headW (.one s .nil))) [.str "if", .str "while"]) = false from word_in s]
      refine iteF ?_
      have MO2 : MdO U1 _ m od (i1 : Int) (B + (300 - (n' + 1))) code S1 cs := ⟨c, nm, op, dn, lt, aw, h2, o2⟩
      by_cases hpl : s.isPlain
      · -- a plain one
        obtain ⟨w1, w2, w3⟩ := plain_word hpl
        refine ⟨_, rfl, rfl, _, rfl, ?_⟩
        rw [show decide (V.str (headW (.one s .nil)) = V.str "wait") = false from w1]
        refine iteF ⟨_, rfl, rfl, _, rfl, ?_⟩
        rw [show decide (V.str (headW (.one s .nil)) = V.str "hear") = false from w2]
        refine iteF ⟨_, rfl, rfl, _, rfl, ?_⟩
        rw [show decide (V.str (headW (.one s .nil)) = V.str "end") = false from w3]
        refine iteF ?_
        refine ⟨_, rfl, _, rfl, _, rfl, U1, m, od, v, (i1 : Int), _, code, S1, cs, s, us, rfl, s2 _ _ hsp, hs.mono (TupS.of_same s2), ko.1, hpl, MO2, hB2, by omega, by omega, fun H3 ⟨c', nm', op', dn', lt', aw', h3, o3⟩ E3 => ?_⟩
        have st := step_plain hk hpl
        have hb3 := hB2.step (by omega)
        rw [st] at hb3
        rw [go_go st] at hR hRC
        have h4 := h3.put ((i1 + 1 : Nat) : Int) (doPlain S1 s).1 (kvs := putK (mdD c' (i1 : Int) nm' op' dn' lt' aw' (doPlain S1 s).1) (Sum.inr "at") (.int ((i1 : Int) + 1))) rfl
        have o4 := h3.putO o3 (kvs := putK (mdD c' (i1 : Int) nm' op' dn' lt' aw' (doPlain S1 s).1) (Sum.inr "at") (.int ((i1 : Int) + 1)))
        refine ⟨_, rfl, m, _, rfl, dget_s h3.hm rfl, _, _, rfl, rfl, _, rfl, m, _, rfl, dput_s h3.hm mdlen, ?_⟩
        have hpl1 := plain_len S1 s
        refine ⟨_, less, U1, (doPlain S1 s).1.setK r, cs ++ (doPlain S1 s).2, n', i1 + 1, D, _, _, _, _, by rw [← en]; rfl, ev.trans ((Evo.same s2).trans (E3.trans h3.putE)), ⟨c', nm', op', dn', lt', aw', by rw [← eB]; exact h4.setK r, o4⟩, by omega,
          .inl ⟨(plain_mode S1 s).trans hon, by rw [← eB]; exact hb3, ha', Nat.le_refl _, by rw [List.length_append]; omega, hR, by rw [hRC, List.append_assoc], rfl⟩⟩
      cases s with
      | set _ _ => exact absurd True.intro hpl
      | order _ _ _ _ => exact absurd True.intro hpl
      | timer _ _ => exact absurd True.intro hpl
      | send _ _ _ => exact absurd True.intro hpl
      | drop _ => exact absurd True.intro hpl
      | wait x ss =>
        refine ⟨_, rfl, rfl, _, rfl, iteT ?_⟩
        refine ⟨_, rfl, _, rfl, U1, m, od, v, (i1 : Int), _, code, S1, cs, x, ss, us, r, rfl, s2 _ _ hsp, hs.mono (TupS.of_same s2), ko.1, MO2, hB2, by omega, fun U3 H3 E3 M3 => ?_⟩
        have st := step_wait hk
        have hb3 := hB2.step (by omega)
        cases e3 : stepWait S1 r x ss with
        | go S3 c3 =>
          obtain ⟨q1, q2, q3⟩ := wait_go e3
          subst q3
          rw [e3] at M3
          rw [st, e3] at hb3
          rw [go_go (st.trans e3)] at hR hRC
          exact ⟨_, less, U3, S3, cs, n', i1 + 1, D, _, _, _, _, by rw [← en]; rfl, ev.trans ((Evo.same s2).trans E3), by rw [← eB]; exact M3, by omega, .inl ⟨q1.trans hon, by rw [← eB]; exact hb3, by rw [q2]; exact ha', Nat.le_refl _, by omega, hR, hRC, rfl⟩⟩
        | stop S3 c3 =>
          obtain ⟨q1, q2, q3⟩ := wait_stop e3
          subst q3
          rw [e3] at M3
          rw [go_stop (st.trans e3)] at hR hRC
          refine ⟨0, by omega, U3, S3, cs, n', i1, 0, _, _, _, _, by rw [← en]; rfl, ev.trans ((Evo.same s2).trans E3), by rw [← eB]; exact M3, by omega, .inr ⟨by rw [q1]; decide, hR, by rw [hRC, List.append_nil], fun _ => ⟨_, r, q2.trans hk, hx, ha'⟩, rfl⟩⟩
      | hear x y =>
        have hs' : us = [.str "hear", .str x, .str y] := hs
        subst hs'
        refine ⟨_, rfl, rfl, _, rfl, iteF ⟨_, rfl, rfl, _, rfl, iteT ?_⟩⟩
        refine ⟨_, rfl, _, rfl, U1, m, od, v, (i1 : Int), _, code, S1, cs, x, y, r, rfl, s2 _ _ hsp, MO2, hB2, by omega, fun H3 E3 M3 => ?_⟩
        have st := step_hear hk
        have hb3 := hB2.step (by omega)
        cases e3 : stepHear S1 r x y with
        | go S3 c3 =>
          obtain ⟨q1, q2, q3⟩ := hear_go e3
          subst q3
          rw [e3] at M3
          rw [st, e3] at hb3
          rw [go_go (st.trans e3)] at hR hRC
          exact ⟨_, less, U1, S3, cs, n', i1 + 1, D, _, _, _, _, by rw [← en]; rfl, ev.trans ((Evo.same s2).trans E3), by rw [← eB]; exact M3, by omega, .inl ⟨q1.trans hon, by rw [← eB]; exact hb3, by rw [q2]; exact ha', Nat.le_refl _, by omega, hR, hRC, rfl⟩⟩
        | stop S3 c3 =>
          obtain ⟨q1, q2, q3⟩ := hear_stop e3
          subst q3
          rw [e3] at M3
          rw [go_stop (st.trans e3)] at hR hRC
          refine ⟨0, by omega, U1, S3, cs, n', i1, 0, _, _, _, _, by rw [← en]; rfl, ev.trans ((Evo.same s2).trans E3), by rw [← eB]; exact M3, by omega, .inr ⟨by rw [q1]; decide, hR, by rw [hRC, List.append_nil], fun _ => ⟨_, r, q2.trans hk, hx, ha'⟩, rfl⟩⟩
      | fin ee =>
        obtain ⟨u, hs', hq2⟩ := hs
        subst hs'
        refine ⟨_, rfl, rfl, _, rfl, iteF ⟨_, rfl, rfl, _, rfl, iteF ⟨_, rfl, rfl, _, rfl, iteT ?_⟩⟩⟩
        refine ⟨_, rfl, _, rfl, v, _, _, _, rfl, rfl, SqT.of (s2 _ _ hsp), rfl, _, rfl, ?_⟩
        refine ⟨ee, u, m, S1, rfl, hq2.mono (TupS.of_same s2), ko.1.2, ko.1.1, h2.env, hB2.sm, fun H3 g3 => ?_⟩
        refine ⟨_, rfl, U1, m, od, (i1 : Int), _, code, S1, cs, S1.say ee, rfl, ⟨c, nm, op, dn, lt, aw, h2.same g3, o2.same g3⟩, by omega, fun U4 H4 M4 E4 => ?_⟩
        rw [go_stop (step_fin hk)] at hR hRC
        exact ⟨0, by omega, U4, _, _, n', i1, 0, _, _, _, _, by rw [← en]; rfl, ev.trans ((Evo.same s2).trans ((Evo.same g3).trans E4)), M4.le (by omega), by omega, .inr ⟨by show Mode.ended ≠ .on; decide, hR, hRC, stands_off (by show Mode.ended ≠ .wait ∧ Mode.ended ≠ .hear; decide), rfl⟩⟩
    | ite cc ba bb r w hx hk hat1 hat2 =>
      rw [noend hx]
      refine iteF ?_
      obtain ⟨e, he, hen⟩ := Paired.get_ c2 hx
      obtain ⟨te, v, p, hee, hb⟩ := hen
      obtain ⟨sp, u, pa, pb, va, vb, vr, eq, hsp, hq2, _⟩ := hb
      injection eq with eq _
      injection eq with eq
      subst eq
      refine ⟨_, rfl, m, _, rfl, dget_s h.hm rfl, _, rfl, m, _, rfl, dget_s h.hm rfl, c, _, _, _, rfl, rfl, SqL.of c1, ixe he, e, _, rfl, SqL.of hee, rfl, _, _, rfl, _, _, rfl, _, _, rfl, _, _, rfl, rfl, ?_⟩
      refine ⟨_, rfl, rfl, _, rfl, iteF ?_⟩
      -- too many
      refine ⟨_, rfl, rfl, _, rfl, ?_⟩
      by_cases hn0 : n = 0
      · subst hn0
        rw [show decide (V.int (((300 - 0 : Nat)) : Int) = V.int 300) = true from rfl]
        refine iteT ?_
        refine ⟨_, rfl, m, _, rfl, dput_s h.hm mdlen, ?_⟩
        have h2 := h.put (i1 : Int) (S1.setM .worn) (kvs := putK (mdD c (i1 : Int) nm op dn lt aw S1) (Sum.inr "mode") (.str "worn")) rfl
        have o2 := h.putO ho (kvs := putK (mdD c (i1 : Int) nm op dn lt aw S1) (Sum.inr "mode") (.str "worn"))
        refine ⟨Nat.zero_le _, fun p hp => ?_⟩
        have h3 := h2.newO hp (kvs := putK (mdD c (i1 : Int) nm op dn lt aw (S1.setM .worn)) (Sum.inr "open") (.ref p)) [] rfl
        have o3 := h2.newR o2 hp (t := .op) (o := .lst []) (kvs := putK (mdD c (i1 : Int) nm op dn lt aw (S1.setM .worn)) (Sum.inr "open") (.ref p))
        refine ⟨_, rfl, m, _, rfl, dput_s (same_new hp _ _ _ h2.hm) mdlen, ?_⟩
        obtain ⟨as, a1, a2⟩ := o3.lst
        refine ⟨_, rfl, tyL a1, by show 1 ≤ sizeLine; decide, fun q hq => ?_⟩
        refine ⟨od, _, _, rfl, rfl, same_new hq _ _ _ a1, by rw [List.length_map, a2]; exact szB (by omega), ?_⟩
        have s4 := same_new hq (.tup [.str "worn"])
        have h4 := h3.same s4
        have o4 := o3.same s4
        have o5 := o4.add (s4 _ _ a1) upd_same
        have eR : go 0 S1 = (S1.worn, [[.str "worn"]]) := go_zero (by rw [hk]; exact fun z => nomatch z)
        rw [eR] at hR hRC
        refine k _ _ i1 (ev.trans ((h.putE).trans ((h2.newE hp).trans ((Evo.same s4).trans o4.evo)))) ?_ ?_
        · rw [hR, hRC]
          exact ⟨c, nm, p, dn, lt, aw, (h4.ord o4).le (by omega), o5⟩
        · rw [hR]
          intro z
          rcases z with z | z <;> cases z
      obtain ⟨n', rfl⟩ : ∃ n', n = n' + 1 := ⟨n - 1, by omega⟩
      have en : ((300 - (n' + 1) : Nat) : Int) + 1 = ((300 - n' : Nat) : Int) := by omega
      have eB : B + (300 - (n' + 1)) + 1 = B + (300 - n') := by omega
      rw [show decide (V.int ((300 - (n' + 1) : Nat) : Int) = V.int 300) = false from decide_eq_false fun z => by
        have z := V.int.inj z
        omega]
      refine iteF ?_
      refine ⟨_, rfl, _, _, rfl, rfl, ?_⟩
      have ko := hB2.ko
      rw [hk] at ko
      have less : n' * (D + 2) + D + 1 < mm := by
        rw [hmm, Nat.add_mul]
        omega
      refine ⟨_, rfl, by show 2 ≤ sizeLine; decide, fun q hq => ⟨q, _, rfl, .inl (SqL.of upd_same), rfl, rfl, _, rfl, iteT ?_⟩⟩
      have s2 := same_new hq (.lst [.str "if", .str "while"])
      have h2 := h.same s2
      have o2 := ho.same s2
      refine ⟨_, rfl, _, rfl, m, _, rfl, dget_s h2.hm rfl, _, _, rfl, rfl, by show 2 ≤ sizeLine; decide, fun q3 hq3 => ?_⟩
      have s3 := s2.trans (same_new hq3 (.lst [.int (w : Int), .int ((i1 : Int) + 1)]))
      have h3 := h.same s3
      refine ⟨_, rfl, v, _, _, _, rfl, rfl, SqT.of (s3 _ _ hsp), rfl, _, rfl, ?_⟩
      refine ⟨cc, u, m, S1, rfl, hq2.mono (TupS.of_same s3), ko.1.2, ko.1.1, h3.env, hB2.sm, fun H4 g4 => ?_⟩
      have s4 := s3.trans g4
      have h4 := h.same s4
      have o4 := ho.same s4
      have l4 := g4 _ _ (upd_same (H := upd H1 q (.lst [.str "if", .str "while"])) (a := q3) (o := .lst [.int (w : Int), .int ((i1 : Int) + 1)]))
      have st := step_ite hk
      have hb3 := hB2.step (by omega)
      rw [st] at hb3
      rw [go_go st] at hR hRC
      refine ⟨_, tru_w _, ?_⟩
      refine ite2 (fun ct => ?_) (fun ct => ?_)
      · have e0 : num0 (S1.say cc) ≠ 0 := of_decide_eq_true ct
        have e1 : (!decide (wv (S1.say cc) = V.int 0)) = true := by
          rw [num0_t ct, dec_int, Bool.beq_eq_decide_eq, decide_eq_false e0]
          rfl
        have e2 : S1.truth cc = true := ct
        rw [e2] at hb3 hR hRC
        refine ⟨by rw [num0_t ct]; rfl, .inr ⟨_, rfl, ?_⟩⟩
        rw [e1]
        refine ⟨q3, _, _, _, rfl, rfl, SqL.of l4, rfl, _, rfl, m, _, rfl, dput_s h4.hm mdlen, ?_⟩
        have h5 := h4.put ((i1 + 1 : Nat) : Int) S1 (kvs := putK (mdD c (i1 : Int) nm op dn lt aw S1) (Sum.inr "at") (.int ((i1 : Int) + 1))) rfl
        have o5 := h4.putO o4 (kvs := putK (mdD c (i1 : Int) nm op dn lt aw S1) (Sum.inr "at") (.int ((i1 : Int) + 1)))
        exact ⟨_, less, U1, S1.setK (ba.app r), cs, n', i1 + 1, D, _, _, _, _, by rw [← en]; rfl, ev.trans ((Evo.same s4).trans h4.putE), ⟨c, nm, op, dn, lt, aw, by rw [← eB]; exact (h5.setK _).le (Nat.le_succ _), o5⟩, by omega, .inl ⟨hon, by rw [← eB]; exact hb3, hat1, Nat.le_refl _, by omega, hR, hRC, rfl⟩⟩
      · have e0 : num0 (S1.say cc) = 0 := Classical.byContradiction fun z => ct (decide_eq_true z)
        have e2 : S1.truth cc = false := decide_eq_false fun z => z e0
        rw [e2] at hb3 hR hRC
        refine ⟨rfl, .inr ⟨_, rfl, ?_⟩⟩
        refine ⟨q3, _, _, _, rfl, rfl, SqL.of l4, rfl, _, rfl, m, _, rfl, dput_s h4.hm mdlen, ?_⟩
        have h5 := h4.put (w : Int) S1 (kvs := putK (mdD c (i1 : Int) nm op dn lt aw S1) (Sum.inr "at") (.int (w : Int))) rfl
        have o5 := h4.putO o4 (kvs := putK (mdD c (i1 : Int) nm op dn lt aw S1) (Sum.inr "at") (.int (w : Int)))
        exact ⟨_, less, U1, S1.setK (bb.app r), cs, n', w, D, _, _, _, _, by rw [← en]; rfl, ev.trans ((Evo.same s4).trans h4.putE), ⟨c, nm, op, dn, lt, aw, by rw [← eB]; exact (h5.setK _).le (Nat.le_succ _), o5⟩, by omega, .inl ⟨hon, by rw [← eB]; exact hb3, hat2, Nat.le_refl _, by omega, hR, hRC, rfl⟩⟩
    | whl cc ba r w hx hk hat1 hat2 =>
      rw [noend hx]
      refine iteF ?_
      obtain ⟨e, he, hen⟩ := Paired.get_ c2 hx
      obtain ⟨te, v, p, hee, hb⟩ := hen
      obtain ⟨sp, u, pa, va, vr, eq, hsp, hq2, _⟩ := hb
      injection eq with eq _
      injection eq with eq
      subst eq
      refine ⟨_, rfl, m, _, rfl, dget_s h.hm rfl, _, rfl, m, _, rfl, dget_s h.hm rfl, c, _, _, _, rfl, rfl, SqL.of c1, ixe he, e, _, rfl, SqL.of hee, rfl, _, _, rfl, _, _, rfl, _, _, rfl, _, _, rfl, rfl, ?_⟩
      refine ⟨_, rfl, rfl, _, rfl, iteF ?_⟩
      -- too many
      refine ⟨_, rfl, rfl, _, rfl, ?_⟩
      by_cases hn0 : n = 0
      · subst hn0
        rw [show decide (V.int (((300 - 0 : Nat)) : Int) = V.int 300) = true from rfl]
        refine iteT ?_
        refine ⟨_, rfl, m, _, rfl, dput_s h.hm mdlen, ?_⟩
        have h2 := h.put (i1 : Int) (S1.setM .worn) (kvs := putK (mdD c (i1 : Int) nm op dn lt aw S1) (Sum.inr "mode") (.str "worn")) rfl
        have o2 := h.putO ho (kvs := putK (mdD c (i1 : Int) nm op dn lt aw S1) (Sum.inr "mode") (.str "worn"))
        refine ⟨Nat.zero_le _, fun p hp => ?_⟩
        have h3 := h2.newO hp (kvs := putK (mdD c (i1 : Int) nm op dn lt aw (S1.setM .worn)) (Sum.inr "open") (.ref p)) [] rfl
        have o3 := h2.newR o2 hp (t := .op) (o := .lst []) (kvs := putK (mdD c (i1 : Int) nm op dn lt aw (S1.setM .worn)) (Sum.inr "open") (.ref p))
        refine ⟨_, rfl, m, _, rfl, dput_s (same_new hp _ _ _ h2.hm) mdlen, ?_⟩
        obtain ⟨as, a1, a2⟩ := o3.lst
        refine ⟨_, rfl, tyL a1, by show 1 ≤ sizeLine; decide, fun q hq => ?_⟩
        refine ⟨od, _, _, rfl, rfl, same_new hq _ _ _ a1, by rw [List.length_map, a2]; exact szB (by omega), ?_⟩
        have s4 := same_new hq (.tup [.str "worn"])
        have h4 := h3.same s4
        have o4 := o3.same s4
        have o5 := o4.add (s4 _ _ a1) upd_same
        have eR : go 0 S1 = (S1.worn, [[.str "worn"]]) := go_zero (by rw [hk]; exact fun z => nomatch z)
        rw [eR] at hR hRC
        refine k _ _ i1 (ev.trans ((h.putE).trans ((h2.newE hp).trans ((Evo.same s4).trans o4.evo)))) ?_ ?_
        · rw [hR, hRC]
          exact ⟨c, nm, p, dn, lt, aw, (h4.ord o4).le (by omega), o5⟩
        · rw [hR]
          intro z
          rcases z with z | z <;> cases z
      obtain ⟨n', rfl⟩ : ∃ n', n = n' + 1 := ⟨n - 1, by omega⟩
      have en : ((300 - (n' + 1) : Nat) : Int) + 1 = ((300 - n' : Nat) : Int) := by omega
      have eB : B + (300 - (n' + 1)) + 1 = B + (300 - n') := by omega
      rw [show decide (V.int ((300 - (n' + 1) : Nat) : Int) = V.int 300) = false from decide_eq_false fun z => by
        have z := V.int.inj z
        omega]
      refine iteF ?_
      refine ⟨_, rfl, _, _, rfl, rfl, ?_⟩
      have ko := hB2.ko
      rw [hk] at ko
      have less : n' * (D + 2) + D + 1 < mm := by
        rw [hmm, Nat.add_mul]
        omega
      refine ⟨_, rfl, by show 2 ≤ sizeLine; decide, fun q hq => ⟨q, _, rfl, .inl (SqL.of upd_same), rfl, rfl, _, rfl, iteT ?_⟩⟩
      have s2 := same_new hq (.lst [.str "if", .str "while"])
      have h2 := h.same s2
      have o2 := ho.same s2
      refine ⟨_, rfl, _, rfl, m, _, rfl, dget_s h2.hm rfl, _, _, rfl, rfl, by show 2 ≤ sizeLine; decide, fun q3 hq3 => ?_⟩
      have s3 := s2.trans (same_new hq3 (.lst [.int (w : Int), .int ((i1 : Int) + 1)]))
      have h3 := h.same s3
      refine ⟨_, rfl, v, _, _, _, rfl, rfl, SqT.of (s3 _ _ hsp), rfl, _, rfl, ?_⟩
      refine ⟨cc, u, m, S1, rfl, hq2.mono (TupS.of_same s3), ko.1.2, ko.1.1, h3.env, hB2.sm, fun H4 g4 => ?_⟩
      have s4 := s3.trans g4
      have h4 := h.same s4
      have o4 := ho.same s4
      have l4 := g4 _ _ (upd_same (H := upd H1 q (.lst [.str "if", .str "while"])) (a := q3) (o := .lst [.int (w : Int), .int ((i1 : Int) + 1)]))
      have st := step_whl hk
      have hb3 := hB2.step (by omega)
      rw [st] at hb3
      rw [go_go st] at hR hRC
      refine ⟨_, tru_w _, ?_⟩
      refine ite2 (fun ct => ?_) (fun ct => ?_)
      · have e0 : num0 (S1.say cc) ≠ 0 := of_decide_eq_true ct
        have e1 : (!decide (wv (S1.say cc) = V.int 0)) = true := by
          rw [num0_t ct, dec_int, Bool.beq_eq_decide_eq, decide_eq_false e0]
          rfl
        have e2 : S1.truth cc = true := ct
        rw [e2] at hb3 hR hRC
        refine ⟨by rw [num0_t ct]; rfl, .inr ⟨_, rfl, ?_⟩⟩
        rw [e1]
        refine ⟨q3, _, _, _, rfl, rfl, SqL.of l4, rfl, _, rfl, m, _, rfl, dput_s h4.hm mdlen, ?_⟩
        have h5 := h4.put ((i1 + 1 : Nat) : Int) S1 (kvs := putK (mdD c (i1 : Int) nm op dn lt aw S1) (Sum.inr "at") (.int ((i1 : Int) + 1))) rfl
        have o5 := h4.putO o4 (kvs := putK (mdD c (i1 : Int) nm op dn lt aw S1) (Sum.inr "at") (.int ((i1 : Int) + 1)))
        exact ⟨_, less, U1, S1.setK (ba.app (.whl cc ba r)), cs, n', i1 + 1, D, _, _, _, _, by rw [← en]; rfl, ev.trans ((Evo.same s4).trans h4.putE), ⟨c, nm, op, dn, lt, aw, by rw [← eB]; exact (h5.setK _).le (Nat.le_succ _), o5⟩, by omega, .inl ⟨hon, by rw [← eB]; exact hb3, hat1, Nat.le_refl _, by omega, hR, hRC, rfl⟩⟩
      · have e0 : num0 (S1.say cc) = 0 := Classical.byContradiction fun z => ct (decide_eq_true z)
        have e2 : S1.truth cc = false := decide_eq_false fun z => z e0
        rw [e2] at hb3 hR hRC
        refine ⟨rfl, .inr ⟨_, rfl, ?_⟩⟩
        refine ⟨q3, _, _, _, rfl, rfl, SqL.of l4, rfl, _, rfl, m, _, rfl, dput_s h4.hm mdlen, ?_⟩
        have h5 := h4.put (w : Int) S1 (kvs := putK (mdD c (i1 : Int) nm op dn lt aw S1) (Sum.inr "at") (.int (w : Int))) rfl
        have o5 := h4.putO o4 (kvs := putK (mdD c (i1 : Int) nm op dn lt aw S1) (Sum.inr "at") (.int (w : Int)))
        exact ⟨_, less, U1, S1.setK r, cs, n', w, D, _, _, _, _, by rw [← en]; rfl, ev.trans ((Evo.same s4).trans h4.putE), ⟨c, nm, op, dn, lt, aw, by rw [← eB]; exact (h5.setK _).le (Nat.le_succ _), o5⟩, by omega, .inl ⟨hon, by rw [← eB]; exact hb3, hat2, Nat.le_refl _, by omega, hR, hRC, rfl⟩⟩
  · -- behind the loop
    have e : decide (V.str S1.mode.str = V.str "on") = false := decide_eq_false fun z => by
      have z := V.str.inj z
      revert z hoff
      cases S1.mode <;> first | (intro a b; exact absurd rfl a) | (intro _; decide +kernel)
    rw [e]
    refine iteF ?_
    subst hR hRC
    exact k U1 H1 i1 ev ⟨c, nm, op, dn, lt, aw, h.le (by omega), ho⟩ hst
end
end L2.K17

set_option maxHeartbeats 4000000
/-! the law's model: behind a wait or a hear; a happening -/
namespace L2.K17
open PySem L2
/-- the name of a wait or a hear -/
def Simp.nameW : Simp → Option Str
  | .wait x _ => some x
  | .hear x _ => some x
  | _ => none
theorem behind_eq {S : AS} {s : Simp} {r : Blk} {x : Str} {w : Option Int} (hk : S.K = .one s r) (hx : s.nameW = some x) : S.behind w = go 300 (((S.setN x w).setK r).setM .on) := by
  unfold AS.behind
  rw [hk]
  cases s with
  | wait y es =>
    cases hx
    rfl
  | hear y k =>
    cases hx
    rfl
  | _ => cases hx
def spLBehind (D : Nat) : Sp := fun vs H Q _ => ∃ (T : Tg) (m od : Addr) (i : Nat) (B : Nat) (code : List CE) (S : AS) (w : Option Int) (s : Simp) (r : Blk) (x : Str), vs = [.ref m, wv w, .ref od] ∧ MdO T H m od (i : Int) B code S [] ∧ Bnd B S ∧ B ≤ 70000 ∧ Sm w ∧
  S.K = .one s r ∧ s.nameW = some x ∧ code[i]? = some (.st (.one s .nil) none) ∧ At code D (i + 1) r D ∧ code.length ≤ 100000 ∧
  ∀ T' H' (i' : Nat), Evo T H T' H' → MdO T' H' m od (i' : Int) (B + 301) code (S.behind w).1 (S.behind w).2 → Stands code D i' (S.behind w).1 → Q .non H'
section
variable {P : Program} {w : World} {K : PySem.W.Frag} {mg : Str → Option Value} {base : Heap}
theorem sc_law_goes_behind : FnScope ["run", "worth", "orders"] ["run", "worth", "orders"] (defScope s_law_goes_behind) := ⟨rfl, rfl, rfl, by decide +kernel, rfl, by decide +kernel, by decide +kernel⟩
theorem D_law_goes_behind (T : Tx K mg) (D : Nat) : Def1 P w K mg base 8 "_law_goes_behind" ["run", "worth", "orders"] (spLBehind D) := by
  have D_law_go : Def1 P w K mg base 7 "_law_go" ["run", "orders"] (spLGo D) := D_law_go T D
  refine T.mk1 (st := s_law_goes_behind) 26 26 rfl rfl sc_law_goes_behind (fun _ _ _ _ _ _ us hl => match us, hl with | [_, _, _], _ => rfl) (fun vs H Q E h => ?_) (fun cdv A outer s H vs Q E hr h => ?_)
  · obtain ⟨_, _, _, _, _, _, _, _, _, _, _, rfl, _⟩ := h
    rfl
  obtain ⟨U, m, od, i, B, code, S, w0, s, r, x, rfl, ⟨c, nm, op, dn, lt, aw, h, ho⟩, hB, hB9, sw, hk, hx, hci, hat, hcl, k⟩ := h
  have hu := hu_of hr
  refine ⟨_, (pss_cons (ps_dput hu (pe_dget hu (pv 0) pe_str (fun _ _ => rfl)) (pe_ix ix_tup (pe_ix ix_list (pe_ix ix_list (pe_dget hu (pv 0) pe_str (fun _ _ => rfl)) (pe_dget hu (pv 0) pe_str (fun _ _ => rfl)) (fun _ _ => rfl)) pe_int (fun _ _ => rfl)) pe_int (fun _ _ => rfl)) (pv 1) rfl)
    (pss_cons (ps_dput hu (pv 0) pe_str (pe_op op_add (pe_dget hu (pv 0) pe_str (fun _ _ => rfl)) pe_int) rfl)
    (pss_one (ps_expr (pe_c D_law_go (hr.mono (by omega)) (pa_cons (pv 0) (pa_cons (pv 2) pa_nil))))))), ?_⟩
  have hcd := h.cd
  obtain ⟨tc, es, c1, c2⟩ := hcd
  obtain ⟨e, he, hen⟩ := Paired.get_ c2 hci
  obtain ⟨te, v, p, hee, hb⟩ := hen
  obtain ⟨sp, us, vr, eq, hsp, hs, _⟩ := hb
  injection eq with eq _
  injection eq with eq
  subst eq
  have ixe : atI (es.map V.ref) ((i : Nat) : Int) = some (.ref e) := atI_nat (by rw [List.getElem?_map, he]; rfl)
  have hus : atI us 1 = some (.str x) := by
    cases s with
    | wait y es =>
      cases hx
      obtain ⟨_, _, rfl, _⟩ := hs
      rfl
    | hear y k =>
      cases hx
      cases hs
      rfl
    | _ => cases hx
  have h0 := h
  obtain ⟨kn, n1, n2, _⟩ := h0.co.hn
  refine ⟨_, rfl, _, rfl, m, _, rfl, dget_s h.hm rfl, _, rfl, m, _, rfl, dget_s h.hm rfl, _, rfl, m, _, rfl, dget_s h.hm rfl, c, _, _, _, rfl, rfl, SqL.of c1, ixe, e, _, _, _, rfl, rfl, SqL.of hee, rfl, v, _, _, _, rfl, rfl, SqT.of hsp, hus, nm, _, rfl, dput_s n1 (szB (by omega)), ?_⟩
  have h1 := h.setN n1 x w0
  have o1 := h.nmO ho (kvs := putK kn (Sum.inr x) (wv w0))
  refine ⟨_, rfl, m, _, rfl, dget_s h1.hm rfl, _, _, rfl, rfl, _, rfl, m, _, rfl, dput_s h1.hm mdlen, ?_⟩
  have h2 := (h1.put ((i + 1 : Nat) : Int) (S.setN x w0) (kvs := putK (mdD c (i : Int) nm op dn lt aw (S.setN x w0)) (Sum.inr "at") (.int ((i : Int) + 1))) rfl).setK r
  have o2 := h1.putO o1 (kvs := putK (mdD c (i : Int) nm op dn lt aw (S.setN x w0)) (Sum.inr "at") (.int ((i : Int) + 1)))
  have ko := hB.ko
  rw [hk] at ko
  have hB2 : Bnd (B + 1) ((S.setN x w0).setK r) := ((hB.setN sw).setK ko.2).mono (Nat.le_succ B)
  refine ⟨_, rfl, _, rfl, U, m, od, i + 1, B + 1, code, (S.setN x w0).setK r, rfl, ⟨c, nm, op, dn, lt, aw, h2, o2⟩, hB2, by omega, hat, hcl, fun T' H' i' ev M st => ?_⟩
  rw [behind_eq hk hx] at k
  exact k T' H' i' ((h.nmE.trans h1.putE).trans ev) (M.le (by omega)) st
end
end L2.K17

set_option maxHeartbeats 4000000
/-! the law's model: a happening; what it waits for -/
namespace L2.K17
open PySem L2
def HapH (H : Hp) (p : Addr) : Hap → Prop
  | .begin m w => H p = some (.tup [.str "begin", .int m, wv w])
  | .done m t w => H p = some (.tup [.str "done", .int m, .int t, wv w])
  | .letter m k w => H p = some (.tup [.str "letter", .int m, .str k, wv w])
theorem HapH.mono {H H' : Hp} {p : Addr} {h : Hap} (k : TupS H H') (q : HapH H p h) : HapH H' p h := by
  cases h with
  | «begin» m w => exact k _ _ q
  | done m t w => exact k _ _ q
  | letter m y w => exact k _ _ q
/-- the model between two happenings -/
def MdR (T : Tg) (H : Hp) (m : Addr) (B : Nat) (code : List CE) (D : Nat) (S : AS) : Prop :=
  ∃ c nm op dn lt aw, ∃ i : Nat, Mdl T H m c nm op dn lt aw (i : Int) B code S ∧ Bnd B S ∧ Rest S ∧ Stands code D i S ∧ (S.mode = .new → At code D i S.K D) ∧ code.length ≤ 100000
def spLTakes (D : Nat) : Sp := fun vs H Q _ => ∃ (T : Tg) (m hp : Addr) (B : Nat) (code : List CE) (S : AS) (p : Hap), vs = [.ref m, .ref hp] ∧ HapH H hp p ∧ p.ok ∧ MdR T H m B code D S ∧ B ≤ 60000 ∧
  ∀ T' H' od, Evo T H T' H' → MdR T' H' m (B + 302) code D (S.take p).1 → OrdH H' od (S.take p).2 → Q (.ref od) H'
theorem ended_mode {S : AS} (h : Rest S) : S.mode = .ended ∨ S.mode = .worn → S.opn = [] := fun z => Classical.byContradiction fun q => by
  rcases h.op q with e | e <;> rcases z with z | z <;> rw [e] at z <;> cases z
theorem go_new : ∀ (n : Nat) (S : AS), (go n S).1.mode = .new → S.mode = .new
  | 0, S, h => by
    by_cases e : S.K = .nil
    · rw [go_nil e] at h
      cases h
    · rw [go_zero e] at h
      cases h
  | n + 1, S, h => by
    cases e : step S with
    | stop S1 c =>
      rw [go_stop e] at h
      unfold step at e
      cases eK : S.K with
      | nil =>
        rw [eK] at e
        cases e
        cases h
      | ite c a b r =>
        rw [eK] at e
        cases e
      | whl c a r =>
        rw [eK] at e
        cases e
      | one s r =>
        rw [eK] at e
        cases s with
        | wait x es =>
          have q := (wait_stop e).1
          rw [q] at h
          cases h
        | hear x k =>
          have q := (hear_stop e).1
          rw [q] at h
          cases h
        | fin e2 =>
          cases e
          cases h
        | set _ _ => cases e
        | order _ _ _ _ => cases e
        | timer _ _ => cases e
        | send _ _ _ => cases e
        | drop _ => cases e
    | go S1 c =>
      rw [go_go e] at h
      have q := go_new n S1 h
      unfold step at e
      cases eK : S.K with
      | nil =>
        rw [eK] at e
        cases e
      | ite c a b r =>
        rw [eK] at e
        cases e
        exact q
      | whl c a r =>
        rw [eK] at e
        cases e
        exact q
      | one s r =>
        by_cases hp : s.isPlain
        · have e2 := step_plain eK hp
          have e : step S = .go S1 c := by
            unfold step
            exact e
          rw [e2] at e
          cases e
          have q : (doPlain S s).1.mode = .new := q
          rw [plain_mode] at q
          exact q
        · rw [eK] at e
          cases s with
          | wait x es =>
            rw [(wait_go e).1] at q
            exact q
          | hear x k =>
            rw [(hear_go e).1] at q
            exact q
          | fin e2 => cases e
          | set _ _ => exact absurd True.intro hp
          | order _ _ _ _ => exact absurd True.intro hp
          | timer _ _ => exact absurd True.intro hp
          | send _ _ _ => exact absurd True.intro hp
          | drop _ => exact absurd True.intro hp
theorem behind_new {S : AS} {w : Option Int} {s : Simp} {r : Blk} {x : Str} (hk : S.K = .one s r) (hx : s.nameW = some x) : (S.behind w).1.mode ≠ .new := fun h => by
  rw [behind_eq hk hx] at h
  have q := go_new _ _ h
  cases q
theorem mstr (a b : Mode) : decide (V.str a.str = V.str b.str) = decide (a = b) := by
  cases a <;> cases b <;> decide +kernel
theorem mode_in (a : Mode) : inV (.str a.str) [.str "wait", .str "hear"] = decide (a = .wait ∨ a = .hear) := by
  cases a <;> decide +kernel
theorem done_skip {c A B : Prop} [Decidable c] (h1 : c → A) (h2 : ¬ c → B) : if decide c = true then A else B := by
  by_cases h : c
  · rw [decide_eq_true h]
    exact iteT (h1 h)
  · rw [decide_eq_false h]
    exact iteF (h2 h)
theorem later0 {a b : Int} (h : a = 0) (hb : 0 ≤ b) : later a b = b := by
  subst h
  unfold later
  split <;> omega
section
variable {P : Program} {w : World} {K : PySem.W.Frag} {mg : Str → Option Value} {base : Heap}
theorem sc_law_takes : FnScope ["run", "happening", "orders", "word", "moment"] ["run", "happening"] (defScope s_law_takes) := ⟨rfl, rfl, rfl, by decide +kernel, rfl, by decide +kernel, by decide +kernel⟩
theorem D_law_takes (T : Tx K mg) (D : Nat) : Def1 P w K mg base 9 "_law_takes" ["run", "happening"] (spLTakes D) := by
  have D_law_go : Def1 P w K mg base 7 "_law_go" ["run", "orders"] (spLGo D) := D_law_go T D
  have D_law_goes_behind : Def1 P w K mg base 8 "_law_goes_behind" ["run", "worth", "orders"] (spLBehind D) := D_law_goes_behind T D
  refine T.mk1 (st := s_law_takes) 27 27 rfl rfl sc_law_takes (fun _ _ _ _ _ _ us hl => match us, hl with | [_, _], _ => rfl) (fun vs H Q E h => ?_) (fun cdv A outer s H vs Q E hr h => ?_)
  · obtain ⟨_, _, _, _, _, _, _, rfl, _⟩ := h
    rfl
  obtain ⟨U0, m, hp, B, code, S, p, rfl, hh, hok, ⟨c, nm, op, dn, lt, aw, i, h0, hB, hR, hSt, hNew, hcl⟩, hB9, k⟩ := h
  have hu := hu_of hr
  refine ⟨_, (pss_cons (ps_set (i := 2) sc_law_takes.nd rfl (Or.inl rfl) (pe_lst pa_nil))
    (pss_cons (ps_asg (pe_slice sl_tup (pv 1) po_none (po_some pe_int)) (pg_tup rfl (pgs_cons (pg_name (i := 3) sc_law_takes.nd rfl (Or.inl rfl)) (pgs_cons (pg_name (i := 4) sc_law_takes.nd rfl (Or.inl rfl)) pgs_nil))))
    (pss_cons (ps_if (PW.pt (pw_and (pt_cmpR op_eq (pe_dget hu (pv 0) pe_str (fun _ _ => rfl)) pe_str (nomark _)) (pw_and1 (pt_cmpR op_eq (pv 3) pe_str (nomark _))))) (pss_cons (ps_dput hu (pv 0) pe_str (pv 4) rfl)
    (pss_cons (ps_dput hu (pv 0) pe_str (pe_ix ix_tup (pv 1) pe_int (fun _ _ => rfl)) rfl)
    (pss_one (ps_expr (pe_c D_law_go (hr.mono (by omega)) (pa_cons (pv 0) (pa_cons (pv 2) pa_nil))))))) (pss_one (ps_if (PW.pt (pw_and (pt_cmpR op_eq (pv 3) pe_str (nomark _)) (pw_and1 (pt_cmpR op_in_seq (pe_ix ix_tup (pv 1) pe_int (fun _ _ => rfl)) (pe_dget hu (pv 0) pe_str (fun _ _ => rfl)) rfl)))) (pss_cons (ps_dput hu (pv 0) pe_str (pe_callB (call_max2 rfl) (by rfl) T.f_max (by decide +kernel) (pa_cons (pe_dget hu (pv 0) pe_str (fun _ _ => rfl)) (pa_cons (pv 4) pa_nil))) rfl)
    (pss_cons (ps_expr (pe_bm PySem.F.plainAttrs_list PySem.F.slot_list_remove PySem.F.type_list_remove mt_remove (pe_dget hu (pv 0) pe_str (fun _ _ => rfl)) (pa_cons (pe_ix ix_tup (pv 1) pe_int (fun _ _ => rfl)) pa_nil)))
    (pss_cons (ps_expr (pe_bm PySem.F.plainAttrs_list PySem.F.slot_list_append PySem.F.type_list_append mt_append (pe_dget hu (pv 0) pe_str (fun _ _ => rfl)) (pa_cons (pe_tup (pa_cons (pe_ix ix_tup (pv 1) pe_int (fun _ _ => rfl)) (pa_cons (pe_ix ix_tup (pv 1) pe_int (fun _ _ => rfl)) pa_nil))) pa_nil)))
    (pss_one (ps_if (PW.pt (pw_and (pt_cmpR op_eq (pe_dget hu (pv 0) pe_str (fun _ _ => rfl)) pe_str (nomark _)) (pw_and1 (pt_cmpR op_in_seq (pe_ix ix_tup (pv 1) pe_int (fun _ _ => rfl)) (pe_dget hu (pv 0) pe_str (fun _ _ => rfl)) rfl)))) (pss_one (ps_expr (pe_c D_law_goes_behind (hr.mono (by omega)) (pa_cons (pv 0) (pa_cons (pe_ix ix_tup (pv 1) pe_int (fun _ _ => rfl)) (pa_cons (pv 2) pa_nil)))))) pss_nil))))) (pss_one (ps_if (PW.pt (pw_and (pt_cmpR op_eq (pv 3) pe_str (nomark _)) (pw_and1 (pt_cmpR op_in_seq (pe_dget hu (pv 0) pe_str (fun _ _ => rfl)) (pe_lst (pa_cons pe_str (pa_cons pe_str pa_nil))) rfl)))) (pss_cons (ps_dput hu (pv 0) pe_str (pe_callB (call_max2 rfl) (by rfl) T.f_max (by decide +kernel) (pa_cons (pe_dget hu (pv 0) pe_str (fun _ _ => rfl)) (pa_cons (pv 4) pa_nil))) rfl)
    (pss_cons (ps_dput hu (pe_dget hu (pv 0) pe_str (fun _ _ => rfl)) (pe_ix ix_tup (pv 1) pe_int (fun _ _ => rfl)) (pe_op op_cat (pe_dget2 hu (pe_dget hu (pv 0) pe_str (fun _ _ => rfl)) (pe_ix ix_tup (pv 1) pe_int (fun _ _ => rfl)) (pe_lst pa_nil) ⟨rfl, rfl, rfl, rfl⟩) (pe_lst (pa_cons (pe_ix ix_tup (pv 1) pe_int (fun _ _ => rfl)) pa_nil))) rfl)
    (pss_one (ps_if (PW.pt (pw_and (pt_cmpR op_eq (pe_dget hu (pv 0) pe_str (fun _ _ => rfl)) pe_str (nomark _)) (pw_and1 (pt_cmpR op_eq (pe_ix ix_tup (pe_ix ix_list (pe_ix ix_list (pe_dget hu (pv 0) pe_str (fun _ _ => rfl)) (pe_dget hu (pv 0) pe_str (fun _ _ => rfl)) (fun _ _ => rfl)) pe_int (fun _ _ => rfl)) pe_int (fun _ _ => rfl)) (pe_ix ix_tup (pv 1) pe_int (fun _ _ => rfl)) (nomark _))))) (pss_one (ps_expr (pe_c D_law_goes_behind (hr.mono (by omega)) (pa_cons (pv 0) (pa_cons (pe_bm PySem.F.plainAttrs_list PySem.F.slot_list_pop PySem.F.type_list_pop mt_popAt (pe_dget hu (pe_dget hu (pv 0) pe_str (fun _ _ => rfl)) (pe_ix ix_tup (pv 1) pe_int (fun _ _ => rfl)) (fun _ _ => rfl)) (pa_cons pe_int pa_nil)) (pa_cons (pv 2) pa_nil)))))) pss_nil)))) pss_nil)))))
    (pss_one (ps_ret (pv 2)))))), ?_⟩
  refine ⟨Nat.zero_le _, fun od hod => ?_⟩
  -- the orders
  have sO := same_new hod (.lst [])
  obtain ⟨U, hU⟩ : ∃ U, U = setT U0 od .od := ⟨_, rfl⟩
  have e0 : Evo U0 H U (upd H od (.lst [])) := by rw [hU]; exact Evo.new hod
  have h1 : Mdl U (upd H od (.lst [])) m c nm op dn lt aw (i : Int) B code S := by
    rw [hU]
    exact ⟨by rw [setT_ne (ne_of_none h0.hm hod)]; exact h0.tm, sO _ _ h0.hm, h0.co.new hod, h0.cd.new hod⟩
  have o1 : OrdT U (upd H od (.lst [])) od [] := ⟨by rw [hU]; exact setT_same, [], upd_same, .nil⟩
  have hh1 := hh.mono (TupS.of_same sO)
  have fin : ∀ T' H' (i' : Nat), Evo U0 H T' H' → MdO T' H' m od (i' : Int) (B + 302) code (S.take p).1 (S.take p).2 → Stands code D i' (S.take p).1 → ((S.take p).1.mode = .new → At code D i' (S.take p).1.K D) → Q (.ref od) H' := by
    intro T' H' i' ev ⟨c', nm', op', dn', lt', aw', hm', ho'⟩ s1 n1
    exact k T' H' od ev ⟨c', nm', op', dn', lt', aw', i', hm', (hB.take (by omega) hok).mono (by omega), hR.take p, s1, n1, hcl⟩ ho'.2
  cases p with
  | «begin» mo w0 =>
    have hh1 : upd H od (.lst []) hp = some (.tup [.str "begin", .int mo, wv w0]) := hh1
    have so : ∀ {q0 : Addr}, upd H od (.lst []) q0 = none → Same (upd H od (.lst [])) (upd (upd H od (.lst [])) q0 (.tup [.str "begin", .int mo])) := fun h => same_new h _
    have hok0 : 0 ≤ mo ∧ Sm w0 := hok
    refine ⟨_, rfl, _, rfl, hp, _, rfl, SqT.of hh1, (by intro z; have z2 : (2 : Nat) = _ := z.2; simp at z2), fun q0 hq0 => ⟨q0, _, rfl, SqT.of upd_same, rfl, _, _, rfl, _, _, rfl, rfl, ?_⟩⟩
    have h2 := h1.same (so hq0)
    have o2 := o1.same (so hq0)
    have hh2 := so hq0 _ _ hh1
    have e2 := e0.trans (Evo.same (so hq0))
    refine ⟨_, rfl, m, _, rfl, dget_s h2.hm rfl, rfl, _, rfl, ?_⟩
    rw [show decide (V.str S.mode.str = V.str "new") = decide (S.mode = .new) from mstr _ .new]
    by_cases c1 : S.mode = .new
    · rw [decide_eq_true c1]
      refine iteT ⟨_, rfl, rfl, _, rfl, iteT ?_⟩
      have el : later S.now mo = mo := later0 (hR.nw c1) hok0.1
      refine ⟨_, rfl, _, rfl, m, _, rfl, dput_s h2.hm mdlen, ?_⟩
      have h3 := h2.put (i : Int) (S.setNow (later S.now mo)) (kvs := putK (mdD c (i : Int) nm op dn lt aw S) (Sum.inr "now") (.int mo)) (by rw [el]; rfl)
      have o3 := h2.putO o2 (kvs := putK (mdD c (i : Int) nm op dn lt aw S) (Sum.inr "now") (.int mo))
      have hh3 := (h2.putE (o := .dK (putK (mdD c (i : Int) nm op dn lt aw S) (Sum.inr "now") (.int mo)))).tup _ _ hh2
      refine ⟨_, rfl, hp, _, _, _, rfl, rfl, SqT.of hh3, rfl, _, rfl, m, _, rfl, dput_s h3.hm mdlen, ?_⟩
      have h4 := h3.put (i : Int) (S.began mo w0) (kvs := putK (mdD c (i : Int) nm op dn lt aw (S.setNow (later S.now mo))) (Sum.inr "arg") (wv w0)) rfl
      have o4 := h3.putO o3 (kvs := putK (mdD c (i : Int) nm op dn lt aw (S.setNow (later S.now mo))) (Sum.inr "arg") (wv w0))
      refine ⟨_, rfl, _, rfl, U, m, od, i, B, code, S.began mo w0, rfl, ⟨c, nm, op, dn, lt, aw, h4, o4⟩, hB.began hok0.2, by omega, hNew c1, hcl, fun T' H' i' ev M st => ?_⟩
      have ek : S.take (.begin mo w0) = go 300 ((S.began mo w0).setM .on) := if_pos c1
      refine ⟨_, rfl, fin T' H' i' (e2.trans (h2.putE.trans (h3.putE.trans ev))) ?_ ?_ ?_⟩
      · rw [ek]
        exact M.le (by omega)
      · rw [ek]
        exact st
      · rw [ek]
        intro z
        have := go_new _ _ z
        cases this
    · rw [decide_eq_false c1]
      refine iteF (iteF ⟨_, rfl, rfl, _, rfl, iteF (iteF ⟨_, rfl, rfl, _, rfl, iteF (iteF ?_)⟩)⟩)
      have ek : S.take (.begin mo w0) = (S, []) := if_neg c1
      refine ⟨_, rfl, fin U _ i e2 ?_ ?_ ?_⟩
      · rw [ek]
        exact ⟨c, nm, op, dn, lt, aw, h2.le (by omega), o2⟩
      · rw [ek]
        exact hSt
      · rw [ek]
        exact hNew
  | done mo t w0 =>
    have hh1 : upd H od (.lst []) hp = some (.tup [.str "done", .int mo, .int t, wv w0]) := hh1
    have so : ∀ {q0 : Addr}, upd H od (.lst []) q0 = none → Same (upd H od (.lst [])) (upd (upd H od (.lst [])) q0 (.tup [.str "done", .int mo])) := fun h => same_new h _
    have hok0 : 0 ≤ mo ∧ Sm w0 := hok
    refine ⟨_, rfl, _, rfl, hp, _, rfl, SqT.of hh1, (by intro z; have z2 : (2 : Nat) = _ := z.2; simp at z2), fun q0 hq0 => ⟨q0, _, rfl, SqT.of upd_same, rfl, _, _, rfl, _, _, rfl, rfl, ?_⟩⟩
    have h2 := h1.same (so hq0)
    have o2 := o1.same (so hq0)
    have hh2 := so hq0 _ _ hh1
    have e2 := e0.trans (Evo.same (so hq0))
    refine ⟨_, rfl, m, _, rfl, dget_s h2.hm rfl, rfl, _, rfl, ?_⟩
    rw [show decide (V.str S.mode.str = V.str "new") = decide (S.mode = .new) from mstr _ .new]
    refine done_skip (fun _ => ⟨_, rfl, rfl, _, rfl, iteF ?_⟩) (fun _ => iteF ?_)
    all_goals
      refine ⟨_, rfl, rfl, _, rfl, iteT ?_⟩
      refine ⟨_, rfl, hp, _, _, _, rfl, rfl, SqT.of hh2, rfl, _, rfl, m, _, rfl, dget_s h2.hm rfl, op, _, rfl, .inl (SqL.of h2.co.ho), rfl, flat_is _, _, rfl, ?_⟩
      rw [show (if false = true then !inV (V.int t) (S.opn.map V.int) else inV (V.int t) (S.opn.map V.int)) = decide (t ∈ S.opn) from inV_t t _]
      by_cases ct : t ∈ S.opn
      · rw [decide_eq_true ct]
        refine iteT ?_
        have cm := hR.op (List.ne_nil_of_mem ct)
        refine ⟨_, rfl, m, _, rfl, dget_s h2.hm rfl, _, rfl, _, _, rfl, _, rfl, m, _, rfl, dput_s h2.hm mdlen, ?_⟩
        have h3 := h2.put (i : Int) (S.setNow (later S.now mo)) (kvs := putK (mdD c (i : Int) nm op dn lt aw S) (Sum.inr "now") (.int (later S.now mo))) rfl
        have o3 := h2.putO o2 (kvs := putK (mdD c (i : Int) nm op dn lt aw S) (Sum.inr "now") (.int (later S.now mo)))
        have hh3 := (h2.putE (o := .dK (putK (mdD c (i : Int) nm op dn lt aw S) (Sum.inr "now") (.int (later S.now mo))))).tup _ _ hh2
        obtain ⟨j, j1, j2, j3, j4⟩ := first_at ct
        refine ⟨_, rfl, m, _, rfl, dget_s h3.hm rfl, tyL h3.co.ho, _, rfl, hp, _, _, _, rfl, rfl, SqT.of hh3, rfl, op, S.opn, t, j, rfl, rfl, h3.co.ho, j2, j3, ?_⟩
        have h4 := h3.setO (S.opn.eraseIdx j)
        have o4 := h3.opO o3 (o := .lst ((S.opn.eraseIdx j).map V.int))
        have hh4 := (h3.opE (o := .lst ((S.opn.eraseIdx j).map V.int))).tup _ _ hh3
        have h40 := h4
        obtain ⟨as, d1, d2⟩ := h40.co.hd
        have hal := Paired.len d2
        have hdl := hB.dl
        refine ⟨_, rfl, m, _, rfl, dget_s h4.hm rfl, tyL d1, _, rfl, hp, _, _, _, rfl, rfl, SqT.of hh4, rfl, _, rfl, hp, _, _, _, rfl, rfl, SqT.of hh4, rfl, by show 2 ≤ sizeLine; decide, fun q hq => ?_⟩
        have s5 := same_new hq (.tup [.int t, wv w0])
        refine ⟨dn, _, _, rfl, rfl, s5 _ _ d1, by rw [List.length_map, hal]; exact szB (by show S.done.length ≤ 100000; omega), ?_⟩
        obtain ⟨h6, o6, e6⟩ := (h4.same s5).addD (o4.same s5) (s5 _ _ d1) (t := t) (w := w0) upd_same
        have hh6 := e6.tup _ _ (s5 _ _ hh4)
        have ev6 := e2.trans (h2.putE.trans (h3.opE.trans ((Evo.same s5).trans e6)))
        have esd : ((S.setNow (later S.now mo)).setO (S.opn.eraseIdx j)).setDone (S.done ++ [(t, w0)]) = S.did mo t w0 := by
          rw [j4]
          rfl
        have h6 : Mdl U _ m c nm op dn lt aw (i : Int) B code (((S.setNow (later S.now mo)).setO (S.opn.eraseIdx j)).setDone (S.done ++ [(t, w0)])) := h6
        rw [esd] at h6
        refine ⟨_, rfl, m, _, rfl, dget_s h6.hm rfl, rfl, _, rfl, ?_⟩
        rw [show decide (V.str (S.did mo t w0).mode.str = V.str "wait") = decide (S.mode = .wait) from mstr _ .wait]
        have hBd := hB.did (n := mo) (t := t) hok0.2
        have ek0 : S.take (.done mo t w0) = if S.mode = .wait ∧ t ∈ S.awaited then (S.did mo t w0).behind (some t) else (S.did mo t w0, []) := if_pos ⟨cm, ct⟩
        by_cases cw : S.mode = .wait
        · rw [decide_eq_true cw]
          refine iteT ?_
          refine ⟨_, rfl, hp, _, _, _, rfl, rfl, SqT.of hh6, rfl, _, rfl, m, _, rfl, dget_s h6.hm rfl, aw, _, rfl, .inl (SqL.of h6.co.hw), rfl, flat_is _, _, rfl, ?_⟩
          rw [show (if false = true then !inV (V.int t) ((S.did mo t w0).awaited.map V.int) else inV (V.int t) ((S.did mo t w0).awaited.map V.int)) = decide (t ∈ S.awaited) from inV_t t _]
          by_cases ca : t ∈ S.awaited
          · rw [decide_eq_true ca]
            refine iteT ?_
            have ek : S.take (.done mo t w0) = (S.did mo t w0).behind (some t) := ek0.trans (if_pos ⟨cw, ca⟩)
            obtain ⟨s0, r0, q1, q2, q3⟩ := hSt cm
            obtain ⟨x, es, r1, q4⟩ := hR.wt cw
            rw [q1] at q4
            injection q4 with q4 q5
            have hx : s0.nameW = some x := by rw [q4]; rfl
            refine ⟨_, rfl, _, rfl, hp, _, _, _, rfl, rfl, SqT.of hh6, rfl, _, rfl, U, m, od, i, B + 1, code, S.did mo t w0, some t, s0, r0, x, rfl, ⟨c, nm, op, dn, lt, aw, h6.le (Nat.le_succ B), o6⟩, hBd, by omega, hB.ot t ct, q1, hx, q2, q3, hcl, fun T' H' i' ev M st => ?_⟩
            refine ⟨_, rfl, fin T' H' i' (ev6.trans ev) ?_ ?_ ?_⟩
            · rw [ek]
              exact M
            · rw [ek]
              exact st
            · rw [ek]
              exact fun z => absurd z (behind_new q1 hx)
          · rw [decide_eq_false ca]
            refine iteF ?_
            have ek : S.take (.done mo t w0) = (S.did mo t w0, []) := ek0.trans (if_neg fun z => ca z.2)
            refine ⟨_, rfl, fin U _ i ev6 ?_ ?_ ?_⟩
            · rw [ek]
              exact ⟨c, nm, op, dn, lt, aw, h6.le (by omega), o6⟩
            · rw [ek]
              exact hSt
            · rw [ek]
              exact hNew
        · rw [decide_eq_false cw]
          refine iteF (iteF ?_)
          have ek : S.take (.done mo t w0) = (S.did mo t w0, []) := ek0.trans (if_neg fun z => cw z.1)
          refine ⟨_, rfl, fin U _ i ev6 ?_ ?_ ?_⟩
          · rw [ek]
            exact ⟨c, nm, op, dn, lt, aw, h6.le (by omega), o6⟩
          · rw [ek]
            exact hSt
          · rw [ek]
            exact hNew
      · rw [decide_eq_false ct]
        refine iteF ⟨_, rfl, rfl, _, rfl, iteF (iteF ?_)⟩
        have ek : S.take (.done mo t w0) = (S, []) := if_neg fun z => ct z.2
        refine ⟨_, rfl, fin U _ i e2 ?_ ?_ ?_⟩
        · rw [ek]
          exact ⟨c, nm, op, dn, lt, aw, h2.le (by omega), o2⟩
        · rw [ek]
          exact hSt
        · rw [ek]
          exact hNew
  | letter mo y w0 =>
    have hh1 : upd H od (.lst []) hp = some (.tup [.str "letter", .int mo, .str y, wv w0]) := hh1
    have so : ∀ {q0 : Addr}, upd H od (.lst []) q0 = none → Same (upd H od (.lst [])) (upd (upd H od (.lst [])) q0 (.tup [.str "letter", .int mo])) := fun h => same_new h _
    have hok0 : 0 ≤ mo ∧ Sm w0 := hok
    refine ⟨_, rfl, _, rfl, hp, _, rfl, SqT.of hh1, (by intro z; have z2 : (2 : Nat) = _ := z.2; simp at z2), fun q0 hq0 => ⟨q0, _, rfl, SqT.of upd_same, rfl, _, _, rfl, _, _, rfl, rfl, ?_⟩⟩
    have h2 := h1.same (so hq0)
    have o2 := o1.same (so hq0)
    have hh2 := so hq0 _ _ hh1
    have e2 := e0.trans (Evo.same (so hq0))
    refine ⟨_, rfl, m, _, rfl, dget_s h2.hm rfl, rfl, _, rfl, ?_⟩
    rw [show decide (V.str S.mode.str = V.str "new") = decide (S.mode = .new) from mstr _ .new]
    refine done_skip (fun _ => ⟨_, rfl, rfl, _, rfl, iteF ?_⟩) (fun _ => iteF ?_)
    all_goals
      refine ⟨_, rfl, rfl, _, rfl, iteF (iteF ?_)⟩
      refine ⟨_, rfl, rfl, _, rfl, iteT ?_⟩
      refine ⟨_, rfl, m, _, rfl, dget_s h2.hm rfl, by show 2 ≤ sizeLine; decide, fun q3 hq3 => ⟨q3, _, rfl, .inl (SqL.of upd_same), rfl, rfl, _, rfl, ?_⟩⟩
      have s3 := same_new hq3 (.lst [.str "wait", .str "hear"])
      have h3 := h2.same s3
      have o3 := o2.same s3
      have hh3 := s3 _ _ hh2
      rw [show (if false = true then !inV (V.str S.mode.str) [.str "wait", .str "hear"] else inV (V.str S.mode.str) [.str "wait", .str "hear"]) = decide (S.mode = .wait ∨ S.mode = .hear) from mode_in _]
      by_cases cm : S.mode = .wait ∨ S.mode = .hear
      · rw [decide_eq_true cm]
        refine iteT ?_
        refine ⟨_, rfl, m, _, rfl, dget_s h3.hm rfl, _, rfl, _, _, rfl, _, rfl, m, _, rfl, dput_s h3.hm mdlen, ?_⟩
        have h4 := h3.put (i : Int) (S.setNow (later S.now mo)) (kvs := putK (mdD c (i : Int) nm op dn lt aw S) (Sum.inr "now") (.int (later S.now mo))) rfl
        have o4 := h3.putO o3 (kvs := putK (mdD c (i : Int) nm op dn lt aw S) (Sum.inr "now") (.int (later S.now mo)))
        have hh4 := (h3.putE (o := .dK (putK (mdD c (i : Int) nm op dn lt aw S) (Sum.inr "now") (.int (later S.now mo))))).tup _ _ hh3
        have e4 := e2.trans ((Evo.same s3).trans (h3.putE (o := .dK (putK (mdD c (i : Int) nm op dn lt aw S) (Sum.inr "now") (.int (later S.now mo))))))
        have h40 := h4
        obtain ⟨kvs, l1, l2, _⟩ := h40.co.hl
        have hat := h40.co.hl.at_ l1 y
        -- letters.get(key, []) + [w]
        refine ⟨_, rfl, m, _, rfl, dget_s h4.hm rfl, lt, rfl, .inl ⟨kvs, .inl l1⟩, _, rfl, hp, _, _, _, rfl, rfl, SqT.of hh4, rfl, Nat.zero_le _, fun q5 hq5 => ⟨_, dget_o (same_new hq5 _ _ _ l1), ?_⟩⟩
        have s5 := same_new hq5 (.lst [])
        obtain ⟨z, ez, hz⟩ := h40.co.hl.getD_ l1 hq5 y
        refine ⟨_, rfl, hp, _, _, _, rfl, rfl, SqT.of (s5 _ _ hh4), rfl, by show 1 ≤ sizeLine; decide, fun q6 hq6 => ⟨z, q6, _, _, ez, rfl, same_new hq6 _ _ _ hz, upd_same, ?_, fun p hp' => ?_⟩⟩
        · have := hB.ll y
          rw [List.length_map]
          exact szL (by show (S.lets y).length + 1 ≤ 100000; omega)
        have s6 := s5.trans (same_new hq6 (.lst [wv w0]))
        have h6 := h4.same s6
        have o6 := o4.same s6
        have l6 := s6 _ _ l1
        have exs : (S.lets y).map wv ++ [wv w0] = (S.lets y ++ [w0]).map wv := by
          rw [List.map_append]
          rfl
        obtain ⟨h8, o8, e8⟩ := h6.letsP o6 l6 hp' y (S.lets y ++ [w0])
        rw [← exs] at h8 o8 e8
        have h8 : Mdl _ _ m c nm op dn lt aw (i : Int) (B + 1) code (S.heard mo y w0) := h8
        have s7 := same_new hp' (.lst ((S.lets y).map wv ++ [wv w0]))
        have hh8 := e8.tup _ _ (s6 _ _ hh4)
        have ev8 := e4.trans ((Evo.same s6).trans e8)
        refine ⟨_, rfl, m, _, rfl, dget_s (s7 _ _ h6.hm) rfl, _, rfl, hp, _, _, _, rfl, rfl, SqT.of (s7 _ _ (s6 _ _ hh4)), rfl, lt, _, rfl, dput_s (s7 _ _ l6) (szB (by omega)), ?_⟩
        refine ⟨_, rfl, m, _, rfl, dget_s h8.hm rfl, rfl, _, rfl, ?_⟩
        rw [show decide (V.str (S.heard mo y w0).mode.str = V.str "hear") = decide (S.mode = .hear) from mstr _ .hear]
        have ek0 : S.take (.letter mo y w0) = if S.mode = .hear ∧ S.hears = some y then ((S.heard mo y w0).setL y ((S.lets y ++ [w0]).drop 1)).behind ((S.lets y ++ [w0]).headD none) else (S.heard mo y w0, []) := if_pos cm
        by_cases ch : S.mode = .hear
        · rw [decide_eq_true ch]
          refine iteT ?_
          obtain ⟨s0, r0, q1, q2, q3⟩ := hSt cm
          obtain ⟨x, k', r1, q4⟩ := hR.hr ch
          have ehe : S.hears = some k' := by
            unfold AS.hears
            rw [q4]
          rw [q1] at q4
          injection q4 with q4 q5
          subst q4
          have hcd := h8.cd
          obtain ⟨tc, es, c1, c2⟩ := hcd
          obtain ⟨e, he, hen⟩ := Paired.get_ c2 q2
          obtain ⟨te, v, pp, hee, hb⟩ := hen
          obtain ⟨sp, us, vr, eq, hsp, hs, _⟩ := hb
          injection eq with eq _
          injection eq with eq
          subst eq
          have hs : us = [.str "hear", .str x, .str k'] := hs
          subst hs
          have ixe : atI (es.map V.ref) ((i : Nat) : Int) = some (.ref e) := atI_nat (by rw [List.getElem?_map, he]; rfl)
          refine ⟨_, rfl, m, _, rfl, dget_s h8.hm rfl, _, rfl, m, _, rfl, dget_s h8.hm rfl, c, _, _, _, rfl, rfl, SqL.of c1, ixe, e, _, _, _, rfl, rfl, SqL.of hee, rfl, v, _, _, _, rfl, rfl, SqT.of hsp, rfl, _, rfl, hp, _, _, _, rfl, rfl, SqT.of hh8, rfl, rfl, _, rfl, ?_⟩
          by_cases ck : k' = y
          · subst ck
            rw [show decide (V.str k' = V.str k') = true from decide_eq_true rfl]
            refine iteT ?_
            have ek : S.take (.letter mo k' w0) = ((S.heard mo k' w0).setL k' ((S.lets k' ++ [w0]).drop 1)).behind ((S.lets k' ++ [w0]).headD none) := ek0.trans (if_pos ⟨ch, ehe⟩)
            obtain ⟨w1, wr, ew⟩ : ∃ w1 wr, S.lets k' ++ [w0] = w1 :: wr := by
              cases e : S.lets k' with
              | nil => exact ⟨w0, [], rfl⟩
              | cons a r => exact ⟨a, r ++ [w0], rfl⟩
            obtain ⟨hB2, hw1⟩ := hB.heard2 (n := mo) (k := k') hok0.2
            rw [ew] at ek hB2 hw1
            have nl : p ≠ lt := fun z => by
              rw [z] at hp'
              rw [hp'] at l6
              cases l6
            have hl : ∀ Hx : Hp, upd (upd Hx p (.lst ((S.lets k').map wv ++ [wv w0]))) lt (.dK (putK kvs (Sum.inr k') (.ref p))) p = some (.lst (wv w1 :: wr.map wv)) := fun Hx => by
              rw [upd_ne nl, upd_same, exs, ew]
              rfl
            have hv : valV (putK kvs (Sum.inr k') (.ref p)) (Sum.inr k') = some (.ref p) := by rw [valV_put, if_pos rfl]
            obtain ⟨h9, o9, e9⟩ := h8.letsL o8 upd_same hv wr
            refine ⟨_, rfl, _, rfl, m, _, rfl, dget_s h8.hm rfl, _, rfl, hp, _, _, _, rfl, rfl, SqT.of hh8, rfl, lt, _, rfl, dget_s upd_same hv, tyL (hl _), p, _, 0, 0, _, rfl, rfl, hl _, by decide, by decide, seqIndex_of (Int.le_refl 0) (by rw [List.length_cons]; omega), rfl, _, rfl, ?_⟩
            refine ⟨_, m, od, i, B + 1, code, (S.heard mo k' w0).setL k' wr, w1, .hear x k', r0, x, rfl, ⟨c, nm, op, dn, lt, aw, h9, o9⟩, hB2, by omega, hw1, q1, rfl, q2, q3, hcl, fun T' H' i' ev M st => ?_⟩
            refine ⟨_, rfl, fin T' H' i' (ev8.trans (e9.trans ev)) ?_ ?_ ?_⟩
            · rw [ek]
              exact M
            · rw [ek]
              exact st
            · rw [ek]
              exact fun z => absurd z (behind_new (s := .hear x k') q1 rfl)
          · rw [show decide (V.str k' = V.str y) = false from decide_eq_false fun z => ck (V.str.inj z)]
            refine iteF ?_
            have ek : S.take (.letter mo y w0) = (S.heard mo y w0, []) := ek0.trans (if_neg fun z => by
              have z2 := z.2
              rw [ehe] at z2
              exact ck (Option.some.inj z2))
            refine ⟨_, rfl, fin _ _ i ev8 ?_ ?_ ?_⟩
            · rw [ek]
              exact ⟨c, nm, op, dn, lt, aw, h8.le (by omega), o8⟩
            · rw [ek]
              exact hSt
            · rw [ek]
              exact hNew
        · rw [decide_eq_false ch]
          refine iteF (iteF ?_)
          have ek : S.take (.letter mo y w0) = (S.heard mo y w0, []) := ek0.trans (if_neg fun z => ch z.1)
          refine ⟨_, rfl, fin _ _ i ev8 ?_ ?_ ?_⟩
          · rw [ek]
            exact ⟨c, nm, op, dn, lt, aw, h8.le (by omega), o8⟩
          · rw [ek]
            exact hSt
          · rw [ek]
            exact hNew
      · rw [decide_eq_false cm]
        refine iteF ?_
        have ek : S.take (.letter mo y w0) = (S, []) := if_neg cm
        refine ⟨_, rfl, fin U _ i (e2.trans (Evo.same s3)) ?_ ?_ ?_⟩
        · rw [ek]
          exact ⟨c, nm, op, dn, lt, aw, h3.le (by omega), o3⟩
        · rw [ek]
          exact hSt
        · rw [ek]
          exact hNew
end
end L2.K17

set_option maxHeartbeats 4000000
/-! the law's model: the flat code is made -/
namespace L2.K17
open PySem L2
/-- the code while it is made -/
def CodeF (T : Tg) (H : Hp) (c : Addr) (code : List CE) : Prop := T c = .co ∧ ∃ es : List Addr, H c = some (.lst (es.map V.ref)) ∧ (c :: es).Nodup ∧ Paired (EntH T H) es code
theorem CodeF.h {T : Tg} {H : Hp} {c : Addr} {code : List CE} (h : CodeF T H c code) : CodeH T H c code := by
  obtain ⟨h0, es, h1, _, h2⟩ := h
  exact ⟨h0, es, h1, h2⟩
section
variable {T T1 : Tg} {H H1 : Hp} {c : Addr} {code : List CE}
theorem CodeF.same (h : CodeF T H c code) (s : Same H H1) : CodeF T H1 c code := by
  obtain ⟨h0, es, h1, hn, h2⟩ := h
  exact ⟨h0, es, s _ _ h1, hn, Paired.mapP h2 fun e x q => q.frame (TupS.of_same s) rfl fun o eo => s _ _ eo⟩
theorem CodeF.lst (h : CodeF T H c code) : ∃ es : List Addr, H c = some (.lst (es.map V.ref)) ∧ es.length = code.length := by
  obtain ⟨_, es, h1, _, h2⟩ := h
  exact ⟨es, h1, Paired.len h2⟩
theorem CodeF.app (h : CodeF T H c code) {es : List Addr} (e0 : H c = some (.lst (es.map V.ref))) {e : Addr} (he : H e = none) {L : List V} {x : CE} (hx : ∀ (T1 : Tg) (H1 : Hp), T1 e = .co → H1 e = some (.lst L) → TupS H H1 → EntH T1 H1 e x) :
    CodeF (setT T e .co) (upd (upd H e (.lst L)) c (.lst (es.map V.ref ++ [V.ref e]))) c (code ++ [x]) ∧ Evo T H (setT T e .co) (upd (upd H e (.lst L)) c (.lst (es.map V.ref ++ [V.ref e]))) := by
  obtain ⟨h0, es', h1, hn, h2⟩ := h
  rw [e0] at h1
  have e2 : es = es' := by
    have z : es.map V.ref = es'.map V.ref := by injection h1 with h1; injection h1
    exact (List.map_inj_right (fun x y q => by injection q)).mp z
  subst e2
  have s := same_new he (.lst L)
  have k1 : TupS (upd H e (.lst L)) (upd (upd H e (.lst L)) c (.lst (es.map V.ref ++ [V.ref e]))) := TupS.lst (s _ _ e0)
  have k : TupS H (upd (upd H e (.lst L)) c (.lst (es.map V.ref ++ [V.ref e]))) := (TupS.of_same s).trans k1
  have nec : e ≠ c := fun z => by
    rw [← z, he] at e0
    cases e0
  have tc : setT T e .co c = .co := by rw [setT_ne (Ne.symm nec)]; exact h0
  obtain ⟨hn1, hn2⟩ := List.nodup_cons.mp hn
  have there : ∀ b, b ∈ es → ∃ o, H b = some o := fun b hb => by
    obtain ⟨i, hi⟩ := List.getElem?_of_mem hb
    obtain ⟨y, _, q⟩ := Paired.get_l h2 hi
    obtain ⟨_, xs, q⟩ := q.tag
    exact ⟨_, q⟩
  have ne : e ∉ es := fun hb => by
    obtain ⟨o, q⟩ := there e hb
    rw [he] at q
    cases q
  refine ⟨⟨tc, es ++ [e], by rw [upd_same, List.map_append]; rfl, ?_, ?_⟩, (Evo.new he).trans (Evo.putL tc (by decide) (s _ _ e0))⟩
  · refine List.nodup_cons.mpr ⟨fun z => ?_, nd_snoc hn2 ne⟩
    rcases List.mem_append.mp z with q | q
    · exact hn1 q
    · exact nec (List.mem_singleton.mp q).symm
  · have pm : ∀ {l : List Addr} {r : List CE}, Paired (EntH T H) l r → (∀ b ∈ l, b ∈ es) → Paired (EntH (setT T e .co) (upd (upd H e (.lst L)) c (.lst (es.map V.ref ++ [V.ref e])))) l r := by
      intro l r q
      induction q with
      | nil => exact fun _ => .nil
      | @cons b y l r q _ ih =>
        intro hm
        have hb := hm b (List.mem_cons_self ..)
        have nb : b ≠ e := fun z => ne (by rw [← z]; exact hb)
        have nbc : b ≠ c := fun z => hn1 (by rw [← z]; exact hb)
        exact .cons (q.frame k (setT_ne nb) fun o eo => by rw [upd_ne nbc, upd_ne nb]; exact eo) (ih fun z hz => hm z (List.mem_cons_of_mem _ hz))
    exact Paired.snoc (hx _ _ setT_same (by rw [upd_ne nec]; exact upd_same) k) (pm h2 fun _ z => z)
/-- an entry is told where it goes -/
theorem CodeF.patch (h : CodeF T H c code) {es : List Addr} (e0 : H c = some (.lst (es.map V.ref))) {n : Nat} {x y : CE} (hn : code[n]? = some x) {e : Addr} (he : es[n]? = some e) {L : List V}
    (hy2 : EntH T H e x → ∀ (H1 : Hp), H1 e = some (.lst L) → TupS H H1 → EntH T H1 e y) :
    CodeF T (upd H e (.lst L)) c (code.set n y) ∧ Evo T H T (upd H e (.lst L)) := by
  obtain ⟨h0, es', h1, hnd, h2⟩ := h
  rw [e0] at h1
  have e2 : es = es' := by
    have z : es.map V.ref = es'.map V.ref := by injection h1 with h1; injection h1
    exact (List.map_inj_right (fun x y q => by injection q)).mp z
  subst e2
  obtain ⟨hn1, hn2⟩ := List.nodup_cons.mp hnd
  obtain ⟨x', hx', hex⟩ := Paired.get_l h2 he
  rw [hn] at hx'
  cases hx'
  obtain ⟨te, xs, hel⟩ := hex.tag
  have k : TupS H (upd H e (.lst L)) := TupS.lst hel
  have nec : c ≠ e := fun z => hn1 (by rw [z]; exact List.mem_of_getElem? he)
  refine ⟨⟨h0, es, by rw [upd_ne nec]; exact e0, hnd, ?_⟩, Evo.putL te (by decide) hel⟩
  have pm : ∀ {l : List Addr} {r : List CE} {n : Nat}, Paired (EntH T H) l r → l.Nodup → l[n]? = some e → Paired (EntH T (upd H e (.lst L))) l (r.set n y) := by
    intro l r n q
    induction q generalizing n with
    | nil =>
      intro _ z
      simp at z
    | @cons b z l r q t ih =>
      intro nd hl
      obtain ⟨nd1, nd2⟩ := List.nodup_cons.mp nd
      cases n with
      | zero =>
        cases hl
        refine .cons (hy2 hex _ upd_same k) ?_
        have pm2 : ∀ {l : List Addr} {r : List CE}, Paired (EntH T H) l r → e ∉ l → Paired (EntH T (upd H e (.lst L))) l r := by
          intro l r q
          induction q with
          | nil => exact fun _ => .nil
          | @cons b2 y2 l r q _ ih =>
            intro hm
            exact .cons (q.frame k rfl fun o eo => by rw [upd_ne fun z => hm (by rw [z]; exact List.mem_cons_self ..)]; exact eo) (ih fun z => hm (List.mem_cons_of_mem _ z))
        exact pm2 t nd1
      | succ n =>
        have hl : l[n]? = some e := hl
        have nb : b ≠ e := fun z => nd1 (by rw [z]; exact List.mem_of_getElem? hl)
        exact .cons (q.frame k rfl fun o eo => by rw [upd_ne nb]; exact eo) (ih nd2 hl)
  exact pm h2 hn2 he
end
theorem set_mid {α : Type} {pre post : List α} {x y : α} {n : Nat} (h : pre.length = n) : (pre ++ x :: post).set n y = pre ++ y :: post := by
  subst h
  simp
theorem cat_all {K : PySem.W.Frag} {a b : Addr} {xs ys : List V} {H : Hp} {Q : VK} (ha : SqT K H a xs) (hb : H b = some (.tup ys)) (hz : xs.length + ys.length ≤ sizeLine) (hne : ys ≠ []) (k : ∀ p H', Same H H' → H' p = some (.tup (xs ++ ys)) → Q (.ref p) H') : rCatA K (.ref a) (.ref b) H Q := by
  refine ⟨a, b, xs, ys, rfl, rfl, ha, SqT.of hb, hz, fun e => ?_, fun _ e => absurd e hne, fun _ _ p hp => k p _ (same_new hp _) upd_same⟩
  subst e
  exact k b H (Same.refl H) hb
/-- what is wanted of _law_flat at depth d -/
def spFlat (d : Nat) : Sp := fun vs H Q _ => ∃ (T : Tg) (b pa c : Addr) (blk : Blk) (ps : List V) (code : List CE), vs = [.ref b, .ref pa, .ref c] ∧ ProgH H blk b ∧ blk.depth < d ∧ H pa = some (.tup ps) ∧ ps.length + 2 * d ≤ 1000 ∧ CodeF T H c code ∧ code.length + blk.size ≤ 10000 ∧
  ∀ T' H', Evo T H T' H' → CodeF T' H' c (code ++ flatOf blk code.length) → Q .non H'
section
variable {P : Program} {w : World} {K : PySem.W.Frag} {mg : Str → Option Value} {base : Heap}
theorem sc_law_flat : FnScope ["block", "path", "code", "k", "here", "word", "at", "over"] ["block", "path", "code"] (defScope s_law_flat) := ⟨rfl, rfl, rfl, by decide +kernel, rfl, by decide +kernel, by decide +kernel⟩
theorem D_law_flat (T : Tx K mg) : ∀ d : Nat, Def1 P w K mg base (d + 1) "_law_flat" ["block", "path", "code"] (spFlat d)
  | 0 => by
    refine T.mk1 (st := s_law_flat) 18 18 rfl rfl sc_law_flat (fun _ _ _ _ _ _ us hl => match us, hl with | [_, _, _], _ => rfl) (fun vs H Q E h => ?_) (fun cdv A outer s H vs Q E hr h => ?_)
    · obtain ⟨_, _, _, _, _, _, _, rfl, _⟩ := h
      rfl
    · obtain ⟨_, _, _, _, _, _, _, rfl, _, h1, _⟩ := h
      omega
  | d + 1 => by
    have D_law_flat : Def1 P w K mg base (d + 1) "_law_flat" ["block", "path", "code"] (spFlat d) := D_law_flat T d
    refine T.mk1 (st := s_law_flat) 18 18 rfl rfl sc_law_flat (fun _ _ _ _ _ _ us hl => match us, hl with | [_, _, _], _ => rfl) (fun vs H Q E h => ?_) (fun cdv A outer s H vs Q E hr h => ?_)
    · obtain ⟨_, _, _, _, _, _, _, rfl, _⟩ := h
      rfl
    obtain ⟨U, b, pa, c, blk, ps, code, rfl, ⟨vs, hb, hbl⟩, hd, hpa, hpl, hc, hsz, k⟩ := h
    have hu := hu_of hr
    refine ⟨_, (pss_one (ps_for PassesOwn.never rfl (pi_range1 rfl T.f_range (pa_cons (pe_callB call_len_seq (by rfl) T.f_len (by decide +kernel) (pa_cons (pv 0) pa_nil)) pa_nil)) (pg_name (i := 3) sc_law_flat.nd rfl (Or.inl rfl)) (pss_cons (ps_set (i := 4) sc_law_flat.nd rfl (Or.inl rfl) (pe_op op_catA (pv 1) (pe_tup (pa_cons (pv 3) pa_nil))))
    (pss_cons (ps_set (i := 5) sc_law_flat.nd rfl (Or.inl rfl) (pe_ix ix_tup (pe_ix ix_tup (pv 0) (pv 3) (fun _ _ => rfl)) pe_int (fun _ _ => rfl)))
    (pss_cons (ps_set (i := 6) sc_law_flat.nd rfl (Or.inl rfl) (pe_callB call_len_seq (by rfl) T.f_len (by decide +kernel) (pa_cons (pv 2) pa_nil)))
    (pss_cons (ps_expr (pe_bm PySem.F.plainAttrs_list PySem.F.slot_list_append PySem.F.type_list_append mt_append (pv 2) (pa_cons (pe_lst (pa_cons (pv 5) (pa_cons (pe_ix ix_tup (pv 0) (pv 3) (fun _ _ => rfl)) (pa_cons (pv 4) (pa_cons pe_non pa_nil))))) pa_nil)))
    (pss_cons (ps_if (pt_cmpR op_eq (pv 5) pe_str (nomark _)) (pss_cons (ps_expr (pe_c D_law_flat (hr.mono (by omega)) (pa_cons (pe_ix ix_tup (pe_ix ix_tup (pv 0) (pv 3) (fun _ _ => rfl)) pe_int (fun _ _ => rfl)) (pa_cons (pe_op op_catA (pv 4) (pe_tup (pa_cons pe_int pa_nil))) (pa_cons (pv 2) pa_nil)))))
    (pss_cons (ps_expr (pe_bm PySem.F.plainAttrs_list PySem.F.slot_list_append PySem.F.type_list_append mt_append (pv 2) (pa_cons (pe_lst (pa_cons pe_str (pa_cons pe_non (pa_cons (pv 4) (pa_cons (pv 6) pa_nil))))) pa_nil)))
    (pss_one (ps_asg (pe_callB call_len_seq (by rfl) T.f_len (by decide +kernel) (pa_cons (pv 2) pa_nil)) (pg_sub (pe_ix ix_list (pv 2) (pv 6) (fun _ _ => rfl)) pe_int set_list))))) pss_nil)
    (pss_one (ps_if (pt_cmpR op_eq (pv 5) pe_str (nomark _)) (pss_cons (ps_expr (pe_c D_law_flat (hr.mono (by omega)) (pa_cons (pe_ix ix_tup (pe_ix ix_tup (pv 0) (pv 3) (fun _ _ => rfl)) pe_int (fun _ _ => rfl)) (pa_cons (pe_op op_catA (pv 4) (pe_tup (pa_cons pe_int pa_nil))) (pa_cons (pv 2) pa_nil)))))
    (pss_cons (ps_expr (pe_bm PySem.F.plainAttrs_list PySem.F.slot_list_append PySem.F.type_list_append mt_append (pv 2) (pa_cons (pe_lst (pa_cons pe_str (pa_cons pe_non (pa_cons (pv 4) (pa_cons pe_non pa_nil))))) pa_nil)))
    (pss_cons (ps_asg (pe_callB call_len_seq (by rfl) T.f_len (by decide +kernel) (pa_cons (pv 2) pa_nil)) (pg_sub (pe_ix ix_list (pv 2) (pv 6) (fun _ _ => rfl)) pe_int set_list))
    (pss_cons (ps_set (i := 7) sc_law_flat.nd rfl (Or.inl rfl) (pe_op op_sub (pe_callB call_len_seq (by rfl) T.f_len (by decide +kernel) (pa_cons (pv 2) pa_nil)) pe_int))
    (pss_cons (ps_expr (pe_c D_law_flat (hr.mono (by omega)) (pa_cons (pe_ix ix_tup (pe_ix ix_tup (pv 0) (pv 3) (fun _ _ => rfl)) pe_int (fun _ _ => rfl)) (pa_cons (pe_op op_catA (pv 4) (pe_tup (pa_cons pe_int pa_nil))) (pa_cons (pv 2) pa_nil)))))
    (pss_one (ps_asg (pe_callB call_len_seq (by rfl) T.f_len (by decide +kernel) (pa_cons (pv 2) pa_nil)) (pg_sub (pe_ix ix_list (pv 2) (pv 7) (fun _ _ => rfl)) pe_int set_list)))))))) pss_nil))))))))), ?_⟩
    have hvl := hbl.length
    have hls : ∀ x : Blk, x.len ≤ x.size := fun x => by
      induction x with
      | nil => exact Nat.le_refl _
      | one s r ih => exact Nat.succ_le_succ ih
      | ite c a b r _ _ ih =>
        show r.len + 1 ≤ a.size + b.size + r.size + 2
        omega
      | whl c a r _ ih =>
        show r.len + 1 ≤ a.size + r.size + 2
        omega
    have hls := hls blk
    refine ⟨_, rfl, b, _, rfl, .inr (SqT.of hb), _, rfl, by omega, by omega, for_range (lo := 0) (n := ((vs.length : Nat) : Int).toNat)
      (fun i σ H' => ∃ (T' : Tg) (rest : Blk) (code' : List CE) (v3 v4 v5 v6 v7 : Option V), σ = [some (.ref b), some (.ref pa), some (.ref c), v3, v4, v5, v6, v7] ∧ Evo U H T' H' ∧ Blk.suf i blk = some rest ∧ CodeF T' H' c code' ∧ code' ++ flatOf rest code'.length = code ++ flatOf blk code.length)
      ⟨U, blk, code, none, none, none, none, none, rfl, Evo.refl U H, rfl, hc, rfl⟩ ?_ ?_⟩
    · rintro i σ H1 hi ⟨U1, rest, code1, v3, v4, v5, v6, v7, rfl, ev, hsuf, hc1, heq⟩
      have hb1 := ev.tup _ _ hb
      have hpa1 := ev.tup _ _ hpa
      have hr1 := (hbl.mono ev.tup).suf hsuf
      have dr := suf_depth hsuf
      have lr := suf_len hsuf
      have hil : i < vs.length := by omega
      have e0 : (0 : Int) + (i : Nat) = ((i : Nat) : Int) := by omega
      have hlen : code1.length + rest.size ≤ 10000 := by
        have z := congrArg List.length heq
        rw [List.length_append, List.length_append, flat_length, flat_length] at z
        omega
      -- here = path + (k,)
      refine ⟨_, rfl, _, rfl, by show 1 ≤ sizeLine; decide, fun q hq => cat_all (SqT.of (same_new hq _ _ _ hpa1)) upd_same (szL (by show ps.length + 1 ≤ 100000; omega)) (by simp) fun hr2 H2 s2 hh2 => ?_⟩
      have s12 := (same_new hq (.tup [.int (0 + ((i : Nat) : Int))])).trans s2
      obtain ⟨p0, hp0⟩ : ∃ p0, vs[i]? = some (.ref p0) := by
        have z : (vs.drop i)[0]? = vs[i]? := by rw [List.getElem?_drop]; rfl
        cases rest with
        | nil =>
          have : (0 : Nat) = 0 := rfl
          have : Blk.nil.len = 0 := rfl
          omega
        | one s r =>
          obtain ⟨p, us, vr, h1, _⟩ := hr1
          rw [h1] at z
          exact ⟨p, z.symm⟩
        | ite c a b r =>
          obtain ⟨p, u, pa, pb, va, vb, vr, h1, _⟩ := hr1
          rw [h1] at z
          exact ⟨p, z.symm⟩
        | whl c a r =>
          obtain ⟨p, u, pa, va, vr, h1, _⟩ := hr1
          rw [h1] at z
          exact ⟨p, z.symm⟩
      have hix : atI vs (0 + ((i : Nat) : Int)) = some (.ref p0) := at_of e0 hp0
      have hdr : vs.drop i = .ref p0 :: vs.drop (i + 1) := by
        obtain ⟨z1, z2⟩ := List.getElem?_eq_some_iff.mp hp0
        rw [List.drop_eq_getElem_cons z1, z2]
      have hc2 := hc1.same s12
      have hb2 := s12 _ _ hb1
      have ev2 := ev.trans (Evo.same s12)
      have hr2' := hr1.mono (TupS.of_same s12)
      obtain ⟨es, l1, l2⟩ := hc2.lst
      have hel : (es.map V.ref).length = code1.length := by rw [List.length_map, l2]
      cases rest with
      | nil =>
        have : Blk.nil.len = 0 := rfl
        omega
      | one s r =>
        obtain ⟨p, us, vr, h1, hpt, hs, _⟩ := hr2'
        rw [hdr] at h1
        injection h1 with h1 _
        injection h1 with h1
        subst h1
        obtain ⟨us', rfl⟩ : ∃ us', us = .str s.word :: us' := by
          cases s with
          | set _ _ => obtain ⟨_, h, _⟩ := hs; exact ⟨_, h⟩
          | order _ _ _ _ => obtain ⟨_, h, _⟩ := hs; exact ⟨_, h⟩
          | timer _ _ => obtain ⟨_, h, _⟩ := hs; exact ⟨_, h⟩
          | send _ _ _ => obtain ⟨_, _, h, _⟩ := hs; exact ⟨_, h⟩
          | drop _ => obtain ⟨_, h, _⟩ := hs; exact ⟨_, h⟩
          | wait _ _ => obtain ⟨_, _, h, _⟩ := hs; exact ⟨_, h⟩
          | hear _ _ => exact ⟨_, hs⟩
          | fin _ => obtain ⟨_, h, _⟩ := hs; exact ⟨_, h⟩
        refine ⟨_, rfl, _, rfl, b, _, _, _, rfl, rfl, SqT.of hb2, hix, p0, _, _, _, rfl, rfl, SqT.of hpt, atI_nat (j := 0) rfl, ?_⟩
        refine ⟨_, rfl, c, _, rfl, .inl (SqL.of l1), ?_⟩
        rw [hel]
        refine ⟨_, rfl, tyL l1, _, rfl, _, rfl, _, rfl, b, _, _, _, rfl, rfl, SqT.of hb2, hix, _, rfl, by show 4 ≤ sizeLine; decide, fun e he => ⟨c, _, _, rfl, rfl, same_new he _ _ _ l1, by rw [hel]; exact szB (by omega), ?_⟩⟩
        have esn : (es ++ [e])[code1.length]? = some e := by
          rw [← l2]
          simp
        obtain ⟨hc3, e3⟩ := hc2.app l1 he (L := [.str s.word, .ref p0, .ref hr2, .non]) (x := .st (.one s .nil) none) fun T1 H1 t1 z k1 => ⟨t1, p0, hr2, z, p0, _, [], rfl, k1 _ _ hpt, hs.mono k1, rfl⟩
        have wne : ∀ z ∈ words, z ≠ "while" ∧ z ≠ "if" := by decide +kernel
        obtain ⟨n1, n2⟩ := wne _ (word_mem s)
        refine ⟨_, rfl, rfl, _, rfl, ?_⟩
        rw [show decide (V.str s.word = V.str "while") = false from decide_eq_false fun z => n1 (V.str.inj z)]
        refine iteF ⟨_, rfl, rfl, _, rfl, ?_⟩
        rw [show decide (V.str s.word = V.str "if") = false from decide_eq_false fun z => n2 (V.str.inj z)]
        refine iteF ?_
        refine ⟨_, r, code1 ++ [.st (.one s .nil) none], _, _, _, _, _, rfl, ev2.trans e3, suf_succ hsuf (fun z => nomatch z), hc3, ?_⟩
        rw [← heq, List.append_assoc, List.length_append]
        rfl
      | whl cc ba r =>
        obtain ⟨p, u, pba, va, vr, h1, hpt, hcc, hpba, hba, _⟩ := hr2'
        rw [hdr] at h1
        injection h1 with h1 _
        injection h1 with h1
        subst h1
        have da : ba.depth + 1 ≤ (Blk.whl cc ba r).depth := Nat.le_max_left ..
        have sz : (Blk.whl cc ba r).size = ba.size + r.size + 2 := rfl
        refine ⟨_, rfl, _, rfl, b, _, _, _, rfl, rfl, SqT.of hb2, hix, p0, _, _, _, rfl, rfl, SqT.of hpt, atI_nat (j := 0) rfl, ?_⟩
        refine ⟨_, rfl, c, _, rfl, .inl (SqL.of l1), ?_⟩
        rw [hel]
        refine ⟨_, rfl, tyL l1, _, rfl, _, rfl, _, rfl, b, _, _, _, rfl, rfl, SqT.of hb2, hix, _, rfl, by show 4 ≤ sizeLine; decide, fun e he => ⟨c, _, _, rfl, rfl, same_new he _ _ _ l1, by rw [hel]; exact szB (by omega), ?_⟩⟩
        have esn : (es ++ [e])[code1.length]? = some e := by
          rw [← l2]
          simp
        obtain ⟨hc3, e3⟩ := hc2.app l1 he (L := [.str "while", .ref p0, .ref hr2, .non]) (x := .st (.whl cc ba .nil) none) fun T1 H1 t1 z k1 => ⟨t1, p0, hr2, z, p0, u, pba, va, [], rfl, k1 _ _ hpt, hcc.mono k1, k1 _ _ hpba, hba.mono k1, rfl⟩
        refine ⟨_, rfl, rfl, _, rfl, iteT ?_⟩
        have hb3 := e3.tup _ _ hb2
        have hpt3 := e3.tup _ _ hpt
        have hh3 := e3.tup _ _ hh2
        refine ⟨_, rfl, _, rfl, b, _, _, _, rfl, rfl, SqT.of hb3, hix, p0, _, _, _, rfl, rfl, SqT.of hpt3, rfl, _, rfl, by show 1 ≤ sizeLine; decide, fun q3 hq3 => cat_all (SqT.of (same_new hq3 _ _ _ hh3)) upd_same (by rw [List.length_append]; exact szL (by show ps.length + 1 + 1 ≤ 100000; omega)) (by simp) fun hr4 H4 s4 hh4 => ?_⟩
        have s34 := (same_new hq3 (.tup [.int 0])).trans s4
        have hc4 := hc3.same s34
        have t4 := e3.tup.trans (TupS.of_same s34)
        refine ⟨_, rfl, _, pba, hr4, c, ba, _, code1 ++ [.st (.whl cc ba .nil) none], rfl, ⟨va, t4 _ _ hpba, hba.mono t4⟩, by omega, hh4, by rw [List.length_append, List.length_append]; show ps.length + 1 + 1 + 2 * d ≤ 1000; omega, hc4, by rw [List.length_append]; show code1.length + 1 + ba.size ≤ 10000; omega, fun U5 H5 e5 hc5 => ?_⟩
        have hl3 : (code1 ++ [CE.st (.whl cc ba .nil) none]).length = code1.length + 1 := by rw [List.length_append]; rfl
        rw [hl3, List.append_assoc] at hc5
        have fa := flat_length ba (code1.length + 1)
        have hh5 := e5.tup _ _ (s34 _ _ hh3)
        obtain ⟨es5, l51, l52⟩ := hc5.lst
        rw [List.length_append, List.length_append, fa] at l52
        have l52 : es5.length = code1.length + (1 + ba.size) := l52
        -- code.append(["jump", None, here, at])
        refine ⟨_, rfl, tyL l51, _, rfl, _, rfl, by show 4 ≤ sizeLine; decide, fun e6 he6 => ⟨c, _, _, rfl, rfl, same_new he6 _ _ _ l51, by rw [List.length_map, l52]; exact szB (by omega), ?_⟩⟩
        obtain ⟨hc6, e6'⟩ := hc5.app l51 he6 (L := [.str "jump", .non, .ref hr2, .int (code1.length : Int)]) (x := .jump code1.length) fun T1 H1 t1 z k1 => ⟨t1, hr2, z⟩
        have cmap : es5.map V.ref ++ [V.ref e6] = (es5 ++ [e6]).map V.ref := by rw [List.map_append]; rfl
        have l6 : upd (upd H5 e6 (.lst [.str "jump", .non, .ref hr2, .int (code1.length : Int)])) c (.lst (es5.map V.ref ++ [V.ref e6])) c = some (.lst ((es5 ++ [e6]).map V.ref)) := by rw [upd_same, cmap]
        -- code[at][3] = len(code)
        have hn6 : (code1 ++ ([CE.st (.whl cc ba .nil) none] ++ flatOf ba (code1.length + 1)) ++ [CE.jump code1.length])[code1.length]? = some (.st (.whl cc ba .nil) none) := by
          rw [List.append_assoc]
          exact get_mid rfl
        obtain ⟨tc6, es6, m61, m62, m63⟩ := id hc6
        have ee6 : es6 = es5 ++ [e6] := by
          rw [l6] at m61
          have z : (es5 ++ [e6]).map V.ref = es6.map V.ref := by injection m61 with m61; injection m61
          exact ((List.map_inj_right (fun x y q => by injection q)).mp z).symm
        obtain ⟨e7, he7, hen7⟩ := Paired.get_ m63 hn6
        rw [ee6] at he7
        obtain ⟨te7, v7, p7, hee7, hbb7⟩ := hen7
        refine ⟨_, rfl, c, _, rfl, .inl (SqL.of l6), _, rfl, _, rfl, c, _, _, _, rfl, rfl, SqL.of l6, atI_nat (by rw [List.getElem?_map, he7]; rfl), e7, _, 3, 3, rfl, rfl, hee7, rfl, ?_⟩
        have hlw : ((es5 ++ [e6]).map V.ref).length = code1.length + 2 + ba.size := by
          rw [List.length_map, List.length_append, l52]
          show code1.length + (1 + ba.size) + 1 = _
          omega
        rw [hlw]
        obtain ⟨hc8, e8⟩ := hc6.patch l6 hn6 he7 (L := [.str "while", .ref v7, .ref p7, .int ((code1.length + 2 + ba.size : Nat) : Int)]) (y := .st (.whl cc ba .nil) (some (code1.length + 2 + ba.size))) fun _ H1 z k1 => ⟨te7, v7, p7, z, hbb7.mono k1⟩
        refine ⟨_, rfl, rfl, _, rfl, iteF ?_⟩
        have hset : (code1 ++ ([CE.st (.whl cc ba .nil) none] ++ flatOf ba (code1.length + 1)) ++ [CE.jump code1.length]).set code1.length (CE.st (.whl cc ba .nil) (some (code1.length + 2 + ba.size))) = code1 ++ (CE.st (.whl cc ba .nil) (some (code1.length + 2 + ba.size)) :: (flatOf ba (code1.length + 1) ++ [CE.jump code1.length])) := by
          rw [List.append_assoc]
          exact set_mid rfl
        rw [hset] at hc8
        refine ⟨_, r, _, _, _, _, _, _, rfl, ev2.trans (e3.trans ((Evo.same s34).trans (e5.trans (e6'.trans e8)))), suf_succ hsuf (fun z => nomatch z), hc8, ?_⟩
        have ll : (code1 ++ CE.st (.whl cc ba .nil) (some (code1.length + 2 + ba.size)) :: (flatOf ba (code1.length + 1) ++ [CE.jump code1.length])).length = code1.length + 2 + ba.size := by
          rw [List.length_append, List.length_cons, List.length_append, fa]
          show code1.length + (ba.size + 1 + 1) = _
          omega
        rw [← heq, ll]
        simp [flatOf, List.append_assoc]
      | ite cc ba bb r =>
        obtain ⟨p, u, pba, pbb, va, vb, vr, h1, hpt, hcc, hpba, hba, hpbb, hbb, _⟩ := hr2'
        rw [hdr] at h1
        injection h1 with h1 _
        injection h1 with h1
        subst h1
        have da : max ba.depth bb.depth + 1 ≤ (Blk.ite cc ba bb r).depth := Nat.le_max_left ..
        have da1 : ba.depth ≤ max ba.depth bb.depth := Nat.le_max_left ..
        have da2 : bb.depth ≤ max ba.depth bb.depth := Nat.le_max_right ..
        have sz : (Blk.ite cc ba bb r).size = ba.size + bb.size + r.size + 2 := rfl
        refine ⟨_, rfl, _, rfl, b, _, _, _, rfl, rfl, SqT.of hb2, hix, p0, _, _, _, rfl, rfl, SqT.of hpt, atI_nat (j := 0) rfl, ?_⟩
        refine ⟨_, rfl, c, _, rfl, .inl (SqL.of l1), ?_⟩
        rw [hel]
        refine ⟨_, rfl, tyL l1, _, rfl, _, rfl, _, rfl, b, _, _, _, rfl, rfl, SqT.of hb2, hix, _, rfl, by show 4 ≤ sizeLine; decide, fun e he => ⟨c, _, _, rfl, rfl, same_new he _ _ _ l1, by rw [hel]; exact szB (by omega), ?_⟩⟩
        have esn : (es ++ [e])[code1.length]? = some e := by
          rw [← l2]
          simp
        obtain ⟨hc3, e3⟩ := hc2.app l1 he (L := [.str "if", .ref p0, .ref hr2, .non]) (x := .st (.ite cc ba bb .nil) none) fun T1 H1 t1 z k1 => ⟨t1, p0, hr2, z, p0, u, pba, pbb, va, vb, [], rfl, k1 _ _ hpt, hcc.mono k1, k1 _ _ hpba, hba.mono k1, k1 _ _ hpbb, hbb.mono k1, rfl⟩
        refine ⟨_, rfl, rfl, _, rfl, iteF ⟨_, rfl, rfl, _, rfl, iteT ?_⟩⟩
        have hb3 := e3.tup _ _ hb2
        have hpt3 := e3.tup _ _ hpt
        have hh3 := e3.tup _ _ hh2
        refine ⟨_, rfl, _, rfl, b, _, _, _, rfl, rfl, SqT.of hb3, hix, p0, _, _, _, rfl, rfl, SqT.of hpt3, rfl, _, rfl, by show 1 ≤ sizeLine; decide, fun q3 hq3 => cat_all (SqT.of (same_new hq3 _ _ _ hh3)) upd_same (by rw [List.length_append]; exact szL (by show ps.length + 1 + 1 ≤ 100000; omega)) (by simp) fun hr4 H4 s4 hh4 => ?_⟩
        have s34 := (same_new hq3 (.tup [.int 0])).trans s4
        have hc4 := hc3.same s34
        have t4 := e3.tup.trans (TupS.of_same s34)
        refine ⟨_, rfl, _, pba, hr4, c, ba, _, code1 ++ [.st (.ite cc ba bb .nil) none], rfl, ⟨va, t4 _ _ hpba, hba.mono t4⟩, by omega, hh4, by rw [List.length_append, List.length_append]; show ps.length + 1 + 1 + 2 * d ≤ 1000; omega, hc4, by rw [List.length_append]; show code1.length + 1 + ba.size ≤ 10000; omega, fun U5 H5 e5 hc5 => ?_⟩
        have hl3 : (code1 ++ [CE.st (.ite cc ba bb .nil) none]).length = code1.length + 1 := by rw [List.length_append]; rfl
        rw [hl3, List.append_assoc] at hc5
        have fa := flat_length ba (code1.length + 1)
        have hh5 := e5.tup _ _ (s34 _ _ hh3)
        have t5 := t4.trans e5.tup
        obtain ⟨es5, l51, l52⟩ := hc5.lst
        rw [List.length_append, List.length_append, fa] at l52
        have l52 : es5.length = code1.length + (1 + ba.size) := l52
        refine ⟨_, rfl, tyL l51, _, rfl, by show 4 ≤ sizeLine; decide, fun e6 he6 => ⟨c, _, _, rfl, rfl, same_new he6 _ _ _ l51, by rw [List.length_map, l52]; exact szB (by omega), ?_⟩⟩
        obtain ⟨hc6, e6'⟩ := hc5.app l51 he6 (L := [.str "jump", .non, .ref hr2, .non]) (x := .hole) fun T1 H1 t1 z k1 => ⟨t1, hr2, z⟩
        have cmap : es5.map V.ref ++ [V.ref e6] = (es5 ++ [e6]).map V.ref := by rw [List.map_append]; rfl
        have l6 : upd (upd H5 e6 (.lst [.str "jump", .non, .ref hr2, .non])) c (.lst (es5.map V.ref ++ [V.ref e6])) c = some (.lst ((es5 ++ [e6]).map V.ref)) := by rw [upd_same, cmap]
        have hn6 : (code1 ++ ([CE.st (.ite cc ba bb .nil) none] ++ flatOf ba (code1.length + 1)) ++ [CE.hole])[code1.length]? = some (.st (.ite cc ba bb .nil) none) := by
          rw [List.append_assoc]
          exact get_mid rfl
        obtain ⟨tc6, es6, m61, m62, m63⟩ := id hc6
        have ee6 : es6 = es5 ++ [e6] := by
          rw [l6] at m61
          have z : (es5 ++ [e6]).map V.ref = es6.map V.ref := by injection m61 with m61; injection m61
          exact ((List.map_inj_right (fun x y q => by injection q)).mp z).symm
        obtain ⟨e7, he7, hen7⟩ := Paired.get_ m63 hn6
        rw [ee6] at he7
        obtain ⟨te7, v7, p7, hee7, hbb7⟩ := hen7
        refine ⟨_, rfl, c, _, rfl, .inl (SqL.of l6), _, rfl, _, rfl, c, _, _, _, rfl, rfl, SqL.of l6, atI_nat (by rw [List.getElem?_map, he7]; rfl), e7, _, 3, 3, rfl, rfl, hee7, rfl, ?_⟩
        have hlw : ((es5 ++ [e6]).map V.ref).length = code1.length + 2 + ba.size := by
          rw [List.length_map, List.length_append, l52]
          show code1.length + (1 + ba.size) + 1 = _
          omega
        rw [hlw]
        obtain ⟨hc8, e8⟩ := hc6.patch l6 hn6 he7 (L := [.str "if", .ref v7, .ref p7, .int ((code1.length + 2 + ba.size : Nat) : Int)]) (y := .st (.ite cc ba bb .nil) (some (code1.length + 2 + ba.size))) fun _ H1 z k1 => ⟨te7, v7, p7, z, hbb7.mono k1⟩
        have hset : (code1 ++ ([CE.st (.ite cc ba bb .nil) none] ++ flatOf ba (code1.length + 1)) ++ [CE.hole]).set code1.length (CE.st (.ite cc ba bb .nil) (some (code1.length + 2 + ba.size))) = (code1 ++ (CE.st (.ite cc ba bb .nil) (some (code1.length + 2 + ba.size)) :: flatOf ba (code1.length + 1))) ++ [CE.hole] := by
          rw [List.append_assoc, List.append_assoc]
          refine (set_mid rfl).trans ?_
          rw [List.append_assoc]
          rfl
        rw [hset] at hc8
        have ll : ((code1 ++ (CE.st (.ite cc ba bb .nil) (some (code1.length + 2 + ba.size)) :: flatOf ba (code1.length + 1))) ++ [CE.hole]).length = code1.length + 2 + ba.size := by
          rw [List.length_append, List.length_append, List.length_cons, fa]
          show code1.length + (ba.size + 1) + 1 = _
          omega
        have lpre : (code1 ++ (CE.st (.ite cc ba bb .nil) (some (code1.length + 2 + ba.size)) :: flatOf ba (code1.length + 1))).length = code1.length + 1 + ba.size := by
          rw [List.length_append, List.length_cons, fa]
          omega
        -- over = len(code) - 1
        obtain ⟨es8, l81, l82⟩ := hc8.lst
        rw [ll] at l82
        have t8 := t5.trans (e6'.tup.trans e8.tup)
        have hb8 := e8.tup _ _ (e6'.tup _ _ (e5.tup _ _ (s34 _ _ hb3)))
        have hpt8 := t8 _ _ hpt
        have hh8 := e8.tup _ _ (e6'.tup _ _ hh5)
        refine ⟨_, rfl, c, _, rfl, .inl (SqL.of l81), _, _, rfl, rfl, ?_⟩
        refine ⟨_, rfl, _, rfl, b, _, _, _, rfl, rfl, SqT.of hb8, hix, p0, _, _, _, rfl, rfl, SqT.of hpt8, rfl, _, rfl, by show 1 ≤ sizeLine; decide, fun q9 hq9 => cat_all (SqT.of (same_new hq9 _ _ _ hh8)) upd_same (by rw [List.length_append]; exact szL (by show ps.length + 1 + 1 ≤ 100000; omega)) (by simp) fun hr10 H10 s10 hh10 => ?_⟩
        have s910 := (same_new hq9 (.tup [.int 1])).trans s10
        have hc10 := hc8.same s910
        have t10 := t8.trans (TupS.of_same s910)
        refine ⟨_, rfl, _, pbb, hr10, c, bb, _, _, rfl, ⟨vb, t10 _ _ hpbb, hbb.mono t10⟩, by omega, hh10, by rw [List.length_append, List.length_append]; show ps.length + 1 + 1 + 2 * d ≤ 1000; omega, hc10, by rw [ll]; omega, fun U11 H11 e11 hc11 => ?_⟩
        rw [ll] at hc11
        obtain ⟨es11, l111, l112⟩ := hc11.lst
        have fb := flat_length bb (code1.length + 2 + ba.size)
        rw [List.length_append, ll, fb] at l112
        have hn11 : (((code1 ++ (CE.st (.ite cc ba bb .nil) (some (code1.length + 2 + ba.size)) :: flatOf ba (code1.length + 1))) ++ [CE.hole]) ++ flatOf bb (code1.length + 2 + ba.size))[code1.length + 1 + ba.size]? = some .hole := by
          rw [List.append_assoc]
          exact get_mid lpre
        obtain ⟨tc11, es11', m111, m112, m113⟩ := id hc11
        have ee11 : es11' = es11 := by
          rw [l111] at m111
          have z : es11.map V.ref = es11'.map V.ref := by injection m111 with m111; injection m111
          exact ((List.map_inj_right (fun x y q => by injection q)).mp z).symm
        obtain ⟨e12, he12, hen12⟩ := Paired.get_ m113 hn11
        rw [ee11] at he12
        obtain ⟨te12, p12, hee12⟩ := hen12
        have hov : (((es8.map V.ref).length : Nat) : Int) - 1 = ((code1.length + 1 + ba.size : Nat) : Int) := by
          rw [List.length_map, l82]
          omega
        refine ⟨_, rfl, c, _, rfl, .inl (SqL.of l111), _, rfl, _, rfl, c, _, _, _, rfl, rfl, SqL.of l111, at_of hov (by rw [List.getElem?_map, he12]; rfl), e12, _, 3, 3, rfl, rfl, hee12, rfl, ?_⟩
        have hlw2 : (es11.map V.ref).length = code1.length + 2 + ba.size + bb.size := by rw [List.length_map, l112]
        rw [hlw2]
        obtain ⟨hc13, e13⟩ := hc11.patch l111 hn11 he12 (L := [.str "jump", .non, .ref p12, .int ((code1.length + 2 + ba.size + bb.size : Nat) : Int)]) (y := .jump (code1.length + 2 + ba.size + bb.size)) fun _ H1 z k1 => ⟨te12, p12, z⟩
        have hset2 : (((code1 ++ (CE.st (.ite cc ba bb .nil) (some (code1.length + 2 + ba.size)) :: flatOf ba (code1.length + 1))) ++ [CE.hole]) ++ flatOf bb (code1.length + 2 + ba.size)).set (code1.length + 1 + ba.size) (CE.jump (code1.length + 2 + ba.size + bb.size)) = (code1 ++ (CE.st (.ite cc ba bb .nil) (some (code1.length + 2 + ba.size)) :: flatOf ba (code1.length + 1))) ++ (CE.jump (code1.length + 2 + ba.size + bb.size) :: flatOf bb (code1.length + 2 + ba.size)) := by
          rw [List.append_assoc]
          exact set_mid lpre
        rw [hset2] at hc13
        refine ⟨_, r, _, _, _, _, _, _, rfl, ev2.trans (e3.trans ((Evo.same s34).trans (e5.trans (e6'.trans (e8.trans ((Evo.same s910).trans (e11.trans e13))))))), suf_succ hsuf (fun z => nomatch z), hc13, ?_⟩
        have ll2 : ((code1 ++ (CE.st (.ite cc ba bb .nil) (some (code1.length + 2 + ba.size)) :: flatOf ba (code1.length + 1))) ++ (CE.jump (code1.length + 2 + ba.size + bb.size) :: flatOf bb (code1.length + 2 + ba.size))).length = code1.length + 2 + ba.size + bb.size := by
          rw [List.length_append, lpre, List.length_cons, fb]
          omega
        rw [← heq, ll2]
        simp [flatOf, List.append_assoc]
    · rintro σ H1 ⟨U1, rest, code1, v3, v4, v5, v6, v7, rfl, ev, hsuf, hc1, heq⟩
      have lr := suf_len hsuf
      have e : rest = .nil := len_zero (by
        have : ((vs.length : Nat) : Int).toNat = vs.length := by omega
        omega)
      subst e
      refine k U1 H1 ev ?_
      rw [← heq]
      show CodeF U1 H1 c (code1 ++ [])
      rw [List.append_nil]
      exact hc1
end
end L2.K17

set_option maxHeartbeats 4000000
/-! the law's model: a new one; what it waits for -/
namespace L2.K17
open PySem L2
def Keep (p : Addr) (H H1 : Hp) : Prop := ∀ b o, b ≠ p → H b = some o → H1 b = some o
theorem Keep.refl (p : Addr) (H : Hp) : Keep p H H := fun _ _ _ h => h
theorem Keep.trans {p : Addr} {H H1 H2 : Hp} (a : Keep p H H1) (b : Keep p H1 H2) : Keep p H H2 := fun c o n h => b c o n (a c o n h)
theorem Keep.new {p q : Addr} {H : Hp} {o : HO} (h : H q = none) : Keep p H (upd H q o) := fun b u _ e => same_new h o b u e
theorem Keep.put {p : Addr} {H : Hp} {o : HO} : Keep p H (upd H p o) := fun b u n e => by rw [upd_ne n]; exact e
def noT : Tg := fun _ => .non
theorem Tail.mono {code : List CE} {D D' : Nat} (h : D ≤ D') {e n : Nat} {t : Blk} (q : Tail code D e t n) : Tail code D' e t n := by
  induction q with
  | root => exact .root
  | body h1 h2 _ h4 ih => exact .body h1 h2 ih (Nat.le_trans h4 h)
  | jmp h1 h2 _ h4 ih => exact .jmp h1 h2 ih (Nat.le_trans h4 h)
  | fall h1 _ h4 ih => exact .fall h1 ih (Nat.le_trans h4 h)
theorem At.mono {code : List CE} {D D' i m m' : Nat} {K : Blk} (h : D ≤ D') (hm : m ≤ m') (q : At code D i K m) : At code D' i K m' := by
  obtain ⟨b, t, n, h1, h2, h3, h4, h5⟩ := q
  exact ⟨b, t, n, h1, h2.mono h, h3, Nat.le_trans h4 h, fun z => Nat.le_trans (h5 z) hm⟩
def spLNew : Sp := fun vs H Q _ => ∃ (p : Addr) (blk : Blk), vs = [.ref p] ∧ ProgH H blk p ∧ blk.depth ≤ 5 ∧ blk.size ≤ 10000 ∧ blk.ok ∧
  ∀ T' H' m, Evo noT H T' H' → MdR T' H' m 0 (flatOf blk 0) 5 (fresh blk) → Q (.ref m) H'
/-- what a run waits for, as a value -/
def WaitsH (H : Hp) (p : Addr) (S : AS) : Prop := match S.mode with
  | .wait => ∃ q, H p = some (.tup [.str "wait", .ref q]) ∧ H q = some (.tup (S.awaited.map V.int))
  | .hear => ∃ k, S.hears = some k ∧ H p = some (.tup [.str "hear", .str k])
  | .ended => H p = some (.tup [.str "ended", wv S.outcome])
  | m => H p = some (.tup [.str m.str])
def spLWaits (D : Nat) : Sp := fun vs H Q _ => ∃ (T : Tg) (m : Addr) (B : Nat) (code : List CE) (S : AS), vs = [.ref m] ∧ MdR T H m B code D S ∧
  ∀ H' p, Same H H' → WaitsH H' p S → Q (.ref p) H'
/-- the first eight keys -/
def nw8 (c nm op : Addr) : List (Key × V) := [(Sum.inr "code", .ref c), (Sum.inr "at", .int 0), (Sum.inr "mode", .str "new"), (Sum.inr "names", .ref nm), (Sum.inr "arg", .non), (Sum.inr "now", .int 0), (Sum.inr "made", .int 0), (Sum.inr "open", .ref op)]
def nw9 (c nm op dn : Addr) : List (Key × V) := nw8 c nm op ++ ([(Sum.inr "done", .ref dn)] : List (Key × V))
def nw10 (c nm op dn lt : Addr) : List (Key × V) := nw9 c nm op dn ++ ([(Sum.inr "letters", .ref lt)] : List (Key × V))
def nw11 (c nm op dn lt aw : Addr) : List (Key × V) := nw10 c nm op dn lt ++ ([(Sum.inr "awaited", .ref aw)] : List (Key × V))
theorem nw9_ (c nm op dn : Addr) : putK (nw8 c nm op) (Sum.inr "done" : Key) (V.ref dn) = nw9 c nm op dn := rfl
theorem nw10_ (c nm op dn lt : Addr) : putK (nw9 c nm op dn) (Sum.inr "letters" : Key) (V.ref lt) = nw10 c nm op dn lt := rfl
theorem nw11_ (c nm op dn lt aw : Addr) : putK (nw10 c nm op dn lt) (Sum.inr "awaited" : Key) (V.ref aw) = nw11 c nm op dn lt aw := rfl
theorem nw12_ (c nm op dn lt aw : Addr) (blk : Blk) : putK (nw11 c nm op dn lt aw) (Sum.inr "outcome" : Key) V.non = mdD c 0 nm op dn lt aw (fresh blk) := rfl
theorem nw8_ (c nm op : Addr) : mergeK [] (nw8 c nm op) = nw8 c nm op := rfl
theorem dput_e {H : Hp} {a : Addr} {kvs kvs' : List (Key × V)} {x : Str} {v : V} (e : H a = some (.dK kvs)) (h : kvs.length < sizeLine) (hk : putK kvs (Sum.inr x) v = kvs') : DPut H a (.str x) v (upd H a (.dK kvs')) := by
  subst hk
  exact dput_s e h
section
variable {P : Program} {w : World} {K : PySem.W.Frag} {mg : Str → Option Value} {base : Heap}
theorem sc_law_new : FnScope ["program", "code", "run"] ["program"] (defScope s_law_new) := ⟨rfl, rfl, rfl, by decide +kernel, rfl, by decide +kernel, by decide +kernel⟩
theorem D_law_new (T : Tx K mg) : Def1 P w K mg base 8 "_law_new" ["program"] spLNew := by
  have D_law_flat : Def1 P w K mg base 7 "_law_flat" ["block", "path", "code"] (spFlat 6) := D_law_flat T 6
  refine T.mk1 (st := s_law_new) 19 19 rfl rfl sc_law_new (fun _ _ _ _ _ _ us hl => match us, hl with | [_], _ => rfl) (fun vs H Q E h => ?_) (fun cdv A outer s H vs Q E hr h => ?_)
  · obtain ⟨_, _, rfl, _⟩ := h
    rfl
  obtain ⟨b, blk, rfl, hb, hd, hs, hok, k⟩ := h
  have hu := hu_of hr
  refine ⟨_, (pss_cons (ps_set (i := 1) sc_law_new.nd rfl (Or.inl rfl) (pe_lst pa_nil))
    (pss_cons (ps_expr (pe_c D_law_flat (hr.mono (by omega)) (pa_cons (pv 0) (pa_cons (pe_tup pa_nil) (pa_cons (pv 1) pa_nil)))))
    (pss_cons (ps_set (i := 2) sc_law_new.nd rfl (Or.inl rfl) (pe_disp (pps_cons pe_str (pv 1) (pps_cons pe_str pe_int (pps_cons pe_str pe_str (pps_cons pe_str pe_dnewK (pps_cons pe_str pe_non (pps_cons pe_str pe_int (pps_cons pe_str pe_int (pps_cons pe_str (pe_lst pa_nil) pps_nil)))))))) (by rfl) (by rfl) (fun z => by cases z) (by decide)))
    (pss_cons (ps_dput hu (pv 2) pe_str (pe_lst pa_nil) rfl)
    (pss_cons (ps_dput hu (pv 2) pe_str pe_dnewK rfl)
    (pss_cons (ps_dput hu (pv 2) pe_str (pe_lst pa_nil) rfl)
    (pss_cons (ps_dput hu (pv 2) pe_str pe_non rfl)
    (pss_one (ps_ret (pv 2)))))))))), ?_⟩
  refine ⟨Nat.zero_le _, fun c hc => ?_⟩
  have s1 := same_new hc (.lst [])
  refine ⟨_, rfl, Nat.zero_le _, fun pa hpa => ⟨_, rfl, ?_⟩⟩
  have s2 := s1.trans (same_new hpa (.tup []))
  have e1 : Evo noT H (setT noT c .co) (upd (upd H c (.lst [])) pa (.tup [])) := (Evo.new hc).trans (Evo.same (same_new hpa _))
  refine ⟨setT noT c .co, b, pa, c, blk, [], [], rfl, hb.mono (TupS.of_same s2), by omega, upd_same, by decide, ⟨setT_same, [], same_new hpa _ _ _ upd_same, by simp, .nil⟩, by show 0 + blk.size ≤ 10000; omega, fun U5 H5 e5 hc5 => ?_⟩
  have hc5 : CodeF U5 H5 c (flatOf blk 0) := hc5
  have e5 := e1.trans e5
  have hcH := hc5.h
  -- the display
  intro p hp
  refine ⟨_, rfl, ?_⟩
  intro nm hnm
  refine ⟨Nat.zero_le _, fun op hop => ?_⟩
  have np : nm ≠ p := (ne_of_none upd_same hnm).symm
  have opp : op ≠ p := (ne_of_none (same_new hnm _ _ _ upd_same) hop).symm
  obtain ⟨H8, eH8⟩ : ∃ H8, H8 = upd (upd (upd H5 p (.dK [])) nm (.dK [])) op (.lst []) := ⟨_, rfl⟩
  have h8p : H8 p = some (.dK []) := by rw [eH8, upd_ne opp.symm, upd_ne np.symm, upd_same]
  rw [← eH8]
  refine ⟨h8p, nw8 c nm op, rfl, by show 8 ≤ 15; decide, ?_⟩
  obtain ⟨H9, eH9⟩ : ∃ H9, H9 = upd H8 p (.dK (nw8 c nm op)) := ⟨_, rfl⟩
  rw [nw8_, ← eH9]
  have h9p : H9 p = some (.dK (nw8 c nm op)) := by rw [eH9, upd_same]
  refine ⟨Nat.zero_le _, fun dn hdn => ⟨_, rfl, p, _, rfl, dput_e (same_new hdn _ _ _ h9p) (by show 8 < sizeLine; decide) (nw9_ ..), ?_⟩⟩
  obtain ⟨H10, eH10⟩ : ∃ H10, H10 = upd (upd H9 dn (.lst [])) p (.dK (nw9 c nm op dn)) := ⟨_, rfl⟩
  rw [← eH10]
  have h10p : H10 p = some (.dK (nw9 c nm op dn)) := by rw [eH10, upd_same]
  intro lt hlt
  refine ⟨_, rfl, p, _, rfl, dput_e (same_new hlt _ _ _ h10p) (by show 9 < sizeLine; decide) (nw10_ ..), ?_⟩
  obtain ⟨H11, eH11⟩ : ∃ H11, H11 = upd (upd H10 lt (.dK [])) p (.dK (nw10 c nm op dn lt)) := ⟨_, rfl⟩
  rw [← eH11]
  have h11p : H11 p = some (.dK (nw10 c nm op dn lt)) := by rw [eH11, upd_same]
  refine ⟨Nat.zero_le _, fun aw haw => ⟨_, rfl, p, _, rfl, dput_e (same_new haw _ _ _ h11p) (by show 10 < sizeLine; decide) (nw11_ ..), ?_⟩⟩
  obtain ⟨H12, eH12⟩ : ∃ H12, H12 = upd (upd H11 aw (.lst [])) p (.dK (nw11 c nm op dn lt aw)) := ⟨_, rfl⟩
  rw [← eH12]
  have h12p : H12 p = some (.dK (nw11 c nm op dn lt aw)) := by rw [eH12, upd_same]
  refine ⟨_, rfl, p, _, rfl, dput_e h12p (by show 11 < sizeLine; decide) (nw12_ c nm op dn lt aw blk), _, rfl, ?_⟩
  have h8p' : H8 p ≠ none := by rw [h8p]; exact fun z => nomatch z
  have dnp : dn ≠ p := (ne_of_none h9p hdn).symm
  have ltp : lt ≠ p := (ne_of_none h10p hlt).symm
  have awp : aw ≠ p := (ne_of_none h11p haw).symm
  have k5 : Keep p H5 (upd H5 p (.dK [])) := Keep.put
  have k6 : Keep p (upd H5 p (.dK [])) (upd (upd H5 p (.dK [])) nm (.dK [])) := Keep.new hnm
  have k7 : Keep p (upd (upd H5 p (.dK [])) nm (.dK [])) H8 := by rw [eH8]; exact Keep.new hop
  have k8 : Keep p H8 H9 := by rw [eH9]; exact Keep.put
  have k9a : Keep p H9 (upd H9 dn (.lst [])) := Keep.new hdn
  have k9 : Keep p (upd H9 dn (.lst [])) H10 := by rw [eH10]; exact Keep.put
  have k10a : Keep p H10 (upd H10 lt (.dK [])) := Keep.new hlt
  have k10 : Keep p (upd H10 lt (.dK [])) H11 := by rw [eH11]; exact Keep.put
  have k11a : Keep p H11 (upd H11 aw (.lst [])) := Keep.new haw
  have k11 : Keep p (upd H11 aw (.lst [])) H12 := by rw [eH12]; exact Keep.put
  obtain ⟨H13, eH13⟩ : ∃ H13, H13 = upd H12 p (.dK (mdD c 0 nm op dn lt aw (fresh blk))) := ⟨_, rfl⟩
  rw [← eH13]
  have k12 : Keep p H12 H13 := by rw [eH13]; exact Keep.put
  have h13p : H13 p = some (.dK (mdD c 0 nm op dn lt aw (fresh blk))) := by rw [eH13, upd_same]
  have kA := k11a.trans (k11.trans k12)
  have kB := k10a.trans (k10.trans kA)
  have kC := k9a.trans (k9.trans kB)
  have kD := k8.trans kC
  have g_aw : H13 aw = some (.lst []) := (k11.trans k12) _ _ awp upd_same
  have g_lt : H13 lt = some (.dK []) := (k10.trans kA) _ _ ltp upd_same
  have g_dn : H13 dn = some (.lst []) := (k9.trans kB) _ _ dnp upd_same
  have g_op : H13 op = some (.lst []) := kD _ _ opp (by rw [eH8]; exact upd_same)
  have g_nm : H13 nm = some (.dK []) := (k7.trans kD) _ _ np upd_same
  have kE := k5.trans (k6.trans (k7.trans kD))
  have e56 : Evo U5 H5 (setT U5 p .box) (upd H5 p (.dK [])) := Evo.new hp
  have e67 : Evo (setT U5 p .box) (upd H5 p (.dK [])) (setT (setT U5 p .box) nm .nm) (upd (upd H5 p (.dK [])) nm (.dK [])) := Evo.new hnm
  have e78 : Evo (setT (setT U5 p .box) nm .nm) (upd (upd H5 p (.dK [])) nm (.dK [])) (setT (setT (setT U5 p .box) nm .nm) op .op) H8 := by rw [eH8]; exact Evo.new hop
  have t8 : setT (setT (setT U5 p .box) nm .nm) op .op p = .box := by rw [setT_ne opp.symm, setT_ne np.symm, setT_same]
  have e89 : Evo (setT (setT (setT U5 p .box) nm .nm) op .op) H8 (setT (setT (setT U5 p .box) nm .nm) op .op) H9 := by rw [eH9]; exact Evo.putK_ t8 (by decide) h8p
  have e9a : Evo (setT (setT (setT U5 p .box) nm .nm) op .op) H9 (setT (setT (setT (setT U5 p .box) nm .nm) op .op) dn .dn) (upd H9 dn (.lst [])) := Evo.new hdn
  have t9 : setT (setT (setT (setT U5 p .box) nm .nm) op .op) dn .dn p = .box := by rw [setT_ne dnp.symm, t8]
  have e9b : Evo (setT (setT (setT (setT U5 p .box) nm .nm) op .op) dn .dn) (upd H9 dn (.lst [])) (setT (setT (setT (setT U5 p .box) nm .nm) op .op) dn .dn) H10 := by rw [eH10]; exact Evo.putK_ t9 (by decide) (same_new hdn _ _ _ h9p)
  have e10a : Evo (setT (setT (setT (setT U5 p .box) nm .nm) op .op) dn .dn) H10 (setT (setT (setT (setT (setT U5 p .box) nm .nm) op .op) dn .dn) lt .lt) (upd H10 lt (.dK [])) := Evo.new hlt
  have t10 : setT (setT (setT (setT (setT U5 p .box) nm .nm) op .op) dn .dn) lt .lt p = .box := by rw [setT_ne ltp.symm, t9]
  have e10b : Evo (setT (setT (setT (setT (setT U5 p .box) nm .nm) op .op) dn .dn) lt .lt) (upd H10 lt (.dK [])) (setT (setT (setT (setT (setT U5 p .box) nm .nm) op .op) dn .dn) lt .lt) H11 := by rw [eH11]; exact Evo.putK_ t10 (by decide) (same_new hlt _ _ _ h10p)
  have e11a : Evo (setT (setT (setT (setT (setT U5 p .box) nm .nm) op .op) dn .dn) lt .lt) H11 (setT (setT (setT (setT (setT (setT U5 p .box) nm .nm) op .op) dn .dn) lt .lt) aw .aw) (upd H11 aw (.lst [])) := Evo.new haw
  obtain ⟨U, eU⟩ : ∃ U, U = setT (setT (setT (setT (setT (setT U5 p .box) nm .nm) op .op) dn .dn) lt .lt) aw .aw := ⟨_, rfl⟩
  have tp : U p = .box := by rw [eU, setT_ne awp.symm, t10]
  rw [← eU] at e11a
  have e11b : Evo U (upd H11 aw (.lst [])) U H12 := by rw [eH12]; exact Evo.putK_ tp (by decide) (same_new haw _ _ _ h11p)
  have e12 : Evo U H12 U H13 := by rw [eH13]; exact Evo.putK_ tp (by decide) h12p
  have hop' := hop
  have ev := e5.trans (e56.trans (e67.trans (e78.trans (e89.trans (e9a.trans (e9b.trans (e10a.trans (e10b.trans (e11a.trans (e11b.trans e12))))))))))
  have n_aw : ∀ b o, b ≠ p → H11 b = some o → b ≠ aw := fun b o _ e => ne_of_none e haw
  have n_lt : ∀ b o, b ≠ p → H10 b = some o → b ≠ lt := fun b o _ e => ne_of_none e hlt
  have n_dn : ∀ b o, b ≠ p → H9 b = some o → b ≠ dn := fun b o _ e => ne_of_none e hdn
  have k9_10 := k9a.trans k9
  have k10_11 := k10a.trans k10
  have t_lt : U lt = .lt := by rw [eU, setT_ne (n_aw lt _ ltp (k10 _ _ ltp upd_same)), setT_same]
  have t_dn : U dn = .dn := by
    have z := k9 _ _ dnp (upd_same (H := H9) (a := dn) (o := .lst []))
    rw [eU, setT_ne (n_aw dn _ dnp (k10_11 _ _ dnp z)), setT_ne (n_lt dn _ dnp z), setT_same]
  have up : ∀ b o, b ≠ p → H8 b = some o → U b = setT (setT (setT U5 p .box) nm .nm) op .op b := fun b o hbp z => by
    have z9 := k8 _ _ hbp z
    have z10 := k9_10 _ _ hbp z9
    rw [eU, setT_ne (n_aw b _ hbp (k10_11 _ _ hbp z10)), setT_ne (n_lt b _ hbp z10), setT_ne (n_dn b _ hbp z9)]
  have t_op : U op = .op := by rw [up op _ opp (by rw [eH8]; exact upd_same), setT_same]
  have t_nm : U nm = .nm := by rw [up nm _ np (k7 _ _ np upd_same), setT_ne (ne_of_none upd_same hop), setT_same]
  have cd : CodeH U H13 c (flatOf blk 0) := by
    refine hcH.frame ?_ fun a xs ta ha => ?_
    · exact (e56.trans (e67.trans (e78.trans (e89.trans (e9a.trans (e9b.trans (e10a.trans (e10b.trans (e11a.trans (e11b.trans e12)))))))))).tup
    · have ap : a ≠ p := ne_of_none ha hp
      refine ⟨?_, kE _ _ ap ha⟩
      have z6 := k5 _ _ ap ha
      have z7 := k6 _ _ ap z6
      rw [up a _ ap (k7 _ _ ap z7), setT_ne (ne_of_none z7 hop), setT_ne (ne_of_none z6 hnm), setT_ne ap]
      exact ta
  refine k U H13 p ev ⟨c, nm, op, dn, lt, aw, 0, ⟨tp, h13p, ⟨t_nm, ⟨[], g_nm, Nat.le_refl _, fun _ => rfl⟩, t_op, g_op, t_dn, ⟨[], g_dn, .nil⟩, ?_, ⟨[], g_lt, Nat.le_refl _, fun _ => .inl ⟨rfl, rfl⟩⟩, ?_, g_aw⟩, cd⟩, Bnd.fresh hok, Rest.fresh blk, stands_off ⟨by show Mode.new ≠ .wait; decide, by show Mode.new ≠ .hear; decide⟩, ?_, ?_⟩
  · exact t_lt
  · rw [eU, setT_same]
  · exact fun _ => At.mono hd hd At.start
  · rw [flat_length]
    omega
theorem sc_law_waits : FnScope ["run"] ["run"] (defScope s_law_waits) := ⟨rfl, rfl, rfl, by decide +kernel, rfl, by decide +kernel, by decide +kernel⟩
theorem D_law_waits (T : Tx K mg) (D : Nat) : Def1 P w K mg base 1 "_law_waits" ["run"] (spLWaits D) := by
  refine T.mk1 (st := s_law_waits) 28 28 rfl rfl sc_law_waits (fun _ _ _ _ _ _ us hl => match us, hl with | [_], _ => rfl) (fun vs H Q E h => ?_) (fun cdv A outer s H vs Q E hr h => ?_)
  · obtain ⟨_, _, _, _, _, rfl, _⟩ := h
    rfl
  obtain ⟨U, m, B, code, S, rfl, ⟨c, nm, op, dn, lt, aw, i, h, hB, hR, hSt, _, hcl⟩, k⟩ := h
  have hu := hu_of hr
  refine ⟨_, (pss_cons (ps_if (pt_cmpR op_eq (pe_dget hu (pv 0) pe_str (fun _ _ => rfl)) pe_str (nomark _)) (pss_one (ps_ret (pe_tup (pa_cons pe_str (pa_cons (pe_callTy call_tuple_of (by rfl) T.f_tuple (by decide +kernel) (pa_cons (pe_dget hu (pv 0) pe_str (fun _ _ => rfl)) pa_nil)) pa_nil))))) pss_nil)
    (pss_cons (ps_if (pt_cmpR op_eq (pe_dget hu (pv 0) pe_str (fun _ _ => rfl)) pe_str (nomark _)) (pss_one (ps_ret (pe_tup (pa_cons pe_str (pa_cons (pe_ix ix_tup (pe_ix ix_list (pe_ix ix_list (pe_dget hu (pv 0) pe_str (fun _ _ => rfl)) (pe_dget hu (pv 0) pe_str (fun _ _ => rfl)) (fun _ _ => rfl)) pe_int (fun _ _ => rfl)) pe_int (fun _ _ => rfl)) pa_nil))))) pss_nil)
    (pss_cons (ps_if (pt_cmpR op_eq (pe_dget hu (pv 0) pe_str (fun _ _ => rfl)) pe_str (nomark _)) (pss_one (ps_ret (pe_tup (pa_cons pe_str (pa_cons (pe_dget hu (pv 0) pe_str (fun _ _ => rfl)) pa_nil))))) pss_nil)
    (pss_one (ps_ret (pe_tup (pa_cons (pe_dget hu (pv 0) pe_str (fun _ _ => rfl)) pa_nil))))))), ?_⟩
  refine ⟨_, rfl, m, _, rfl, dget_s h.hm rfl, rfl, _, rfl, ?_⟩
  rw [show decide (V.str S.mode.str = V.str "wait") = decide (S.mode = .wait) from mstr _ .wait]
  by_cases c1 : S.mode = .wait
  · rw [decide_eq_true c1]
    refine iteT ⟨_, rfl, m, _, rfl, dget_s h.hm rfl, aw, _, rfl, .inl ⟨SqL.of h.co.hw, fun q hq => ⟨by show 2 ≤ sizeLine; decide, fun p hp => ?_⟩⟩⟩
    refine k _ p ((same_new hq _).trans (same_new hp _)) ?_
    unfold WaitsH
    rw [c1]
    exact ⟨q, upd_same, same_new hp _ _ _ upd_same⟩
  rw [decide_eq_false c1]
  refine iteF ⟨_, rfl, m, _, rfl, dget_s h.hm rfl, rfl, _, rfl, ?_⟩
  rw [show decide (V.str S.mode.str = V.str "hear") = decide (S.mode = .hear) from mstr _ .hear]
  by_cases c2 : S.mode = .hear
  · rw [decide_eq_true c2]
    refine iteT ?_
    obtain ⟨s0, r0, q1, q2, q3⟩ := hSt (.inr c2)
    obtain ⟨x, k', r1, q4⟩ := hR.hr c2
    have ehe : S.hears = some k' := by
      unfold AS.hears
      rw [q4]
    rw [q1] at q4
    injection q4 with q4 q5
    subst q4
    have hcd := h.cd
    obtain ⟨tc, es, c1, c2'⟩ := hcd
    obtain ⟨e, he, hen⟩ := Paired.get_ c2' q2
    obtain ⟨te, v, pp, hee, hb⟩ := hen
    obtain ⟨sp, us, vr, eq, hsp, hs, _⟩ := hb
    injection eq with eq _
    injection eq with eq
    subst eq
    have hs : us = [.str "hear", .str x, .str k'] := hs
    subst hs
    have ixe : atI (es.map V.ref) ((i : Nat) : Int) = some (.ref e) := atI_nat (by rw [List.getElem?_map, he]; rfl)
    refine ⟨_, rfl, m, _, rfl, dget_s h.hm rfl, _, rfl, m, _, rfl, dget_s h.hm rfl, c, _, _, _, rfl, rfl, SqL.of c1, ixe, e, _, _, _, rfl, rfl, SqL.of hee, rfl, v, _, _, _, rfl, rfl, SqT.of hsp, rfl, by show 2 ≤ sizeLine; decide, fun p hp => ?_⟩
    refine k _ p (same_new hp _) ?_
    unfold WaitsH
    rw [c2]
    exact ⟨k', ehe, upd_same⟩
  rw [decide_eq_false c2]
  refine iteF ⟨_, rfl, m, _, rfl, dget_s h.hm rfl, rfl, _, rfl, ?_⟩
  rw [show decide (V.str S.mode.str = V.str "ended") = decide (S.mode = .ended) from mstr _ .ended]
  by_cases c3 : S.mode = .ended
  · rw [decide_eq_true c3]
    refine iteT ⟨_, rfl, m, _, rfl, dget_s h.hm rfl, by show 2 ≤ sizeLine; decide, fun p hp => ?_⟩
    refine k _ p (same_new hp _) ?_
    unfold WaitsH
    rw [c3]
    exact upd_same
  rw [decide_eq_false c3]
  refine iteF ⟨_, rfl, m, _, rfl, dget_s h.hm rfl, by show 1 ≤ sizeLine; decide, fun p hp => ?_⟩
  refine k _ p (same_new hp _) ?_
  unfold WaitsH
  split
  · rename_i e
    exact absurd e c1
  · rename_i e
    exact absurd e c2
  · rename_i e
    exact absurd e c3
  · exact upd_same
end
end L2.K17

set_option maxHeartbeats 4000000
/-! the run in the heap -/
namespace L2.K17
open PySem L2
/-- the fields of a run -/
def rnF (st pa nm op dn lt aw od : Addr) (n : Int) (S : AS) : List (Str × V) :=
  [("statements", .ref st), ("mode", .str S.mode.str), ("path", .ref pa), ("known", .ref nm), ("arg", wv S.arg), ("today", .int S.now), ("made", .int S.made), ("not_done", .ref op), ("answered", .ref dn), ("heard", .ref lt), ("awaited", .ref aw), ("outcome", wv S.outcome), ("orders", .ref od), ("steps", .int n)]
/-- x the run, pth its path, ol the open tickets, cs the orders, n the steps -/
structure Rn (K : PySem.W.Frag) (T : Tg) (H : Hp) (x dx st pa nm op dn lt aw od : Addr) (B : Nat) (sf : Bool) (ol pth : List Int) (n : Int) (S : AS) (cs : List Cmd) : Prop where
  tm : T x = .box
  hm : H x = some (.ins (CR K) dx (rnF st pa nm op dn lt aw od n S))
  co : Core T H nm op dn lt aw B sf ol S
  tp : T pa = .pa
  hp : H pa = some (.lst (pth.map V.int))
  ho : OrdT T H od cs
section
variable {K : PySem.W.Frag} {T T1 : Tg} {H H1 : Hp} {x dx st pa nm op dn lt aw od : Addr} {B : Nat} {sf : Bool} {ol pth : List Int} {n : Int} {S : AS} {cs : List Cmd}
theorem Rn.same (h : Rn K T H x dx st pa nm op dn lt aw od B sf ol pth n S cs) (s : Same H H1) : Rn K T H1 x dx st pa nm op dn lt aw od B sf ol pth n S cs :=
  ⟨h.tm, s _ _ h.hm, h.co.same s, h.tp, s _ _ h.hp, h.ho.same s⟩
theorem Rn.le {B' : Nat} (h : Rn K T H x dx st pa nm op dn lt aw od B sf ol pth n S cs) (hb : B ≤ B') : Rn K T H x dx st pa nm op dn lt aw od B' sf ol pth n S cs := ⟨h.tm, h.hm, h.co.le hb, h.tp, h.hp, h.ho⟩
theorem Rn.newS (h : Rn K T H x dx st pa nm op dn lt aw od B sf ol pth n S cs) {p : Addr} {t : Tag} (hp : H p = none) (s : Same H H1) : Rn K (setT T p t) H1 x dx st pa nm op dn lt aw od B sf ol pth n S cs :=
  ⟨by rw [setT_ne (ne_of_none h.hm hp)]; exact h.tm, s _ _ h.hm, h.co.newS hp s, by rw [setT_ne (ne_of_none h.hp hp)]; exact h.tp, s _ _ h.hp, h.ho.newS hp s⟩
/-- the box itself -/
theorem Rn.put (h : Rn K T H x dx st pa nm op dn lt aw od B sf ol pth n S cs) {fs : List (Str × V)} (n' : Int) (S' : AS) (e : fs = rnF st pa nm op dn lt aw od n' S') (e1 : S'.names = S.names := by rfl) (e2 : S'.done = S.done := by rfl) (e3 : S'.lets = S.lets := by rfl) (e4 : S'.awaited = S.awaited := by rfl) :
    Rn K T (upd H x (.ins (CR K) dx fs)) x dx st pa nm op dn lt aw od B sf ol pth n' S' cs := by
  subst e
  have k : TupS H (upd H x (.ins (CR K) dx (rnF st pa nm op dn lt aw od n' S'))) := TupS.ins h.hm
  exact ⟨h.tm, upd_same, (h.co.box h.tm (.inl rfl) k).as e1 e2 e3 e4, h.tp, by rw [upd_ne (ne_tag h.tp h.tm (by decide))]; exact h.hp, h.ho.other k (by rw [h.tm]; decide)⟩
theorem Rn.putE (h : Rn K T H x dx st pa nm op dn lt aw od B sf ol pth n S cs) {o : HO} : Evo T H T (upd H x o) := Evo.putI h.tm (by decide) h.hm
/-- what the box does not tell -/
theorem Rn.as {S' : AS} (h : Rn K T H x dx st pa nm op dn lt aw od B sf ol pth n S cs) (e : rnF st pa nm op dn lt aw od n S' = rnF st pa nm op dn lt aw od n S := by rfl) (e1 : S'.names = S.names := by rfl) (e2 : S'.done = S.done := by rfl) (e3 : S'.lets = S.lets := by rfl) (e4 : S'.awaited = S.awaited := by rfl) :
    Rn K T H x dx st pa nm op dn lt aw od B sf ol pth n S' cs := ⟨h.tm, by rw [e]; exact h.hm, h.co.as e1 e2 e3 e4, h.tp, h.hp, h.ho⟩
/-- a name -/
theorem Rn.setN (h : Rn K T H x dx st pa nm op dn lt aw od B sf ol pth n S cs) {kvs : List (Key × V)} (e : H nm = some (.dK kvs)) (y : Str) (w : Option Int) : Rn K T (upd H nm (.dK (putK kvs (Sum.inr y) (wv w)))) x dx st pa nm op dn lt aw od (B + 1) sf ol pth n (S.setN y w) cs := by
  have k : TupS H (upd H nm (.dK (putK kvs (Sum.inr y) (wv w)))) := TupS.dK e
  exact ⟨h.tm, by rw [upd_ne (ne_tag h.tm h.co.tn (by decide))]; exact h.hm, h.co.setN e y w, h.tp, by rw [upd_ne (ne_tag h.tp h.co.tn (by decide))]; exact h.hp, h.ho.other k (by rw [h.co.tn]; decide)⟩
theorem Rn.nmE (h : Rn K T H x dx st pa nm op dn lt aw od B sf ol pth n S cs) {o : HO} : Evo T H T (upd H nm o) := by
  obtain ⟨_, e, _⟩ := h.co.hn
  exact Evo.putK_ h.co.tn (by decide) e
/-- the open tickets -/
theorem Rn.setO (h : Rn K T H x dx st pa nm op dn lt aw od B sf ol pth n S cs) (ol' : List Int) : Rn K T (upd H op (.lst (ol'.map V.int))) x dx st pa nm op dn lt aw od B sf ol' pth n S cs := by
  have k : TupS H (upd H op (.lst (ol'.map V.int))) := TupS.lst h.co.ho
  exact ⟨h.tm, by rw [upd_ne (ne_tag h.tm h.co.to (by decide))]; exact h.hm, h.co.setO ol', h.tp, by rw [upd_ne (ne_tag h.tp h.co.to (by decide))]; exact h.hp, h.ho.other k (by rw [h.co.to]; decide)⟩
theorem Rn.addO (h : Rn K T H x dx st pa nm op dn lt aw od B sf ol pth n S cs) (t : Int) : Rn K T (upd H op (.lst (ol.map V.int ++ [V.int t]))) x dx st pa nm op dn lt aw od B sf (ol ++ [t]) pth n S cs := by
  have e : ol.map V.int ++ [V.int t] = (ol ++ [t]).map V.int := by
    rw [List.map_append]
    rfl
  rw [e]
  exact h.setO _
theorem Rn.opE (h : Rn K T H x dx st pa nm op dn lt aw od B sf ol pth n S cs) {o : HO} : Evo T H T (upd H op o) := Evo.putL h.co.to (by decide) h.co.ho
/-- a command -/
theorem Rn.ord (h : Rn K T H x dx st pa nm op dn lt aw od B sf ol pth n S cs) {as : List Addr} {p : Addr} {c : Cmd} (e : H od = some (.lst (as.map V.ref))) (hp : H p = some (.tup c)) : Rn K T (upd H od (.lst (as.map V.ref ++ [V.ref p]))) x dx st pa nm op dn lt aw od B sf ol pth n S (cs ++ [c]) := by
  have k : TupS H (upd H od (.lst (as.map V.ref ++ [V.ref p]))) := TupS.lst e
  exact ⟨h.tm, by rw [upd_ne (ne_tag h.tm h.ho.1 (by decide))]; exact h.hm, h.co.box h.ho.1 (.inr (.inl rfl)) k, h.tp, by rw [upd_ne (ne_tag h.tp h.ho.1 (by decide))]; exact h.hp, h.ho.add e hp⟩
theorem Rn.odE (h : Rn K T H x dx st pa nm op dn lt aw od B sf ol pth n S cs) {o : HO} : Evo T H T (upd H od o) := h.ho.evo
/-- the path -/
theorem Rn.setP (h : Rn K T H x dx st pa nm op dn lt aw od B sf ol pth n S cs) (pth' : List Int) : Rn K T (upd H pa (.lst (pth'.map V.int))) x dx st pa nm op dn lt aw od B sf ol pth' n S cs := by
  have k : TupS H (upd H pa (.lst (pth'.map V.int))) := TupS.lst h.hp
  exact ⟨h.tm, by rw [upd_ne (ne_tag h.tm h.tp (by decide))]; exact h.hm, h.co.box h.tp (.inr (.inr (.inl rfl))) k, h.tp, upd_same, h.ho.other k (by rw [h.tp]; decide)⟩
theorem Rn.paE (h : Rn K T H x dx st pa nm op dn lt aw od B sf ol pth n S cs) {o : HO} : Evo T H T (upd H pa o) := Evo.putL h.tp (by decide) h.hp
/-- path = a list that was made -/
theorem Rn.newP (h : Rn K T H x dx st pa nm op dn lt aw od B sf ol pth n S cs) {p : Addr} (hp : H p = none) (s : Same H H1) {fs : List (Str × V)} (pth' : List Int) (h1 : H1 p = some (.lst (pth'.map V.int))) (e : fs = rnF st p nm op dn lt aw od n S) :
    Rn K (setT T p .pa) (upd H1 x (.ins (CR K) dx fs)) x dx st p nm op dn lt aw od B sf ol pth' n S cs ∧ Evo T H (setT T p .pa) (upd H1 x (.ins (CR K) dx fs)) := by
  subst e
  have q := h.newS (t := .pa) hp s
  have k : TupS H1 (upd H1 x (.ins (CR K) dx (rnF st p nm op dn lt aw od n S))) := TupS.ins q.hm
  have hx : p ≠ x := (ne_of_none h.hm hp).symm
  exact ⟨⟨q.tm, upd_same, q.co.box q.tm (.inl rfl) k, setT_same, by rw [upd_ne hx]; exact h1, q.ho.other k (by rw [q.tm]; decide)⟩, (Evo.newS hp s h1).trans (Evo.putI q.tm (by decide) q.hm)⟩
/-- awaited = a list that was made -/
theorem Rn.newW (h : Rn K T H x dx st pa nm op dn lt aw od B sf ol pth n S cs) {p : Addr} (hp : H p = none) (s : Same H H1) {fs : List (Str × V)} (ws : List Int) (h1 : H1 p = some (.lst (ws.map V.int))) (e : fs = rnF st pa nm op dn lt p od n S) :
    Rn K (setT T p .aw) (upd H1 x (.ins (CR K) dx fs)) x dx st pa nm op dn lt p od B sf ol pth n (S.setW ws) cs ∧ Evo T H (setT T p .aw) (upd H1 x (.ins (CR K) dx fs)) := by
  subst e
  have q0 := h.newS (t := .aw) hp s
  have q : Core (setT T p .aw) H1 nm op dn lt p B sf ol (S.setW ws) := ⟨q0.co.tn, q0.co.hn, q0.co.to, q0.co.ho, q0.co.td, q0.co.hd, q0.co.tl, q0.co.hl, setT_same, h1⟩
  have k : TupS H1 (upd H1 x (.ins (CR K) dx (rnF st pa nm op dn lt p od n S))) := TupS.ins q0.hm
  exact ⟨⟨q0.tm, upd_same, q.box q0.tm (.inl rfl) k, q0.tp, by rw [upd_ne (ne_tag q0.tp q0.tm (by decide))]; exact q0.hp, q0.ho.other k (by rw [q0.tm]; decide)⟩, (Evo.newS hp s h1).trans (Evo.putI q0.tm (by decide) q0.hm)⟩
/-- orders = [] -/
theorem Rn.newOd (h : Rn K T H x dx st pa nm op dn lt aw od B sf ol pth n S cs) {p : Addr} (hp : H p = none) {fs : List (Str × V)} (e : fs = rnF st pa nm op dn lt aw p n S) :
    Rn K (setT T p .od) (upd (upd H p (.lst [])) x (.ins (CR K) dx fs)) x dx st pa nm op dn lt aw p B sf ol pth n S [] ∧ Evo T H (setT T p .od) (upd (upd H p (.lst [])) x (.ins (CR K) dx fs)) := by
  subst e
  have s := same_new hp (.lst [])
  have q := h.newS (t := .od) hp s
  have k : TupS (upd H p (.lst [])) (upd (upd H p (.lst [])) x (.ins (CR K) dx (rnF st pa nm op dn lt aw p n S))) := TupS.ins q.hm
  have hx : p ≠ x := (ne_of_none h.hm hp).symm
  exact ⟨⟨q.tm, upd_same, q.co.box q.tm (.inl rfl) k, q.tp, by rw [upd_ne (ne_tag q.tp q.tm (by decide))]; exact q.hp, setT_same, [], by rw [upd_ne hx]; exact upd_same, .nil⟩, (Evo.newS hp s upd_same).trans (Evo.putI q.tm (by decide) q.hm)⟩
theorem Rn.addD (h : Rn K T H x dx st pa nm op dn lt aw od B sf ol pth n S cs) {as : List Addr} (e : H dn = some (.lst (as.map V.ref))) {p : Addr} {t : Int} {w : Option Int} (hp : H p = some (.tup [.int t, wv w])) :
    Rn K T (upd H dn (.lst (as.map V.ref ++ [V.ref p]))) x dx st pa nm op dn lt aw od B sf ol pth n (S.setDone (S.done ++ [(t, w)])) cs ∧ Evo T H T (upd H dn (.lst (as.map V.ref ++ [V.ref p]))) := by
  have k : TupS H (upd H dn (.lst (as.map V.ref ++ [V.ref p]))) := TupS.lst e
  exact ⟨⟨h.tm, by rw [upd_ne (ne_tag h.tm h.co.td (by decide))]; exact h.hm, h.co.addD e hp, h.tp, by rw [upd_ne (ne_tag h.tp h.co.td (by decide))]; exact h.hp, h.ho.other k (by rw [h.co.td]; decide)⟩, Evo.putL h.co.td (by decide) e⟩
theorem Rn.letsL (h : Rn K T H x dx st pa nm op dn lt aw od B sf ol pth n S cs) {kvs : List (Key × V)} (e : H lt = some (.dK kvs)) {y : Str} {l : Addr} (hv : valV kvs (Sum.inr y) = some (.ref l)) (ws : List (Option Int)) (hs : sf = true → ws ≠ []) :
    Rn K T (upd H l (.lst (ws.map wv))) x dx st pa nm op dn lt aw od B sf ol pth n (S.setL y ws) cs ∧ Evo T H T (upd H l (.lst (ws.map wv))) ∧ upd H l (.lst (ws.map wv)) lt = some (.dK kvs) := by
  obtain ⟨q, tl, xs, hl⟩ := h.co.letsL e hv ws hs
  have k0 : TupS H (upd H l (.lst (ws.map wv))) := TupS.lst hl
  exact ⟨⟨h.tm, by rw [upd_ne (ne_tag h.tm tl (by intro z; cases z))]; exact h.hm, q, h.tp, by rw [upd_ne (ne_tag h.tp tl (by intro z; cases z))]; exact h.hp, h.ho.other k0 (by rw [tl]; intro z; cases z)⟩, Evo.putL tl (by intro z; cases z) hl, by rw [upd_ne (ne_tag h.co.tl tl (by intro z; cases z))]; exact e⟩
theorem Rn.letsP (h : Rn K T H x dx st pa nm op dn lt aw od B sf ol pth n S cs) {kvs : List (Key × V)} (e : H lt = some (.dK kvs)) {p : Addr} (hp : H p = none) (y : Str) (ws : List (Option Int)) (hs : sf = true → ws ≠ []) :
    Rn K (setT T p (.le y)) (upd (upd H p (.lst (ws.map wv))) lt (.dK (putK kvs (Sum.inr y) (.ref p)))) x dx st pa nm op dn lt aw od (B + 1) sf ol pth n (S.setL y ws) cs ∧
      Evo T H (setT T p (.le y)) (upd (upd H p (.lst (ws.map wv))) lt (.dK (putK kvs (Sum.inr y) (.ref p)))) := by
  have q := h.co.letsP e hp y ws hs
  have s := same_new hp (.lst (ws.map wv))
  have q0 := h.newS (t := .le y) hp s
  have e1 := s _ _ e
  have k0 : TupS (upd H p (.lst (ws.map wv))) (upd (upd H p (.lst (ws.map wv))) lt (.dK (putK kvs (Sum.inr y) (.ref p)))) := TupS.dK e1
  exact ⟨⟨q0.tm, by rw [upd_ne (ne_tag q0.tm q0.co.tl (by decide))]; exact q0.hm, q, q0.tp, by rw [upd_ne (ne_tag q0.tp q0.co.tl (by decide))]; exact q0.hp, q0.ho.other k0 (by rw [q0.co.tl]; decide)⟩, (Evo.newS hp s upd_same).trans (Evo.putK_ q0.co.tl (by decide) e1)⟩
theorem Rn.letsD (h : Rn K T H x dx st pa nm op dn lt aw od B false ol pth n S cs) {kvs : List (Key × V)} (e : H lt = some (.dK kvs)) {y : Str} (h0 : S.lets y = []) :
    Rn K T (upd H lt (.dK (dropK kvs (Sum.inr y)))) x dx st pa nm op dn lt aw od B false ol pth n S cs ∧ Evo T H T (upd H lt (.dK (dropK kvs (Sum.inr y)))) := by
  have k0 : TupS H (upd H lt (.dK (dropK kvs (Sum.inr y)))) := TupS.dK e
  exact ⟨⟨h.tm, by rw [upd_ne (ne_tag h.tm h.co.tl (by decide))]; exact h.hm, h.co.letsD e h0, h.tp, by rw [upd_ne (ne_tag h.tp h.co.tl (by decide))]; exact h.hp, h.ho.other k0 (by rw [h.co.tl]; decide)⟩, Evo.putK_ h.co.tl (by decide) e⟩
theorem Rn.weak (h : Rn K T H x dx st pa nm op dn lt aw od B sf ol pth n S cs) : Rn K T H x dx st pa nm op dn lt aw od B false ol pth n S cs := ⟨h.tm, h.hm, h.co.weak, h.tp, h.hp, h.ho⟩
theorem Rn.strict (h : Rn K T H x dx st pa nm op dn lt aw od B false ol pth n S cs) {kvs : List (Key × V)} (e : H lt = some (.dK kvs)) (hs : ∀ y, valV kvs (Sum.inr y) ≠ none → S.lets y ≠ []) : Rn K T H x dx st pa nm op dn lt aw od B true ol pth n S cs := ⟨h.tm, h.hm, h.co.strict e hs, h.tp, h.hp, h.ho⟩
end
/-- the run at x, its program root -/
def RnO (K : PySem.W.Frag) (T : Tg) (H : Hp) (x : Addr) (root : Blk) (B : Nat) (ol pth : List Int) (n : Int) (S : AS) (cs : List Cmd) : Prop :=
  ∃ dx st pa nm op dn lt aw od, Rn K T H x dx st pa nm op dn lt aw od B true ol pth n S cs ∧ ProgH H root st
theorem RnO.fin {K : PySem.W.Frag} {T : Tg} {H H' : Hp} {x dx st pa nm op dn lt aw od : Addr} {root : Blk} {B : Nat} {ol pth : List Int} {n : Int} {S : AS} {cs : List Cmd} {R : Hp → Prop} (k : ∀ H', Evo T H T H' → RnO K T H' x root B ol pth n S cs → R H')
    (ev : Evo T H T H') (h : Rn K T H' x dx st pa nm op dn lt aw od B true ol pth n S cs) (hst : ProgH H root st) : R H' := k H' ev ⟨dx, st, pa, nm, op, dn, lt, aw, od, h, hst.mono ev.tup⟩
theorem RnO.finT {K : PySem.W.Frag} {T T' : Tg} {H H' : Hp} {x dx st pa nm op dn lt aw od : Addr} {root : Blk} {B : Nat} {ol pth : List Int} {n : Int} {S : AS} {cs : List Cmd} {R : Hp → Prop} (k : ∀ T' H', Evo T H T' H' → RnO K T' H' x root B ol pth n S cs → R H')
    (ev : Evo T H T' H') (h : Rn K T' H' x dx st pa nm op dn lt aw od B true ol pth n S cs) (hst : ProgH H root st) : R H' := k T' H' ev ⟨dx, st, pa, nm, op, dn, lt, aw, od, h, hst.mono ev.tup⟩
/-- the path: the pairs, then i -/
def pthI (ps : List (Nat × Nat)) (i : Nat) : List Int := (pathL ps ++ [i]).map fun z : Nat => (z : Int)
/-- at this path stands q; the run goes on with q, then t -/
def PosR (root : Blk) (ps : List (Nat × Nat)) (i : Nat) (q t : Blk) : Prop := ∃ b, posAt root ps = some (b, t) ∧ Blk.suf i b = some q
theorem pth_get : ∀ {ps : List (Nat × Nat)} {j : Nat}, j < ps.length → ∃ q, ps.drop (ps.length - 1 - j) = q :: ps.drop (ps.length - j) ∧ (pathL ps)[2 * j]? = some q.1 ∧ (pathL ps)[2 * j + 1]? = some q.2
  | [], j, h => absurd h (Nat.not_lt_zero _)
  | p :: ps, j, h => by
    have l := pathL_length ps
    by_cases c : j = ps.length
    · subst c
      refine ⟨p, ?_, ?_, ?_⟩
      · rw [show (p :: ps).length - 1 - ps.length = 0 by rw [List.length_cons]; omega, show (p :: ps).length - ps.length = 1 by rw [List.length_cons]; omega]
        rfl
      · show (pathL ps ++ [p.1, p.2])[2 * ps.length]? = _
        exact get_mid l
      · show (pathL ps ++ [p.1, p.2])[2 * ps.length + 1]? = _
        rw [List.getElem?_append_right (by omega), show 2 * ps.length + 1 - (pathL ps).length = 1 by omega]
        rfl
    · have hj : j < ps.length := by
        rw [List.length_cons] at h
        omega
      obtain ⟨q, h1, h2, h3⟩ := pth_get (ps := ps) hj
      refine ⟨q, ?_, ?_, ?_⟩
      · rw [show (p :: ps).length - 1 - j = (ps.length - 1 - j) + 1 by rw [List.length_cons]; omega, show (p :: ps).length - j = (ps.length - j) + 1 by rw [List.length_cons]; omega]
        exact h1
      · show (pathL ps ++ [p.1, p.2])[2 * j]? = _
        rw [List.getElem?_append_left (by omega)]
        exact h2
      · show (pathL ps ++ [p.1, p.2])[2 * j + 1]? = _
        rw [List.getElem?_append_left (by omega)]
        exact h3
theorem pthI_get {ps : List (Nat × Nat)} {i j z : Nat} (hj : j < 2 * ps.length) (h : (pathL ps)[j]? = some z) : ((pthI ps i).map V.int)[j]? = some (.int (z : Int)) := by
  have l := pathL_length ps
  unfold pthI
  rw [List.getElem?_map, List.getElem?_map, List.getElem?_append_left (by omega), h]
  rfl
theorem pthI_length (ps : List (Nat × Nat)) (i : Nat) : (pthI ps i).length = 2 * ps.length + 1 := by
  unfold pthI
  rw [List.length_map, List.length_append, pathL_length]
  rfl
theorem atI_last {α : Type} (xs : List α) (y : α) : atI (xs ++ [y]) (-1) = some y := by
  have e : ixN (xs ++ [y]).length (-1) = some xs.length := by
    unfold ixN
    rw [List.length_append, List.length_singleton, if_neg (by omega), if_pos (by omega)]
    congr 1
    omega
  unfold atI
  rw [e]
  exact get_mid rfl
theorem pthI_last (ps : List (Nat × Nat)) (i : Nat) : atI ((pthI ps i).map V.int) (-1) = some (.int (i : Int)) := by
  have e : (pthI ps i).map V.int = (((pathL ps).map fun z : Nat => (z : Int)).map V.int) ++ [V.int (i : Int)] := by
    unfold pthI
    rw [List.map_append, List.map_append]
    rfl
  rw [e]
  exact atI_last _ _
theorem sub_val {H : Hp} {k : Nat} {q a aft : Blk} {vs : List V} (h : BlkH H q vs) (hs : Blk.sub k q = some (a, aft)) : ∃ p0 vr us pa, vs = .ref p0 :: vr ∧ H p0 = some (.tup us) ∧ us[2 + k]? = some (.ref pa) ∧ ProgH H a pa := by
  cases q with
  | nil => cases k with
    | zero => cases hs
    | succ k => cases k <;> cases hs
  | one s r => cases k with
    | zero => cases hs
    | succ k => cases k <;> cases hs
  | ite c x y r =>
    obtain ⟨p, u, pa, pb, va, vb, vr, h1, h2, h3, h4, h5, h6, h7, h8⟩ := h
    cases k with
    | zero =>
      cases hs
      exact ⟨p, vr, _, pa, h1, h2, rfl, va, h4, h5⟩
    | succ k => cases k with
      | zero =>
        cases hs
        exact ⟨p, vr, _, pb, h1, h2, rfl, vb, h6, h7⟩
      | succ k => cases hs
  | whl c x r =>
    obtain ⟨p, u, pa, va, vr, h1, h2, h3, h4, h5, h6⟩ := h
    cases k with
    | zero =>
      cases hs
      exact ⟨p, vr, _, pa, h1, h2, rfl, va, h4, h5⟩
    | succ k => cases k <;> cases hs
theorem drop_get {α : Type} {l : List α} {n : Nat} {x : α} {r : List α} (h : l.drop n = x :: r) : l[n]? = some x := by
  have e : (l.drop n)[0]? = some x := by rw [h]; rfl
  rw [List.getElem?_drop] at e
  exact e
theorem rgC2 : ∀ {L : Nat}, L ≤ 5 → RgC 0 (((2 * L + 1 : Nat) : Int) - 1) 2 L
  | 0, _ => ⟨by decide, by decide, by decide, by decide⟩
  | 1, _ => ⟨by decide, by decide, by decide, by decide⟩
  | 2, _ => ⟨by decide, by decide, by decide, by decide⟩
  | 3, _ => ⟨by decide, by decide, by decide, by decide⟩
  | 4, _ => ⟨by decide, by decide, by decide, by decide⟩
  | 5, _ => ⟨by decide, by decide, by decide, by decide⟩
  | _ + 6, h => by omega
end L2.K17

set_option maxHeartbeats 4000000
/-! the run: where it stands; what a saying tells -/
namespace L2.K17
open PySem L2
section
variable {P : Program} {w : World} {K : PySem.W.Frag} {mg : Str → Option Value} {base : Heap}
def spTru : Sp := fun vs H Q _ => ∃ o : Option Int, vs = [wv o] ∧ Q (.bl (decide (num0 o ≠ 0))) H
theorem sc_is_true : FnScope ["worth"] ["worth"] (defScope s_is_true) := ⟨rfl, rfl, rfl, by decide +kernel, rfl, by decide +kernel, by decide +kernel⟩
theorem D_is_true (T : Tx K mg) : Def1 P w K mg base 1 "is_true" ["worth"] spTru := by
  refine T.mk1 (st := s_is_true) 4 4 rfl rfl sc_is_true (fun _ _ _ _ _ _ us hl => match us, hl with | [_], _ => rfl) (fun vs H Q E h => ?_) (fun cdv A outer s H vs Q E hr h => ?_)
  · obtain ⟨o, rfl, _⟩ := h
    rfl
  obtain ⟨o, rfl, k⟩ := h
  refine ⟨_, (pss_one (ps_ret (pe_and (pe_cmpR op_notN (pv 0) pe_non (nomark _)) (pe_one (pe_cmpR op_ne (pv 0) pe_int (nomark _)))))), ?_⟩
  cases o with
  | none => exact ⟨_, rfl, rfl, _, rfl, iteF k⟩
  | some n =>
    refine ⟨_, rfl, rfl, _, rfl, iteT ⟨_, rfl, rfl, ?_⟩⟩
    have e : (!decide (V.int n = V.int 0)) = decide (num0 (some n) ≠ 0) := by
      show _ = decide (n ≠ 0)
      rw [dec_int, Bool.beq_eq_decide_eq, decide_not]
    show Q (.bl (!decide (V.int n = V.int 0))) H
    rw [e]
    exact k
def spBlockOf : Sp := fun vs H Q _ => ∃ (st pa : Addr) (root b t : Blk) (ps : List (Nat × Nat)) (i : Nat), vs = [.ref st, .ref pa] ∧ ProgH H root st ∧ root.depth ≤ 5 ∧ H pa = some (.lst ((pthI ps i).map V.int)) ∧ posAt root ps = some (b, t) ∧ ∀ p, ProgH H b p → Q (.ref p) H
theorem sc_block_of : FnScope ["program", "path", "block", "k"] ["program", "path"] (defScope s_block_of) := ⟨rfl, rfl, rfl, by decide +kernel, rfl, by decide +kernel, by decide +kernel⟩
theorem D_block_of (T : Tx K mg) : Def1 P w K mg base 1 "block_of" ["program", "path"] spBlockOf := by
  refine T.mk1 (st := s_block_of) 5 5 rfl rfl sc_block_of (fun _ _ _ _ _ _ us hl => match us, hl with | [_, _], _ => rfl) (fun vs H Q E h => ?_) (fun cdv A outer s H vs Q E hr h => ?_)
  · obtain ⟨_, _, _, _, _, _, _, rfl, _⟩ := h
    rfl
  obtain ⟨st, pa, root, b, t, ps, i, rfl, hst, hrd, hpa, hpos, k⟩ := h
  refine ⟨_, (pss_cons (ps_set (i := 2) sc_block_of.nd rfl (Or.inl rfl) (pv 0))
    (pss_cons (ps_for PassesOwn.never rfl (pi_range3 rfl T.f_range (pa_cons pe_int (pa_cons (pe_op op_sub (pe_callB call_len_seq (by rfl) T.f_len (by decide +kernel) (pa_cons (pv 1) pa_nil)) pe_int) (pa_cons pe_int pa_nil)))) (pg_name (i := 3) sc_block_of.nd rfl (Or.inl rfl)) (pss_one (ps_set (i := 2) sc_block_of.nd rfl (Or.inl rfl) (pe_ix ix_tup (pe_ix ix_tup (pv 2) (pe_ix ix_list (pv 1) (pv 3) (fun _ _ => rfl)) (fun _ _ => rfl)) (pe_op op_add pe_int (pe_ix ix_list (pv 1) (pe_op op_add (pv 3) pe_int) (fun _ _ => rfl))) (fun _ _ => rfl)))))
    (pss_one (ps_ret (pv 2))))), ?_⟩
  have hL : ps.length ≤ 5 := by
    have := posAt_depth hpos
    omega
  have el : ((pthI ps i).map V.int).length = 2 * ps.length + 1 := by rw [List.length_map, pthI_length]
  refine ⟨_, rfl, _, rfl, pa, _, rfl, .inl (SqL.of hpa), _, _, rfl, rfl, _, _, _, ps.length, rfl, ?_, for_rangeC (n := ps.length) (fun j σ H' => H' = H ∧ ∃ (p : Addr) (v3 : Option V) (bj tj : Blk), σ = [some (.ref st), some (.ref pa), some (.ref p), v3] ∧ posAt root (ps.drop (ps.length - j)) = some (bj, tj) ∧ ProgH H bj p) ?_ ?_ ?_⟩
  · rw [el]
    exact rgC2 hL
  · refine ⟨rfl, st, none, root, .nil, rfl, ?_, hst⟩
    rw [Nat.sub_zero, List.drop_length]
    rfl
  · rintro j σ H' hj ⟨rfl, p, v3, bj, tj, rfl, hpj, vs, hp, hvs⟩
    obtain ⟨q, d1, d2, d3⟩ := pth_get hj
    obtain ⟨bt, hd⟩ := posAt_drop (m := ps.length - 1 - j) hpos
    rw [d1] at hd
    obtain ⟨b', t', q', aft, h1, h2, h3, h4⟩ := posAt_inv (a := bt.1) (u := bt.2) hd
    rw [hpj] at h1
    cases h1
    obtain ⟨p0, vr, us, pb, e1, e2, e3, e4⟩ := sub_val (hvs.suf h2) h3
    have ha := drop_get e1
    refine ⟨_, rfl, _, rfl, _, rfl, pa, _, _, _, rfl, rfl, SqL.of hpa, at_of (j := 2 * j) (by omega) (pthI_get (by omega) d2), p, _, _, _, rfl, rfl, SqT.of hp, atI_nat ha, ?_⟩
    refine ⟨_, rfl, _, rfl, _, _, rfl, rfl, pa, _, _, _, rfl, rfl, SqL.of hpa, at_of (j := 2 * j + 1) (by omega) (pthI_get (by omega) d3), _, _, rfl, rfl, p0, _, _, _, rfl, rfl, SqT.of e2, at_of (j := 2 + q.2) (by omega) e3, ?_⟩
    refine ⟨rfl, pb, _, bt.1, bt.2, rfl, ?_, e4⟩
    rw [show ps.length - (j + 1) = ps.length - 1 - j by omega, d1]
    exact hd
  · rintro σ H' ⟨rfl, p, v3, bj, tj, rfl, hpj, hp⟩
    rw [Nat.sub_self] at hpj
    have hpj : posAt root ps = some (bj, tj) := hpj
    rw [hpos] at hpj
    cases hpj
    exact ⟨_, rfl, k p hp⟩
end
end L2.K17

set_option maxHeartbeats 4000000
/-! the run: small methods -/
namespace L2.K17
open PySem L2
theorem blk_head {H : Hp} {q : Blk} {vs : List V} (h : BlkH H q vs) (hq : q ≠ .nil) : ∃ p us vr, vs = .ref p :: vr ∧ H p = some (.tup (.str (headW q) :: us)) := by
  cases q with
  | nil => exact absurd rfl hq
  | one s r =>
    obtain ⟨p, us, vr, h1, h2, hs, _⟩ := h
    obtain ⟨us', rfl⟩ : ∃ us', us = .str s.word :: us' := by
      cases s with
      | set _ _ => obtain ⟨_, h, _⟩ := hs; exact ⟨_, h⟩
      | order _ _ _ _ => obtain ⟨_, h, _⟩ := hs; exact ⟨_, h⟩
      | timer _ _ => obtain ⟨_, h, _⟩ := hs; exact ⟨_, h⟩
      | send _ _ _ => obtain ⟨_, _, h, _⟩ := hs; exact ⟨_, h⟩
      | drop _ => obtain ⟨_, h, _⟩ := hs; exact ⟨_, h⟩
      | wait _ _ => obtain ⟨_, _, h, _⟩ := hs; exact ⟨_, h⟩
      | hear _ _ => exact ⟨_, hs⟩
      | fin _ => obtain ⟨_, h, _⟩ := hs; exact ⟨_, h⟩
    exact ⟨p, us', vr, h1, h2⟩
  | ite c a b r =>
    obtain ⟨p, u, pa, pb, va, vb, vr, h1, h2, _⟩ := h
    exact ⟨p, _, vr, h1, h2⟩
  | whl c a r =>
    obtain ⟨p, u, pa, va, vr, h1, h2, _⟩ := h
    exact ⟨p, _, vr, h1, h2⟩
/-- the name stands behind the word -/
theorem name_head {H : Hp} {s : Simp} {r : Blk} {vs : List V} {y : Str} (h : BlkH H (.one s r) vs) (hs : s.nameW = some y) : ∃ p us vr v0, vs = .ref p :: vr ∧ H p = some (.tup (v0 :: .str y :: us)) := by
  obtain ⟨p, us, vr, h1, h2, h3, _⟩ := h
  cases s with
  | wait x es =>
    cases hs
    obtain ⟨p', us', h, _⟩ := h3
    exact ⟨p, _, vr, _, h1, by rw [h2, h]⟩
  | hear x k =>
    cases hs
    have h3 : us = [.str "hear", .str y, .str k] := h3
    exact ⟨p, _, vr, _, h1, by rw [h2, h3]⟩
  | _ => cases hs
theorem pthI_set (ps : List (Nat × Nat)) (i : Nat) (z : Int) (hz : z = (i : Int) + 1) : ((pthI ps i).map V.int).set (2 * ps.length) (.int z) = (pthI ps (i + 1)).map V.int := by
  subst hz
  have e : ∀ j, (pthI ps j).map V.int = (((pathL ps).map fun z : Nat => (z : Int)).map V.int) ++ V.int (j : Int) :: [] := fun j => by
    unfold pthI
    rw [List.map_append, List.map_append]
    rfl
  rw [e, e, set_mid (by rw [List.length_map, List.length_map, pathL_length])]
  rfl
theorem pthI_ix (ps : List (Nat × Nat)) (i : Nat) : ixN ((pthI ps i).map V.int).length (-1) = some (2 * ps.length) := by
  rw [List.length_map, pthI_length]
  unfold ixN
  rw [if_neg (by omega), if_pos (by omega)]
  congr 1
  omega
def spHere (K : PySem.W.Frag) : Sp := fun vs H Q _ => ∃ (T : Tg) (x : Addr) (root q t : Blk) (B : Nat) (ol : List Int) (ps : List (Nat × Nat)) (i : Nat) (n : Int) (S : AS) (cs : List Cmd), vs = [.ref x] ∧ RnO K T H x root B ol (pthI ps i) n S cs ∧ root.depth ≤ 5 ∧ PosR root ps i q t ∧ q ≠ .nil ∧
  ∀ p vr, BlkH H q (.ref p :: vr) → Q (.ref p) H
def spSays (K : PySem.W.Frag) : Sp := fun vs H Q _ => ∃ (T : Tg) (x : Addr) (root : Blk) (B : Nat) (ol pth : List Int) (n : Int) (S : AS) (cs : List Cmd) (e : Say) (v : V), vs = [.ref x, v] ∧ RnO K T H x root B ol pth n S cs ∧ SayH H e v ∧ e.depth ≤ 4 ∧ e.ok ∧ SmS S ∧ ∀ H', Same H H' → Q (wv (S.say e)) H'
def spFirst (K : PySem.W.Frag) : Sp := fun vs H Q _ => ∃ (T : Tg) (x : Addr) (root : Blk) (B : Nat) (ol pth : List Int) (n : Int) (S : AS) (cs : List Cmd) (y : Str) (w : Option Int) (ws : List (Option Int)), vs = [.ref x, .str y] ∧ RnO K T H x root B ol pth n S cs ∧ S.lets y = w :: ws ∧
  ∀ H', Evo T H T H' → RnO K T H' x root B ol pth n (S.setL y ws) cs → Q (wv w) H'
def spBehind (K : PySem.W.Frag) : Sp := fun vs H Q _ => ∃ (T : Tg) (x : Addr) (root r t : Blk) (B : Nat) (ol : List Int) (ps : List (Nat × Nat)) (i : Nat) (n : Int) (S : AS) (cs : List Cmd) (w : Option Int) (s : Simp) (y : Str), vs = [.ref x, wv w] ∧ RnO K T H x root B ol (pthI ps i) n S cs ∧ root.depth ≤ 5 ∧
  PosR root ps i (.one s r) t ∧ s.nameW = some y ∧ B ≤ 90000 ∧ ∀ H', Evo T H T H' → RnO K T H' x root (B + 1) ol (pthI ps (i + 1)) n (S.setN y w) cs → Q .non H'
section
variable {P : Program} {w : World} {K : PySem.W.Frag} {mg : Str → Option Value} {base : Heap}
theorem sc_R_statement_here : FnScope ["self"] ["self"] (defScope sR_statement_here) := ⟨rfl, rfl, rfl, by decide +kernel, rfl, by decide +kernel, by decide +kernel⟩
theorem D_statement_here (T : Tx K mg) : DefM P w K mg base 2 "statement_here" ["self"] (spHere K) := by
  have D_block_of : Def1 P w K mg base 1 "block_of" ["program", "path"] spBlockOf := D_block_of T
  refine T.mkM (st := sR_statement_here) 38 rfl sc_R_statement_here (fun _ _ _ _ _ _ us hl => match us, hl with | [_], _ => rfl) (fun vs H Q E h => ?_) (fun cdv A outer s H vs Q E hr h => ?_)
  · obtain ⟨_, _, _, _, _, _, _, _, _, _, _, _, rfl, _⟩ := h
    rfl
  obtain ⟨U, x, root, q, t, B, ol, ps, i, n, S, cs, rfl, ⟨dx, st, pa, nm, op, dn, lt, aw, od, h, hst⟩, hrd, ⟨b, hpos, hsuf⟩, hq, k⟩ := h
  refine ⟨_, (pss_one (ps_ret (pe_ix ix_tup (pe_c D_block_of (hr.mono (by omega)) (pa_cons (pe_fld (pv 0) rfl) (pa_cons (pe_fld (pv 0) rfl) pa_nil))) (pe_ix ix_list (pe_fld (pv 0) rfl) (pe_un un_neg pe_int) (fun _ _ => rfl)) (fun _ _ => rfl)))), ?_⟩
  refine ⟨_, rfl, x, _, dx, _, _, rfl, h.hm, T.cl, T.n_statements, rfl, _, rfl, x, _, dx, _, _, rfl, h.hm, T.cl, T.n_path, rfl, ?_⟩
  refine ⟨st, pa, root, b, t, ps, i, rfl, hst, hrd, h.hp, hpos, fun p hb => ?_⟩
  obtain ⟨vs, hp, hvs⟩ := hb
  have hs := hvs.suf hsuf
  obtain ⟨p0, us, vr, e, hp0⟩ := blk_head hs hq
  have hs' := hs
  rw [e] at hs'
  refine ⟨_, rfl, x, _, dx, _, _, rfl, h.hm, T.cl, T.n_path, rfl, _, rfl, pa, _, _, _, rfl, rfl, SqL.of h.hp, pthI_last ps i, p, _, _, _, rfl, rfl, SqT.of hp, atI_nat (drop_get e), k p0 vr hs'⟩
theorem sc_R_says : FnScope ["self", "saying"] ["self", "saying"] (defScope sR_says) := ⟨rfl, rfl, rfl, by decide +kernel, rfl, by decide +kernel, by decide +kernel⟩
theorem D_says (T : Tx K mg) : DefM P w K mg base 7 "says" ["self", "saying"] (spSays K) := by
  have D_worth_of : Def1 P w K mg base 6 "worth_of" ["saying", "names", "arg", "now", "answers"] (spWorth 4) := D_worth_of T 4
  refine T.mkM (st := sR_says) 40 rfl sc_R_says (fun _ _ _ _ _ _ us hl => match us, hl with | [_, _], _ => rfl) (fun vs H Q E h => ?_) (fun cdv A outer s H vs Q E hr h => ?_)
  · obtain ⟨_, _, _, _, _, _, _, _, _, _, _, rfl, _⟩ := h
    rfl
  obtain ⟨U, x, root, B, ol, pth, n, S, cs, e, v, rfl, ⟨dx, st, pa, nm, op, dn, lt, aw, od, h, hst⟩, hs, hd, ho, sm, k⟩ := h
  refine ⟨_, (pss_one (ps_ret (pe_c D_worth_of (hr.mono (by omega)) (pa_cons (pv 1) (pa_cons (pe_callTy call_dict_copy (by rfl) T.f_dict (by decide +kernel) (pa_cons (pe_fld (pv 0) rfl) pa_nil)) (pa_cons (pe_fld (pv 0) rfl) (pa_cons (pe_fld (pv 0) rfl) (pa_cons (pe_callTy (call_dictP rfl) (by rfl) T.f_dict (by decide +kernel) (pa_cons (pe_fld (pv 0) rfl) pa_nil)) pa_nil)))))))), ?_⟩
  have h0 := h
  obtain ⟨kvs, n1, n2, n3⟩ := h0.co.hn
  refine ⟨_, rfl, _, rfl, x, _, dx, _, _, rfl, h.hm, T.cl, T.n_known, rfl, nm, kvs, rfl, .inl n1, fun p hp => ?_⟩
  have s1 := same_new hp (.dK kvs)
  have h1 := h.same s1
  have h10 := h1
  obtain ⟨as, d1, d2⟩ := h10.co.hd
  refine ⟨_, rfl, x, _, dx, _, _, rfl, h1.hm, T.cl, T.n_arg, rfl, _, rfl, x, _, dx, _, _, rfl, h1.hm, T.cl, T.n_today, rfl, _, rfl, x, _, dx, _, _, rfl, h1.hm, T.cl, T.n_answered, rfl, dn, as, _, rfl, SqL.of d1, pairs_kv d2, fun q hq => ?_⟩
  have s2 := s1.trans (same_new hq (.dK (mergeK [] (S.done.map fun p => (Sum.inl p.1, wv p.2)))))
  exact ⟨e, v, p, q, B, S.names, S.arg, S.now, S.done, rfl, hs.same s2, hd, ho, ⟨kvs, same_new hq _ _ _ upd_same, n2, n3⟩, ⟨_, upd_same, fun z => valV_merge_done S.done [] none z rfl⟩, sm.nm, sm.ag, sm.dn, k _ s2⟩
theorem sc_R_first_letter : FnScope ["self", "key", "worth"] ["self", "key"] (defScope sR_first_letter) := ⟨rfl, rfl, rfl, by decide +kernel, rfl, by decide +kernel, by decide +kernel⟩
theorem D_first_letter (T : Tx K mg) : DefM P w K mg base 1 "first_letter" ["self", "key"] (spFirst K) := by
  refine T.mkM (st := sR_first_letter) 37 rfl sc_R_first_letter (fun _ _ _ _ _ _ us hl => match us, hl with | [_, _], _ => rfl) (fun vs H Q E h => ?_) (fun cdv A outer s H vs Q E hr h => ?_)
  · obtain ⟨_, _, _, _, _, _, _, _, _, _, _, _, rfl, _⟩ := h
    rfl
  obtain ⟨U, x, root, B, ol, pth, n, S, cs, y, w0, ws, rfl, ⟨dx, st, pa, nm, op, dn, lt, aw, od, h, hst⟩, hl, k⟩ := h
  have hu := hu_of hr
  refine ⟨_, (pss_cons (ps_set (i := 2) sc_R_first_letter.nd rfl (Or.inl rfl) (pe_bm PySem.F.plainAttrs_list PySem.F.slot_list_pop PySem.F.type_list_pop mt_popAt (pe_dget hu (pe_fld (pv 0) rfl) (pv 1) (fun _ _ => rfl)) (pa_cons pe_int pa_nil)))
    (pss_cons (ps_if (pt_cmpR (op_eqD hr.units) (pe_dget hu (pe_fld (pv 0) rfl) (pv 1) (fun _ _ => rfl)) (pe_lst pa_nil) (nomark _)) (pss_one (ps_expr (pe_dpop1 (pe_fld (pv 0) rfl) (pv 1) ⟨rfl, rfl, rfl, rfl⟩))) pss_nil)
    (pss_one (ps_ret (pv 2))))), ?_⟩
  have h0 := h
  obtain ⟨kvs, l1, l2, _⟩ := h0.co.hl
  have hw := h.weak
  rcases h.co.hl.at_ l1 y with ⟨e1, e2⟩ | ⟨l, e1, tl, e3, _⟩
  · rw [hl] at e2
    cases e2
  rw [hl] at e3
  refine ⟨_, rfl, x, _, dx, _, _, rfl, h.hm, T.cl, T.n_heard, rfl, _, rfl, lt, _, rfl, dget_s l1 e1, tyL e3, l, _, 0, 0, _, rfl, rfl, e3, by decide, by decide, ?_, rfl, ?_⟩
  · exact seqIndex_of (Int.le_refl 0) (by rw [List.length_map, List.length_cons]; omega)
  obtain ⟨h2, e2, l2'⟩ := hw.letsL l1 e1 ws (fun z => nomatch z)
  have hl2 : upd H l (.lst (ws.map wv)) l = some (.lst (ws.map wv)) := upd_same
  refine ⟨_, rfl, x, _, dx, _, _, rfl, h2.hm, T.cl, T.n_heard, rfl, _, rfl, lt, _, rfl, dget_s l2' e1, Nat.zero_le _, fun q hq => ?_⟩
  have s3 := same_new hq (.lst [])
  refine eq_nil (SqL.of (s3 _ _ hl2)) (SqL.of upd_same) ⟨_, rfl, ?_⟩
  have h3 := h2.same s3
  have l3 := s3 _ _ l2'
  have old : ∀ z, valV kvs (Sum.inr z) ≠ none → S.lets z ≠ [] := by
    intro z hz
    rcases h.co.hl.at_ l1 z with ⟨q1, _⟩ | ⟨_, _, _, _, q4⟩
    · exact absurd q1 hz
    · exact q4 rfl
  cases ws with
  | nil =>
    refine iteT ⟨_, rfl, x, _, dx, _, _, rfl, h3.hm, T.cl, T.n_heard, rfl, lt, rfl, .inl ⟨kvs, .inl l3⟩, _, rfl, kvs, Sum.inr y, _, l3, rfl, e1, _, rfl, ?_⟩
    obtain ⟨h4, e4⟩ := h3.letsD l3 (y := y) (by show (if y = y then [] else S.lets y) = []; rw [if_pos rfl])
    refine k _ (e2.trans ((Evo.same s3).trans e4)) ⟨dx, st, pa, nm, op, dn, lt, aw, od, h4.strict upd_same fun z hz => ?_, hst.mono (e2.tup.trans ((TupS.of_same s3).trans e4.tup))⟩
    rw [valV_dropK] at hz
    show (if z = y then [] else S.lets z) ≠ []
    by_cases c : z = y
    · rw [if_pos (by rw [c])] at hz
      exact absurd rfl hz
    · rw [if_neg (fun q => c (Sum.inr.inj q))] at hz
      rw [if_neg c]
      exact old z hz
  | cons w1 ws =>
    refine iteF ⟨_, rfl, k _ (e2.trans (Evo.same s3)) ⟨dx, st, pa, nm, op, dn, lt, aw, od, h3.strict l3 fun z hz => ?_, hst.mono (e2.tup.trans (TupS.of_same s3))⟩⟩
    show (if z = y then w1 :: ws else S.lets z) ≠ []
    by_cases c : z = y
    · rw [if_pos c]
      exact fun q => nomatch q
    · rw [if_neg c]
      exact old z hz
theorem sc_R_go_behind : FnScope ["self", "worth"] ["self", "worth"] (defScope sR_go_behind) := ⟨rfl, rfl, rfl, by decide +kernel, rfl, by decide +kernel, by decide +kernel⟩
theorem D_go_behind (T : Tx K mg) : DefM P w K mg base 3 "go_behind" ["self", "worth"] (spBehind K) := by
  have D_statement_here : DefM P w K mg base 2 "statement_here" ["self"] (spHere K) := D_statement_here T
  refine T.mkM (st := sR_go_behind) 39 rfl sc_R_go_behind (fun _ _ _ _ _ _ us hl => match us, hl with | [_, _], _ => rfl) (fun vs H Q E h => ?_) (fun cdv A outer s H vs Q E hr h => ?_)
  · obtain ⟨_, _, _, _, _, _, _, _, _, _, _, _, _, _, _, rfl, _⟩ := h
    rfl
  obtain ⟨U, x, root, r, t, B, ol, ps, i, n, S, cs, w0, s0, y, rfl, hO, hrd, hpos, hy, hB, k⟩ := h
  have hO0 := hO
  obtain ⟨dx, st, pa, nm, op, dn, lt, aw, od, h, hst⟩ := hO0
  have hu := hu_of hr
  refine ⟨_, (pss_cons (ps_dput hu (pe_fld (pv 0) rfl) (pe_ix ix_tup (pe_m0 D_statement_here T.cl T.m_statement_here (hr.mono (by omega)) (pv 0)) pe_int (fun _ _ => rfl)) (pv 1) rfl)
    (pss_one (ps_augS (pe_fld (pv 0) rfl) (pe_un un_neg pe_int) get_list pe_int ip_add set_list))), ?_⟩
  have h0 := h
  obtain ⟨kvs, n1, n2, n3⟩ := h0.co.hn
  refine ⟨_, rfl, _, rfl, x, _, dx, _, _, rfl, h.hm, T.cl, T.n_known, rfl, _, rfl, x, dx, _, rfl, h.hm, rfl, ?_⟩
  refine ⟨U, x, root, _, t, B, ol, ps, i, n, S, cs, rfl, hO, hrd, hpos, (fun z => nomatch z), fun p vr hb => ?_⟩
  obtain ⟨p', us, vr', v0, e1, e2⟩ := name_head hb hy
  injection e1 with e1 _
  injection e1 with e1
  subst e1
  refine ⟨p, _, _, _, rfl, rfl, SqT.of e2, atI_nat (j := 1) rfl, nm, _, rfl, dput_s n1 (szB (by omega)), ?_⟩
  have hA := h.setN n1 y w0
  refine ⟨_, rfl, x, _, dx, _, _, rfl, hA.hm, T.cl, T.n_path, rfl, _, rfl, pa, _, _, _, rfl, rfl, SqL.of hA.hp, pthI_last ps i, _, _, rfl, rfl, pa, _, _, _, rfl, rfl, hA.hp, pthI_ix ps i, ?_⟩
  rw [pthI_set ps i _ rfl]
  have hZ := hA.setP (pthI ps (i + 1))
  exact k _ (h.nmE.trans hA.paE) ⟨dx, st, pa, nm, op, dn, lt, aw, od, hZ, hst.mono (h.nmE.tup.trans hA.paE.tup)⟩
end
end L2.K17

set_option maxHeartbeats 4000000
/-! the run: a statement done at once -/
namespace L2.K17
open PySem L2
def spNewT (K : PySem.W.Frag) : Sp := fun vs H Q _ => ∃ (T : Tg) (x dx st pa nm op dn lt aw od : Addr) (B : Nat) (pth : List Int) (n : Int) (S : AS) (cs : List Cmd) (y : Str), vs = [.ref x, .str y] ∧ Rn K T H x dx st pa nm op dn lt aw od B true S.opn pth n S cs ∧ Bnd B S ∧ B ≤ 90000 ∧
  ∀ H', Evo T H T H' → Rn K T H' x dx st pa nm op dn lt aw od (B + 1) true (S.ticket y).opn pth n (S.ticket y) cs → Q (.int S.made) H'
def spDrop (K : PySem.W.Frag) : Sp := fun vs H Q _ => ∃ (T : Tg) (x : Addr) (root : Blk) (B : Nat) (pth : List Int) (n : Int) (S : AS) (cs : List Cmd) (w : Option Int), vs = [.ref x, wv w] ∧ RnO K T H x root B S.opn pth n S cs ∧ cs.length ≤ 90000 ∧
  ∀ H', Evo T H T H' → RnO K T H' x root B (doDrop S w).1.opn pth n (doDrop S w).1 (cs ++ (doDrop S w).2) → Q .non H'
def spEnd (K : PySem.W.Frag) : Sp := fun vs H Q _ => ∃ (T : Tg) (x : Addr) (root : Blk) (B : Nat) (ol pth : List Int) (n : Int) (S : AS) (cs : List Cmd) (w : Option Int), vs = [.ref x, wv w] ∧ RnO K T H x root B ol pth n S cs ∧ cs.length ≤ 90000 ∧
  ∀ H', Evo T H T H' → RnO K T H' x root B ol pth n (S.ended w) (cs ++ [[.str "end", wv w]]) → Q .non H'
def spPlain (K : PySem.W.Frag) : Sp := fun vs H Q _ => ∃ (T : Tg) (x sp : Addr) (root : Blk) (B : Nat) (pth : List Int) (n : Int) (S : AS) (cs : List Cmd) (s : Simp) (us : List V), vs = [.ref x, .ref sp] ∧ H sp = some (.tup us) ∧ SimpH H s us ∧ s.ok ∧ s.isPlain ∧
  RnO K T H x root B S.opn pth n S cs ∧ Bnd B S ∧ B ≤ 90000 ∧ cs.length ≤ 90000 ∧
  ∀ H', Evo T H T H' → RnO K T H' x root (B + 1) (doPlain S s).1.opn pth n (doPlain S s).1 (cs ++ (doPlain S s).2) → Q .non H'
theorem fl14 {st pa nm op dn lt aw od : Addr} {n : Int} {S : AS} : (rnF st pa nm op dn lt aw od n S).length < 1000 := by
  show 14 < 1000
  decide
section
variable {P : Program} {w : World} {K : PySem.W.Frag} {mg : Str → Option Value} {base : Heap}
theorem sc_R_new_ticket : FnScope ["self", "name", "ticket"] ["self", "name"] (defScope sR_new_ticket) := ⟨rfl, rfl, rfl, by decide +kernel, rfl, by decide +kernel, by decide +kernel⟩
theorem D_new_ticket (T : Tx K mg) : DefM P w K mg base 1 "new_ticket" ["self", "name"] (spNewT K) := by
  refine T.mkM (st := sR_new_ticket) 48 rfl sc_R_new_ticket (fun _ _ _ _ _ _ us hl => match us, hl with | [_, _], _ => rfl) (fun vs H Q E h => ?_) (fun cdv A outer s H vs Q E hr h => ?_)
  · obtain ⟨_, _, _, _, _, _, _, _, _, _, _, _, _, _, _, _, _, rfl, _⟩ := h
    rfl
  obtain ⟨U, x, dx, st, pa, nm, op, dn, lt, aw, od, B, pth, n, S, cs, y, rfl, h, hB, hB9, k⟩ := h
  have hu := hu_of hr
  refine ⟨_, (pss_cons (ps_set (i := 2) sc_R_new_ticket.nd rfl (Or.inl rfl) (pe_fld (pv 0) rfl))
    (pss_cons (ps_fldaug (pv 0) pe_int in_add)
    (pss_cons (ps_expr (pe_bm PySem.F.plainAttrs_list PySem.F.slot_list_append PySem.F.type_list_append mt_append (pe_fld (pv 0) rfl) (pa_cons (pv 2) pa_nil)))
    (pss_cons (ps_dput hu (pe_fld (pv 0) rfl) (pv 1) (pv 2) rfl)
    (pss_one (ps_ret (pv 2))))))), ?_⟩
  refine ⟨_, rfl, x, _, dx, _, _, rfl, h.hm, T.cl, T.n_made, rfl, ?_⟩
  refine ⟨_, rfl, x, _, dx, _, _, rfl, h.hm, T.cl, T.n_made, rfl, _, _, rfl, rfl, dx, _, h.hm, fl14, ?_⟩
  have h1 := h.put n (S.setMade (S.made + 1)) (fs := putF "made" (.int ((S.made : Int) + 1)) (rnF st pa nm op dn lt aw od n S)) rfl
  refine ⟨_, rfl, x, _, dx, _, _, rfl, h1.hm, T.cl, T.n_not_done, rfl, tyL h1.co.ho, _, rfl, op, _, V.int S.made, rfl, rfl, h1.co.ho, ?_, ?_⟩
  · have := hB.op
    rw [List.length_map]
    exact szB (by omega)
  have h2 := h1.addO S.made
  have h20 := h2
  obtain ⟨kvs, n1, n2, _⟩ := h20.co.hn
  refine ⟨_, rfl, _, rfl, x, _, dx, _, _, rfl, h2.hm, T.cl, T.n_known, rfl, _, rfl, nm, _, rfl, dput_v (v' := wv (some (S.made : Int))) n1 (szB (by omega)) rfl, ?_⟩
  have h3 := h2.setN n1 y (some (S.made : Int))
  have ev := (h.putE (o := .ins (CR K) dx (putF "made" (.int ((S.made : Int) + 1)) (rnF st pa nm op dn lt aw od n S)))).trans ((h1.opE (o := .lst (S.opn.map V.int ++ [V.int S.made]))).trans (h2.nmE (o := .dK (putK kvs (Sum.inr y) (wv (some (S.made : Int)))))))
  exact ⟨_, rfl, k _ ev h3.as⟩
theorem sc_R_do_drop : FnScope ["self", "worth"] ["self", "worth"] (defScope sR_do_drop) := ⟨rfl, rfl, rfl, by decide +kernel, rfl, by decide +kernel, by decide +kernel⟩
theorem D_do_drop (T : Tx K mg) : DefM P w K mg base 1 "do_drop" ["self", "worth"] (spDrop K) := by
  refine T.mkM (st := sR_do_drop) 49 rfl sc_R_do_drop (fun _ _ _ _ _ _ us hl => match us, hl with | [_, _], _ => rfl) (fun vs H Q E h => ?_) (fun cdv A outer s H vs Q E hr h => ?_)
  · obtain ⟨_, _, _, _, _, _, _, _, _, rfl, _⟩ := h
    rfl
  obtain ⟨U, x, root, B, pth, n, S, cs, w0, rfl, ⟨dx, st, pa, nm, op, dn, lt, aw, od, h, hst⟩, hc9, k⟩ := h
  have hu := hu_of hr
  refine ⟨_, (pss_one (ps_if (pt_cmpR op_in_seq (pv 1) (pe_fld (pv 0) rfl) rfl) (pss_cons (ps_expr (pe_bm PySem.F.plainAttrs_list PySem.F.slot_list_remove PySem.F.type_list_remove mt_remove (pe_fld (pv 0) rfl) (pa_cons (pv 1) pa_nil)))
    (pss_one (ps_expr (pe_bm PySem.F.plainAttrs_list PySem.F.slot_list_append PySem.F.type_list_append mt_append (pe_fld (pv 0) rfl) (pa_cons (pe_tup (pa_cons pe_str (pa_cons (pv 1) pa_nil))) pa_nil))))) pss_nil)), ?_⟩
  refine ⟨_, rfl, _, rfl, x, _, dx, _, _, rfl, h.hm, T.cl, T.n_not_done, rfl, op, _, rfl, .inl (SqL.of h.co.ho), flat_w _, flat_is _, _, rfl, ?_⟩
  cases w0 with
  | none =>
    rw [show inV (wv none) (S.opn.map V.int) = false by rw [inV_i]; exact decide_eq_false fun z => by simp at z]
    refine iteF ?_
    refine k _ (Evo.refl U H) ?_
    show RnO K U H x root B S.opn pth n S (cs ++ [])
    rw [List.append_nil]
    exact ⟨dx, st, pa, nm, op, dn, lt, aw, od, h, hst⟩
  | some t =>
    rw [show inV (wv (some t)) (S.opn.map V.int) = decide (t ∈ S.opn) from inV_t t S.opn]
    by_cases ct : t ∈ S.opn
    · rw [decide_eq_true ct]
      obtain ⟨j, j1, j2, j3, j4⟩ := first_at ct
      have kt : doDrop S (some t) = (S.setO (S.opn.eraseIdx j), [[.str "drop", .int t]]) := by
        rw [j4]
        exact if_pos ct
      rw [kt] at k
      refine iteT ?_
      refine ⟨_, rfl, x, _, dx, _, _, rfl, h.hm, T.cl, T.n_not_done, rfl, tyL h.co.ho, _, rfl, op, S.opn, t, j, rfl, rfl, h.co.ho, j2, j3, ?_⟩
      have h2 := h.setO (S.opn.eraseIdx j)
      obtain ⟨as, b1, b2⟩ := h2.ho.lst
      refine ⟨_, rfl, x, _, dx, _, _, rfl, h2.hm, T.cl, T.n_orders, rfl, tyL b1, _, rfl, by show 2 ≤ sizeLine; decide, fun q hq => ?_⟩
      have s3 := same_new hq (.tup [.str "drop", .int t])
      refine ⟨od, _, _, rfl, rfl, s3 _ _ b1, by rw [List.length_map, b2]; exact szB (by omega), ?_⟩
      have h3 := h2.same s3
      exact RnO.fin k (h.opE.trans ((Evo.same s3).trans h3.odE)) (h3.ord (s3 _ _ b1) upd_same).as hst
    · rw [decide_eq_false ct]
      have kt : doDrop S (some t) = (S, []) := if_neg ct
      rw [kt] at k
      refine iteF ?_
      refine k _ (Evo.refl U H) ?_
      show RnO K U H x root B S.opn pth n S (cs ++ [])
      rw [List.append_nil]
      exact ⟨dx, st, pa, nm, op, dn, lt, aw, od, h, hst⟩
theorem sc_R_do_end : FnScope ["self", "worth"] ["self", "worth"] (defScope sR_do_end) := ⟨rfl, rfl, rfl, by decide +kernel, rfl, by decide +kernel, by decide +kernel⟩
theorem D_do_end (T : Tx K mg) : DefM P w K mg base 1 "do_end" ["self", "worth"] (spEnd K) := by
  refine T.mkM (st := sR_do_end) 46 rfl sc_R_do_end (fun _ _ _ _ _ _ us hl => match us, hl with | [_, _], _ => rfl) (fun vs H Q E h => ?_) (fun cdv A outer s H vs Q E hr h => ?_)
  · obtain ⟨_, _, _, _, _, _, _, _, _, _, rfl, _⟩ := h
    rfl
  obtain ⟨U, x, root, B, ol, pth, n, S, cs, w0, rfl, ⟨dx, st, pa, nm, op, dn, lt, aw, od, h, hst⟩, hc9, k⟩ := h
  refine ⟨_, (pss_cons (ps_fld (pv 0) pe_str rfl)
    (pss_cons (ps_fld (pv 0) (pv 1) rfl)
    (pss_one (ps_expr (pe_bm PySem.F.plainAttrs_list PySem.F.slot_list_append PySem.F.type_list_append mt_append (pe_fld (pv 0) rfl) (pa_cons (pe_tup (pa_cons pe_str (pa_cons (pv 1) pa_nil))) pa_nil)))))), ?_⟩
  refine ⟨_, rfl, x, _, dx, _, rfl, h.hm, T.cl, T.n_mode, fl14, ?_⟩
  have h1 := h.put n (S.setM .ended) (fs := putF "mode" (.str "ended") (rnF st pa nm op dn lt aw od n S)) rfl
  refine ⟨_, rfl, _, rfl, x, _, dx, _, rfl, h1.hm, T.cl, T.n_outcome, fl14, ?_⟩
  have h2 := h1.put n (S.ended w0) (fs := putF "outcome" (wv w0) (rnF st pa nm op dn lt aw od n (S.setM .ended))) rfl
  obtain ⟨as, b1, b2⟩ := h2.ho.lst
  refine ⟨_, rfl, x, _, dx, _, _, rfl, h2.hm, T.cl, T.n_orders, rfl, tyL b1, _, rfl, by show 2 ≤ sizeLine; decide, fun q hq => ?_⟩
  have s3 := same_new hq (.tup [.str "end", wv w0])
  refine ⟨od, _, _, rfl, rfl, s3 _ _ b1, by rw [List.length_map, b2]; exact szB (by omega), ?_⟩
  have h3 := h2.same s3
  exact RnO.fin k (h.putE.trans (h1.putE.trans ((Evo.same s3).trans h3.odE))) (h3.ord (s3 _ _ b1) upd_same) hst
theorem sc_R_do_plain : FnScope ["self", "statement", "word", "worth", "behind", "due"] ["self", "statement"] (defScope sR_do_plain) := ⟨rfl, rfl, rfl, by decide +kernel, rfl, by decide +kernel, by decide +kernel⟩
theorem D_do_plain (T : Tx K mg) : DefM P w K mg base 8 "do_plain" ["self", "statement"] (spPlain K) := by
  have D_says : DefM P w K mg base 7 "says" ["self", "saying"] (spSays K) := D_says T
  have D_new_ticket : DefM P w K mg base 1 "new_ticket" ["self", "name"] (spNewT K) := D_new_ticket T
  have D_do_drop : DefM P w K mg base 1 "do_drop" ["self", "worth"] (spDrop K) := D_do_drop T
  obtain ⟨tMM, h_MOST_MOMENT⟩ := T.i_MOST_MOMENT
  refine T.mkM (st := sR_do_plain) 47 rfl sc_R_do_plain (fun _ _ _ _ _ _ us hl => match us, hl with | [_, _], _ => rfl) (fun vs H Q E h => ?_) (fun cdv A outer s H vs Q E hr h => ?_)
  · obtain ⟨_, _, _, _, _, _, _, _, _, _, _, rfl, _⟩ := h
    rfl
  obtain ⟨U, x, sp, root, B, pth, n, S, cs, s, us, rfl, hsp, hs, hok, hpl, ⟨dx, st, pa, nm, op, dn, lt, aw, od, h, hst⟩, hB, hB9, hc9, k⟩ := h
  have hu := hu_of hr
  have sm := hB.sm
  have hO : RnO K U H x root B S.opn pth n S cs := ⟨dx, st, pa, nm, op, dn, lt, aw, od, h, hst⟩
  refine ⟨_, (pss_cons (ps_set (i := 2) sc_R_do_plain.nd rfl (Or.inl rfl) (pe_ix ix_tup (pv 1) pe_int (fun _ _ => rfl)))
    (pss_one (ps_if (pt_cmpR op_eq (pv 2) pe_str (nomark _)) (pss_one (ps_dput hu (pe_fld (pv 0) rfl) (pe_ix ix_tup (pv 1) pe_int (fun _ _ => rfl)) (pe_m D_says T.cl T.m_says (hr.mono (by omega)) (pv 0) (pa_cons (pe_ix ix_tup (pv 1) pe_int (fun _ _ => rfl)) pa_nil)) rfl)) (pss_one (ps_if (pt_cmpR op_eq (pv 2) pe_str (nomark _)) (pss_cons (ps_set (i := 3) sc_R_do_plain.nd rfl (Or.inl rfl) (pe_m D_says T.cl T.m_says (hr.mono (by omega)) (pv 0) (pa_cons (pe_ix ix_tup (pv 1) pe_int (fun _ _ => rfl)) pa_nil)))
    (pss_one (ps_expr (pe_bm PySem.F.plainAttrs_list PySem.F.slot_list_append PySem.F.type_list_append mt_append (pe_fld (pv 0) rfl) (pa_cons (pe_tup (pa_cons pe_str (pa_cons (pv 3) (pa_cons (pe_ix ix_tup (pv 1) pe_int (fun _ _ => rfl)) (pa_cons (pe_m D_says T.cl T.m_says (hr.mono (by omega)) (pv 0) (pa_cons (pe_ix ix_tup (pv 1) pe_int (fun _ _ => rfl)) pa_nil)) pa_nil))))) pa_nil))))) (pss_one (ps_if (pt_cmpR op_eq (pv 2) pe_str (nomark _)) (pss_one (ps_expr (pe_m D_do_drop T.cl T.m_do_drop (hr.mono (by omega)) (pv 0) (pa_cons (pe_m D_says T.cl T.m_says (hr.mono (by omega)) (pv 0) (pa_cons (pe_ix ix_tup (pv 1) pe_int (fun _ _ => rfl)) pa_nil)) pa_nil)))) (pss_one (ps_if (pt_cmpR op_eq (pv 2) pe_str (nomark _)) (pss_cons (ps_set (i := 4) sc_R_do_plain.nd rfl (Or.inl rfl) (pe_m D_says T.cl T.m_says (hr.mono (by omega)) (pv 0) (pa_cons (pe_ix ix_tup (pv 1) pe_int (fun _ _ => rfl)) pa_nil)))
    (pss_cons (ps_if (pt_cmpR op_isN (pv 4) pe_non (nomark _)) (pss_one (ps_set (i := 4) sc_R_do_plain.nd rfl (Or.inl rfl) pe_int)) pss_nil)
    (pss_cons (ps_set (i := 5) sc_R_do_plain.nd rfl (Or.inl rfl) (pe_callB (call_min2 rfl) (by rfl) T.f_min (by decide +kernel) (pa_cons (pe_glob (v := .int 1000000000000) rfl h_MOST_MOMENT ⟨_, rfl⟩) (pa_cons (pe_op op_add (pe_fld (pv 0) rfl) (pe_callB (call_max2 rfl) (by rfl) T.f_max (by decide +kernel) (pa_cons pe_int (pa_cons (pv 4) pa_nil)))) pa_nil))))
    (pss_one (ps_expr (pe_bm PySem.F.plainAttrs_list PySem.F.slot_list_append PySem.F.type_list_append mt_append (pe_fld (pv 0) rfl) (pa_cons (pe_tup (pa_cons pe_str (pa_cons (pe_m D_new_ticket T.cl T.m_new_ticket (hr.mono (by omega)) (pv 0) (pa_cons (pe_ix ix_tup (pv 1) pe_int (fun _ _ => rfl)) pa_nil)) (pa_cons (pv 5) pa_nil)))) pa_nil))))))) (pss_cons (ps_set (i := 3) sc_R_do_plain.nd rfl (Or.inl rfl) (pe_m D_says T.cl T.m_says (hr.mono (by omega)) (pv 0) (pa_cons (pe_ix ix_tup (pv 1) pe_int (fun _ _ => rfl)) pa_nil)))
    (pss_one (ps_expr (pe_bm PySem.F.plainAttrs_list PySem.F.slot_list_append PySem.F.type_list_append mt_append (pe_fld (pv 0) rfl) (pa_cons (pe_tup (pa_cons (pv 2) (pa_cons (pe_m D_new_ticket T.cl T.m_new_ticket (hr.mono (by omega)) (pv 0) (pa_cons (pe_ix ix_tup (pv 1) pe_int (fun _ _ => rfl)) pa_nil)) (pa_cons (pe_ix ix_tup (pv 1) pe_int (fun _ _ => rfl)) (pa_cons (pv 3) pa_nil))))) pa_nil)))))))))))))), ?_⟩
  cases s with
  | wait _ _ => exact hpl.elim
  | hear _ _ => exact hpl.elim
  | fin _ => exact hpl.elim
  | set y e =>
    obtain ⟨u, rfl, hq⟩ := hs
    refine ⟨_, rfl, sp, _, _, _, rfl, rfl, SqT.of hsp, rfl, ?_⟩
    refine ⟨_, rfl, rfl, _, rfl, iteT ?_⟩
    refine ⟨_, rfl, x, dx, _, rfl, h.hm, rfl, _, rfl, sp, _, _, _, rfl, rfl, SqT.of hsp, rfl, ?_⟩
    refine ⟨U, x, root, B, S.opn, pth, n, S, cs, e, u, rfl, hO, hq, hok.2, hok.1, sm, fun H1 g1 => ?_⟩
    have h1 := h.same g1
    have h10 := h1
    obtain ⟨kvs, n1, n2, _⟩ := h10.co.hn
    refine ⟨_, rfl, x, _, dx, _, _, rfl, h1.hm, T.cl, T.n_known, rfl, _, rfl, sp, _, _, _, rfl, rfl, SqT.of (g1 _ _ hsp), rfl, nm, _, rfl, dput_s n1 (szB (by omega)), ?_⟩
    have k : ∀ H', Evo U H U H' → RnO K U H' x root (B + 1) S.opn pth n (S.setN y (S.say e)) (cs ++ []) → Q .non H' := k
    rw [List.append_nil] at k
    exact RnO.fin k ((Evo.same g1).trans h1.nmE) (h1.setN n1 y (S.say e)) hst
  | send e1 y e =>
    obtain ⟨u1, u, rfl, hq1, hq⟩ := hs
    refine ⟨_, rfl, sp, _, _, _, rfl, rfl, SqT.of hsp, rfl, ?_⟩
    refine ⟨_, rfl, rfl, _, rfl, iteF ⟨_, rfl, rfl, _, rfl, iteT ?_⟩⟩
    refine ⟨_, rfl, x, dx, _, rfl, h.hm, rfl, _, rfl, sp, _, _, _, rfl, rfl, SqT.of hsp, rfl, ?_⟩
    refine ⟨U, x, root, B, S.opn, pth, n, S, cs, e1, u1, rfl, hO, hq1, hok.1.2, hok.1.1, sm, fun H1 g1 => ?_⟩
    have h1 := h.same g1
    obtain ⟨as1, a11, a12⟩ := h1.ho.lst
    refine ⟨_, rfl, x, _, dx, _, _, rfl, h1.hm, T.cl, T.n_orders, rfl, tyL a11, _, rfl, _, rfl, sp, _, _, _, rfl, rfl, SqT.of (g1 _ _ hsp), rfl, ?_⟩
    refine ⟨_, rfl, x, dx, _, rfl, h1.hm, rfl, _, rfl, sp, _, _, _, rfl, rfl, SqT.of (g1 _ _ hsp), rfl, ?_⟩
    refine ⟨U, x, root, B, S.opn, pth, n, S, cs, e, u, rfl, ⟨dx, st, pa, nm, op, dn, lt, aw, od, h1, hst.mono (TupS.of_same g1)⟩, hq.same g1, hok.2.2, hok.2.1, sm, fun H2 g2 => ?_⟩
    have h2 := h1.same g2
    obtain ⟨as, b1, b2⟩ := h2.ho.lst
    refine ⟨by show 4 ≤ sizeLine; decide, fun q hq => ?_⟩
    have s3 := same_new hq (.tup [.str "send", wv (S.say e1), .str y, wv (S.say e)])
    refine ⟨od, _, _, rfl, rfl, s3 _ _ b1, by rw [List.length_map, b2]; exact szB (by omega), ?_⟩
    have h3 := h2.same s3
    exact RnO.fin k ((Evo.same (g1.trans (g2.trans s3))).trans h3.odE) ((h3.ord (s3 _ _ b1) upd_same).le (Nat.le_succ B)) hst
  | drop e =>
    obtain ⟨u, rfl, hq⟩ := hs
    refine ⟨_, rfl, sp, _, _, _, rfl, rfl, SqT.of hsp, rfl, ?_⟩
    refine ⟨_, rfl, rfl, _, rfl, iteF ⟨_, rfl, rfl, _, rfl, iteF ⟨_, rfl, rfl, _, rfl, iteT ?_⟩⟩⟩
    refine ⟨_, rfl, x, dx, _, rfl, h.hm, rfl, _, rfl, x, dx, _, rfl, h.hm, rfl, _, rfl, sp, _, _, _, rfl, rfl, SqT.of hsp, rfl, ?_⟩
    refine ⟨U, x, root, B, S.opn, pth, n, S, cs, e, u, rfl, hO, hq, hok.2, hok.1, sm, fun H1 g1 => ?_⟩
    refine ⟨U, x, root, B, pth, n, S, cs, S.say e, rfl, ⟨dx, st, pa, nm, op, dn, lt, aw, od, h.same g1, hst.mono (TupS.of_same g1)⟩, hc9, fun H2 e2 h2 => ?_⟩
    refine k _ ((Evo.same g1).trans e2) ?_
    obtain ⟨dx, st, pa, nm, op, dn, lt, aw, od, h2, hs2⟩ := h2
    exact ⟨dx, st, pa, nm, op, dn, lt, aw, od, h2.le (Nat.le_succ B), hs2⟩
  | timer y e =>
    obtain ⟨u, rfl, hq⟩ := hs
    refine ⟨_, rfl, sp, _, _, _, rfl, rfl, SqT.of hsp, rfl, ?_⟩
    refine ⟨_, rfl, rfl, _, rfl, iteF ⟨_, rfl, rfl, _, rfl, iteF ⟨_, rfl, rfl, _, rfl, iteF ⟨_, rfl, rfl, _, rfl, iteT ?_⟩⟩⟩⟩
    refine ⟨_, rfl, x, dx, _, rfl, h.hm, rfl, _, rfl, sp, _, _, _, rfl, rfl, SqT.of hsp, rfl, ?_⟩
    refine ⟨U, x, root, B, S.opn, pth, n, S, cs, e, u, rfl, hO, hq, hok.2, hok.1, sm, fun H1 g1 => ?_⟩
    have h1 := h.same g1
    obtain ⟨as1, a11, a12⟩ := h1.ho.lst
    have hd : ∀ a : V, [V.int 0, a] = [V.int 0, V.int (num0 (S.say e))] ↔ a = .int (num0 (S.say e)) := fun a => by simp
    by_cases hx : S.say e = none
    · refine ⟨_, rfl, rfl, _, rfl, ?_⟩
      rw [show decide (wv (S.say e) = V.non) = true from by rw [hx]; rfl]
      refine iteT ?_
      have ez : [V.int 0, V.int 0] = [V.int 0, V.int (num0 (S.say e))] := by rw [hx]; rfl
      refine ⟨_, rfl, x, _, dx, _, _, rfl, h1.hm, T.cl, T.n_today, rfl, _, rfl, 0, num0 (S.say e), ez, _, _, rfl, rfl, _, _, rfl, ?_⟩
      refine ⟨_, rfl, x, _, dx, _, _, rfl, h1.hm, T.cl, T.n_orders, rfl, tyL a11, _, rfl, x, dx, _, rfl, h1.hm, rfl, _, rfl, sp, _, _, _, rfl, rfl, SqT.of (g1 _ _ hsp), rfl, ?_⟩
      refine ⟨U, x, dx, st, pa, nm, op, dn, lt, aw, od, B, pth, n, S, cs, y, rfl, h1, hB, hB9, fun H2 e2 h2 => ?_⟩
      obtain ⟨as, b1, b2⟩ := h2.ho.lst
      refine ⟨_, rfl, by show 3 ≤ sizeLine; decide, fun q hq => ?_⟩
      have s3 := same_new hq (.tup [.str "timer", .int S.made, .int (S.due e)])
      refine ⟨od, _, _, rfl, rfl, s3 _ _ b1, by rw [List.length_map, b2]; exact szB (by omega), ?_⟩
      have h3 := h2.same s3
      exact RnO.fin k ((Evo.same g1).trans (e2.trans ((Evo.same s3).trans h3.odE))) (h3.ord (s3 _ _ b1) upd_same) hst
    · refine ⟨_, rfl, rfl, _, rfl, ?_⟩
      obtain ⟨z, hz⟩ := Option.ne_none_iff_exists'.mp hx
      rw [show decide (wv (S.say e) = V.non) = false from by rw [hz]; rfl]
      refine iteF ?_
      have ez : [V.int 0, wv (S.say e)] = [V.int 0, V.int (num0 (S.say e))] := by rw [hz]; rfl
      refine ⟨_, rfl, x, _, dx, _, _, rfl, h1.hm, T.cl, T.n_today, rfl, _, rfl, 0, num0 (S.say e), ez, _, _, rfl, rfl, _, _, rfl, ?_⟩
      refine ⟨_, rfl, x, _, dx, _, _, rfl, h1.hm, T.cl, T.n_orders, rfl, tyL a11, _, rfl, x, dx, _, rfl, h1.hm, rfl, _, rfl, sp, _, _, _, rfl, rfl, SqT.of (g1 _ _ hsp), rfl, ?_⟩
      refine ⟨U, x, dx, st, pa, nm, op, dn, lt, aw, od, B, pth, n, S, cs, y, rfl, h1, hB, hB9, fun H2 e2 h2 => ?_⟩
      obtain ⟨as, b1, b2⟩ := h2.ho.lst
      refine ⟨_, rfl, by show 3 ≤ sizeLine; decide, fun q hq => ?_⟩
      have s3 := same_new hq (.tup [.str "timer", .int S.made, .int (S.due e)])
      refine ⟨od, _, _, rfl, rfl, s3 _ _ b1, by rw [List.length_map, b2]; exact szB (by omega), ?_⟩
      have h3 := h2.same s3
      exact RnO.fin k ((Evo.same g1).trans (e2.trans ((Evo.same s3).trans h3.odE))) (h3.ord (s3 _ _ b1) upd_same) hst
  | order b y z e =>
    obtain ⟨u, rfl, hq⟩ := hs
    have kb : ∀ z : Str, mkW true ≠ z → mkW false ≠ z → decide (V.str (mkW b) = V.str z) = false := fun z q1 q2 => decide_eq_false fun q => by
      cases b
      · exact q2 (V.str.inj q)
      · exact q1 (V.str.inj q)
    refine ⟨_, rfl, sp, _, _, _, rfl, rfl, SqT.of hsp, rfl, ?_⟩
    refine ⟨_, rfl, rfl, _, rfl, ?_⟩
    rw [kb _ (by decide +kernel) (by decide +kernel)]
    refine iteF ⟨_, rfl, rfl, _, rfl, ?_⟩
    rw [kb _ (by decide +kernel) (by decide +kernel)]
    refine iteF ⟨_, rfl, rfl, _, rfl, ?_⟩
    rw [kb _ (by decide +kernel) (by decide +kernel)]
    refine iteF ⟨_, rfl, rfl, _, rfl, ?_⟩
    rw [kb _ (by decide +kernel) (by decide +kernel)]
    refine iteF ?_
    refine ⟨_, rfl, x, dx, _, rfl, h.hm, rfl, _, rfl, sp, _, _, _, rfl, rfl, SqT.of hsp, rfl, ?_⟩
    refine ⟨U, x, root, B, S.opn, pth, n, S, cs, e, u, rfl, hO, hq, hok.2, hok.1, sm, fun H1 g1 => ?_⟩
    have h1 := h.same g1
    obtain ⟨as1, a11, a12⟩ := h1.ho.lst
    refine ⟨_, rfl, x, _, dx, _, _, rfl, h1.hm, T.cl, T.n_orders, rfl, tyL a11, _, rfl, _, rfl, x, dx, _, rfl, h1.hm, rfl, _, rfl, sp, _, _, _, rfl, rfl, SqT.of (g1 _ _ hsp), rfl, ?_⟩
    refine ⟨U, x, dx, st, pa, nm, op, dn, lt, aw, od, B, pth, n, S, cs, y, rfl, h1, hB, hB9, fun H2 e2 h2 => ?_⟩
    obtain ⟨as, b1, b2⟩ := h2.ho.lst
    refine ⟨_, rfl, sp, _, _, _, rfl, rfl, SqT.of (e2.tup _ _ (g1 _ _ hsp)), rfl, _, rfl, by show 4 ≤ sizeLine; decide, fun q hq => ?_⟩
    have s3 := same_new hq (.tup [.str (mkW b), .int S.made, .str z, wv (S.say e)])
    refine ⟨od, _, _, rfl, rfl, s3 _ _ b1, by rw [List.length_map, b2]; exact szB (by omega), ?_⟩
    have h3 := h2.same s3
    exact RnO.fin k ((Evo.same g1).trans (e2.trans ((Evo.same s3).trans h3.odE))) (h3.ord (s3 _ _ b1) upd_same) hst
end
end L2.K17

set_option maxHeartbeats 4000000
/-! the run: look, hear, wait -/
namespace L2.K17
open PySem L2
def PosK (root : Blk) (ps : List (Nat × Nat)) (i : Nat) (S : AS) : Prop := ∃ q t, PosR root ps i q t ∧ S.K = q.app t
theorem PosR.inn {root q t a aft : Blk} {ps : List (Nat × Nat)} {i k : Nat} (h : PosR root ps i q t) (hs : Blk.sub k q = some (a, aft)) : PosR root ((i, k) :: ps) 0 a (aft.app t) := by
  obtain ⟨b, h1, h2⟩ := h
  exact ⟨a, posAt_cons (p := (i, k)) h1 h2 hs, rfl⟩
theorem PosR.nxt {root q t : Blk} {ps : List (Nat × Nat)} {i : Nat} (h : PosR root ps i q t) (hq : q ≠ .nil) : PosR root ps (i + 1) q.tl t := by
  obtain ⟨b, h1, h2⟩ := h
  exact ⟨b, h1, suf_succ h2 hq⟩
theorem pthI_ext (ps : List (Nat × Nat)) (i k : Nat) : (pthI ps i).map V.int ++ [V.int (k : Int), V.int 0] = (pthI ((i, k) :: ps) 0).map V.int := by
  unfold pthI
  show _ = ((((pathL ps ++ [i, k]) ++ [0]).map fun z : Nat => (z : Int))).map V.int
  rw [List.append_assoc]
  simp
theorem PosR.len {root q t : Blk} {ps : List (Nat × Nat)} {i : Nat} (h : PosR root ps i q t) (hd : root.depth ≤ 5) : ps.length ≤ 5 := by
  obtain ⟨b, h1, _⟩ := h
  have := posAt_depth h1
  omega
def spLook (K : PySem.W.Frag) : Sp := fun vs H Q _ => ∃ (T : Tg) (x sp : Addr) (root q t : Blk) (B : Nat) (ol : List Int) (ps : List (Nat × Nat)) (i : Nat) (n : Int) (S : AS) (cs : List Cmd) (vr : List V), vs = [.ref x, .ref sp] ∧ RnO K T H x root B ol (pthI ps i) n S cs ∧ root.depth ≤ 5 ∧ PosR root ps i q t ∧ S.K = q.app t ∧
  (∀ s r, q ≠ .one s r) ∧ q ≠ .nil ∧ S.K.ok ∧ SmS S ∧ BlkH H q (.ref sp :: vr) ∧
  ∀ H' ps' i' b, step S = .go (S.setK b) [] → PosK root ps' i' (S.setK b) → Evo T H T H' → RnO K T H' x root B ol (pthI ps' i') n (S.setK b) cs → Q .non H'
def spHear (K : PySem.W.Frag) : Sp := fun vs H Q _ => ∃ (T : Tg) (x : Addr) (root r t : Blk) (B : Nat) (ol : List Int) (ps : List (Nat × Nat)) (i : Nat) (n : Int) (S : AS) (cs : List Cmd) (y k : Str), vs = [.ref x, .str k] ∧ RnO K T H x root B ol (pthI ps i) n S cs ∧ root.depth ≤ 5 ∧ PosR root ps i (.one (.hear y k) r) t ∧ B ≤ 90000 ∧
  ∀ H', Evo T H T H' → (match stepHear S (r.app t) y k with
    | .go S1 _ => RnO K T H' x root (B + 1) ol (pthI ps (i + 1)) n S1 cs
    | .stop S1 _ => RnO K T H' x root (B + 1) ol (pthI ps i) n S1 cs) → Q .non H'
section
variable {P : Program} {w : World} {K : PySem.W.Frag} {mg : Str → Option Value} {base : Heap}
theorem sc_R_do_look : FnScope ["self", "statement"] ["self", "statement"] (defScope sR_do_look) := ⟨rfl, rfl, rfl, by decide +kernel, rfl, by decide +kernel, by decide +kernel⟩
theorem D_do_look (T : Tx K mg) : DefM P w K mg base 8 "do_look" ["self", "statement"] (spLook K) := by
  have D_says : DefM P w K mg base 7 "says" ["self", "saying"] (spSays K) := D_says T
  have D_is_true : Def1 P w K mg base 1 "is_true" ["worth"] spTru := D_is_true T
  refine T.mkM (st := sR_do_look) 43 rfl sc_R_do_look (fun _ _ _ _ _ _ us hl => match us, hl with | [_, _], _ => rfl) (fun vs H Q E h => ?_) (fun cdv A outer s H vs Q E hr h => ?_)
  · obtain ⟨_, _, _, _, _, _, _, _, _, _, _, _, _, _, rfl, _⟩ := h
    rfl
  obtain ⟨U, x, sp, root, q, t, B, ol, ps, i, n, S, cs, vr, rfl, hO, hrd, hpos, hK, hno, hnn, hok, sm, hbl, k⟩ := h
  have hO0 := hO
  obtain ⟨dx, st, pa, nm, op, dn, lt, aw, od, h, hst⟩ := hO0
  refine ⟨_, (pss_one (ps_if (pt_val (pe_c D_is_true (hr.mono (by omega)) (pa_cons (pe_m D_says T.cl T.m_says (hr.mono (by omega)) (pv 0) (pa_cons (pe_ix ix_tup (pv 1) pe_int (fun _ _ => rfl)) pa_nil)) pa_nil))) (pss_one (ps_expr (pe_bm PySem.F.plainAttrs_list PySem.F.slot_list_extend PySem.F.type_list_extend mt_extend (pe_fld (pv 0) rfl) (pa_cons (pe_lst (pa_cons pe_int (pa_cons pe_int pa_nil))) pa_nil)))) (pss_one (ps_if (pt_cmpR op_eq (pe_ix ix_tup (pv 1) pe_int (fun _ _ => rfl)) pe_str (nomark _)) (pss_one (ps_expr (pe_bm PySem.F.plainAttrs_list PySem.F.slot_list_extend PySem.F.type_list_extend mt_extend (pe_fld (pv 0) rfl) (pa_cons (pe_lst (pa_cons pe_int (pa_cons pe_int pa_nil))) pa_nil)))) (pss_one (ps_augS (pe_fld (pv 0) rfl) (pe_un un_neg pe_int) get_list pe_int ip_add set_list)))))), ?_⟩
  have hpl : ((pthI ps i).map V.int).length + 2 ≤ sizeLine := by
    have := hpos.len hrd
    rw [List.length_map, pthI_length]
    exact szL (by omega)
  cases q with
  | nil => exact absurd rfl hnn
  | one s r => exact absurd rfl (hno s r)
  | ite c a b r =>
    obtain ⟨p, u, pa1, pb1, va, vb, vr', e0, hsp, hc, hpa, hva, hpb, hvb, hvr⟩ := hbl
    injection e0 with e0 _
    injection e0 with e0
    subst e0
    have hK : S.K = .ite c a b (r.app t) := hK
    have hok' := hok
    rw [hK] at hok
    have est := step_ite hK
    refine ⟨_, rfl, x, dx, _, rfl, h.hm, rfl, _, rfl, sp, _, _, _, rfl, rfl, SqT.of hsp, atI_nat (j := 1) rfl, ?_⟩
    refine ⟨U, x, root, B, ol, pthI ps i, n, S, cs, c, u, rfl, hO, hc, hok.1.2, hok.1.1, sm, fun H1 g1 => ?_⟩
    refine ⟨S.say c, rfl, _, rfl, ?_⟩
    have h1 := h.same g1
    cases ct : S.truth c with
    | true =>
      rw [show decide (num0 (S.say c) ≠ 0) = true from ct]
      refine iteT ?_
      rw [ct] at est
      have est : step S = .go (S.setK (a.app (r.app t))) [] := est
      have hpos' := hpos.inn (k := 0) (a := a) (aft := r) rfl
      refine ⟨_, rfl, x, _, dx, _, _, rfl, h1.hm, T.cl, T.n_path, rfl, tyL h1.hp, by show 2 ≤ sizeLine; decide, fun p hp => ?_⟩
      have s2 := same_new hp (.lst [.int 0, .int 0])
      refine ⟨pa, p, _, _, rfl, rfl, s2 _ _ h1.hp, upd_same, hpl, ?_⟩
      have h3 := h1.same s2
      rw [show (pthI ps i).map V.int ++ [V.int 0, V.int 0] = (pthI ((i, 0) :: ps) 0).map V.int from pthI_ext ps i 0]
      exact RnO.fin (fun H' => k H' _ _ _ est ⟨_, _, hpos', rfl⟩) ((Evo.same (g1.trans s2)).trans h3.paE) (h3.setP _).as hst
    | false =>
      rw [show decide (num0 (S.say c) ≠ 0) = false from ct]
      refine iteF ?_
      rw [ct] at est
      have est : step S = .go (S.setK (b.app (r.app t))) [] := est
      have hpos' := hpos.inn (k := 1) (a := b) (aft := r) rfl
      refine ⟨_, rfl, sp, _, _, _, rfl, rfl, SqT.of (g1 _ _ hsp), rfl, rfl, _, rfl, iteT ?_⟩
      refine ⟨_, rfl, x, _, dx, _, _, rfl, h1.hm, T.cl, T.n_path, rfl, tyL h1.hp, by show 2 ≤ sizeLine; decide, fun p hp => ?_⟩
      have s2 := same_new hp (.lst [.int 1, .int 0])
      refine ⟨pa, p, _, _, rfl, rfl, s2 _ _ h1.hp, upd_same, hpl, ?_⟩
      have h3 := h1.same s2
      rw [show (pthI ps i).map V.int ++ [V.int 1, V.int 0] = (pthI ((i, 1) :: ps) 0).map V.int from pthI_ext ps i 1]
      exact RnO.fin (fun H' => k H' _ _ _ est ⟨_, _, hpos', rfl⟩) ((Evo.same (g1.trans s2)).trans h3.paE) (h3.setP _).as hst
  | whl c a r =>
    obtain ⟨p, u, pa1, va, vr', e0, hsp, hc, hpa, hva, hvr⟩ := hbl
    injection e0 with e0 _
    injection e0 with e0
    subst e0
    have hK : S.K = .whl c a (r.app t) := hK
    have hok' := hok
    rw [hK] at hok
    have est := step_whl hK
    refine ⟨_, rfl, x, dx, _, rfl, h.hm, rfl, _, rfl, sp, _, _, _, rfl, rfl, SqT.of hsp, atI_nat (j := 1) rfl, ?_⟩
    refine ⟨U, x, root, B, ol, pthI ps i, n, S, cs, c, u, rfl, hO, hc, hok.1.2, hok.1.1, sm, fun H1 g1 => ?_⟩
    refine ⟨S.say c, rfl, _, rfl, ?_⟩
    have h1 := h.same g1
    cases ct : S.truth c with
    | true =>
      rw [show decide (num0 (S.say c) ≠ 0) = true from ct]
      refine iteT ?_
      rw [ct] at est
      have est : step S = .go (S.setK (a.app (.whl c a (r.app t)))) [] := est
      have hpos' := hpos.inn (k := 0) (a := a) (aft := .whl c a r) rfl
      refine ⟨_, rfl, x, _, dx, _, _, rfl, h1.hm, T.cl, T.n_path, rfl, tyL h1.hp, by show 2 ≤ sizeLine; decide, fun p hp => ?_⟩
      have s2 := same_new hp (.lst [.int 0, .int 0])
      refine ⟨pa, p, _, _, rfl, rfl, s2 _ _ h1.hp, upd_same, hpl, ?_⟩
      have h3 := h1.same s2
      rw [show (pthI ps i).map V.int ++ [V.int 0, V.int 0] = (pthI ((i, 0) :: ps) 0).map V.int from pthI_ext ps i 0]
      exact RnO.fin (fun H' => k H' _ _ _ est ⟨_, _, hpos', rfl⟩) ((Evo.same (g1.trans s2)).trans h3.paE) (h3.setP _).as hst
    | false =>
      rw [show decide (num0 (S.say c) ≠ 0) = false from ct]
      refine iteF ?_
      rw [ct] at est
      have est : step S = .go (S.setK (r.app t)) [] := est
      refine ⟨_, rfl, sp, _, _, _, rfl, rfl, SqT.of (g1 _ _ hsp), rfl, rfl, _, rfl, iteF ?_⟩
      have hA := h1
      refine ⟨_, rfl, x, _, dx, _, _, rfl, hA.hm, T.cl, T.n_path, rfl, _, rfl, pa, _, _, _, rfl, rfl, SqL.of hA.hp, pthI_last ps i, _, _, rfl, rfl, pa, _, _, _, rfl, rfl, hA.hp, pthI_ix ps i, ?_⟩
      rw [pthI_set ps i _ rfl]
      have hZ := hA.setP (pthI ps (i + 1))
      exact RnO.fin (fun H' => k H' _ _ _ est ⟨_, _, hpos.nxt (fun z => nomatch z), rfl⟩) ((Evo.same g1).trans hA.paE) hZ.as hst
theorem sc_R_do_hear : FnScope ["self", "key"] ["self", "key"] (defScope sR_do_hear) := ⟨rfl, rfl, rfl, by decide +kernel, rfl, by decide +kernel, by decide +kernel⟩
theorem D_do_hear (T : Tx K mg) : DefM P w K mg base 4 "do_hear" ["self", "key"] (spHear K) := by
  have D_go_behind : DefM P w K mg base 3 "go_behind" ["self", "worth"] (spBehind K) := D_go_behind T
  have D_first_letter : DefM P w K mg base 1 "first_letter" ["self", "key"] (spFirst K) := D_first_letter T
  refine T.mkM (st := sR_do_hear) 45 rfl sc_R_do_hear (fun _ _ _ _ _ _ us hl => match us, hl with | [_, _], _ => rfl) (fun vs H Q E h => ?_) (fun cdv A outer s H vs Q E hr h => ?_)
  · obtain ⟨_, _, _, _, _, _, _, _, _, _, _, _, _, _, rfl, _⟩ := h
    rfl
  obtain ⟨U, x, root, r, t, B, ol, ps, i, n, S, cs, y, z, rfl, hO, hrd, hpos, hB, k⟩ := h
  have hO0 := hO
  obtain ⟨dx, st, pa, nm, op, dn, lt, aw, od, h, hst⟩ := hO0
  have hu := hu_of hr
  refine ⟨_, (pss_one (ps_if (pt_cmp (pc_din hu (pv 1) (pe_fld (pv 0) rfl))) (pss_one (ps_expr (pe_m D_go_behind T.cl T.m_go_behind (hr.mono (by omega)) (pv 0) (pa_cons (pe_m D_first_letter T.cl T.m_first_letter (hr.mono (by omega)) (pv 0) (pa_cons (pv 1) pa_nil)) pa_nil)))) (pss_one (ps_fld (pv 0) pe_str rfl)))), ?_⟩
  have h0 := h
  obtain ⟨kvs, l1, l2, _⟩ := h0.co.hl
  unfold stepHear at k
  rcases h.co.hl.at_ l1 z with ⟨e1, e2⟩ | ⟨l, e1, tl, e3, e4⟩
  · rw [e2] at k
    refine ⟨_, rfl, _, rfl, x, _, dx, _, _, rfl, h.hm, T.cl, T.n_heard, rfl, lt, none, rfl, by rw [← e1]; exact dget_o l1, _, rfl, iteF ?_⟩
    refine ⟨_, rfl, x, _, dx, _, rfl, h.hm, T.cl, T.n_mode, fl14, ?_⟩
    have h1 := h.put n (S.setM .hear) (fs := putF "mode" (.str "hear") (rnF st pa nm op dn lt aw od n S)) rfl
    exact RnO.fin k h.putE (h1.le (Nat.le_succ B)) hst
  · refine ⟨_, rfl, _, rfl, x, _, dx, _, _, rfl, h.hm, T.cl, T.n_heard, rfl, lt, some _, rfl, dget_s l1 e1, _, rfl, iteT ?_⟩
    obtain ⟨w1, ws, ew⟩ := List.exists_cons_of_ne_nil (e4 rfl)
    rw [ew] at k
    refine ⟨_, rfl, x, dx, _, rfl, h.hm, rfl, _, rfl, x, dx, _, rfl, h.hm, rfl, _, rfl, ?_⟩
    refine ⟨U, x, root, B, ol, pthI ps i, n, S, cs, z, w1, ws, rfl, hO, ew, fun H1 e1 o1 => ?_⟩
    refine ⟨U, x, root, r, t, B, ol, ps, i, n, S.setL z ws, cs, w1, _, y, rfl, o1, hrd, hpos, rfl, hB, fun H2 e2 o2 => ?_⟩
    obtain ⟨dx, st, pa, nm, op, dn, lt, aw, od, h2, hst2⟩ := o2
    exact k _ (e1.trans e2) ⟨dx, st, pa, nm, op, dn, lt, aw, od, h2.as, hst2⟩
end
end L2.K17

set_option maxHeartbeats 4000000
/-! the run: wait -/
namespace L2.K17
open PySem L2
def spWait (K : PySem.W.Frag) : Sp := fun vs H Q _ => ∃ (T : Tg) (x sp : Addr) (root r t : Blk) (B : Nat) (ps : List (Nat × Nat)) (i : Nat) (n : Int) (S : AS) (cs : List Cmd) (y : Str) (es : List Say) (us : List V), vs = [.ref x, .ref sp] ∧ H sp = some (.tup us) ∧ SimpH H (.wait y es) us ∧ (Simp.wait y es).ok ∧
  RnO K T H x root B S.opn (pthI ps i) n S cs ∧ root.depth ≤ 5 ∧ PosR root ps i (.one (.wait y es) r) t ∧ Bnd B S ∧ B ≤ 90000 ∧
  ∀ T' H', Evo T H T' H' → (match stepWait S (r.app t) y es with
    | .go S1 _ => RnO K T' H' x root (B + 1) S.opn (pthI ps (i + 1)) n S1 cs
    | .stop S1 _ => RnO K T' H' x root (B + 1) S.opn (pthI ps i) n S1 cs) → Q .non H'
section
variable {P : Program} {w : World} {K : PySem.W.Frag} {mg : Str → Option Value} {base : Heap}
theorem sc_R_do_wait : FnScope ["self", "statement", "worths", "ready", "saying", "ticket", "worth"] ["self", "statement"] (defScope sR_do_wait) := ⟨rfl, rfl, rfl, by decide +kernel, rfl, by decide +kernel, by decide +kernel⟩
theorem D_do_wait (T : Tx K mg) : DefM P w K mg base 8 "do_wait" ["self", "statement"] (spWait K) := by
  have D_says : DefM P w K mg base 7 "says" ["self", "saying"] (spSays K) := D_says T
  have D_go_behind : DefM P w K mg base 3 "go_behind" ["self", "worth"] (spBehind K) := D_go_behind T
  refine T.mkM (st := sR_do_wait) 44 rfl sc_R_do_wait (fun _ _ _ _ _ _ us hl => match us, hl with | [_, _], _ => rfl) (fun vs H Q E h => ?_) (fun cdv A outer s H vs Q E hr h => ?_)
  · obtain ⟨_, _, _, _, _, _, _, _, _, _, _, _, _, _, _, rfl, _⟩ := h
    rfl
  obtain ⟨U, x, sp, root, r, t, B, ps, i, n, S, cs, y, es, us, rfl, hsp, hs, hok, hO, hrd, hpos, hB, hB9, k⟩ := h
  have hO0 := hO
  obtain ⟨dx, st, pa, nm, op, dn, lt, aw, od, h, hst⟩ := hO0
  have hu := hu_of hr
  have sm := hB.sm
  refine ⟨_, (pss_cons (ps_set (i := 2) sc_R_do_wait.nd rfl (Or.inr rfl) (pe_lc (own := [("saying", 4)]) (g := gName 4) rfl sc_R_do_wait.nd (pi_tup (pe_ix ix_tup (pv 1) pe_int (fun _ _ => rfl))) (blkOk_by (own := [("saying", 4)]) (N := ["self", "statement", "worths", "ready", "saying", "ticket", "worth"]) (sc := defScope sR_do_wait) (by decide +kernel)) (fun _ _ _ _ _ => (pg_name (i := 4) sc_R_do_wait.nd rfl (Or.inl rfl))) (fun _ _ _ _ _ => pts_nil) (fun _ _ _ _ _ => (show PE _ _ (tMeth (CR K) "says" (spSays K) [] E0 (tVar 0) (tCons (tVar 4) tNil)) from pe_m D_says T.cl T.m_says (hr.mono (by omega)) (pv 0) (pa_cons (pv 4) pa_nil)))))
    (pss_cons (ps_setLc (i := 3) (own := [("ticket", 5), ("worth", 6)]) (g := gTup K 2 (gCons (gName 5) (gCons (gName 6) gNil))) rfl sc_R_do_wait.nd rfl rfl (sw_true rfl rfl rfl (by decide +kernel)) (pi_list (pe_fld (pv 0) rfl)) (blkOk_by (own := [("ticket", 5), ("worth", 6)]) (N := ["self", "statement", "worths", "ready", "saying", "ticket", "worth"]) (sc := defScope sR_do_wait) (by decide +kernel)) (fun _ _ _ _ _ => (pg_tup rfl (pgs_cons (pg_name (i := 5) sc_R_do_wait.nd rfl (Or.inl rfl)) (pgs_cons (pg_name (i := 6) sc_R_do_wait.nd rfl (Or.inl rfl)) pgs_nil)))) (fun _ _ _ _ _ => (pts_one (pt_cmpR (r := rIn K false) op_in_seq (pv 5) (pv 2) rfl))) (fun _ _ _ _ _ => (pv 5)))
    (pss_cons (ps_fld (pv 0) (pe_lc (own := [("ticket", 5)]) (g := gName 5) rfl sc_R_do_wait.nd (pi_list (pe_fld (pv 0) rfl)) (blkOk_by (own := [("ticket", 5)]) (N := ["self", "statement", "worths", "ready", "saying", "ticket", "worth"]) (sc := defScope sR_do_wait) (by decide +kernel)) (fun _ _ _ _ _ => (pg_name (i := 5) sc_R_do_wait.nd rfl (Or.inl rfl))) (fun _ _ _ _ _ => (pts_one (pt_cmpR (r := rIn K false) op_in_seq (pv 5) (pv 2) rfl))) (fun _ _ _ _ _ => (pv 5))) rfl)
    (pss_one (ps_if (pt_cmpR (op_neD hr.units) (pv 3) (pe_lst pa_nil) (nomark _)) (pss_one (ps_expr (pe_m D_go_behind T.cl T.m_go_behind (hr.mono (by omega)) (pv 0) (pa_cons (pe_ix ix_list (pv 3) pe_int (fun _ _ => rfl)) pa_nil)))) (pss_one (ps_if (pt_cmpR (op_neD hr.units) (pe_fld (pv 0) rfl) (pe_lst pa_nil) (nomark _)) (pss_one (ps_fld (pv 0) pe_str rfl)) (pss_one (ps_expr (pe_m D_go_behind T.cl T.m_go_behind (hr.mono (by omega)) (pv 0) (pa_cons pe_non pa_nil))))))))))), ?_⟩
  obtain ⟨wp, ws, rfl, hwp, hws⟩ := hs
  have hwl := hws.length
  -- worths
  refine ⟨_, rfl, sp, _, _, _, rfl, rfl, SqT.of hsp, rfl, wp, rfl, ⟨_, SqT.of hwp⟩, fun D1 hD1 => lc_tup (K := K) (a := wp) (xs := ws) (WsAt S es H D1) ⟨same_mut (Same.refl H) hD1, upd_same⟩ (fun i H' _ p => SqT.of (p.1 _ _ hwp)) ?_ ?_⟩
  · intro j v H' hi p
    obtain ⟨e, he, hv⟩ := hws.get hi
    have hes := hok.2
    have fit := hok.1 e (List.mem_of_getElem? he)
    refine ⟨rfl, _, rfl, x, dx, _, rfl, p.1 _ _ h.hm, rfl, _, rfl, ?_⟩
    refine ⟨U, x, root, B, S.opn, pthI ps i, n, S, cs, e, v, rfl, ⟨dx, st, pa, nm, op, dn, lt, aw, od, h.same p.1, hst.mono (TupS.of_same p.1)⟩, hv.same p.1, fit.2, fit.1, sm, fun H1 g1 => ?_⟩
    obtain ⟨z1, z2⟩ := p.next hD1 he g1
    refine ⟨_, z1, ?_, z2⟩
    rw [List.length_map, List.length_map, List.length_take]
    exact szB (by omega)
  intro H1 p1
  have e1 : (es.take ws.length) = es := List.take_of_length_le (by omega)
  obtain ⟨g1, w1⟩ := p1
  rw [e1] at w1
  -- ready
  have hd1 := h.co.hd.frame (TupS.of_same g1) fun o e => g1 _ _ e
  obtain ⟨as, hd2, hd3⟩ := hd1
  have hal := Paired.len hd3
  have hm1 := g1 _ _ h.hm
  refine ⟨_, rfl, x, _, dx, _, _, rfl, hm1, T.cl, T.n_answered, rfl, dn, rfl, ⟨_, SqL.of hd2⟩, fun D2 hD2 => lc_list (K := K) (a := dn) (xs := as.map V.ref) (RdAt S es H1 D2) ⟨same_mut (Same.refl H1) hD2, upd_same⟩ (fun i H' _ p => SqL.of (p.1 _ _ hd2)) ?_ ?_⟩
  · intro j v H' hi p
    rw [List.getElem?_map] at hi
    obtain ⟨q, hq, rfl⟩ := Option.map_eq_some_iff.mp hi
    obtain ⟨d, hd, hqd⟩ := Paired.get_l hd3 hq
    refine ⟨q, _, rfl, SqT.of (p.1 _ _ hqd), rfl, _, _, rfl, _, _, rfl, rfl, rfl, ?_⟩
    refine ⟨_, rfl, _, rfl, D1, _, rfl, .inl (SqL.of (p.1 _ _ w1)), rfl, flat_ws _, _, rfl, ?_⟩
    rw [show (if false = true then !inV (V.int d.1) ((es.map S.say).map wv) else inV (V.int d.1) ((es.map S.say).map wv)) = decide (some d.1 ∈ es.map S.say) from inV_w (some d.1) _]
    by_cases cc : some d.1 ∈ es.map S.say
    · rw [decide_eq_true cc]
      refine iteT ⟨_, rfl, _, p.2, ?_, p.yes hD2 hd cc⟩
      have := List.length_filter_le (fun p => decide (some p.1 ∈ es.map S.say)) (S.done.take j)
      have := hB.dl
      rw [List.length_map, List.length_map]
      rw [List.length_take] at *
      exact szB (by omega)
    · rw [decide_eq_false cc]
      exact iteF (p.no hd cc)
  intro H2 p2
  obtain ⟨g2, w2⟩ := p2
  rw [List.length_map, show S.done.take as.length = S.done from List.take_of_length_le (by omega)] at w2
  have w2 : H2 D2 = some (.lst ((S.ready es).map V.int)) := w2
  have g12 := g1.trans g2
  -- awaited
  refine ⟨_, rfl, x, _, dx, _, _, rfl, g12 _ _ h.hm, T.cl, T.n_not_done, rfl, op, rfl, ⟨_, SqL.of (g12 _ _ h.co.ho)⟩, fun D3 hD3 => lc_list (K := K) (a := op) (xs := S.opn.map V.int) (AwAt S es H2 D3) ⟨same_mut (Same.refl H2) hD3, upd_same⟩ (fun i H' _ p => SqL.of (p.1 _ _ (g12 _ _ h.co.ho))) ?_ ?_⟩
  · intro j v H' hi p
    rw [List.getElem?_map] at hi
    obtain ⟨t, ht, rfl⟩ := Option.map_eq_some_iff.mp hi
    refine ⟨rfl, _, rfl, _, rfl, D1, _, rfl, .inl (SqL.of (p.1 _ _ (g2 _ _ w1))), rfl, flat_ws _, _, rfl, ?_⟩
    rw [show (if false = true then !inV (V.int t) ((es.map S.say).map wv) else inV (V.int t) ((es.map S.say).map wv)) = decide (some t ∈ es.map S.say) from inV_w (some t) _]
    by_cases cc : some t ∈ es.map S.say
    · rw [decide_eq_true cc]
      refine iteT ⟨_, rfl, _, p.2, ?_, p.yes hD3 ht cc⟩
      have := List.length_filter_le (fun t => decide (some t ∈ es.map S.say)) (S.opn.take j)
      have := hB.op
      rw [List.length_map]
      rw [List.length_take] at *
      exact szB (by omega)
    · rw [decide_eq_false cc]
      exact iteF (p.no ht cc)
  intro H3 p3
  obtain ⟨g3, w3⟩ := p3
  rw [List.length_map, show S.opn.take S.opn.length = S.opn from List.take_of_length_le (Nat.le_refl _)] at w3
  have w3 : H3 D3 = some (.lst ((S.await es).map V.int)) := w3
  have h2 := h.same g12
  obtain ⟨h3, e3⟩ := h2.newW hD3 g3 (fs := putF "awaited" (.ref D3) (rnF st pa nm op dn lt aw od n S)) (S.await es) w3 rfl
  have n2 : D2 ≠ x := ne_of w2 h2.hm (by intro z; cases z)
  refine ⟨_, rfl, x, _, dx, _, rfl, g3 _ _ h2.hm, T.cl, T.n_awaited, fl14, ?_⟩
  have w2' : upd H3 x (.ins (CR K) dx (putF "awaited" (.ref D3) (rnF st pa nm op dn lt aw od n S))) D2 = some (.lst ((S.ready es).map V.int)) := (upd_ne n2).trans (g3 _ _ w2)
  have e03 := (Evo.same g12).trans e3
  have kg : S.ready es ≠ [] ∨ S.await es = [] → ∀ T' H', Evo U H T' H' → RnO K T' H' x root (B + 1) S.opn (pthI ps (i + 1)) n (((S.setW (S.await es)).setN y (S.ready es).head?).setK (r.app t)) cs → Q .non H' := by
    intro cg T' H' ev md
    refine k T' H' ev ?_
    unfold stepWait
    cases e1 : S.ready es with
    | cons t l =>
      rw [e1] at md
      exact md
    | nil =>
      rw [e1] at md cg
      have e2 : S.await es = [] := cg.resolve_left (fun z => z rfl)
      rw [e2] at md ⊢
      exact md
  refine ⟨_, rfl, Nat.zero_le _, fun q1 hq1 => ne_nilI (SqL.of (same_new hq1 _ _ _ w2')) (SqL.of upd_same) ⟨_, rfl, ?_⟩⟩
  have s1 := same_new hq1 (.lst [])
  have h4 := h3.same s1
  have e4 := e03.trans (Evo.same s1)
  have w4 := s1 _ _ w2'
  by_cases c1 : S.ready es = []
  · rw [decide_eq_true c1]
    refine iteF ?_
    refine ⟨_, rfl, x, _, dx, _, _, rfl, h4.hm, T.cl, T.n_awaited, rfl, Nat.zero_le _, fun q2 hq2 => ne_nilI (SqL.of (same_new hq2 _ _ _ h4.co.hw)) (SqL.of upd_same) ⟨_, rfl, ?_⟩⟩
    have s2 := same_new hq2 (.lst [])
    have h5 := h4.same s2
    have e5 := e4.trans (Evo.same s2)
    show if (!decide (S.await es = [])) = true then _ else _
    by_cases c2 : S.await es = []
    · rw [decide_eq_true c2]
      refine iteF ?_
      have cg : S.ready es ≠ [] ∨ S.await es = [] := .inr c2
      have hv : [V.ref x, V.non] = [V.ref x, wv (S.ready es).head?] := by rw [c1]; rfl
      refine ⟨_, rfl, x, dx, _, rfl, h5.hm, rfl, ?_⟩
      refine ⟨_, x, root, r, t, B, S.opn, ps, i, n, S.setW (S.await es), cs, (S.ready es).head?, _, y, hv, ⟨dx, st, pa, nm, op, dn, lt, D3, od, h5, hst.mono e5.tup⟩, hrd, hpos, rfl, hB9, fun H6 e6 o6 => ?_⟩
      obtain ⟨dx, st, pa, nm, op, dn, lt, aw, od, h6, hst6⟩ := o6
      exact kg cg _ _ (e5.trans e6) ⟨dx, st, pa, nm, op, dn, lt, aw, od, h6.as, hst6⟩
    · rw [decide_eq_false c2]
      refine iteT ?_
      refine ⟨_, rfl, x, _, dx, _, rfl, h5.hm, T.cl, T.n_mode, fl14, ?_⟩
      have h6 := h5.put n ((S.setW (S.await es)).setM .wait) (fs := putF "mode" (.str "wait") (rnF st pa nm op dn lt D3 od n (S.setW (S.await es)))) rfl
      unfold stepWait at k
      rw [c1] at k
      cases e2 : S.await es with
      | nil => exact absurd e2 c2
      | cons t l =>
        rw [e2] at k h6
        exact RnO.finT k (e5.trans h5.putE) (h6.le (Nat.le_succ B)) hst
  · rw [decide_eq_false c1]
    refine iteT ?_
    obtain ⟨w1, wr, ew⟩ := List.exists_cons_of_ne_nil c1
    have h5 := h4
    have e5 := e4
    have cg : S.ready es ≠ [] ∨ S.await es = [] := .inl c1
    have hv : [V.ref x, V.int w1] = [V.ref x, wv (S.ready es).head?] := by rw [ew]; rfl
    refine ⟨_, rfl, x, dx, _, rfl, h5.hm, rfl, _, rfl, D2, _, _, _, rfl, rfl, SqL.of w4, by rw [ew]; exact atI_nat (j := 0) rfl, ?_⟩
    refine ⟨_, x, root, r, t, B, S.opn, ps, i, n, S.setW (S.await es), cs, (S.ready es).head?, _, y, hv, ⟨dx, st, pa, nm, op, dn, lt, D3, od, h5, hst.mono e5.tup⟩, hrd, hpos, rfl, hB9, fun H6 e6 o6 => ?_⟩
    obtain ⟨dx, st, pa, nm, op, dn, lt, aw, od, h6, hst6⟩ := o6
    exact kg cg _ _ (e5.trans e6) ⟨dx, st, pa, nm, op, dn, lt, aw, od, h6.as, hst6⟩
end
end L2.K17

set_option maxHeartbeats 4000000
/-! the run: a statement; it goes on -/
namespace L2.K17
open PySem L2
/-- the run with its place -/
def RnP (K : PySem.W.Frag) (T : Tg) (H : Hp) (x : Addr) (root : Blk) (B : Nat) (n : Int) (S : AS) (cs : List Cmd) : Prop :=
  ∃ ol ps i, RnO K T H x root B ol (pthI ps i) n S cs ∧ (S.mode ≠ .ended → S.mode ≠ .worn → PosK root ps i S ∧ ol = S.opn) ∧
    (S.mode = .wait ∨ S.mode = .hear → ∃ s r t, PosR root ps i (.one s r) t ∧ S.K = .one s (r.app t))
theorem st_off {A : Prop} {m : Mode} (h : m = .on) : m = .wait ∨ m = .hear → A := fun z => by
  rw [h] at z
  rcases z with z | z <;> cases z
theorem RnO.le {K : PySem.W.Frag} {T : Tg} {H : Hp} {x : Addr} {root : Blk} {B B' : Nat} {ol pth : List Int} {n : Int} {S : AS} {cs : List Cmd} (h : RnO K T H x root B ol pth n S cs) (hb : B ≤ B') : RnO K T H x root B' ol pth n S cs := by
  obtain ⟨dx, st, pa, nm, op, dn, lt, aw, od, h, hst⟩ := h
  exact ⟨dx, st, pa, nm, op, dn, lt, aw, od, h.le hb, hst⟩
theorem RnO.as_ {K : PySem.W.Frag} {T : Tg} {H : Hp} {x : Addr} {root : Blk} {B : Nat} {ol pth : List Int} {n : Int} {S S' : AS} {cs : List Cmd} (h : RnO K T H x root B ol pth n S cs) (e : ∀ st pa nm op dn lt aw od, rnF st pa nm op dn lt aw od n S' = rnF st pa nm op dn lt aw od n S := by intros; rfl) (e1 : S'.names = S.names := by rfl) (e2 : S'.done = S.done := by rfl)
    (e3 : S'.lets = S.lets := by rfl) (e4 : S'.awaited = S.awaited := by rfl) : RnO K T H x root B ol pth n S' cs := by
  obtain ⟨dx, st, pa, nm, op, dn, lt, aw, od, h, hst⟩ := h
  exact ⟨dx, st, pa, nm, op, dn, lt, aw, od, h.as (e ..) e1 e2 e3 e4, hst⟩
theorem RnP.le {K : PySem.W.Frag} {T : Tg} {H : Hp} {x : Addr} {root : Blk} {B B' : Nat} {n : Int} {S : AS} {cs : List Cmd} (h : RnP K T H x root B n S cs) (hb : B ≤ B') : RnP K T H x root B' n S cs := by
  obtain ⟨ol, ps, i, h1, h2⟩ := h
  exact ⟨ol, ps, i, h1.le hb, h2⟩
theorem wait_go2 {S S1 : AS} {r : Blk} {x : Str} {es : List Say} {c : List Cmd} (h : stepWait S r x es = .go S1 c) : S1.opn = S.opn := by
  unfold stepWait at h
  cases e1 : S.ready es with
  | nil =>
    rw [e1] at h
    cases e2 : S.await es with
    | nil =>
      rw [e2] at h
      cases h
      rfl
    | cons a l =>
      rw [e2] at h
      cases h
  | cons t l =>
    rw [e1] at h
    cases h
    rfl
theorem wait_stop2 {S S1 : AS} {r : Blk} {x : Str} {es : List Say} {c : List Cmd} (h : stepWait S r x es = .stop S1 c) : S1.opn = S.opn := by
  unfold stepWait at h
  cases e1 : S.ready es with
  | nil =>
    rw [e1] at h
    cases e2 : S.await es with
    | nil =>
      rw [e2] at h
      cases h
    | cons a l =>
      rw [e2] at h
      cases h
      rfl
  | cons t l =>
    rw [e1] at h
    cases h
theorem hear_go2 {S S1 : AS} {r : Blk} {x k : Str} {c : List Cmd} (h : stepHear S r x k = .go S1 c) : S1.opn = S.opn := by
  unfold stepHear at h
  cases e1 : S.lets k with
  | nil =>
    rw [e1] at h
    cases h
  | cons w ws =>
    rw [e1] at h
    cases h
    rfl
theorem hear_stop2 {S S1 : AS} {r : Blk} {x k : Str} {c : List Cmd} (h : stepHear S r x k = .stop S1 c) : S1.opn = S.opn := by
  unfold stepHear at h
  cases e1 : S.lets k with
  | nil =>
    rw [e1] at h
    cases h
    rfl
  | cons w ws =>
    rw [e1] at h
    cases h
theorem go_mode {S S1 : AS} {c : List Cmd} (h : step S = .go S1 c) : S1.mode = S.mode ∧ c.length ≤ 1 := by
  unfold step at h
  cases eK : S.K with
  | nil =>
    rw [eK] at h
    cases h
  | ite a b c d =>
    rw [eK] at h
    cases h
    exact ⟨rfl, Nat.zero_le _⟩
  | whl a b c =>
    rw [eK] at h
    cases h
    exact ⟨rfl, Nat.zero_le _⟩
  | one s r =>
    rw [eK] at h
    by_cases hp : s.isPlain
    · have e2 := step_plain eK hp
      unfold step at e2
      rw [eK] at e2
      simp only at e2 h
      rw [e2] at h
      cases h
      exact ⟨plain_mode S s, plain_len S s⟩
    · cases s with
      | wait x es =>
        obtain ⟨q1, _, q3⟩ := wait_go h
        rw [q3]
        exact ⟨q1, Nat.zero_le _⟩
      | hear x k =>
        obtain ⟨q1, _, q3⟩ := hear_go h
        rw [q3]
        exact ⟨q1, Nat.zero_le _⟩
      | fin e => cases h
      | set _ _ => exact absurd True.intro hp
      | order _ _ _ _ => exact absurd True.intro hp
      | timer _ _ => exact absurd True.intro hp
      | send _ _ _ => exact absurd True.intro hp
      | drop _ => exact absurd True.intro hp
def spNext (K : PySem.W.Frag) : Sp := fun vs H Q _ => ∃ (T : Tg) (x sp : Addr) (root q t : Blk) (B : Nat) (ps : List (Nat × Nat)) (i n : Nat) (S : AS) (cs : List Cmd) (vr : List V), vs = [.ref x, .ref sp] ∧ RnO K T H x root B S.opn (pthI ps i) ((300 - n : Nat) : Int) S cs ∧ root.depth ≤ 5 ∧ PosR root ps i q t ∧ S.K = q.app t ∧ S.mode = .on ∧
  q ≠ .nil ∧ Bnd B S ∧ B ≤ 89000 ∧ cs.length ≤ 80000 ∧ n ≤ 300 ∧ BlkH H q (.ref sp :: vr) ∧
  (n = 0 → ∀ T' H', Evo T H T' H' → RnP K T' H' x root B 300 S.worn (cs ++ [[.str "worn"]]) → Q .non H') ∧
  (∀ m, n = m + 1 → ∀ T' H' S1 c, Evo T H T' H' → (step S = .go S1 c ∨ step S = .stop S1 c) → RnP K T' H' x root (B + 1) ((300 - m : Nat) : Int) S1 (cs ++ c) → Q .non H')
section
variable {P : Program} {w : World} {K : PySem.W.Frag} {mg : Str → Option Value} {base : Heap}
theorem sc_R_do_next : FnScope ["self", "statement", "word"] ["self", "statement"] (defScope sR_do_next) := ⟨rfl, rfl, rfl, by decide +kernel, rfl, by decide +kernel, by decide +kernel⟩
theorem D_do_next (T : Tx K mg) : DefM P w K mg base 9 "do_next" ["self", "statement"] (spNext K) := by
  have D_says : DefM P w K mg base 7 "says" ["self", "saying"] (spSays K) := D_says T
  have D_do_look : DefM P w K mg base 8 "do_look" ["self", "statement"] (spLook K) := D_do_look T
  have D_do_wait : DefM P w K mg base 8 "do_wait" ["self", "statement"] (spWait K) := D_do_wait T
  have D_do_hear : DefM P w K mg base 4 "do_hear" ["self", "key"] (spHear K) := D_do_hear T
  have D_do_end : DefM P w K mg base 1 "do_end" ["self", "worth"] (spEnd K) := D_do_end T
  have D_do_plain : DefM P w K mg base 8 "do_plain" ["self", "statement"] (spPlain K) := D_do_plain T
  obtain ⟨tMS, h_MOST_STATEMENTS⟩ := T.i_MOST_STATEMENTS
  refine T.mkM (st := sR_do_next) 42 rfl sc_R_do_next (fun _ _ _ _ _ _ us hl => match us, hl with | [_, _], _ => rfl) (fun vs H Q E h => ?_) (fun cdv A outer s H vs Q E hr h => ?_)
  · obtain ⟨_, _, _, _, _, _, _, _, _, _, _, _, _, rfl, _⟩ := h
    rfl
  obtain ⟨U, x, sp, root, q, t, B, ps, i, n, S, cs, vr, rfl, ⟨dx, st, pa, nm, op, dn, lt, aw, od, h, hst⟩, hrd, hpos, hK, hon, hnn, hB, hB9, hcs, hn, hbl, k0, k1⟩ := h
  have hu := hu_of hr
  refine ⟨_, (pss_cons (ps_if (pt_cmpR op_eq (pe_fld (pv 0) rfl) (pe_glob (v := .int 300) rfl h_MOST_STATEMENTS ⟨_, rfl⟩) (nomark _)) (pss_cons (ps_fld (pv 0) pe_str rfl)
    (pss_cons (ps_expr (pe_bm PySem.F.plainAttrs_list PySem.F.slot_list_append PySem.F.type_list_append mt_append (pe_fld (pv 0) rfl) (pa_cons (pe_tup (pa_cons pe_str pa_nil)) pa_nil)))
    (pss_one ps_retN))) pss_nil)
    (pss_cons (ps_fldaug (pv 0) pe_int in_add)
    (pss_cons (ps_set (i := 2) sc_R_do_next.nd rfl (Or.inl rfl) (pe_ix ix_tup (pv 1) pe_int (fun _ _ => rfl)))
    (pss_one (ps_if (pt_cmpR op_in_seq (pv 2) (pe_tup (pa_cons pe_str (pa_cons pe_str pa_nil))) rfl) (pss_one (ps_expr (pe_m D_do_look T.cl T.m_do_look (hr.mono (by omega)) (pv 0) (pa_cons (pv 1) pa_nil)))) (pss_one (ps_if (pt_cmpR op_eq (pv 2) pe_str (nomark _)) (pss_one (ps_expr (pe_m D_do_wait T.cl T.m_do_wait (hr.mono (by omega)) (pv 0) (pa_cons (pv 1) pa_nil)))) (pss_one (ps_if (pt_cmpR op_eq (pv 2) pe_str (nomark _)) (pss_one (ps_expr (pe_m D_do_hear T.cl T.m_do_hear (hr.mono (by omega)) (pv 0) (pa_cons (pe_ix ix_tup (pv 1) pe_int (fun _ _ => rfl)) pa_nil)))) (pss_one (ps_if (pt_cmpR op_eq (pv 2) pe_str (nomark _)) (pss_one (ps_expr (pe_m D_do_end T.cl T.m_do_end (hr.mono (by omega)) (pv 0) (pa_cons (pe_m D_says T.cl T.m_says (hr.mono (by omega)) (pv 0) (pa_cons (pe_ix ix_tup (pv 1) pe_int (fun _ _ => rfl)) pa_nil)) pa_nil)))) (pss_cons (ps_expr (pe_m D_do_plain T.cl T.m_do_plain (hr.mono (by omega)) (pv 0) (pa_cons (pv 1) pa_nil)))
    (pss_one (ps_augS (pe_fld (pv 0) rfl) (pe_un un_neg pe_int) get_list pe_int ip_add set_list)))))))))))))), ?_⟩
  refine ⟨_, rfl, x, _, dx, _, _, rfl, h.hm, T.cl, T.n_steps, rfl, rfl, _, rfl, ?_⟩
  by_cases hn0 : n = 0
  · subst hn0
    rw [show decide (V.int (((300 - 0 : Nat)) : Int) = V.int 300) = true from rfl]
    refine iteT ?_
    refine ⟨_, rfl, x, _, dx, _, rfl, h.hm, T.cl, T.n_mode, fl14, ?_⟩
    have h1 := h.put ((300 - 0 : Nat) : Int) S.worn (fs := putF "mode" (.str "worn") (rnF st pa nm op dn lt aw od ((300 - 0 : Nat) : Int) S)) rfl
    obtain ⟨as, b1, b2⟩ := h1.ho.lst
    refine ⟨_, rfl, x, _, dx, _, _, rfl, h1.hm, T.cl, T.n_orders, rfl, tyL b1, by show 1 ≤ sizeLine; decide, fun q hq => ?_⟩
    have s3 := same_new hq (.tup [.str "worn"])
    refine ⟨od, _, _, rfl, rfl, s3 _ _ b1, by rw [List.length_map, b2]; exact szB (by omega), ?_⟩
    have h3 := h1.same s3
    refine RnO.fin (fun H' ev o => k0 rfl U H' ev ⟨_, ps, i, o, fun _ z => absurd rfl z, fun z => by rcases z with z | z <;> cases z⟩) (h.putE.trans ((Evo.same s3).trans h3.odE)) (h3.ord (s3 _ _ b1) upd_same) hst
  obtain ⟨m, rfl⟩ : ∃ m, n = m + 1 := ⟨n - 1, by omega⟩
  have k1 := k1 m rfl
  have en : ((300 - (m + 1) : Nat) : Int) + 1 = ((300 - m : Nat) : Int) := by omega
  rw [show decide (V.int ((300 - (m + 1) : Nat) : Int) = V.int 300) = false from decide_eq_false fun z => by
    have z := V.int.inj z
    omega]
  refine iteF ?_
  refine ⟨_, rfl, x, _, dx, _, _, rfl, h.hm, T.cl, T.n_steps, rfl, _, _, rfl, rfl, dx, _, h.hm, fl14, ?_⟩
  have h1 := h.put ((300 - m : Nat) : Int) S (fs := putF "steps" (.int (((300 - (m + 1) : Nat) : Int) + 1)) (rnF st pa nm op dn lt aw od ((300 - (m + 1) : Nat) : Int) S)) (by rw [en]; rfl)
  have e1 := h.putE (o := .ins (CR K) dx (putF "steps" (.int (((300 - (m + 1) : Nat) : Int) + 1)) (rnF st pa nm op dn lt aw od ((300 - (m + 1) : Nat) : Int) S)))
  have hbl1 := hbl.mono e1.tup
  have hst1 := hst.mono e1.tup
  obtain ⟨p0, us, vr', e0, hp0⟩ := blk_head hbl1 hnn
  injection e0 with e0 _
  injection e0 with e0
  subst e0
  refine ⟨_, rfl, sp, _, _, _, rfl, rfl, SqT.of hp0, atI_nat (j := 0) rfl, ?_⟩
  refine ⟨_, rfl, by show 2 ≤ sizeLine; decide, fun q3 hq3 => ⟨q3, _, rfl, .inr (SqT.of upd_same), rfl, rfl, _, rfl, ?_⟩⟩
  have s2 := same_new hq3 (.tup [.str "if", .str "while"])
  have h2 := h1.same s2
  have e2 := e1.trans (Evo.same s2)
  have hbl2 := hbl1.mono (TupS.of_same s2)
  have hst2 := hst1.mono (TupS.of_same s2)
  have hO : RnO K U _ x root B S.opn (pthI ps i) ((300 - m : Nat) : Int) S cs := ⟨dx, st, pa, nm, op, dn, lt, aw, od, h2, hst2⟩
  have ko := hB.ko
  have sm := hB.sm
  cases q with
  | nil => exact absurd rfl hnn
  | ite c a b r =>
    have hw : inV (V.str (headW (.ite c a b r))) [V.str "if", V.str "while"] = true := by
      show inV (V.str "if") [V.str "if", V.str "while"] = true
      decide +kernel
    rw [show (if false = true then !inV (V.str (headW _)) [V.str "if", V.str "while"] else inV (V.str (headW _)) [V.str "if", V.str "while"]) = true from hw]
    refine iteT ⟨_, rfl, x, dx, _, rfl, h2.hm, rfl, _, rfl, ?_⟩
    refine ⟨U, x, sp, root, _, t, B, S.opn, ps, i, _, S, cs, vr, rfl, hO, hrd, hpos, hK, (fun _ _ z => nomatch z), (fun z => nomatch z), ko, sm, hbl2, fun H3 ps' i' b est pk ev o => ?_⟩
    refine k1 U H3 _ [] (e2.trans ev) (.inl est) ⟨_, ps', i', ?_, fun _ _ => ⟨pk, rfl⟩, st_off hon⟩
    rw [List.append_nil]
    exact o.le (Nat.le_succ B)
  | whl c a r =>
    have hw : inV (V.str (headW (.whl c a r))) [V.str "if", V.str "while"] = true := by
      show inV (V.str "while") [V.str "if", V.str "while"] = true
      decide +kernel
    rw [show (if false = true then !inV (V.str (headW _)) [V.str "if", V.str "while"] else inV (V.str (headW _)) [V.str "if", V.str "while"]) = true from hw]
    refine iteT ⟨_, rfl, x, dx, _, rfl, h2.hm, rfl, _, rfl, ?_⟩
    refine ⟨U, x, sp, root, _, t, B, S.opn, ps, i, _, S, cs, vr, rfl, hO, hrd, hpos, hK, (fun _ _ z => nomatch z), (fun z => nomatch z), ko, sm, hbl2, fun H3 ps' i' b est pk ev o => ?_⟩
    refine k1 U H3 _ [] (e2.trans ev) (.inl est) ⟨_, ps', i', ?_, fun _ _ => ⟨pk, rfl⟩, st_off hon⟩
    rw [List.append_nil]
    exact o.le (Nat.le_succ B)
  | one s r =>
    have hK : S.K = .one s (r.app t) := hK
    rw [show (if false = true then !inV (V.str (headW (.one s r))) [V.str "if", V.str "while"] else inV (V.str (headW (.one s r))) [V.str "if", V.str "while"]) = false from word_in s]
    refine iteF ?_
    rw [hK] at ko
    obtain ⟨sp', us', vr2, eq, hsp, hs, _⟩ := hbl2
    injection eq with eq _
    injection eq with eq
    subst eq
    by_cases hpl : s.isPlain
    · obtain ⟨w1, w2, w3⟩ := plain_word hpl
      refine ⟨_, rfl, rfl, _, rfl, ?_⟩
      rw [show decide (V.str (headW (.one s r)) = V.str "wait") = false from w1]
      refine iteF ⟨_, rfl, rfl, _, rfl, ?_⟩
      rw [show decide (V.str (headW (.one s r)) = V.str "hear") = false from w2]
      refine iteF ⟨_, rfl, rfl, _, rfl, ?_⟩
      rw [show decide (V.str (headW (.one s r)) = V.str "end") = false from w3]
      refine iteF ?_
      refine ⟨_, rfl, x, dx, _, rfl, h2.hm, rfl, _, rfl, ?_⟩
      refine ⟨U, x, sp, root, B, _, _, S, cs, s, us', rfl, hsp, hs, ko.1, hpl, hO, hB, by omega, by omega, fun H3 e3 o3 => ?_⟩
      obtain ⟨dx, st, pa, nm, op, dn, lt, aw, od, hA, hst3⟩ := o3
      have est := step_plain hK hpl
      refine ⟨_, rfl, x, _, dx, _, _, rfl, hA.hm, T.cl, T.n_path, rfl, _, rfl, pa, _, _, _, rfl, rfl, SqL.of hA.hp, pthI_last ps i, _, _, rfl, rfl, pa, _, _, _, rfl, rfl, hA.hp, pthI_ix ps i, ?_⟩
      rw [pthI_set ps i _ rfl]
      have hZ := hA.setP (pthI ps (i + 1))
      refine RnO.fin (fun H' ev o => k1 U H' _ _ (e2.trans (e3.trans ev)) (.inl est) ⟨_, ps, i + 1, o, fun _ _ => ⟨⟨_, _, hpos.nxt (fun z => nomatch z), rfl⟩, rfl⟩, st_off ((plain_mode S s).trans hon)⟩) hA.paE (Rn.as (S' := (doPlain S s).1.setK (r.app t)) hZ) hst3
    cases s with
    | set _ _ => exact absurd True.intro hpl
    | order _ _ _ _ => exact absurd True.intro hpl
    | timer _ _ => exact absurd True.intro hpl
    | send _ _ _ => exact absurd True.intro hpl
    | drop _ => exact absurd True.intro hpl
    | wait y es =>
      refine ⟨_, rfl, rfl, _, rfl, iteT ?_⟩
      refine ⟨_, rfl, x, dx, _, rfl, h2.hm, rfl, _, rfl, ?_⟩
      have est := step_wait hK
      refine ⟨U, x, sp, root, r, t, B, ps, i, _, S, cs, y, es, us', rfl, hsp, hs, ko.1, hO, hrd, hpos, hB, by omega, fun T3 H3 e3 o3 => ?_⟩
      cases e4 : stepWait S (r.app t) y es with
      | go S3 c3 =>
        obtain ⟨q1, q2, q3⟩ := wait_go e4
        subst q3
        rw [e4] at o3
        refine k1 T3 H3 S3 [] (e2.trans e3) (.inl (est.trans e4)) ⟨_, ps, i + 1, ?_, fun _ _ => ⟨⟨_, _, hpos.nxt (fun z => nomatch z), q2⟩, (wait_go2 e4).symm⟩, st_off (q1.trans hon)⟩
        rw [List.append_nil]
        exact o3
      | stop S3 c3 =>
        obtain ⟨q1, q2, q3⟩ := wait_stop e4
        subst q3
        rw [e4] at o3
        refine k1 T3 H3 S3 [] (e2.trans e3) (.inr (est.trans e4)) ⟨_, ps, i, ?_, fun _ _ => ⟨⟨_, _, hpos, q2.trans hK⟩, (wait_stop2 e4).symm⟩, fun _ => ⟨_, _, _, hpos, q2.trans hK⟩⟩
        rw [List.append_nil]
        exact o3
    | hear y z =>
      have hs' : us' = [.str "hear", .str y, .str z] := hs
      subst hs'
      refine ⟨_, rfl, rfl, _, rfl, iteF ⟨_, rfl, rfl, _, rfl, iteT ?_⟩⟩
      refine ⟨_, rfl, x, dx, _, rfl, h2.hm, rfl, _, rfl, sp, _, _, _, rfl, rfl, SqT.of hsp, rfl, ?_⟩
      have est := step_hear hK
      refine ⟨U, x, root, r, t, B, S.opn, ps, i, _, S, cs, y, z, rfl, hO, hrd, hpos, by omega, fun H3 e3 o3 => ?_⟩
      cases e4 : stepHear S (r.app t) y z with
      | go S3 c3 =>
        obtain ⟨q1, q2, q3⟩ := hear_go e4
        subst q3
        rw [e4] at o3
        refine k1 U H3 S3 [] (e2.trans e3) (.inl (est.trans e4)) ⟨_, ps, i + 1, ?_, fun _ _ => ⟨⟨_, _, hpos.nxt (fun z => nomatch z), q2⟩, (hear_go2 e4).symm⟩, st_off (q1.trans hon)⟩
        rw [List.append_nil]
        exact o3
      | stop S3 c3 =>
        obtain ⟨q1, q2, q3⟩ := hear_stop e4
        subst q3
        rw [e4] at o3
        refine k1 U H3 S3 [] (e2.trans e3) (.inr (est.trans e4)) ⟨_, ps, i, ?_, fun _ _ => ⟨⟨_, _, hpos, q2.trans hK⟩, (hear_stop2 e4).symm⟩, fun _ => ⟨_, _, _, hpos, q2.trans hK⟩⟩
        rw [List.append_nil]
        exact o3
    | fin e =>
      obtain ⟨u, rfl, hq⟩ := hs
      refine ⟨_, rfl, rfl, _, rfl, iteF ⟨_, rfl, rfl, _, rfl, iteF ⟨_, rfl, rfl, _, rfl, iteT ?_⟩⟩⟩
      refine ⟨_, rfl, x, dx, _, rfl, h2.hm, rfl, _, rfl, x, dx, _, rfl, h2.hm, rfl, _, rfl, sp, _, _, _, rfl, rfl, SqT.of hsp, rfl, ?_⟩
      have est := step_fin hK
      have fit : e.fit := ko.1
      refine ⟨U, x, root, B, S.opn, _, _, S, cs, e, u, rfl, hO, hq, fit.2, fit.1, sm, fun H3 g3 => ?_⟩
      refine ⟨U, x, root, B, S.opn, _, _, S, cs, S.say e, rfl, ⟨dx, st, pa, nm, op, dn, lt, aw, od, h2.same g3, hst2.mono (TupS.of_same g3)⟩, by omega, fun H4 e4 o4 => ?_⟩
      exact k1 U H4 _ _ (e2.trans ((Evo.same g3).trans e4)) (.inr est) ⟨_, ps, i, o4.le (Nat.le_succ B), fun z => absurd rfl z, fun z => by rcases z with z | z <;> cases z⟩
end
end L2.K17

set_option maxHeartbeats 4000000
/-! the run: it goes on -/
namespace L2.K17
open PySem L2
theorem app_nn {q t : Blk} (h : q ≠ .nil) : q.app t ≠ .nil := by
  cases q with
  | nil => exact absurd rfl h
  | one s r => exact fun z => nomatch z
  | ite c a b r => exact fun z => nomatch z
  | whl c a r => exact fun z => nomatch z
theorem cut_m2 (as : List V) (a b : V) : cutV (as ++ [a, b]) none (some (-2)) = as := by
  unfold cutV
  have e1 : HT.sIx (as ++ [a, b]).length 0 none = 0 := rfl
  have e2 : HT.sIx (as ++ [a, b]).length (as ++ [a, b]).length (some (-2)) = as.length := by
    show (if (-2 : Int) < 0 then ((-2 : Int) + (((as ++ [a, b]).length : Nat) : Int)).toNat else min (-2 : Int).toNat (as ++ [a, b]).length) = as.length
    rw [if_pos (by decide), List.length_append]
    show ((-2 : Int) + ((as.length + 2 : Nat) : Int)).toNat = as.length
    omega
  rw [e1, e2, Nat.sub_zero, List.drop_zero, List.take_left]
theorem pthI_pop (p : Nat × Nat) (ps : List (Nat × Nat)) (i : Nat) : (pthI (p :: ps) i).map V.int = (pthI ps p.1).map V.int ++ [V.int (p.2 : Int), V.int (i : Int)] := by
  unfold pthI
  show ((((pathL ps ++ [p.1, p.2]) ++ [i]).map fun z : Nat => (z : Int))).map V.int = _
  rw [List.append_assoc]
  simp
/-- the place after the inner block's end -/
theorem PosR.pop {root u : Blk} {p : Nat × Nat} {ps : List (Nat × Nat)} {i : Nat} (h : PosR root (p :: ps) i .nil u) : ∃ q t, PosR root ps p.1 q t ∧ q ≠ .nil ∧ ((headW q = "if" ∧ u = q.tl.app t) ∨ (headW q = "while" ∧ u = q.app t)) := by
  obtain ⟨b, h1, h2⟩ := h
  obtain ⟨b', t, q, aft, h3, h4, h5, h6⟩ := posAt_inv h1
  refine ⟨q, t, ⟨b', h3, h4⟩, ?_⟩
  obtain ⟨pi, pk⟩ := p
  cases q with
  | nil => cases pk with
    | zero => cases h5
    | succ k => cases k <;> cases h5
  | one s r => cases pk with
    | zero => cases h5
    | succ k => cases k <;> cases h5
  | ite c x y r =>
    refine ⟨(fun z => nomatch z), .inl ⟨rfl, ?_⟩⟩
    cases pk with
    | zero =>
      cases h5
      exact h6
    | succ k => cases k with
      | zero =>
        cases h5
        exact h6
      | succ k => cases h5
  | whl c x r =>
    refine ⟨(fun z => nomatch z), .inr ⟨rfl, ?_⟩⟩
    cases pk with
    | zero =>
      cases h5
      exact h6
    | succ k => cases k <;> cases h5
def GoR (K : PySem.W.Frag) (U0 : Tg) (H0 : Hp) (x : Addr) (root : Blk) (B : Nat) (R : AS) (RC : List Cmd) (mm : Nat) (σ : L2.St) (H : Hp) : Prop :=
  ∃ (U : Tg) (S : AS) (cs : List Cmd) (v1 : Option V), σ = [some (.ref x), v1] ∧ Evo U0 H0 U H ∧
    ((∃ n ps i, n ≤ 300 ∧ cs.length ≤ 300 - n ∧ S.mode = .on ∧ RnO K U H x root (B + (300 - n)) S.opn (pthI ps i) ((300 - n : Nat) : Int) S cs ∧ PosK root ps i S ∧ Bnd (B + (300 - n)) S ∧ R = (go n S).1 ∧ RC = cs ++ (go n S).2 ∧ mm = n * 7 + ps.length + 1) ∨
     (S.mode ≠ .on ∧ (∃ nn, RnP K U H x root (B + 300) nn S cs) ∧ R = S ∧ RC = cs ∧ mm = 0))
def spGoOn (K : PySem.W.Frag) : Sp := fun vs H Q _ => ∃ (T : Tg) (x : Addr) (root : Blk) (B : Nat) (ps : List (Nat × Nat)) (i : Nat) (S : AS), vs = [.ref x] ∧ RnO K T H x root B S.opn (pthI ps i) 0 S [] ∧ root.depth ≤ 5 ∧ PosK root ps i S ∧ Bnd B S ∧ B ≤ 80000 ∧
  ∀ T' H' nn, Evo T H T' H' → RnP K T' H' x root (B + 300) nn (go 300 (S.setM .on)).1 (go 300 (S.setM .on)).2 → Q .non H'
section
variable {P : Program} {w : World} {K : PySem.W.Frag} {mg : Str → Option Value} {base : Heap}
theorem sc_R_go_on : FnScope ["self", "block"] ["self"] (defScope sR_go_on) := ⟨rfl, rfl, rfl, by decide +kernel, rfl, by decide +kernel, by decide +kernel⟩
theorem D_go_on (T : Tx K mg) : DefM P w K mg base 10 "go_on" ["self"] (spGoOn K) := by
  have D_block_of : Def1 P w K mg base 1 "block_of" ["program", "path"] spBlockOf := D_block_of T
  have D_do_next : DefM P w K mg base 9 "do_next" ["self", "statement"] (spNext K) := D_do_next T
  have D_do_end : DefM P w K mg base 1 "do_end" ["self", "worth"] (spEnd K) := D_do_end T
  have D_statement_here : DefM P w K mg base 2 "statement_here" ["self"] (spHere K) := D_statement_here T
  refine T.mkM (st := sR_go_on) 41 rfl sc_R_go_on (fun _ _ _ _ _ _ us hl => match us, hl with | [_], _ => rfl) (fun vs H Q E h => ?_) (fun cdv A outer s H vs Q E hr h => ?_)
  · obtain ⟨_, _, _, _, _, _, _, rfl, _⟩ := h
    rfl
  obtain ⟨U, x, root, B, ps, i, S, rfl, ⟨dx, st, pa, nm, op, dn, lt, aw, od, h, hst⟩, hrd, hpk, hB, hB9, k⟩ := h
  have hu := hu_of hr
  refine ⟨_, (pss_cons (ps_fld (pv 0) pe_str rfl)
    (pss_one (ps_while PassesOwn.never (pt_cmpR op_eq (pe_fld (pv 0) rfl) pe_str (nomark _)) (pss_cons (ps_set (i := 1) sc_R_go_on.nd rfl (Or.inl rfl) (pe_c D_block_of (hr.mono (by omega)) (pa_cons (pe_fld (pv 0) rfl) (pa_cons (pe_fld (pv 0) rfl) pa_nil))))
    (pss_one (ps_if (pt_cmpR op_lt (pe_ix ix_list (pe_fld (pv 0) rfl) (pe_un un_neg pe_int) (fun _ _ => rfl)) (pe_callB call_len_seq (by rfl) T.f_len (by decide +kernel) (pa_cons (pv 1) pa_nil)) (nomark _)) (pss_one (ps_expr (pe_m D_do_next T.cl T.m_do_next (hr.mono (by omega)) (pv 0) (pa_cons (pe_ix ix_tup (pv 1) (pe_ix ix_list (pe_fld (pv 0) rfl) (pe_un un_neg pe_int) (fun _ _ => rfl)) (fun _ _ => rfl)) pa_nil)))) (pss_one (ps_if (pt_cmpR op_eq (pe_callB call_len_seq (by rfl) T.f_len (by decide +kernel) (pa_cons (pe_fld (pv 0) rfl) pa_nil)) pe_int (nomark _)) (pss_one (ps_expr (pe_m D_do_end T.cl T.m_do_end (hr.mono (by omega)) (pv 0) (pa_cons pe_non pa_nil)))) (pss_cons (ps_fld (pv 0) (pe_slice sl_list (pe_fld (pv 0) rfl) po_none (po_some (pe_un un_neg pe_int))) rfl)
    (pss_one (ps_if (pt_cmpR op_eq (pe_ix ix_tup (pe_m0 D_statement_here T.cl T.m_statement_here (hr.mono (by omega)) (pv 0)) pe_int (fun _ _ => rfl)) pe_str (nomark _)) (pss_one (ps_augS (pe_fld (pv 0) rfl) (pe_un un_neg pe_int) get_list pe_int ip_add set_list)) pss_nil))))))))))), ?_⟩
  refine ⟨_, rfl, x, _, dx, _, rfl, h.hm, T.cl, T.n_mode, fl14, ?_⟩
  have h1 := h.put 0 (S.setM .on) (fs := putF "mode" (.str "on") (rnF st pa nm op dn lt aw od 0 S)) rfl
  have ev1 := h.putE (o := .ins (CR K) dx (putF "mode" (.str "on") (rnF st pa nm op dn lt aw od 0 S)))
  refine ⟨GoR K U H x root B (go 300 (S.setM .on)).1 (go 300 (S.setM .on)).2, ⟨300 * 7 + ps.length + 1, U, S.setM .on, [], none, rfl, ev1, .inl ⟨300, ps, i, Nat.le_refl _, Nat.zero_le _, rfl, ⟨dx, st, pa, nm, op, dn, lt, aw, od, h1, hst.mono ev1.tup⟩, hpk, hB.setM, rfl, rfl, rfl⟩⟩, ?_⟩
  rintro mm σ H1 ⟨U1, S1, cs, v1, rfl, ev, hc⟩
  rcases hc with ⟨n, ps, i, hn, hcs, hon, ⟨dx, st, pa, nm, op, dn, lt, aw, od, h, hst⟩, ⟨q, t, hpos, hK⟩, hB2, hR, hRC, hmm⟩ | ⟨hoff, ⟨nn, hP⟩, hR, hRC, hmm⟩
  · -- on
    refine ⟨_, rfl, x, _, dx, _, _, rfl, h.hm, T.cl, T.n_mode, rfl, rfl, _, rfl, ?_⟩
    rw [show decide (V.str S1.mode.str = V.str "on") = true by rw [hon]; exact decide_eq_true rfl]
    refine iteT ⟨fun σ' H' => ∃ m', m' < mm ∧ GoR K U H x root B (go 300 (S.setM .on)).1 (go 300 (S.setM .on)).2 m' σ' H', fun _ _ z => z, ?_⟩
    have hO : RnO K U1 H1 x root (B + (300 - n)) S1.opn (pthI ps i) ((300 - n : Nat) : Int) S1 cs := ⟨dx, st, pa, nm, op, dn, lt, aw, od, h, hst⟩
    have hpos0 := hpos
    have hpl := hpos0.len hrd
    obtain ⟨b, hb1, hb2⟩ := hpos0
    refine ⟨_, rfl, x, _, dx, _, _, rfl, h.hm, T.cl, T.n_statements, rfl, _, rfl, x, _, dx, _, _, rfl, h.hm, T.cl, T.n_path, rfl, ?_⟩
    refine ⟨st, pa, root, b, t, ps, i, rfl, hst, hrd, h.hp, hb1, fun p hb => ?_⟩
    obtain ⟨vs, hp, hvs⟩ := hb
    have hvl := hvs.length
    have hsl := suf_len hb2
    refine ⟨_, rfl, x, _, dx, _, _, rfl, h.hm, T.cl, T.n_path, rfl, _, rfl, pa, _, _, _, rfl, rfl, SqL.of h.hp, pthI_last ps i, _, rfl, p, _, rfl, .inr (SqT.of hp), _, _, rfl, rfl, _, rfl, ?_⟩
    by_cases hq : q = .nil
    · -- the block's end
      subst hq
      have hl0 : Blk.nil.len = 0 := rfl
      rw [show decide ((i : Int) < ((vs.length : Nat) : Int)) = false from decide_eq_false (by omega)]
      refine iteF ?_
      refine ⟨_, rfl, x, _, dx, _, _, rfl, h.hm, T.cl, T.n_path, rfl, pa, _, rfl, .inl (SqL.of h.hp), rfl, _, rfl, ?_⟩
      have el : ((pthI ps i).map V.int).length = 2 * ps.length + 1 := by rw [List.length_map, pthI_length]
      rw [el]
      have hK : S1.K = t := hK
      cases ps with
      | nil =>
        rw [show decide (V.int ((2 * ([] : List (Nat × Nat)).length + 1 : Nat) : Int) = V.int 1) = true from decide_eq_true rfl]
        refine iteT ?_
        have et : t = .nil := by
          have e : posAt root [] = some (root, .nil) := rfl
          rw [hb1] at e
          cases e
          rfl
        rw [et] at hK
        refine ⟨_, rfl, x, dx, _, rfl, h.hm, rfl, U1, x, root, _, S1.opn, _, _, S1, cs, none, rfl, hO, by omega, fun H2 e2 o2 => ?_⟩
        rw [go_nil hK] at hR hRC
        exact ⟨0, by omega, U1, _, _, _, rfl, ev.trans e2, .inr ⟨by show Mode.ended ≠ .on; decide, ⟨_, _, _, _, o2.le (by omega), (fun z => absurd rfl z), (fun z => by rcases z with z | z <;> cases z)⟩, hR, hRC, rfl⟩⟩
      | cons pr ps =>
        rw [show decide (V.int ((2 * (pr :: ps).length + 1 : Nat) : Int) = V.int 1) = false from decide_eq_false fun z => by
          have z := V.int.inj z
          rw [List.length_cons] at z
          omega]
        refine iteF ?_
        refine ⟨_, rfl, x, _, dx, _, _, rfl, h.hm, T.cl, T.n_path, rfl, _, rfl, _, rfl, pa, _, rfl, SqL.of h.hp, fun p2 hp2 => ?_⟩
        rw [pthI_pop, cut_m2]
        have s2 := same_new hp2 (.lst ((pthI ps pr.1).map V.int))
        obtain ⟨h3, e3⟩ := h.newP hp2 s2 (fs := putF "path" (.ref p2) (rnF st pa nm op dn lt aw od ((300 - n : Nat) : Int) S1)) (pthI ps pr.1) upd_same rfl
        refine ⟨_, rfl, x, _, dx, _, rfl, s2 _ _ h.hm, T.cl, T.n_path, fl14, ?_⟩
        have hst3 := hst.mono e3.tup
        obtain ⟨q', t', hpos', hq', hcase⟩ := hpos.pop
        have hO3 : RnO K _ _ x root (B + (300 - n)) S1.opn (pthI ps pr.1) ((300 - n : Nat) : Int) S1 cs := ⟨dx, st, p2, nm, op, dn, lt, aw, od, h3, hst3⟩
        refine ⟨_, rfl, x, dx, _, rfl, h3.hm, rfl, ?_⟩
        refine ⟨_, x, root, q', t', _, _, ps, pr.1, _, S1, cs, rfl, hO3, hrd, hpos', hq', fun sp vr hbl => ?_⟩
        obtain ⟨p0, us, vr', e0, hp0⟩ := blk_head hbl hq'
        injection e0 with e0 _
        injection e0 with e0
        subst e0
        refine ⟨sp, _, _, _, rfl, rfl, SqT.of hp0, atI_nat (j := 0) rfl, rfl, _, rfl, ?_⟩
        rw [List.length_cons] at hmm
        rcases hcase with ⟨hw, hu2⟩ | ⟨hw, hu2⟩
        · rw [show decide (V.str (headW q') = V.str "if") = true from decide_eq_true (by rw [hw])]
          refine iteT ?_
          refine ⟨_, rfl, x, _, dx, _, _, rfl, h3.hm, T.cl, T.n_path, rfl, _, rfl, p2, _, _, _, rfl, rfl, SqL.of h3.hp, pthI_last ps pr.1, _, _, rfl, rfl, p2, _, _, _, rfl, rfl, h3.hp, pthI_ix ps pr.1, ?_⟩
          rw [pthI_set ps pr.1 _ rfl]
          have hZ := h3.setP (pthI ps (pr.1 + 1))
          have ez := e3.trans (h3.paE (o := .lst ((pthI ps (pr.1 + 1)).map V.int)))
          exact ⟨n * 7 + ps.length + 1, by omega, _, S1, cs, _, rfl, ev.trans ez, .inl ⟨n, ps, pr.1 + 1, hn, hcs, hon, ⟨dx, st, p2, nm, op, dn, lt, aw, od, hZ, hst.mono ez.tup⟩, ⟨_, _, hpos'.nxt hq', hK.trans hu2⟩, hB2, hR, hRC, rfl⟩⟩
        · rw [show decide (V.str (headW q') = V.str "if") = false from by rw [hw]; decide +kernel]
          refine iteF ?_
          exact ⟨n * 7 + ps.length + 1, by omega, _, S1, cs, _, rfl, ev.trans e3, .inl ⟨n, ps, pr.1, hn, hcs, hon, hO3, ⟨_, _, hpos', hK.trans hu2⟩, hB2, hR, hRC, rfl⟩⟩
    · -- a statement
      have hl0 : 0 < q.len := Nat.pos_of_ne_zero fun z => hq (len_zero z)
      rw [show decide ((i : Int) < ((vs.length : Nat) : Int)) = true from decide_eq_true (by omega)]
      refine iteT ?_
      have hs := hvs.suf hb2
      obtain ⟨sp, us, vr, e, hsp⟩ := blk_head hs hq
      have hs' := hs
      rw [e] at hs'
      refine ⟨_, rfl, x, dx, _, rfl, h.hm, rfl, _, rfl, _, rfl, x, _, dx, _, _, rfl, h.hm, T.cl, T.n_path, rfl, _, rfl, pa, _, _, _, rfl, rfl, SqL.of h.hp, pthI_last ps i, p, _, _, _, rfl, rfl, SqT.of hp, atI_nat (drop_get e), ?_⟩
      refine ⟨U1, x, sp, root, q, t, _, ps, i, n, S1, cs, vr, rfl, hO, hrd, hpos, hK, hon, hq, hB2, by omega, by omega, hn, hs', fun hn0 T' H' e2 o2 => ?_, fun m hm T' H' S3 c3 e2 hst2 o2 => ?_⟩
      · subst hn0
        rw [go_zero (by rw [hK]; exact app_nn hq)] at hR hRC
        exact ⟨0, by omega, T', _, _, _, rfl, ev.trans e2, .inr ⟨by show Mode.worn ≠ .on; decide, ⟨_, o2⟩, hR, hRC, rfl⟩⟩
      · subst hm
        have eB : B + (300 - (m + 1)) + 1 = B + (300 - m) := by omega
        have hb3 := hB2.step (by omega)
        rcases hst2 with e3 | e3
        · rw [e3] at hb3
          rw [go_go e3] at hR hRC
          obtain ⟨q1, q2⟩ := go_mode e3
          obtain ⟨ol, ps', i', o3, hp3, _⟩ := o2
          obtain ⟨pk, eo⟩ := hp3 (by rw [q1, hon]; decide) (by rw [q1, hon]; decide)
          subst eo
          have hpl' : ps'.length ≤ 5 := by
            obtain ⟨_, _, z, _⟩ := pk
            exact z.len hrd
          rw [eB] at o3 hb3
          exact ⟨m * 7 + ps'.length + 1, by omega, T', S3, cs ++ c3, _, rfl, ev.trans e2, .inl ⟨m, ps', i', by omega, by rw [List.length_append]; omega, q1.trans hon, o3, pk, hb3, hR, by rw [hRC, List.append_assoc], rfl⟩⟩
        · rw [go_stop e3] at hR hRC
          exact ⟨0, by omega, T', S3, cs ++ c3, _, rfl, ev.trans e2, .inr ⟨(Rest.step e3).on, ⟨_, o2.le (by omega)⟩, hR, hRC, rfl⟩⟩
  · -- off
    have hP0 := hP
    obtain ⟨ol, ps', i', ⟨dx, st, pa, nm, op, dn, lt, aw, od, h, hst⟩, hp3, _⟩ := hP
    refine ⟨_, rfl, x, _, dx, _, _, rfl, h.hm, T.cl, T.n_mode, rfl, rfl, _, rfl, ?_⟩
    rw [show decide (V.str S1.mode.str = V.str "on") = decide (S1.mode = .on) from mstr _ .on, decide_eq_false hoff]
    refine iteF ?_
    refine k U1 H1 nn ev ?_
    rw [hR, hRC]
    exact hP0
end
end L2.K17

set_option maxHeartbeats 4000000
/-! the run: a happening -/
namespace L2.K17
open PySem L2
theorem name_of {s : Simp} {r : Blk} {K : Blk} {x : Str} (hk : K = .one s r) (h : (∃ es r', K = .one (.wait x es) r') ∨ ∃ k r', K = .one (.hear x k) r') : s.nameW = some x := by
  subst hk
  rcases h with ⟨es, r', e⟩ | ⟨k, r', e⟩
  · injection e with e _
    rw [e]
    rfl
  · injection e with e _
    rw [e]
    rfl
def AS.did0 (S : AS) (l : List Int) (t : Int) (w : Option Int) : AS := (S.setO l).setDone (S.done ++ [(t, w)])
def spTakeDone (K : PySem.W.Frag) : Sp := fun vs H Q _ => ∃ (T : Tg) (x : Addr) (root : Blk) (B : Nat) (S : AS) (t : Int) (w : Option Int), vs = [.ref x, .int t, wv w] ∧ RnP K T H x root B 0 S [] ∧ root.depth ≤ 5 ∧ Bnd B S ∧ Rest S ∧ B ≤ 70000 ∧ t ∈ S.opn ∧ Sm w ∧
  ∀ T' H' nn, Evo T H T' H' → RnP K T' H' x root (B + 302) nn (if S.mode = .wait ∧ t ∈ S.awaited then (S.did0 (S.opn.erase t) t w).behind (some t) else (S.did0 (S.opn.erase t) t w, [])).1
    (if S.mode = .wait ∧ t ∈ S.awaited then (S.did0 (S.opn.erase t) t w).behind (some t) else (S.did0 (S.opn.erase t) t w, [])).2 → Q .non H'
theorem AS.setL_self {S : AS} {y : Str} {ws : List (Option Int)} (h : S.lets y = ws) : S.setL y ws = S := by
  obtain ⟨K, mode, names, arg, now, made, opn, done, lets, awaited, outcome⟩ := S
  have h : lets y = ws := h
  have e : (fun z => if z = y then ws else lets z) = lets := by
    funext z
    by_cases c : z = y
    · rw [if_pos c, c, h]
    · rw [if_neg c]
  show AS.mk K mode names arg now made opn done (fun z => if z = y then ws else lets z) awaited outcome = _
  rw [e]
theorem AS.setL_setL (S : AS) (y : Str) (ws ws' : List (Option Int)) : (S.setL y ws).setL y ws' = S.setL y ws' := by
  have e : (fun z => if z = y then ws' else (if z = y then ws else S.lets z)) = fun z => if z = y then ws' else S.lets z := by
    funext z
    by_cases c : z = y
    · rw [if_pos c, if_pos c]
    · rw [if_neg c, if_neg c, if_neg c]
  show AS.mk S.K S.mode S.names S.arg S.now S.made S.opn S.done (fun z => if z = y then ws' else (if z = y then ws else S.lets z)) S.awaited S.outcome = _
  rw [e]
  rfl
def spTakeLetter (K : PySem.W.Frag) : Sp := fun vs H Q _ => ∃ (T : Tg) (x : Addr) (root : Blk) (B : Nat) (S : AS) (y : Str) (w : Option Int), vs = [.ref x, .str y, wv w] ∧ RnP K T H x root B 0 S [] ∧ root.depth ≤ 5 ∧ Bnd B S ∧ Rest S ∧ B ≤ 70000 ∧ (S.mode = .wait ∨ S.mode = .hear) ∧ Sm w ∧
  ∀ T' H' nn, Evo T H T' H' → RnP K T' H' x root (B + 302) nn (if S.mode = .hear ∧ S.hears = some y then (S.setL y ((S.lets y ++ [w]).drop 1)).behind ((S.lets y ++ [w]).headD none) else (S.setL y (S.lets y ++ [w]), [])).1
    (if S.mode = .hear ∧ S.hears = some y then (S.setL y ((S.lets y ++ [w]).drop 1)).behind ((S.lets y ++ [w]).headD none) else (S.setL y (S.lets y ++ [w]), [])).2 → Q .non H'
section
variable {P : Program} {w : World} {K : PySem.W.Frag} {mg : Str → Option Value} {base : Heap}
theorem sc_R_take_done : FnScope ["self", "ticket", "worth"] ["self", "ticket", "worth"] (defScope sR_take_done) := ⟨rfl, rfl, rfl, by decide +kernel, rfl, by decide +kernel, by decide +kernel⟩
theorem D_take_done (T : Tx K mg) : DefM P w K mg base 11 "take_done" ["self", "ticket", "worth"] (spTakeDone K) := by
  have D_go_behind : DefM P w K mg base 3 "go_behind" ["self", "worth"] (spBehind K) := D_go_behind T
  have D_go_on : DefM P w K mg base 10 "go_on" ["self"] (spGoOn K) := D_go_on T
  refine T.mkM (st := sR_take_done) 35 rfl sc_R_take_done (fun _ _ _ _ _ _ us hl => match us, hl with | [_, _, _], _ => rfl) (fun vs H Q E h => ?_) (fun cdv A outer s H vs Q E hr h => ?_)
  · obtain ⟨_, _, _, _, _, _, _, rfl, _⟩ := h
    rfl
  obtain ⟨U, x, root, B, S, t, w0, rfl, ⟨ol, ps, i, ⟨dx, st, pa, nm, op, dn, lt, aw, od, h, hst⟩, hp1, hp2⟩, hrd, hB, hR, hB9, ht, sw, k⟩ := h
  have hu := hu_of hr
  refine ⟨_, (pss_cons (ps_expr (pe_bm PySem.F.plainAttrs_list PySem.F.slot_list_remove PySem.F.type_list_remove mt_remove (pe_fld (pv 0) rfl) (pa_cons (pv 1) pa_nil)))
    (pss_cons (ps_expr (pe_bm PySem.F.plainAttrs_list PySem.F.slot_list_append PySem.F.type_list_append mt_append (pe_fld (pv 0) rfl) (pa_cons (pe_tup (pa_cons (pv 1) (pa_cons (pv 2) pa_nil))) pa_nil)))
    (pss_one (ps_if (PW.pt (pw_and (pt_cmpR op_eq (pe_fld (pv 0) rfl) pe_str (nomark _)) (pw_and1 (pt_cmpR op_in_seq (pv 1) (pe_fld (pv 0) rfl) rfl)))) (pss_cons (ps_expr (pe_m D_go_behind T.cl T.m_go_behind (hr.mono (by omega)) (pv 0) (pa_cons (pv 1) pa_nil)))
    (pss_one (ps_expr (pe_m0 D_go_on T.cl T.m_go_on (hr.mono (by omega)) (pv 0))))) pss_nil)))), ?_⟩
  have cm := hR.op (List.ne_nil_of_mem ht)
  obtain ⟨pk, eo⟩ := hp1 (by rcases cm with z | z <;> rw [z] <;> decide) (by rcases cm with z | z <;> rw [z] <;> decide)
  subst eo
  obtain ⟨s0, r0, t0, hpos, hK⟩ := hp2 cm
  obtain ⟨j, j1, j2, j3, j4⟩ := first_at ht
  refine ⟨_, rfl, x, _, dx, _, _, rfl, h.hm, T.cl, T.n_not_done, rfl, tyL h.co.ho, _, rfl, op, S.opn, t, j, rfl, rfl, h.co.ho, j2, j3, ?_⟩
  have h1 := h.setO (S.opn.eraseIdx j)
  have h10 := h1
  obtain ⟨as, d1, d2⟩ := h10.co.hd
  have hal := Paired.len d2
  have hdl := hB.dl
  refine ⟨_, rfl, x, _, dx, _, _, rfl, h1.hm, T.cl, T.n_answered, rfl, tyL d1, _, rfl, _, rfl, by show 2 ≤ sizeLine; decide, fun q hq => ?_⟩
  have s2 := same_new hq (.tup [.int t, wv w0])
  refine ⟨dn, _, _, rfl, rfl, s2 _ _ d1, by rw [List.length_map, hal]; exact szB (by omega), ?_⟩
  obtain ⟨h3, e3⟩ := (h1.same s2).addD (s2 _ _ d1) (t := t) (w := w0) upd_same
  have ev := h.opE.trans ((Evo.same s2).trans e3)
  rw [← j4] at k
  have h3' := Rn.as (S' := (S.did0 (S.opn.eraseIdx j) t w0)) h3
  have m3 : (S.did0 (S.opn.eraseIdx j) t w0).mode = S.mode := rfl
  have a3 : (S.did0 (S.opn.eraseIdx j) t w0).awaited = S.awaited := rfl
  have K3 : (S.did0 (S.opn.eraseIdx j) t w0).K = S.K := rfl
  have hB3 : Bnd (B + 1) (S.did0 (S.opn.eraseIdx j) t w0) := by
    have := hB.did (n := S.now) (t := t) sw
    rw [show S.did S.now t w0 = ((S.setNow (later S.now S.now)).setO (S.opn.eraseIdx j)).setDone (S.done ++ [(t, w0)]) from by rw [j4]; rfl] at this
    exact ⟨this.nm, this.ag, this.dn, this.lt, this.md, this.op, this.ot, this.dl, this.ll, this.ko⟩
  refine ⟨_, rfl, x, _, dx, _, _, rfl, h3'.hm, T.cl, T.n_mode, rfl, rfl, _, rfl, ?_⟩
  rw [show decide (V.str (S.did0 (S.opn.eraseIdx j) t w0).mode.str = V.str "wait") = decide ((S.did0 (S.opn.eraseIdx j) t w0).mode = .wait) from mstr _ .wait]
  by_cases cw : S.mode = .wait
  · rw [decide_eq_true (m3.trans cw)]
    refine iteT ?_
    refine ⟨_, rfl, _, rfl, x, _, dx, _, _, rfl, h3'.hm, T.cl, T.n_awaited, rfl, aw, _, rfl, .inl (SqL.of h3'.co.hw), rfl, flat_is _, _, rfl, ?_⟩
    rw [show (if false = true then !inV (V.int t) ((S.did0 (S.opn.eraseIdx j) t w0).awaited.map V.int) else inV (V.int t) ((S.did0 (S.opn.eraseIdx j) t w0).awaited.map V.int)) = decide (t ∈ (S.did0 (S.opn.eraseIdx j) t w0).awaited) from inV_t t _]
    by_cases ca : t ∈ S.awaited
    · rw [decide_eq_true (by rw [a3]; exact ca)]
      refine iteT ?_
      rw [if_pos ⟨cw, ca⟩] at k
      obtain ⟨y, es, r1, q4⟩ := hR.wt cw
      have hx : s0.nameW = some y := name_of hK (.inl ⟨es, r1, q4⟩)
      rw [behind_eq (K3.trans hK) hx] at k
      refine ⟨_, rfl, x, dx, _, rfl, h3'.hm, rfl, _, rfl, ?_⟩
      refine ⟨U, x, root, r0, t0, B, (S.did0 (S.opn.eraseIdx j) t w0).opn, ps, i, 0, (S.did0 (S.opn.eraseIdx j) t w0), [], some t, s0, y, rfl, ⟨dx, st, pa, nm, op, dn, lt, aw, od, h3', hst.mono ev.tup⟩, hrd, hpos, hx, by omega, fun H4 e4 o4 => ?_⟩
      have o4' := o4
      obtain ⟨dx, st, pa, nm, op, dn, lt, aw, od, h4, hst4⟩ := o4'
      refine ⟨_, rfl, x, dx, _, rfl, h4.hm, rfl, ?_⟩
      have ko := hB3.ko
      rw [K3, hK] at ko
      refine ⟨U, x, root, B + 1, ps, i + 1, ((S.did0 (S.opn.eraseIdx j) t w0).setN y (some t)).setK (r0.app t0), rfl, o4.as_, hrd, ⟨_, _, hpos.nxt (fun z => nomatch z), rfl⟩, (hB3.setN (hB.ot t ht)).setK ko.2, by omega, fun T5 H5 nn e5 o5 => ?_⟩
      exact k T5 H5 nn (ev.trans (e4.trans e5)) (o5.le (by omega))
    · rw [decide_eq_false (by rw [a3]; exact ca)]
      refine iteF ?_
      rw [if_neg fun z => ca z.2] at k
      exact k U _ 0 ev ⟨_, ps, i, ⟨dx, st, pa, nm, op, dn, lt, aw, od, h3'.le (by omega), hst.mono ev.tup⟩, fun _ _ => ⟨by obtain ⟨q, t1, z1, z2⟩ := pk; exact ⟨q, t1, z1, K3.trans z2⟩, rfl⟩, fun _ => ⟨_, _, _, hpos, K3.trans hK⟩⟩
  · rw [decide_eq_false (by rw [m3]; exact cw)]
    refine iteF (iteF ?_)
    rw [if_neg fun z => cw z.1] at k
    exact k U _ 0 ev ⟨_, ps, i, ⟨dx, st, pa, nm, op, dn, lt, aw, od, h3'.le (by omega), hst.mono ev.tup⟩, fun _ _ => ⟨by obtain ⟨q, t1, z1, z2⟩ := pk; exact ⟨q, t1, z1, K3.trans z2⟩, rfl⟩, fun _ => ⟨_, _, _, hpos, K3.trans hK⟩⟩
theorem sc_R_take_letter : FnScope ["self", "key", "worth"] ["self", "key", "worth"] (defScope sR_take_letter) := ⟨rfl, rfl, rfl, by decide +kernel, rfl, by decide +kernel, by decide +kernel⟩
theorem D_take_letter (T : Tx K mg) : DefM P w K mg base 11 "take_letter" ["self", "key", "worth"] (spTakeLetter K) := by
  have D_statement_here : DefM P w K mg base 2 "statement_here" ["self"] (spHere K) := D_statement_here T
  have D_first_letter : DefM P w K mg base 1 "first_letter" ["self", "key"] (spFirst K) := D_first_letter T
  have D_go_behind : DefM P w K mg base 3 "go_behind" ["self", "worth"] (spBehind K) := D_go_behind T
  have D_go_on : DefM P w K mg base 10 "go_on" ["self"] (spGoOn K) := D_go_on T
  refine T.mkM (st := sR_take_letter) 36 rfl sc_R_take_letter (fun _ _ _ _ _ _ us hl => match us, hl with | [_, _, _], _ => rfl) (fun vs H Q E h => ?_) (fun cdv A outer s H vs Q E hr h => ?_)
  · obtain ⟨_, _, _, _, _, _, _, rfl, _⟩ := h
    rfl
  obtain ⟨U, x, root, B, S, y, w0, rfl, ⟨ol, ps, i, ⟨dx, st, pa, nm, op, dn, lt, aw, od, h, hst⟩, hp1, hp2⟩, hrd, hB, hR, hB9, cm, sw, k⟩ := h
  have hu := hu_of hr
  refine ⟨_, (pss_cons (ps_if (pt_cmp (pc_dnotin hu (pv 1) (pe_fld (pv 0) rfl))) (pss_one (ps_dput hu (pe_fld (pv 0) rfl) (pv 1) (pe_lst pa_nil) rfl)) pss_nil)
    (pss_cons (ps_expr (pe_bm PySem.F.plainAttrs_list PySem.F.slot_list_append PySem.F.type_list_append mt_append (pe_dget hu (pe_fld (pv 0) rfl) (pv 1) (fun _ _ => rfl)) (pa_cons (pv 2) pa_nil)))
    (pss_one (ps_if (PW.pt (pw_and (pt_cmpR op_eq (pe_fld (pv 0) rfl) pe_str (nomark _)) (pw_and1 (pt_cmpR op_eq (pe_ix ix_tup (pe_m0 D_statement_here T.cl T.m_statement_here (hr.mono (by omega)) (pv 0)) pe_int (fun _ _ => rfl)) (pv 1) (nomark _))))) (pss_cons (ps_expr (pe_m D_go_behind T.cl T.m_go_behind (hr.mono (by omega)) (pv 0) (pa_cons (pe_m D_first_letter T.cl T.m_first_letter (hr.mono (by omega)) (pv 0) (pa_cons (pv 1) pa_nil)) pa_nil)))
    (pss_one (ps_expr (pe_m0 D_go_on T.cl T.m_go_on (hr.mono (by omega)) (pv 0))))) pss_nil)))), ?_⟩
  obtain ⟨pk, eo⟩ := hp1 (by rcases cm with z | z <;> rw [z] <;> decide) (by rcases cm with z | z <;> rw [z] <;> decide)
  subst eo
  obtain ⟨s0, r0, t0, hpos, hK⟩ := hp2 cm
  have h0 := h
  obtain ⟨kvs, l1, l2, _⟩ := h0.co.hl
  have old : ∀ z, valV kvs (Sum.inr z) ≠ none → S.lets z ≠ [] := by
    intro z hz
    rcases h.co.hl.at_ l1 z with ⟨q1, _⟩ | ⟨_, _, _, _, q4⟩
    · exact absurd q1 hz
    · exact q4 rfl
  have exs : (S.lets y).map wv ++ [wv w0] = (S.lets y ++ [w0]).map wv := by
    rw [List.map_append]
    rfl
  have hlets : (S.lets y).length ≤ B := hB.ll y
  have hB1 : Bnd (B + 1) (S.setL y (S.lets y ++ [w0])) := by
    have := hB.heard (n := S.now) (k := y) sw
    exact ⟨this.nm, this.ag, this.dn, this.lt, this.md, this.op, this.ot, this.dl, this.ll, this.ko⟩
  rcases h.co.hl.at_ l1 y with ⟨e1, e2⟩ | ⟨l, e1, tl, e3, _⟩
  · refine ⟨_, rfl, _, rfl, x, _, dx, _, _, rfl, h.hm, T.cl, T.n_heard, rfl, lt, none, rfl, by rw [← e1]; exact dget_o l1, _, rfl, iteT ?_⟩
    refine ⟨Nat.zero_le _, fun l hl => ?_⟩
    have sl := same_new hl (.lst [])
    refine ⟨_, rfl, x, _, dx, _, _, rfl, sl _ _ h.hm, T.cl, T.n_heard, rfl, _, rfl, lt, _, rfl, dput_s (sl _ _ l1) (szB (by omega)), ?_⟩
    obtain ⟨hA, evA⟩ := h.weak.letsP l1 hl y [] (fun z => nomatch z)
    rw [AS.setL_self e2] at hA
    have hA1 : upd (upd H l (.lst [])) lt (.dK (putK kvs (Sum.inr y) (.ref l))) lt = some (.dK (putK kvs (Sum.inr y) (.ref l))) := upd_same
    have hA2 : valV (putK kvs (Sum.inr y) (.ref l)) (Sum.inr y) = some (.ref l) := by rw [valV_put, if_pos rfl]
    have nl : l ≠ lt := (ne_of_none l1 hl).symm
    have hA3 : upd (upd H l (.lst [])) lt (.dK (putK kvs (Sum.inr y) (.ref l))) l = some (.lst ((S.lets y).map wv)) := by rw [upd_ne nl, upd_same, e2]; rfl
    have hA4 : ∀ z, z ≠ y → valV (putK kvs (Sum.inr y) (.ref l)) (Sum.inr z) ≠ none → S.lets z ≠ [] := fun z c hz => by
      rw [valV_put, if_neg (fun q => c (Sum.inr.inj q))] at hz
      exact old z hz
    refine ⟨_, rfl, x, _, dx, _, _, rfl, hA.hm, T.cl, T.n_heard, rfl, _, rfl, lt, _, rfl, dget_s hA1 hA2, tyL hA3, _, rfl, l, _, _, rfl, rfl, hA3, by rw [List.length_map]; exact szB (by omega), ?_⟩
    rw [exs]
    obtain ⟨h3w, e3, l3⟩ := hA.letsL hA1 hA2 (S.lets y ++ [w0]) (fun z => nomatch z)
    have h3 := h3w.strict l3 fun z hz => by
      show (if z = y then S.lets y ++ [w0] else S.lets z) ≠ []
      by_cases c : z = y
      · rw [if_pos c]
        simp
      · rw [if_neg c]
        exact hA4 z c hz
    have ev3 := evA.trans e3
    have hst3 := hst.mono ev3.tup
    refine ⟨_, rfl, x, _, dx, _, _, rfl, h3.hm, T.cl, T.n_mode, rfl, rfl, _, rfl, ?_⟩
    rw [show decide (V.str (S.setL y (S.lets y ++ [w0])).mode.str = V.str "hear") = decide (S.mode = .hear) from mstr _ .hear]
    by_cases ch : S.mode = .hear
    · rw [decide_eq_true ch]
      refine iteT ?_
      obtain ⟨x', k', r1, q4⟩ := hR.hr ch
      have ehe : S.hears = some k' := by
        unfold AS.hears
        rw [q4]
      have hK2 := hK
      rw [q4] at hK2
      injection hK2 with hK2 _
      subst hK2
      have hO3 : RnO K _ _ x root (B + 1) S.opn (pthI ps i) 0 (S.setL y (S.lets y ++ [w0])) [] := ⟨dx, st, pa, nm, op, dn, lt, aw, od, h3, hst3⟩
      refine ⟨_, rfl, x, dx, _, rfl, h3.hm, rfl, ?_⟩
      refine ⟨_, x, root, _, t0, B + 1, S.opn, ps, i, 0, _, [], rfl, hO3, hrd, hpos, (fun z => nomatch z), fun sp vr hbl => ?_⟩
      obtain ⟨sp', us, vr', eq, hsp, hs, _⟩ := hbl
      injection eq with eq _
      injection eq with eq
      subst eq
      have hs : us = [.str "hear", .str x', .str k'] := hs
      subst hs
      refine ⟨sp, _, _, _, rfl, rfl, SqT.of hsp, rfl, _, rfl, rfl, _, rfl, ?_⟩
      by_cases ck : k' = y
      · subst ck
        rw [show decide (V.str k' = V.str k') = true from decide_eq_true rfl]
        refine iteT ?_
        rw [if_pos ⟨ch, ehe⟩] at k
        obtain ⟨w1, wr, ew⟩ : ∃ w1 wr, S.lets k' ++ [w0] = w1 :: wr := by
          cases e : S.lets k' with
          | nil => exact ⟨w0, [], rfl⟩
          | cons a r => exact ⟨a, r ++ [w0], rfl⟩
        obtain ⟨hB2, hw1⟩ := hB.heard2 (n := S.now) (k := k') sw
        rw [ew] at k hB2 hw1
        refine ⟨_, rfl, x, dx, _, rfl, h3.hm, rfl, _, rfl, x, dx, _, rfl, h3.hm, rfl, _, rfl, ?_⟩
        refine ⟨_, x, root, B + 1, S.opn, _, 0, _, [], k', w1, wr, rfl, hO3, by show (if k' = k' then S.lets k' ++ [w0] else S.lets k') = _; rw [if_pos rfl, ew], fun H4 e4 o4 => ?_⟩
        rw [AS.setL_setL] at o4
        refine ⟨_, x, root, r0, t0, B + 1, S.opn, ps, i, 0, S.setL k' wr, [], w1, _, x', rfl, o4, hrd, hpos, rfl, by omega, fun H5 e5 o5 => ?_⟩
        have o5' := o5
        obtain ⟨dx, st, pa, nm, op, dn, lt, aw, od, h5, hst5⟩ := o5'
        refine ⟨_, rfl, x, dx, _, rfl, h5.hm, rfl, ?_⟩
        have ko := hB.ko
        rw [hK] at ko
        have hB2' : Bnd (B + 1) (S.setL k' wr) := by
          rw [show (S.heard S.now k' w0).setL k' ((w1 :: wr).drop 1) = (S.setNow (later S.now S.now)).setL k' wr from (AS.setL_setL (S.setNow (later S.now S.now)) k' _ _)] at hB2
          exact ⟨hB2.nm, hB2.ag, hB2.dn, hB2.lt, hB2.md, hB2.op, hB2.ot, hB2.dl, hB2.ll, hB2.ko⟩
        refine ⟨_, x, root, B + 2, ps, i + 1, ((S.setL k' wr).setN x' w1).setK (r0.app t0), rfl, o5.as_, hrd, ⟨_, _, hpos.nxt (fun z => nomatch z), rfl⟩, ((hB2'.setN hw1).setK ko.2).mono (by omega), by omega, fun T6 H6 nn e6 o6 => ?_⟩
        have k : RnP K T6 H6 x root (B + 302) nn ((S.setL k' wr).behind w1).1 ((S.setL k' wr).behind w1).2 → Q .non H6 := k T6 H6 nn (ev3.trans (e4.trans (e5.trans e6)))
        rw [behind_eq (S := S.setL k' wr) hK rfl] at k
        exact k (o6.le (by omega))
      · rw [show decide (V.str k' = V.str y) = false from decide_eq_false fun z => ck (V.str.inj z)]
        refine iteF ?_
        rw [if_neg fun z => ck (Option.some.inj (ehe.symm.trans z.2))] at k
        exact k _ _ 0 ev3 ⟨_, ps, i, ⟨dx, st, pa, nm, op, dn, lt, aw, od, h3.le (by omega), hst3⟩, fun _ _ => ⟨pk, rfl⟩, fun _ => ⟨_, _, _, hpos, hK⟩⟩
    · rw [decide_eq_false ch]
      refine iteF (iteF ?_)
      rw [if_neg fun z => ch z.1] at k
      exact k _ _ 0 ev3 ⟨_, ps, i, ⟨dx, st, pa, nm, op, dn, lt, aw, od, h3.le (by omega), hst3⟩, fun _ _ => ⟨pk, rfl⟩, fun _ => ⟨_, _, _, hpos, hK⟩⟩
  · refine ⟨_, rfl, _, rfl, x, _, dx, _, _, rfl, h.hm, T.cl, T.n_heard, rfl, lt, some _, rfl, dget_s l1 e1, _, rfl, iteF ?_⟩
    have hA := (h.weak).le (Nat.le_succ B)
    have evA := Evo.refl U H
    have hA1 := l1
    have hA2 := e1
    have hA3 := e3
    have hA4 : ∀ z, z ≠ y → valV kvs (Sum.inr z) ≠ none → S.lets z ≠ [] := fun z _ hz => old z hz
    refine ⟨_, rfl, x, _, dx, _, _, rfl, hA.hm, T.cl, T.n_heard, rfl, _, rfl, lt, _, rfl, dget_s hA1 hA2, tyL hA3, _, rfl, l, _, _, rfl, rfl, hA3, by rw [List.length_map]; exact szB (by omega), ?_⟩
    rw [exs]
    obtain ⟨h3w, e3, l3⟩ := hA.letsL hA1 hA2 (S.lets y ++ [w0]) (fun z => nomatch z)
    have h3 := h3w.strict l3 fun z hz => by
      show (if z = y then S.lets y ++ [w0] else S.lets z) ≠ []
      by_cases c : z = y
      · rw [if_pos c]
        simp
      · rw [if_neg c]
        exact hA4 z c hz
    have ev3 := evA.trans e3
    have hst3 := hst.mono ev3.tup
    refine ⟨_, rfl, x, _, dx, _, _, rfl, h3.hm, T.cl, T.n_mode, rfl, rfl, _, rfl, ?_⟩
    rw [show decide (V.str (S.setL y (S.lets y ++ [w0])).mode.str = V.str "hear") = decide (S.mode = .hear) from mstr _ .hear]
    by_cases ch : S.mode = .hear
    · rw [decide_eq_true ch]
      refine iteT ?_
      obtain ⟨x', k', r1, q4⟩ := hR.hr ch
      have ehe : S.hears = some k' := by
        unfold AS.hears
        rw [q4]
      have hK2 := hK
      rw [q4] at hK2
      injection hK2 with hK2 _
      subst hK2
      have hO3 : RnO K _ _ x root (B + 1) S.opn (pthI ps i) 0 (S.setL y (S.lets y ++ [w0])) [] := ⟨dx, st, pa, nm, op, dn, lt, aw, od, h3, hst3⟩
      refine ⟨_, rfl, x, dx, _, rfl, h3.hm, rfl, ?_⟩
      refine ⟨_, x, root, _, t0, B + 1, S.opn, ps, i, 0, _, [], rfl, hO3, hrd, hpos, (fun z => nomatch z), fun sp vr hbl => ?_⟩
      obtain ⟨sp', us, vr', eq, hsp, hs, _⟩ := hbl
      injection eq with eq _
      injection eq with eq
      subst eq
      have hs : us = [.str "hear", .str x', .str k'] := hs
      subst hs
      refine ⟨sp, _, _, _, rfl, rfl, SqT.of hsp, rfl, _, rfl, rfl, _, rfl, ?_⟩
      by_cases ck : k' = y
      · subst ck
        rw [show decide (V.str k' = V.str k') = true from decide_eq_true rfl]
        refine iteT ?_
        rw [if_pos ⟨ch, ehe⟩] at k
        obtain ⟨w1, wr, ew⟩ : ∃ w1 wr, S.lets k' ++ [w0] = w1 :: wr := by
          cases e : S.lets k' with
          | nil => exact ⟨w0, [], rfl⟩
          | cons a r => exact ⟨a, r ++ [w0], rfl⟩
        obtain ⟨hB2, hw1⟩ := hB.heard2 (n := S.now) (k := k') sw
        rw [ew] at k hB2 hw1
        refine ⟨_, rfl, x, dx, _, rfl, h3.hm, rfl, _, rfl, x, dx, _, rfl, h3.hm, rfl, _, rfl, ?_⟩
        refine ⟨_, x, root, B + 1, S.opn, _, 0, _, [], k', w1, wr, rfl, hO3, by show (if k' = k' then S.lets k' ++ [w0] else S.lets k') = _; rw [if_pos rfl, ew], fun H4 e4 o4 => ?_⟩
        rw [AS.setL_setL] at o4
        refine ⟨_, x, root, r0, t0, B + 1, S.opn, ps, i, 0, S.setL k' wr, [], w1, _, x', rfl, o4, hrd, hpos, rfl, by omega, fun H5 e5 o5 => ?_⟩
        have o5' := o5
        obtain ⟨dx, st, pa, nm, op, dn, lt, aw, od, h5, hst5⟩ := o5'
        refine ⟨_, rfl, x, dx, _, rfl, h5.hm, rfl, ?_⟩
        have ko := hB.ko
        rw [hK] at ko
        have hB2' : Bnd (B + 1) (S.setL k' wr) := by
          rw [show (S.heard S.now k' w0).setL k' ((w1 :: wr).drop 1) = (S.setNow (later S.now S.now)).setL k' wr from (AS.setL_setL (S.setNow (later S.now S.now)) k' _ _)] at hB2
          exact ⟨hB2.nm, hB2.ag, hB2.dn, hB2.lt, hB2.md, hB2.op, hB2.ot, hB2.dl, hB2.ll, hB2.ko⟩
        refine ⟨_, x, root, B + 2, ps, i + 1, ((S.setL k' wr).setN x' w1).setK (r0.app t0), rfl, o5.as_, hrd, ⟨_, _, hpos.nxt (fun z => nomatch z), rfl⟩, ((hB2'.setN hw1).setK ko.2).mono (by omega), by omega, fun T6 H6 nn e6 o6 => ?_⟩
        have k : RnP K T6 H6 x root (B + 302) nn ((S.setL k' wr).behind w1).1 ((S.setL k' wr).behind w1).2 → Q .non H6 := k T6 H6 nn (ev3.trans (e4.trans (e5.trans e6)))
        rw [behind_eq (S := S.setL k' wr) hK rfl] at k
        exact k (o6.le (by omega))
      · rw [show decide (V.str k' = V.str y) = false from decide_eq_false fun z => ck (V.str.inj z)]
        refine iteF ?_
        rw [if_neg fun z => ck (Option.some.inj (ehe.symm.trans z.2))] at k
        exact k _ _ 0 ev3 ⟨_, ps, i, ⟨dx, st, pa, nm, op, dn, lt, aw, od, h3.le (by omega), hst3⟩, fun _ _ => ⟨pk, rfl⟩, fun _ => ⟨_, _, _, hpos, hK⟩⟩
    · rw [decide_eq_false ch]
      refine iteF (iteF ?_)
      rw [if_neg fun z => ch z.1] at k
      exact k _ _ 0 ev3 ⟨_, ps, i, ⟨dx, st, pa, nm, op, dn, lt, aw, od, h3.le (by omega), hst3⟩, fun _ _ => ⟨pk, rfl⟩, fun _ => ⟨_, _, _, hpos, hK⟩⟩
end
end L2.K17

set_option maxHeartbeats 4000000
/-! the run: a happening; what it waits for; a new one -/
namespace L2.K17
open PySem L2
/-- the run between two happenings -/
def RnR (K : PySem.W.Frag) (T : Tg) (H : Hp) (x : Addr) (root : Blk) (B : Nat) (S : AS) : Prop := ∃ nn cs, RnP K T H x root B nn S cs ∧ root.depth ≤ 5 ∧ Bnd B S ∧ Rest S
def spTake (K : PySem.W.Frag) : Sp := fun vs H Q _ => ∃ (T : Tg) (x hp : Addr) (root : Blk) (B : Nat) (S : AS) (p : Hap), vs = [.ref x, .ref hp] ∧ HapH H hp p ∧ p.ok ∧ Trk T H ∧ RnR K T H x root B S ∧ B ≤ 60000 ∧
  ∀ T' H' l, Evo T H T' H' → H l = none → T' l = .non → RnR K T' H' x root (B + 302) (S.take p).1 → OrdH H' l (S.take p).2 → Q (.ref l) H'
def spWaits (K : PySem.W.Frag) : Sp := fun vs H Q _ => ∃ (T : Tg) (x : Addr) (root : Blk) (B : Nat) (S : AS), vs = [.ref x] ∧ RnR K T H x root B S ∧ ∀ H' p, Same H H' → WaitsH H' p S → Q (.ref p) H'
def spOpen (K : PySem.W.Frag) : Sp := fun vs H Q _ => ∃ (T : Tg) (x : Addr) (root : Blk) (B : Nat) (S : AS), vs = [.ref x] ∧ RnR K T H x root B S ∧ ∀ H' p, Same H H' → H' p = some (.lst (S.opn.map V.int)) → Q (.ref p) H'
theorem mode_in2 (a : Mode) : inV (.str a.str) [.str "ended", .str "worn"] = decide (a = .ended ∨ a = .worn) := by
  cases a <;> decide +kernel
section
variable {P : Program} {w : World} {K : PySem.W.Frag} {mg : Str → Option Value} {base : Heap}
theorem sc_R_open_tickets : FnScope ["self"] ["self"] (defScope sR_open_tickets) := ⟨rfl, rfl, rfl, by decide +kernel, rfl, by decide +kernel, by decide +kernel⟩
theorem D_open_tickets (T : Tx K mg) : DefM P w K mg base 1 "open_tickets" ["self"] (spOpen K) := by
  refine T.mkM (st := sR_open_tickets) 51 rfl sc_R_open_tickets (fun _ _ _ _ _ _ us hl => match us, hl with | [_], _ => rfl) (fun vs H Q E h => ?_) (fun cdv A outer s H vs Q E hr h => ?_)
  · obtain ⟨_, _, _, _, _, rfl, _⟩ := h
    rfl
  obtain ⟨U, x, root, B, S, rfl, ⟨nn, cs, ⟨ol, ps, i, ⟨dx, st, pa, nm, op, dn, lt, aw, od, h, hst⟩, hp1, hp2⟩, hrd, hB, hR⟩, k⟩ := h
  refine ⟨_, (pss_cons (ps_if (pt_cmpR op_in_seq (pe_fld (pv 0) rfl) (pe_tup (pa_cons pe_str (pa_cons pe_str pa_nil))) rfl) (pss_one (ps_ret (pe_lst pa_nil))) pss_nil)
    (pss_one (ps_ret (pe_callTy call_list_of (by rfl) T.f_list (by decide +kernel) (pa_cons (pe_fld (pv 0) rfl) pa_nil))))), ?_⟩
  refine ⟨_, rfl, x, _, dx, _, _, rfl, h.hm, T.cl, T.n_mode, rfl, by show 2 ≤ sizeLine; decide, fun q hq => ⟨q, _, rfl, .inr (SqT.of upd_same), rfl, rfl, _, rfl, ?_⟩⟩
  have s1 := same_new hq (.tup [.str "ended", .str "worn"])
  rw [show (if false = true then !inV (V.str S.mode.str) [.str "ended", .str "worn"] else inV (V.str S.mode.str) [.str "ended", .str "worn"]) = decide (S.mode = .ended ∨ S.mode = .worn) from mode_in2 _]
  by_cases c : S.mode = .ended ∨ S.mode = .worn
  · rw [decide_eq_true c]
    refine iteT ⟨Nat.zero_le _, fun p hp => ?_⟩
    refine k _ p (s1.trans (same_new hp _)) ?_
    rw [ended_mode hR c]
    exact upd_same
  · rw [decide_eq_false c]
    refine iteF ?_
    obtain ⟨pk, eo⟩ := hp1 (fun z => c (.inl z)) (fun z => c (.inr z))
    have h1 := h.same s1
    refine ⟨_, rfl, x, _, dx, _, _, rfl, h1.hm, T.cl, T.n_not_done, rfl, op, _, rfl, .inl (SqL.of h1.co.ho), fun p hp => ?_⟩
    refine k _ p (s1.trans (same_new hp _)) ?_
    rw [← eo]
    exact upd_same
theorem sc_R_waits : FnScope ["self"] ["self"] (defScope sR_waits) := ⟨rfl, rfl, rfl, by decide +kernel, rfl, by decide +kernel, by decide +kernel⟩
theorem D_waits (T : Tx K mg) : DefM P w K mg base 3 "waits" ["self"] (spWaits K) := by
  have D_statement_here : DefM P w K mg base 2 "statement_here" ["self"] (spHere K) := D_statement_here T
  refine T.mkM (st := sR_waits) 50 rfl sc_R_waits (fun _ _ _ _ _ _ us hl => match us, hl with | [_], _ => rfl) (fun vs H Q E h => ?_) (fun cdv A outer s H vs Q E hr h => ?_)
  · obtain ⟨_, _, _, _, _, rfl, _⟩ := h
    rfl
  obtain ⟨U, x, root, B, S, rfl, ⟨nn, cs, ⟨ol, ps, i, hO, hp1, hp2⟩, hrd, hB, hR⟩, k⟩ := h
  have hO0 := hO
  obtain ⟨dx, st, pa, nm, op, dn, lt, aw, od, h, hst⟩ := hO0
  refine ⟨_, (pss_cons (ps_if (pt_cmpR op_eq (pe_fld (pv 0) rfl) pe_str (nomark _)) (pss_one (ps_ret (pe_tup (pa_cons pe_str (pa_cons (pe_callTy call_tuple_of (by rfl) T.f_tuple (by decide +kernel) (pa_cons (pe_fld (pv 0) rfl) pa_nil)) pa_nil))))) pss_nil)
    (pss_cons (ps_if (pt_cmpR op_eq (pe_fld (pv 0) rfl) pe_str (nomark _)) (pss_one (ps_ret (pe_tup (pa_cons pe_str (pa_cons (pe_ix ix_tup (pe_m0 D_statement_here T.cl T.m_statement_here (hr.mono (by omega)) (pv 0)) pe_int (fun _ _ => rfl)) pa_nil))))) pss_nil)
    (pss_cons (ps_if (pt_cmpR op_eq (pe_fld (pv 0) rfl) pe_str (nomark _)) (pss_one (ps_ret (pe_tup (pa_cons pe_str (pa_cons (pe_fld (pv 0) rfl) pa_nil))))) pss_nil)
    (pss_one (ps_ret (pe_tup (pa_cons (pe_fld (pv 0) rfl) pa_nil))))))), ?_⟩
  refine ⟨_, rfl, x, _, dx, _, _, rfl, h.hm, T.cl, T.n_mode, rfl, rfl, _, rfl, ?_⟩
  rw [show decide (V.str S.mode.str = V.str "wait") = decide (S.mode = .wait) from mstr _ .wait]
  by_cases c1 : S.mode = .wait
  · rw [decide_eq_true c1]
    refine iteT ⟨_, rfl, x, _, dx, _, _, rfl, h.hm, T.cl, T.n_awaited, rfl, aw, _, rfl, .inl ⟨SqL.of h.co.hw, fun q hq => ⟨by show 2 ≤ sizeLine; decide, fun p hp => ?_⟩⟩⟩
    refine k _ p ((same_new hq _).trans (same_new hp _)) ?_
    unfold WaitsH
    rw [c1]
    exact ⟨q, upd_same, same_new hp _ _ _ upd_same⟩
  rw [decide_eq_false c1]
  refine iteF ⟨_, rfl, x, _, dx, _, _, rfl, h.hm, T.cl, T.n_mode, rfl, rfl, _, rfl, ?_⟩
  rw [show decide (V.str S.mode.str = V.str "hear") = decide (S.mode = .hear) from mstr _ .hear]
  by_cases c2 : S.mode = .hear
  · rw [decide_eq_true c2]
    refine iteT ?_
    obtain ⟨s0, r0, t0, hpos, hK⟩ := hp2 (.inr c2)
    obtain ⟨y, k', r1, q4⟩ := hR.hr c2
    have ehe : S.hears = some k' := by
      unfold AS.hears
      rw [q4]
    rw [q4] at hK
    injection hK with hK _
    subst hK
    refine ⟨_, rfl, x, dx, _, rfl, h.hm, rfl, ?_⟩
    refine ⟨_, x, root, _, t0, B, ol, ps, i, nn, _, cs, rfl, hO, hrd, hpos, (fun z => nomatch z), fun sp vr hbl => ?_⟩
    obtain ⟨sp', us, vr', eq, hsp, hs, _⟩ := hbl
    injection eq with eq _
    injection eq with eq
    subst eq
    have hs : us = [.str "hear", .str y, .str k'] := hs
    subst hs
    refine ⟨sp, _, _, _, rfl, rfl, SqT.of hsp, rfl, by show 2 ≤ sizeLine; decide, fun p hp => ?_⟩
    refine k _ p (same_new hp _) ?_
    unfold WaitsH
    rw [c2]
    exact ⟨k', ehe, upd_same⟩
  rw [decide_eq_false c2]
  refine iteF ⟨_, rfl, x, _, dx, _, _, rfl, h.hm, T.cl, T.n_mode, rfl, rfl, _, rfl, ?_⟩
  rw [show decide (V.str S.mode.str = V.str "ended") = decide (S.mode = .ended) from mstr _ .ended]
  by_cases c3 : S.mode = .ended
  · rw [decide_eq_true c3]
    refine iteT ⟨_, rfl, x, _, dx, _, _, rfl, h.hm, T.cl, T.n_outcome, rfl, by show 2 ≤ sizeLine; decide, fun p hp => ?_⟩
    refine k _ p (same_new hp _) ?_
    unfold WaitsH
    rw [c3]
    exact upd_same
  rw [decide_eq_false c3]
  refine iteF ⟨_, rfl, x, _, dx, _, _, rfl, h.hm, T.cl, T.n_mode, rfl, by show 1 ≤ sizeLine; decide, fun p hp => ?_⟩
  refine k _ p (same_new hp _) ?_
  unfold WaitsH
  split
  · rename_i e
    exact absurd e c1
  · rename_i e
    exact absurd e c2
  · rename_i e
    exact absurd e c3
  · exact upd_same
theorem RnP.mk_ {T : Tg} {H : Hp} {x dx st pa nm op dn lt aw od : Addr} {root : Blk} {B B' : Nat} {ol : List Int} {ps : List (Nat × Nat)} {i : Nat} {n : Int} {S : AS} {cs : List Cmd} (h : Rn K T H x dx st pa nm op dn lt aw od B true ol (pthI ps i) n S cs) (hst : ProgH H root st) (hb : B ≤ B')
    (h1 : S.mode ≠ .ended → S.mode ≠ .worn → PosK root ps i S ∧ ol = S.opn) (h2 : S.mode = .wait ∨ S.mode = .hear → ∃ s r t, PosR root ps i (.one s r) t ∧ S.K = .one s (r.app t)) : RnP K T H x root B' n S cs :=
  ⟨ol, ps, i, ⟨dx, st, pa, nm, op, dn, lt, aw, od, h.le hb, hst⟩, h1, h2⟩
theorem sc_R_take : FnScope ["self", "happening", "word", "moment"] ["self", "happening"] (defScope sR_take) := ⟨rfl, rfl, rfl, by decide +kernel, rfl, by decide +kernel, by decide +kernel⟩
theorem D_take (T : Tx K mg) : DefM P w K mg base 12 "take" ["self", "happening"] (spTake K) := by
  have D_go_on : DefM P w K mg base 10 "go_on" ["self"] (spGoOn K) := D_go_on T
  have D_take_done : DefM P w K mg base 11 "take_done" ["self", "ticket", "worth"] (spTakeDone K) := D_take_done T
  have D_take_letter : DefM P w K mg base 11 "take_letter" ["self", "key", "worth"] (spTakeLetter K) := D_take_letter T
  refine T.mkM (st := sR_take) 34 rfl sc_R_take (fun _ _ _ _ _ _ us hl => match us, hl with | [_, _], _ => rfl) (fun vs H Q E h => ?_) (fun cdv A outer s H vs Q E hr h => ?_)
  · obtain ⟨_, _, _, _, _, _, _, rfl, _⟩ := h
    rfl
  obtain ⟨U0, x, hp, root, B, S, p, rfl, hh, hok, htrk, ⟨nn, cs, ⟨ol, ps, i, ⟨dx, st, pa, nm, op, dn, lt, aw, od, h, hst⟩, hp1, hp2⟩, hrd, hB, hR⟩, hB9, k⟩ := h
  refine ⟨_, (pss_cons (ps_fld (pv 0) (pe_lst pa_nil) rfl)
    (pss_cons (ps_fld (pv 0) pe_int rfl)
    (pss_cons (ps_asg (pe_slice sl_tup (pv 1) po_none (po_some pe_int)) (pg_tup rfl (pgs_cons (pg_name (i := 2) sc_R_take.nd rfl (Or.inl rfl)) (pgs_cons (pg_name (i := 3) sc_R_take.nd rfl (Or.inl rfl)) pgs_nil))))
    (pss_cons (ps_if (PW.pt (pw_and (pt_cmpR op_eq (pe_fld (pv 0) rfl) pe_str (nomark _)) (pw_and1 (pt_cmpR op_eq (pv 2) pe_str (nomark _))))) (pss_cons (ps_fld (pv 0) (pe_callB (call_max2 rfl) (by rfl) T.f_max (by decide +kernel) (pa_cons (pe_fld (pv 0) rfl) (pa_cons (pv 3) pa_nil))) rfl)
    (pss_cons (ps_fld (pv 0) (pe_ix ix_tup (pv 1) pe_int (fun _ _ => rfl)) rfl)
    (pss_one (ps_expr (pe_m0 D_go_on T.cl T.m_go_on (hr.mono (by omega)) (pv 0)))))) (pss_one (ps_if (PW.pt (pw_and (pt_cmpR op_in_seq (pe_fld (pv 0) rfl) (pe_tup (pa_cons pe_str (pa_cons pe_str pa_nil))) rfl) (pw_and (pt_cmpR op_eq (pv 2) pe_str (nomark _)) (pw_and1 (pt_cmpR op_in_seq (pe_ix ix_tup (pv 1) pe_int (fun _ _ => rfl)) (pe_fld (pv 0) rfl) rfl))))) (pss_cons (ps_fld (pv 0) (pe_callB (call_max2 rfl) (by rfl) T.f_max (by decide +kernel) (pa_cons (pe_fld (pv 0) rfl) (pa_cons (pv 3) pa_nil))) rfl)
    (pss_one (ps_expr (pe_m D_take_done T.cl T.m_take_done (hr.mono (by omega)) (pv 0) (pa_cons (pe_ix ix_tup (pv 1) pe_int (fun _ _ => rfl)) (pa_cons (pe_ix ix_tup (pv 1) pe_int (fun _ _ => rfl)) pa_nil)))))) (pss_one (ps_if (PW.pt (pw_and (pt_cmpR op_in_seq (pe_fld (pv 0) rfl) (pe_tup (pa_cons pe_str (pa_cons pe_str pa_nil))) rfl) (pw_and1 (pt_cmpR op_eq (pv 2) pe_str (nomark _))))) (pss_cons (ps_fld (pv 0) (pe_callB (call_max2 rfl) (by rfl) T.f_max (by decide +kernel) (pa_cons (pe_fld (pv 0) rfl) (pa_cons (pv 3) pa_nil))) rfl)
    (pss_one (ps_expr (pe_m D_take_letter T.cl T.m_take_letter (hr.mono (by omega)) (pv 0) (pa_cons (pe_ix ix_tup (pv 1) pe_int (fun _ _ => rfl)) (pa_cons (pe_ix ix_tup (pv 1) pe_int (fun _ _ => rfl)) pa_nil)))))) pss_nil)))))
    (pss_one (ps_ret (pe_callTy call_list_of (by rfl) T.f_list (by decide +kernel) (pa_cons (pe_fld (pv 0) rfl) pa_nil)))))))), ?_⟩
  -- orders, steps
  refine ⟨Nat.zero_le _, fun od hod => ⟨_, rfl, x, _, dx, _, rfl, same_new hod _ _ _ h.hm, T.cl, T.n_orders, fl14, ?_⟩⟩
  obtain ⟨h1, e1⟩ := h.newOd hod (fs := putF "orders" (.ref od) (rnF st pa nm op dn lt aw _ nn S)) rfl
  refine ⟨_, rfl, x, _, dx, _, rfl, h1.hm, T.cl, T.n_steps, fl14, ?_⟩
  have h2 := h1.put 0 S (fs := putF "steps" (.int 0) (rnF st pa nm op dn lt aw od nn S)) rfl
  have e2 := e1.trans (h1.putE (o := .ins (CR K) dx (putF "steps" (.int 0) (rnF st pa nm op dn lt aw od nn S))))
  have hh2 := hh.mono e2.tup
  have hst2 := hst.mono e2.tup
  have hBt : Bnd (B + 302) (S.take p).1 := (hB.take (by omega) hok).mono (by omega)
  have hRt := hR.take p
  cases p with
  | «begin» mo w0 =>
    have hh2 : upd (upd (upd H od (.lst [])) x _) x _ hp = some (.tup [.str "begin", .int mo, wv w0]) := hh2
    have so : ∀ {H1 : Hp} {q0 : Addr}, H1 q0 = none → Same H1 (upd H1 q0 (.tup [.str "begin", .int mo])) := fun h => same_new h _
    refine ⟨_, rfl, _, rfl, hp, _, rfl, SqT.of hh2, (by intro z; have z2 : (2 : Nat) = _ := z.2; simp at z2), fun q0 hq0 => ⟨q0, _, rfl, SqT.of upd_same, rfl, _, _, rfl, _, _, rfl, rfl, ?_⟩⟩
    have s3 := so hq0
    have h3 := h2.same s3
    have e3 := e2.trans (Evo.same s3)
    have hh3 := s3 _ _ hh2
    have hst3 := hst2.mono (TupS.of_same s3)
    refine ⟨_, rfl, x, _, dx, _, _, rfl, h3.hm, T.cl, T.n_mode, rfl, rfl, _, rfl, ?_⟩
    rw [show decide (V.str S.mode.str = V.str "new") = decide (S.mode = .new) from mstr _ .new]
    by_cases c1 : S.mode = .new
    · rw [decide_eq_true c1]
      refine iteT ⟨_, rfl, rfl, _, rfl, iteT ?_⟩
      obtain ⟨pk, eo⟩ := hp1 (by rw [c1]; decide) (by rw [c1]; decide)
      subst eo
      refine ⟨_, rfl, x, _, dx, _, _, rfl, h3.hm, T.cl, T.n_today, rfl, _, rfl, _, _, rfl, _, rfl, x, _, dx, _, rfl, h3.hm, T.cl, T.n_today, fl14, ?_⟩
      have h4 := h3.put 0 (S.setNow (later S.now mo)) (fs := putF "today" (.int (later S.now mo)) (rnF st pa nm op dn lt aw od 0 S)) rfl
      have e4 := e3.trans (h3.putE (o := .ins (CR K) dx (putF "today" (.int (later S.now mo)) (rnF st pa nm op dn lt aw od 0 S))))
      have hh4 := (h3.putE (o := .ins (CR K) dx (putF "today" (.int (later S.now mo)) (rnF st pa nm op dn lt aw od 0 S)))).tup _ _ hh3
      refine ⟨_, rfl, hp, _, _, _, rfl, rfl, SqT.of hh4, rfl, _, rfl, x, _, dx, _, rfl, h4.hm, T.cl, T.n_arg, fl14, ?_⟩
      have h5 := h4.put 0 (S.began mo w0) (fs := putF "arg" (wv w0) (rnF st pa nm op dn lt aw od 0 (S.setNow (later S.now mo)))) rfl
      have e5 := e4.trans (h4.putE (o := .ins (CR K) dx (putF "arg" (wv w0) (rnF st pa nm op dn lt aw od 0 (S.setNow (later S.now mo))))))
      refine ⟨_, rfl, x, dx, _, rfl, h5.hm, rfl, ?_⟩
      refine ⟨_, x, root, B, ps, i, S.began mo w0, rfl, ⟨dx, st, pa, nm, op, dn, lt, aw, od, h5, hst.mono e5.tup⟩, hrd, pk, hB.began hok.2, by omega, fun T' H' nn' e6 o6 => ?_⟩
      have ek : S.take (.begin mo w0) = go 300 ((S.began mo w0).setM .on) := if_pos c1
      have ev' := e5.trans e6
      rw [ek] at k hBt hRt
      have o' := o6.le (show B + 300 ≤ B + 302 by omega)
      obtain ⟨ol', ps', i', ⟨dx', st', pa', nm', op', dn', lt', aw', od', h', hst'⟩, hp1', hp2'⟩ := o'
      obtain ⟨od0, as, a1, a2⟩ := h'.ho
      refine ⟨_, rfl, x, _, dx', _, _, rfl, h'.hm, T.cl, T.n_orders, rfl, od', _, rfl, .inl (SqL.of a1), fun l hl => ?_⟩
      have sl := same_new hl (.lst (as.map V.ref))
      have tl := Classical.byContradiction fun z => (ev'.trk htrk) l z hl
      exact k _ _ l (ev'.trans (Evo.same sl)) (ev'.free l hl) tl ⟨_, _, ⟨ol', ps', i', ⟨dx', st', pa', nm', op', dn', lt', aw', od', h'.same sl, hst'.mono (TupS.of_same sl)⟩, hp1', hp2'⟩, hrd, hBt, hRt⟩ ⟨as, upd_same, Paired.mapP a2 fun _ _ q => sl _ _ q⟩
    · rw [decide_eq_false c1]
      refine iteF (iteF ?_)
      have ek : S.take (.begin mo w0) = (S, []) := if_neg c1
      refine ⟨_, rfl, x, _, dx, _, _, rfl, h3.hm, T.cl, T.n_mode, rfl, by show 2 ≤ sizeLine; decide, fun q4 hq4 => ⟨q4, _, rfl, .inr (SqT.of upd_same), rfl, rfl, _, rfl, ?_⟩⟩
      have s4 := same_new hq4 (.tup [.str "wait", .str "hear"])
      have h4 := h3.same s4
      have e4 := e3.trans (Evo.same s4)
      have hh4 := s4 _ _ hh3
      have hst4 := hst3.mono (TupS.of_same s4)
      rw [show (if false = true then !inV (V.str S.mode.str) [.str "wait", .str "hear"] else inV (V.str S.mode.str) [.str "wait", .str "hear"]) = decide (S.mode = .wait ∨ S.mode = .hear) from mode_in _]
      refine done_skip (fun _ => ⟨_, rfl, rfl, _, rfl, iteF (iteF ?_)⟩) (fun _ => iteF ?_)
      all_goals
        refine ⟨_, rfl, x, _, dx, _, _, rfl, h4.hm, T.cl, T.n_mode, rfl, by show 2 ≤ sizeLine; decide, fun q5 hq5 => ⟨q5, _, rfl, .inr (SqT.of upd_same), rfl, rfl, _, rfl, ?_⟩⟩
        have s5 := same_new hq5 (.tup [.str "wait", .str "hear"])
        have h5 := h4.same s5
        have e5 := e4.trans (Evo.same s5)
        have hh5 := s5 _ _ hh4
        have hst5 := hst4.mono (TupS.of_same s5)
        rw [show (if false = true then !inV (V.str S.mode.str) [.str "wait", .str "hear"] else inV (V.str S.mode.str) [.str "wait", .str "hear"]) = decide (S.mode = .wait ∨ S.mode = .hear) from mode_in _]
        refine done_skip (fun _ => ⟨_, rfl, rfl, _, rfl, iteF ?_⟩) (fun _ => iteF ?_)
        all_goals
          rw [ek] at k hBt hRt
          have ev' := e5
          have o' := RnP.mk_ (B' := B + 302) h5 hst5 (by omega) hp1 hp2
          obtain ⟨ol', ps', i', ⟨dx', st', pa', nm', op', dn', lt', aw', od', h', hst'⟩, hp1', hp2'⟩ := o'
          obtain ⟨od0, as, a1, a2⟩ := h'.ho
          refine ⟨_, rfl, x, _, dx', _, _, rfl, h'.hm, T.cl, T.n_orders, rfl, od', _, rfl, .inl (SqL.of a1), fun l hl => ?_⟩
          have sl := same_new hl (.lst (as.map V.ref))
          have tl := Classical.byContradiction fun z => (ev'.trk htrk) l z hl
          exact k _ _ l (ev'.trans (Evo.same sl)) (ev'.free l hl) tl ⟨_, _, ⟨ol', ps', i', ⟨dx', st', pa', nm', op', dn', lt', aw', od', h'.same sl, hst'.mono (TupS.of_same sl)⟩, hp1', hp2'⟩, hrd, hBt, hRt⟩ ⟨as, upd_same, Paired.mapP a2 fun _ _ q => sl _ _ q⟩
  | done mo t w0 =>
    have hh2 : upd (upd (upd H od (.lst [])) x _) x _ hp = some (.tup [.str "done", .int mo, .int t, wv w0]) := hh2
    have so : ∀ {H1 : Hp} {q0 : Addr}, H1 q0 = none → Same H1 (upd H1 q0 (.tup [.str "done", .int mo])) := fun h => same_new h _
    refine ⟨_, rfl, _, rfl, hp, _, rfl, SqT.of hh2, (by intro z; have z2 : (2 : Nat) = _ := z.2; simp at z2), fun q0 hq0 => ⟨q0, _, rfl, SqT.of upd_same, rfl, _, _, rfl, _, _, rfl, rfl, ?_⟩⟩
    have s3 := so hq0
    have h3 := h2.same s3
    have e3 := e2.trans (Evo.same s3)
    have hh3 := s3 _ _ hh2
    have hst3 := hst2.mono (TupS.of_same s3)
    refine ⟨_, rfl, x, _, dx, _, _, rfl, h3.hm, T.cl, T.n_mode, rfl, rfl, _, rfl, ?_⟩
    rw [show decide (V.str S.mode.str = V.str "new") = decide (S.mode = .new) from mstr _ .new]
    refine done_skip (fun _ => ⟨_, rfl, rfl, _, rfl, iteF ?_⟩) (fun _ => iteF ?_)
    all_goals
      refine ⟨_, rfl, x, _, dx, _, _, rfl, h3.hm, T.cl, T.n_mode, rfl, by show 2 ≤ sizeLine; decide, fun q4 hq4 => ⟨q4, _, rfl, .inr (SqT.of upd_same), rfl, rfl, _, rfl, ?_⟩⟩
      have s4 := same_new hq4 (.tup [.str "wait", .str "hear"])
      have h4 := h3.same s4
      have e4 := e3.trans (Evo.same s4)
      have hh4 := s4 _ _ hh3
      have hst4 := hst3.mono (TupS.of_same s4)
      rw [show (if false = true then !inV (V.str S.mode.str) [.str "wait", .str "hear"] else inV (V.str S.mode.str) [.str "wait", .str "hear"]) = decide (S.mode = .wait ∨ S.mode = .hear) from mode_in _]
      by_cases cm : S.mode = .wait ∨ S.mode = .hear
      · rw [decide_eq_true cm]
        refine iteT ⟨_, rfl, rfl, _, rfl, iteT ?_⟩
        obtain ⟨pk, eo⟩ := hp1 (by rcases cm with z | z <;> rw [z] <;> decide) (by rcases cm with z | z <;> rw [z] <;> decide)
        refine ⟨_, rfl, hp, _, _, _, rfl, rfl, SqT.of hh4, rfl, _, rfl, x, _, dx, _, _, rfl, h4.hm, T.cl, T.n_not_done, rfl, op, _, rfl, .inl (SqL.of h4.co.ho), rfl, flat_is _, _, rfl, ?_⟩
        rw [show (if false = true then !inV (V.int t) (ol.map V.int) else inV (V.int t) (ol.map V.int)) = decide (t ∈ ol) from inV_t t _]
        by_cases ct : t ∈ ol
        · rw [decide_eq_true ct]
          refine iteT ?_
          rw [eo] at ct
          refine ⟨_, rfl, x, _, dx, _, _, rfl, h4.hm, T.cl, T.n_today, rfl, _, rfl, _, _, rfl, _, rfl, x, _, dx, _, rfl, h4.hm, T.cl, T.n_today, fl14, ?_⟩
          have h5 := h4.put 0 (S.setNow (later S.now mo)) (fs := putF "today" (.int (later S.now mo)) (rnF st pa nm op dn lt aw od 0 S)) rfl
          have e5 := e4.trans (h4.putE (o := .ins (CR K) dx (putF "today" (.int (later S.now mo)) (rnF st pa nm op dn lt aw od 0 S))))
          have hh5 := (h4.putE (o := .ins (CR K) dx (putF "today" (.int (later S.now mo)) (rnF st pa nm op dn lt aw od 0 S)))).tup _ _ hh4
          refine ⟨_, rfl, x, dx, _, rfl, h5.hm, rfl, _, rfl, hp, _, _, _, rfl, rfl, SqT.of hh5, rfl, _, rfl, hp, _, _, _, rfl, rfl, SqT.of hh5, rfl, ?_⟩
          refine ⟨_, x, root, B, S.setNow (later S.now mo), t, w0, rfl, RnP.mk_ h5 (hst.mono e5.tup) (Nat.le_refl _) (fun _ _ => ⟨pk, eo⟩) hp2, hrd, hB.setNow, hR.same rfl rfl cm, by omega, ct, hok.2, fun T' H' nn' e6 o6 => ?_⟩
          have ek : S.take (.done mo t w0) = (if (S.setNow (later S.now mo)).mode = .wait ∧ t ∈ (S.setNow (later S.now mo)).awaited then ((S.setNow (later S.now mo)).did0 ((S.setNow (later S.now mo)).opn.erase t) t w0).behind (some t) else ((S.setNow (later S.now mo)).did0 ((S.setNow (later S.now mo)).opn.erase t) t w0, [])) := if_pos ⟨cm, ct⟩
          have ev' := e5.trans e6
          rw [← ek] at o6
          have o' := o6
          obtain ⟨ol', ps', i', ⟨dx', st', pa', nm', op', dn', lt', aw', od', h', hst'⟩, hp1', hp2'⟩ := o'
          obtain ⟨od0, as, a1, a2⟩ := h'.ho
          refine ⟨_, rfl, x, _, dx', _, _, rfl, h'.hm, T.cl, T.n_orders, rfl, od', _, rfl, .inl (SqL.of a1), fun l hl => ?_⟩
          have sl := same_new hl (.lst (as.map V.ref))
          have tl := Classical.byContradiction fun z => (ev'.trk htrk) l z hl
          exact k _ _ l (ev'.trans (Evo.same sl)) (ev'.free l hl) tl ⟨_, _, ⟨ol', ps', i', ⟨dx', st', pa', nm', op', dn', lt', aw', od', h'.same sl, hst'.mono (TupS.of_same sl)⟩, hp1', hp2'⟩, hrd, hBt, hRt⟩ ⟨as, upd_same, Paired.mapP a2 fun _ _ q => sl _ _ q⟩
        · rw [decide_eq_false ct]
          refine iteF ?_
          have ek : S.take (.done mo t w0) = (S, []) := if_neg fun z => ct (by rw [eo]; exact z.2)
          refine ⟨_, rfl, x, _, dx, _, _, rfl, h4.hm, T.cl, T.n_mode, rfl, by show 2 ≤ sizeLine; decide, fun q5 hq5 => ⟨q5, _, rfl, .inr (SqT.of upd_same), rfl, rfl, _, rfl, ?_⟩⟩
          have s5 := same_new hq5 (.tup [.str "wait", .str "hear"])
          have h5 := h4.same s5
          have e5 := e4.trans (Evo.same s5)
          have hh5 := s5 _ _ hh4
          have hst5 := hst4.mono (TupS.of_same s5)
          rw [show (if false = true then !inV (V.str S.mode.str) [.str "wait", .str "hear"] else inV (V.str S.mode.str) [.str "wait", .str "hear"]) = decide (S.mode = .wait ∨ S.mode = .hear) from mode_in _]
          refine done_skip (fun _ => ⟨_, rfl, rfl, _, rfl, iteF ?_⟩) (fun _ => iteF ?_)
          all_goals
            rw [ek] at k hBt hRt
            have ev' := e5
            have o' := RnP.mk_ (B' := B + 302) h5 hst5 (by omega) hp1 hp2
            obtain ⟨ol', ps', i', ⟨dx', st', pa', nm', op', dn', lt', aw', od', h', hst'⟩, hp1', hp2'⟩ := o'
            obtain ⟨od0, as, a1, a2⟩ := h'.ho
            refine ⟨_, rfl, x, _, dx', _, _, rfl, h'.hm, T.cl, T.n_orders, rfl, od', _, rfl, .inl (SqL.of a1), fun l hl => ?_⟩
            have sl := same_new hl (.lst (as.map V.ref))
            have tl := Classical.byContradiction fun z => (ev'.trk htrk) l z hl
            exact k _ _ l (ev'.trans (Evo.same sl)) (ev'.free l hl) tl ⟨_, _, ⟨ol', ps', i', ⟨dx', st', pa', nm', op', dn', lt', aw', od', h'.same sl, hst'.mono (TupS.of_same sl)⟩, hp1', hp2'⟩, hrd, hBt, hRt⟩ ⟨as, upd_same, Paired.mapP a2 fun _ _ q => sl _ _ q⟩
      · rw [decide_eq_false cm]
        refine iteF (iteF ?_)
        have ek : S.take (.done mo t w0) = (S, []) := if_neg fun z => cm z.1
        refine ⟨_, rfl, x, _, dx, _, _, rfl, h4.hm, T.cl, T.n_mode, rfl, by show 2 ≤ sizeLine; decide, fun q5 hq5 => ⟨q5, _, rfl, .inr (SqT.of upd_same), rfl, rfl, _, rfl, ?_⟩⟩
        have s5 := same_new hq5 (.tup [.str "wait", .str "hear"])
        have h5 := h4.same s5
        have e5 := e4.trans (Evo.same s5)
        have hh5 := s5 _ _ hh4
        have hst5 := hst4.mono (TupS.of_same s5)
        rw [show (if false = true then !inV (V.str S.mode.str) [.str "wait", .str "hear"] else inV (V.str S.mode.str) [.str "wait", .str "hear"]) = decide (S.mode = .wait ∨ S.mode = .hear) from mode_in _]
        refine done_skip (fun _ => ⟨_, rfl, rfl, _, rfl, iteF ?_⟩) (fun _ => iteF ?_)
        all_goals
          rw [ek] at k hBt hRt
          have ev' := e5
          have o' := RnP.mk_ (B' := B + 302) h5 hst5 (by omega) hp1 hp2
          obtain ⟨ol', ps', i', ⟨dx', st', pa', nm', op', dn', lt', aw', od', h', hst'⟩, hp1', hp2'⟩ := o'
          obtain ⟨od0, as, a1, a2⟩ := h'.ho
          refine ⟨_, rfl, x, _, dx', _, _, rfl, h'.hm, T.cl, T.n_orders, rfl, od', _, rfl, .inl (SqL.of a1), fun l hl => ?_⟩
          have sl := same_new hl (.lst (as.map V.ref))
          have tl := Classical.byContradiction fun z => (ev'.trk htrk) l z hl
          exact k _ _ l (ev'.trans (Evo.same sl)) (ev'.free l hl) tl ⟨_, _, ⟨ol', ps', i', ⟨dx', st', pa', nm', op', dn', lt', aw', od', h'.same sl, hst'.mono (TupS.of_same sl)⟩, hp1', hp2'⟩, hrd, hBt, hRt⟩ ⟨as, upd_same, Paired.mapP a2 fun _ _ q => sl _ _ q⟩
  | letter mo y w0 =>
    have hh2 : upd (upd (upd H od (.lst [])) x _) x _ hp = some (.tup [.str "letter", .int mo, .str y, wv w0]) := hh2
    have so : ∀ {H1 : Hp} {q0 : Addr}, H1 q0 = none → Same H1 (upd H1 q0 (.tup [.str "letter", .int mo])) := fun h => same_new h _
    refine ⟨_, rfl, _, rfl, hp, _, rfl, SqT.of hh2, (by intro z; have z2 : (2 : Nat) = _ := z.2; simp at z2), fun q0 hq0 => ⟨q0, _, rfl, SqT.of upd_same, rfl, _, _, rfl, _, _, rfl, rfl, ?_⟩⟩
    have s3 := so hq0
    have h3 := h2.same s3
    have e3 := e2.trans (Evo.same s3)
    have hh3 := s3 _ _ hh2
    have hst3 := hst2.mono (TupS.of_same s3)
    refine ⟨_, rfl, x, _, dx, _, _, rfl, h3.hm, T.cl, T.n_mode, rfl, rfl, _, rfl, ?_⟩
    rw [show decide (V.str S.mode.str = V.str "new") = decide (S.mode = .new) from mstr _ .new]
    refine done_skip (fun _ => ⟨_, rfl, rfl, _, rfl, iteF ?_⟩) (fun _ => iteF ?_)
    all_goals
      refine ⟨_, rfl, x, _, dx, _, _, rfl, h3.hm, T.cl, T.n_mode, rfl, by show 2 ≤ sizeLine; decide, fun q4 hq4 => ⟨q4, _, rfl, .inr (SqT.of upd_same), rfl, rfl, _, rfl, ?_⟩⟩
      have s4 := same_new hq4 (.tup [.str "wait", .str "hear"])
      have h4 := h3.same s4
      have e4 := e3.trans (Evo.same s4)
      have hh4 := s4 _ _ hh3
      have hst4 := hst3.mono (TupS.of_same s4)
      rw [show (if false = true then !inV (V.str S.mode.str) [.str "wait", .str "hear"] else inV (V.str S.mode.str) [.str "wait", .str "hear"]) = decide (S.mode = .wait ∨ S.mode = .hear) from mode_in _]
      refine done_skip (fun _ => ⟨_, rfl, rfl, _, rfl, iteF (iteF ?_)⟩) (fun _ => iteF ?_)
      all_goals
        refine ⟨_, rfl, x, _, dx, _, _, rfl, h4.hm, T.cl, T.n_mode, rfl, by show 2 ≤ sizeLine; decide, fun q5 hq5 => ⟨q5, _, rfl, .inr (SqT.of upd_same), rfl, rfl, _, rfl, ?_⟩⟩
        have s5 := same_new hq5 (.tup [.str "wait", .str "hear"])
        have h5 := h4.same s5
        have e5 := e4.trans (Evo.same s5)
        have hh5 := s5 _ _ hh4
        have hst5 := hst4.mono (TupS.of_same s5)
        rw [show (if false = true then !inV (V.str S.mode.str) [.str "wait", .str "hear"] else inV (V.str S.mode.str) [.str "wait", .str "hear"]) = decide (S.mode = .wait ∨ S.mode = .hear) from mode_in _]
        by_cases cm : S.mode = .wait ∨ S.mode = .hear
        · rw [decide_eq_true cm]
          refine iteT ⟨_, rfl, rfl, _, rfl, iteT ?_⟩
          obtain ⟨pk, eo⟩ := hp1 (by rcases cm with z | z <;> rw [z] <;> decide) (by rcases cm with z | z <;> rw [z] <;> decide)
          refine ⟨_, rfl, x, _, dx, _, _, rfl, h5.hm, T.cl, T.n_today, rfl, _, rfl, _, _, rfl, _, rfl, x, _, dx, _, rfl, h5.hm, T.cl, T.n_today, fl14, ?_⟩
          have h6 := h5.put 0 (S.setNow (later S.now mo)) (fs := putF "today" (.int (later S.now mo)) (rnF st pa nm op dn lt aw od 0 S)) rfl
          have e6 := e5.trans (h5.putE (o := .ins (CR K) dx (putF "today" (.int (later S.now mo)) (rnF st pa nm op dn lt aw od 0 S))))
          have hh6 := (h5.putE (o := .ins (CR K) dx (putF "today" (.int (later S.now mo)) (rnF st pa nm op dn lt aw od 0 S)))).tup _ _ hh5
          refine ⟨_, rfl, x, dx, _, rfl, h6.hm, rfl, _, rfl, hp, _, _, _, rfl, rfl, SqT.of hh6, rfl, _, rfl, hp, _, _, _, rfl, rfl, SqT.of hh6, rfl, ?_⟩
          refine ⟨_, x, root, B, S.setNow (later S.now mo), y, w0, rfl, RnP.mk_ h6 (hst.mono e6.tup) (Nat.le_refl _) (fun _ _ => ⟨pk, eo⟩) hp2, hrd, hB.setNow, hR.same rfl rfl cm, by omega, cm, hok.2, fun T' H' nn' e7 o7 => ?_⟩
          have ek : S.take (.letter mo y w0) = (if (S.setNow (later S.now mo)).mode = .hear ∧ (S.setNow (later S.now mo)).hears = some y then ((S.setNow (later S.now mo)).setL y (((S.setNow (later S.now mo)).lets y ++ [w0]).drop 1)).behind (((S.setNow (later S.now mo)).lets y ++ [w0]).headD none) else ((S.setNow (later S.now mo)).setL y ((S.setNow (later S.now mo)).lets y ++ [w0]), [])) := by
            show S.takeL mo y w0 = _
            unfold AS.takeL
            rw [if_pos cm]
            by_cases cc : S.mode = .hear ∧ S.hears = some y
            · rw [if_pos cc, if_pos (show (S.setNow (later S.now mo)).mode = .hear ∧ (S.setNow (later S.now mo)).hears = some y from cc)]
              show ((((S.setNow (later S.now mo)).setL y (S.lets y ++ [w0]))).setL y ((S.lets y ++ [w0]).drop 1)).behind _ = _
              rw [AS.setL_setL]
              rfl
            · rw [if_neg cc, if_neg (show ¬ ((S.setNow (later S.now mo)).mode = .hear ∧ (S.setNow (later S.now mo)).hears = some y) from cc)]
              rfl
          have ev' := e6.trans e7
          rw [← ek] at o7
          have o' := o7
          obtain ⟨ol', ps', i', ⟨dx', st', pa', nm', op', dn', lt', aw', od', h', hst'⟩, hp1', hp2'⟩ := o'
          obtain ⟨od0, as, a1, a2⟩ := h'.ho
          refine ⟨_, rfl, x, _, dx', _, _, rfl, h'.hm, T.cl, T.n_orders, rfl, od', _, rfl, .inl (SqL.of a1), fun l hl => ?_⟩
          have sl := same_new hl (.lst (as.map V.ref))
          have tl := Classical.byContradiction fun z => (ev'.trk htrk) l z hl
          exact k _ _ l (ev'.trans (Evo.same sl)) (ev'.free l hl) tl ⟨_, _, ⟨ol', ps', i', ⟨dx', st', pa', nm', op', dn', lt', aw', od', h'.same sl, hst'.mono (TupS.of_same sl)⟩, hp1', hp2'⟩, hrd, hBt, hRt⟩ ⟨as, upd_same, Paired.mapP a2 fun _ _ q => sl _ _ q⟩
        · rw [decide_eq_false cm]
          refine iteF (iteF ?_)
          have ek : S.take (.letter mo y w0) = (S, []) := if_neg cm
          rw [ek] at k hBt hRt
          have ev' := e5
          have o' := RnP.mk_ (B' := B + 302) h5 hst5 (by omega) hp1 hp2
          obtain ⟨ol', ps', i', ⟨dx', st', pa', nm', op', dn', lt', aw', od', h', hst'⟩, hp1', hp2'⟩ := o'
          obtain ⟨od0, as, a1, a2⟩ := h'.ho
          refine ⟨_, rfl, x, _, dx', _, _, rfl, h'.hm, T.cl, T.n_orders, rfl, od', _, rfl, .inl (SqL.of a1), fun l hl => ?_⟩
          have sl := same_new hl (.lst (as.map V.ref))
          have tl := Classical.byContradiction fun z => (ev'.trk htrk) l z hl
          exact k _ _ l (ev'.trans (Evo.same sl)) (ev'.free l hl) tl ⟨_, _, ⟨ol', ps', i', ⟨dx', st', pa', nm', op', dn', lt', aw', od', h'.same sl, hst'.mono (TupS.of_same sl)⟩, hp1', hp2'⟩, hrd, hBt, hRt⟩ ⟨as, upd_same, Paired.mapP a2 fun _ _ q => sl _ _ q⟩
end
end L2.K17

set_option maxHeartbeats 4000000
/-! the run: a new one -/
namespace L2.K17
open PySem L2
def KeepT (x : Addr) (U : Tg) (H : Hp) (U' : Tg) (H' : Hp) : Prop := ∀ b o, b ≠ x → H b = some o → H' b = some o ∧ U' b = U b
theorem KeepT.trans {x : Addr} {U U1 U2 : Tg} {H H1 H2 : Hp} (a : KeepT x U H U1 H1) (b : KeepT x U1 H1 U2 H2) : KeepT x U H U2 H2 := fun c o n h => by
  obtain ⟨h1, h2⟩ := a c o n h
  obtain ⟨h3, h4⟩ := b c o n h1
  exact ⟨h3, h4.trans h2⟩
/-- the box while it is filled -/
structure Bx (K : PySem.W.Frag) (U0 : Tg) (H0 : Hp) (x dx : Addr) (fs : List (Str × V)) (U : Tg) (H : Hp) : Prop where
  tx : U x = .box
  hx : H x = some (.ins (CR K) dx fs)
  ev : Evo U0 H0 U H
section
variable {K : PySem.W.Frag} {U0 U : Tg} {H0 H : Hp} {x dx : Addr} {fs : List (Str × V)}
theorem Bx.put (h : Bx K U0 H0 x dx fs U H) {fs' gs : List (Str × V)} (e : gs = fs') : Bx K U0 H0 x dx fs' U (upd H x (.ins (CR K) dx gs)) ∧ KeepT x U H U (upd H x (.ins (CR K) dx gs)) := by
  subst e
  exact ⟨⟨h.tx, upd_same, h.ev.trans (Evo.putI h.tx (by decide) h.hx)⟩, fun b o n e => ⟨by rw [upd_ne n]; exact e, rfl⟩⟩
theorem Bx.new (h : Bx K U0 H0 x dx fs U H) {p : Addr} (hp : H p = none) (t : Tag) (o : HO) {fs' gs : List (Str × V)} (e : gs = fs') :
    Bx K U0 H0 x dx fs' (setT U p t) (upd (upd H p o) x (.ins (CR K) dx gs)) ∧ KeepT x U H (setT U p t) (upd (upd H p o) x (.ins (CR K) dx gs)) ∧ p ≠ x ∧ upd (upd H p o) x (.ins (CR K) dx gs) p = some o ∧ setT U p t p = t := by
  subst e
  have px : p ≠ x := (ne_of_none h.hx hp).symm
  have tx : setT U p t x = .box := by rw [setT_ne px.symm]; exact h.tx
  refine ⟨⟨tx, upd_same, h.ev.trans ((Evo.new hp).trans (Evo.putI tx (by decide) (same_new hp o _ _ h.hx)))⟩, fun b u n e => ⟨by rw [upd_ne n]; exact same_new hp o _ _ e, setT_ne (ne_of_none e hp)⟩, px, by rw [upd_ne px]; exact upd_same, setT_same⟩
end
def spInit (K : PySem.W.Frag) : Sp := fun vs H Q _ => ∃ (x dx st : Addr) (root : Blk), vs = [.ref x, .ref st] ∧ H x = some (.ins (CR K) dx []) ∧ ProgH H root st ∧ root.depth ≤ 5 ∧ root.ok ∧
  ∀ T' H', Evo (setT noT x .box) H T' H' → RnR K T' H' x root 0 (fresh root) → Q .non H'
section
variable {P : Program} {w : World} {K : PySem.W.Frag} {mg : Str → Option Value} {base : Heap}
theorem sc_R___init__ : FnScope ["self", "program"] ["self", "program"] (defScope sR_init) := ⟨rfl, rfl, rfl, by decide +kernel, rfl, by decide +kernel, by decide +kernel⟩
theorem D_init (T : Tx K mg) : DefM P w K mg base 1 "__init__" ["self", "program"] (spInit K) := by
  refine T.mkM (st := sR_init) 33 rfl sc_R___init__ (fun _ _ _ _ _ _ us hl => match us, hl with | [_, _], _ => rfl) (fun vs H Q E h => ?_) (fun cdv A outer s H vs Q E hr h => ?_)
  · obtain ⟨_, _, _, _, rfl, _⟩ := h
    rfl
  obtain ⟨x, dx, st, root, rfl, hx, hst, hrd, hok, k⟩ := h
  refine ⟨_, (pss_cons (ps_fld (pv 0) (pv 1) rfl)
    (pss_cons (ps_fld (pv 0) pe_str rfl)
    (pss_cons (ps_fld (pv 0) (pe_lst (pa_cons pe_int pa_nil)) rfl)
    (pss_cons (ps_fld (pv 0) pe_dnewK rfl)
    (pss_cons (ps_fld (pv 0) pe_non rfl)
    (pss_cons (ps_fld (pv 0) pe_int rfl)
    (pss_cons (ps_fld (pv 0) pe_int rfl)
    (pss_cons (ps_fld (pv 0) (pe_lst pa_nil) rfl)
    (pss_cons (ps_fld (pv 0) (pe_lst pa_nil) rfl)
    (pss_cons (ps_fld (pv 0) pe_dnewK rfl)
    (pss_cons (ps_fld (pv 0) (pe_lst pa_nil) rfl)
    (pss_cons (ps_fld (pv 0) pe_non rfl)
    (pss_cons (ps_fld (pv 0) (pe_lst pa_nil) rfl)
    (pss_one (ps_fld (pv 0) pe_int rfl))))))))))))))), ?_⟩
  have b0 : Bx K (setT noT x .box) H x dx [] (setT noT x .box) H := ⟨setT_same, hx, Evo.refl _ _⟩
  -- fields
  refine ⟨_, rfl, _, rfl, x, _, dx, _, rfl, b0.hx, T.cl, T.n_statements, by show 0 < 1000; decide, ?_⟩
  obtain ⟨b1, k1⟩ := b0.put (gs := putF "statements" (.ref st) []) (fs' := [("statements", .ref st)]) rfl
  refine ⟨_, rfl, x, _, dx, _, rfl, b1.hx, T.cl, T.n_mode, by show 1 < 1000; decide, ?_⟩
  obtain ⟨b2, k2⟩ := b1.put (gs := putF "mode" (.str "new") [("statements", .ref st)]) (fs' := [("statements", .ref st), ("mode", .str "new")]) rfl
  refine ⟨by show 1 ≤ sizeLine; decide, fun pa hpa => ⟨_, rfl, x, _, dx, _, rfl, same_new hpa _ _ _ b2.hx, T.cl, T.n_path, by show 2 < 1000; decide, ?_⟩⟩
  obtain ⟨b3, k3, npa, opa, tpa⟩ := b2.new hpa .pa (.lst [.int 0]) (gs := putF "path" (.ref pa) [("statements", .ref st), ("mode", .str "new")]) (fs' := [("statements", .ref st), ("mode", .str "new"), ("path", .ref pa)]) rfl
  intro nm hnm
  refine ⟨_, rfl, x, _, dx, _, rfl, same_new hnm _ _ _ b3.hx, T.cl, T.n_known, by show 3 < 1000; decide, ?_⟩
  obtain ⟨b4, k4, nnm, onm, tnm⟩ := b3.new hnm .nm (.dK []) (gs := putF "known" (.ref nm) [("statements", .ref st), ("mode", .str "new"), ("path", .ref pa)]) (fs' := [("statements", .ref st), ("mode", .str "new"), ("path", .ref pa), ("known", .ref nm)]) rfl
  refine ⟨_, rfl, x, _, dx, _, rfl, b4.hx, T.cl, T.n_arg, by show 4 < 1000; decide, ?_⟩
  obtain ⟨b5, k5⟩ := b4.put (gs := putF "arg" (.non) [("statements", .ref st), ("mode", .str "new"), ("path", .ref pa), ("known", .ref nm)]) (fs' := [("statements", .ref st), ("mode", .str "new"), ("path", .ref pa), ("known", .ref nm), ("arg", .non)]) rfl
  refine ⟨_, rfl, x, _, dx, _, rfl, b5.hx, T.cl, T.n_today, by show 5 < 1000; decide, ?_⟩
  obtain ⟨b6, k6⟩ := b5.put (gs := putF "today" (.int 0) [("statements", .ref st), ("mode", .str "new"), ("path", .ref pa), ("known", .ref nm), ("arg", .non)]) (fs' := [("statements", .ref st), ("mode", .str "new"), ("path", .ref pa), ("known", .ref nm), ("arg", .non), ("today", .int 0)]) rfl
  refine ⟨_, rfl, x, _, dx, _, rfl, b6.hx, T.cl, T.n_made, by show 6 < 1000; decide, ?_⟩
  obtain ⟨b7, k7⟩ := b6.put (gs := putF "made" (.int 0) [("statements", .ref st), ("mode", .str "new"), ("path", .ref pa), ("known", .ref nm), ("arg", .non), ("today", .int 0)]) (fs' := [("statements", .ref st), ("mode", .str "new"), ("path", .ref pa), ("known", .ref nm), ("arg", .non), ("today", .int 0), ("made", .int 0)]) rfl
  refine ⟨Nat.zero_le _, fun op hop => ⟨_, rfl, x, _, dx, _, rfl, same_new hop _ _ _ b7.hx, T.cl, T.n_not_done, by show 7 < 1000; decide, ?_⟩⟩
  obtain ⟨b8, k8, nop, oop, top⟩ := b7.new hop .op (.lst []) (gs := putF "not_done" (.ref op) [("statements", .ref st), ("mode", .str "new"), ("path", .ref pa), ("known", .ref nm), ("arg", .non), ("today", .int 0), ("made", .int 0)]) (fs' := [("statements", .ref st), ("mode", .str "new"), ("path", .ref pa), ("known", .ref nm), ("arg", .non), ("today", .int 0), ("made", .int 0), ("not_done", .ref op)]) rfl
  refine ⟨Nat.zero_le _, fun dn hdn => ⟨_, rfl, x, _, dx, _, rfl, same_new hdn _ _ _ b8.hx, T.cl, T.n_answered, by show 8 < 1000; decide, ?_⟩⟩
  obtain ⟨b9, k9, ndn, odn, tdn⟩ := b8.new hdn .dn (.lst []) (gs := putF "answered" (.ref dn) [("statements", .ref st), ("mode", .str "new"), ("path", .ref pa), ("known", .ref nm), ("arg", .non), ("today", .int 0), ("made", .int 0), ("not_done", .ref op)]) (fs' := [("statements", .ref st), ("mode", .str "new"), ("path", .ref pa), ("known", .ref nm), ("arg", .non), ("today", .int 0), ("made", .int 0), ("not_done", .ref op), ("answered", .ref dn)]) rfl
  intro lt hlt
  refine ⟨_, rfl, x, _, dx, _, rfl, same_new hlt _ _ _ b9.hx, T.cl, T.n_heard, by show 9 < 1000; decide, ?_⟩
  obtain ⟨b10, k10, nlt, olt, tlt⟩ := b9.new hlt .lt (.dK []) (gs := putF "heard" (.ref lt) [("statements", .ref st), ("mode", .str "new"), ("path", .ref pa), ("known", .ref nm), ("arg", .non), ("today", .int 0), ("made", .int 0), ("not_done", .ref op), ("answered", .ref dn)]) (fs' := [("statements", .ref st), ("mode", .str "new"), ("path", .ref pa), ("known", .ref nm), ("arg", .non), ("today", .int 0), ("made", .int 0), ("not_done", .ref op), ("answered", .ref dn), ("heard", .ref lt)]) rfl
  refine ⟨Nat.zero_le _, fun aw haw => ⟨_, rfl, x, _, dx, _, rfl, same_new haw _ _ _ b10.hx, T.cl, T.n_awaited, by show 10 < 1000; decide, ?_⟩⟩
  obtain ⟨b11, k11, naw, oaw, taw⟩ := b10.new haw .aw (.lst []) (gs := putF "awaited" (.ref aw) [("statements", .ref st), ("mode", .str "new"), ("path", .ref pa), ("known", .ref nm), ("arg", .non), ("today", .int 0), ("made", .int 0), ("not_done", .ref op), ("answered", .ref dn), ("heard", .ref lt)]) (fs' := [("statements", .ref st), ("mode", .str "new"), ("path", .ref pa), ("known", .ref nm), ("arg", .non), ("today", .int 0), ("made", .int 0), ("not_done", .ref op), ("answered", .ref dn), ("heard", .ref lt), ("awaited", .ref aw)]) rfl
  refine ⟨_, rfl, x, _, dx, _, rfl, b11.hx, T.cl, T.n_outcome, by show 11 < 1000; decide, ?_⟩
  obtain ⟨b12, k12⟩ := b11.put (gs := putF "outcome" (.non) [("statements", .ref st), ("mode", .str "new"), ("path", .ref pa), ("known", .ref nm), ("arg", .non), ("today", .int 0), ("made", .int 0), ("not_done", .ref op), ("answered", .ref dn), ("heard", .ref lt), ("awaited", .ref aw)]) (fs' := [("statements", .ref st), ("mode", .str "new"), ("path", .ref pa), ("known", .ref nm), ("arg", .non), ("today", .int 0), ("made", .int 0), ("not_done", .ref op), ("answered", .ref dn), ("heard", .ref lt), ("awaited", .ref aw), ("outcome", .non)]) rfl
  refine ⟨Nat.zero_le _, fun od hod => ⟨_, rfl, x, _, dx, _, rfl, same_new hod _ _ _ b12.hx, T.cl, T.n_orders, by show 12 < 1000; decide, ?_⟩⟩
  obtain ⟨b13, k13, nod, ood, tod⟩ := b12.new hod .od (.lst []) (gs := putF "orders" (.ref od) [("statements", .ref st), ("mode", .str "new"), ("path", .ref pa), ("known", .ref nm), ("arg", .non), ("today", .int 0), ("made", .int 0), ("not_done", .ref op), ("answered", .ref dn), ("heard", .ref lt), ("awaited", .ref aw), ("outcome", .non)]) (fs' := [("statements", .ref st), ("mode", .str "new"), ("path", .ref pa), ("known", .ref nm), ("arg", .non), ("today", .int 0), ("made", .int 0), ("not_done", .ref op), ("answered", .ref dn), ("heard", .ref lt), ("awaited", .ref aw), ("outcome", .non), ("orders", .ref od)]) rfl
  refine ⟨_, rfl, x, _, dx, _, rfl, b13.hx, T.cl, T.n_steps, by show 13 < 1000; decide, ?_⟩
  obtain ⟨b14, k14⟩ := b13.put (gs := putF "steps" (.int 0) [("statements", .ref st), ("mode", .str "new"), ("path", .ref pa), ("known", .ref nm), ("arg", .non), ("today", .int 0), ("made", .int 0), ("not_done", .ref op), ("answered", .ref dn), ("heard", .ref lt), ("awaited", .ref aw), ("outcome", .non), ("orders", .ref od)]) (fs' := [("statements", .ref st), ("mode", .str "new"), ("path", .ref pa), ("known", .ref nm), ("arg", .non), ("today", .int 0), ("made", .int 0), ("not_done", .ref op), ("answered", .ref dn), ("heard", .ref lt), ("awaited", .ref aw), ("outcome", .non), ("orders", .ref od), ("steps", .int 0)]) rfl
  have c14 := k14
  have c13 := k13.trans c14
  have c12 := k12.trans c13
  have c11 := k11.trans c12
  have c10 := k10.trans c11
  have c9 := k9.trans c10
  have c8 := k8.trans c9
  have c7 := k7.trans c8
  have c6 := k6.trans c7
  have c5 := k5.trans c6
  have c4 := k4.trans c5
  have c3 := k3.trans c4
  have c2 := k2.trans c3
  have c1 := k1.trans c2
  obtain ⟨zpa, ypa⟩ := c4 _ _ npa opa
  rw [tpa] at ypa
  obtain ⟨znm, ynm⟩ := c5 _ _ nnm onm
  rw [tnm] at ynm
  obtain ⟨zop, yop⟩ := c9 _ _ nop oop
  rw [top] at yop
  obtain ⟨zdn, ydn⟩ := c10 _ _ ndn odn
  rw [tdn] at ydn
  obtain ⟨zlt, ylt⟩ := c11 _ _ nlt olt
  rw [tlt] at ylt
  obtain ⟨zaw, yaw⟩ := c12 _ _ naw oaw
  rw [taw] at yaw
  obtain ⟨zod, yod⟩ := c14 _ _ nod ood
  rw [tod] at yod
  have hst' := hst.mono b14.ev.tup
  exact k _ _ b14.ev ⟨0, [], ⟨[], [], 0, ⟨dx, st, pa, nm, op, dn, lt, aw, od, ⟨b14.tx, b14.hx, ⟨ynm, ⟨[], znm, Nat.le_refl _, fun _ => rfl⟩, yop, zop, ydn, ⟨[], zdn, .nil⟩, ylt, ⟨[], zlt, Nat.le_refl _, fun _ => .inl ⟨rfl, rfl⟩⟩, yaw, zaw⟩, ypa, zpa, ⟨tod, [], zod, .nil⟩⟩, hst'⟩,
    fun _ _ => ⟨⟨root, .nil, ⟨root, rfl, rfl⟩, (Blk.app_nil root).symm⟩, rfl⟩, fun z => by rcases z with z | z <;> cases z⟩, hrd, Bnd.fresh hok, Rest.fresh root⟩
end
end L2.K17

set_option maxHeartbeats 4000000
/-! two answers alike -/
namespace L2.K17
open PySem L2
def Lf (x y : V) : Prop := (x = .non ∧ y = .non) ∨ (∃ i, x = .int i ∧ y = .int i) ∨ (∃ s, x = .str s ∧ y = .str s)
/-- alike: the same leaves, lists and tuples of the same length, alike item by item -/
def AL (H : Hp) : Nat → V → V → Prop
  | 0, x, y => Lf x y
  | n + 1, x, y => Lf x y ∨ ∃ a b xs ys, x = .ref a ∧ y = .ref b ∧ ((H a = some (.lst xs) ∧ H b = some (.lst ys)) ∨ (H a = some (.tup xs) ∧ H b = some (.tup ys))) ∧ xs.length ≤ 100000 ∧ Paired (AL H n) xs ys
theorem AL.same {H H' : Hp} (s : Same H H') : ∀ {n : Nat} {x y : V}, AL H n x y → AL H' n x y
  | 0, x, y, h => h
  | n + 1, x, y, .inl h => .inl h
  | n + 1, x, y, .inr ⟨a, b, xs, ys, h1, h2, h3, h4, h5⟩ => .inr ⟨a, b, xs, ys, h1, h2, h3.elim (fun z => .inl ⟨s _ _ z.1, s _ _ z.2⟩) (fun z => .inr ⟨s _ _ z.1, s _ _ z.2⟩), h4, Paired.mapP h5 fun _ _ q => AL.same s q⟩
/-- of what kind they are -/
structure Ty2 (K : PySem.W.Frag) (H : Hp) (x y : V) (t : String) (il it : Bool) : Prop where
  tx : TyX K H x (.type t)
  ty : TyX K H y (.type t)
  nb : kitB t "bool" = some false
  li : kitB t "list" = some il
  tu : kitB t "tuple" = some it
theorem ty_lf {K : PySem.W.Frag} {H : Hp} {x y : V} (h : Lf x y) : ∃ t, Ty2 K H x y t false false ∧ scal x y = true ∧ decide (x = y) = true := by
  rcases h with ⟨rfl, rfl⟩ | ⟨i, rfl, rfl⟩ | ⟨z, rfl, rfl⟩
  · exact ⟨"NoneType", ⟨.base .non, .base .non, by decide +kernel, by decide +kernel, by decide +kernel⟩, rfl, decide_eq_true rfl⟩
  · exact ⟨"int", ⟨.base (.int i), .base (.int i), by decide +kernel, by decide +kernel, by decide +kernel⟩, rfl, decide_eq_true rfl⟩
  · exact ⟨"str", ⟨.base (.str z), .base (.str z), by decide +kernel, by decide +kernel, by decide +kernel⟩, rfl, decide_eq_true rfl⟩
theorem ty_lst {K : PySem.W.Frag} {H : Hp} {a b : Addr} {xs ys : List V} (h1 : H a = some (.lst xs)) (h2 : H b = some (.lst ys)) : Ty2 K H (.ref a) (.ref b) "list" true false := ⟨.base (.lst h1), .base (.lst h2), by decide +kernel, by decide +kernel, by decide +kernel⟩
theorem ty_tup {K : PySem.W.Frag} {H : Hp} {a b : Addr} {xs ys : List V} (h1 : H a = some (.tup xs)) (h2 : H b = some (.tup ys)) : Ty2 K H (.ref a) (.ref b) "tuple" false true := ⟨.base (.tup h1), .base (.tup h2), by decide +kernel, by decide +kernel, by decide +kernel⟩
def spAlike (d : Nat) : Sp := fun vs H Q _ => ∃ (x y : V) (n : Nat), vs = [x, y] ∧ n + 1 = d ∧ AL H n x y ∧ ∀ H', Same H H' → Q (.bl true) H'
section
variable {P : Program} {w : World} {K : PySem.W.Frag} {mg : Str → Option Value} {base : Heap}
theorem sc_law_alike : FnScope ["one", "other", "k"] ["one", "other"] (defScope s_law_alike) := ⟨rfl, rfl, rfl, by decide +kernel, rfl, by decide +kernel, by decide +kernel⟩
theorem D_law_alike (T : Tx K mg) : ∀ d : Nat, Def1 P w K mg base (d + 1) "_law_alike" ["one", "other"] (spAlike d)
  | 0 => by
    refine T.mk1 (st := s_law_alike) 31 31 rfl rfl sc_law_alike (fun _ _ _ _ _ _ us hl => match us, hl with | [_, _], _ => rfl) (fun vs H Q E h => ?_) (fun cdv A outer s H vs Q E hr h => ?_)
    · obtain ⟨_, _, _, rfl, _⟩ := h
      rfl
    · obtain ⟨_, _, _, rfl, h1, _⟩ := h
      omega
  | d + 1 => by
    have D_law_alike : Def1 P w K mg base (d + 1) "_law_alike" ["one", "other"] (spAlike d) := D_law_alike T d
    refine T.mk1 (st := s_law_alike) 31 31 rfl rfl sc_law_alike (fun _ _ _ _ _ _ us hl => match us, hl with | [_, _], _ => rfl) (fun vs H Q E h => ?_) (fun cdv A outer s H vs Q E hr h => ?_)
    · obtain ⟨_, _, _, rfl, _⟩ := h
      rfl
    obtain ⟨x, y, n, rfl, hn, hal, k⟩ := h
    have hn : n = d := by omega
    subst hn
    have hu := hu_of hr
    refine ⟨_, (pss_cons (ps_if (PW.pt (pw_or (pt_val (pe_callB call_isi (by rfl) T.f_isinstance (by decide +kernel) (pa_cons (pv 0) (pa_cons (pe_bltn (v := .ty "bool") rfl T.f_bool (by decide +kernel) rfl) pa_nil)))) (pw_or1 (pt_cmpR op_ne (pe_callB call_isi (by rfl) T.f_isinstance (by decide +kernel) (pa_cons (pv 0) (pa_cons (pe_bltn (v := .ty "list") rfl T.f_list (by decide +kernel) rfl) pa_nil))) (pe_callB call_isi (by rfl) T.f_isinstance (by decide +kernel) (pa_cons (pv 1) (pa_cons (pe_bltn (v := .ty "list") rfl T.f_list (by decide +kernel) rfl) pa_nil))) (nomark _))))) (pss_one (ps_ret pe_bl)) pss_nil)
    (pss_cons (ps_if (pt_cmpR op_ne (pe_callB call_isi (by rfl) T.f_isinstance (by decide +kernel) (pa_cons (pv 0) (pa_cons (pe_bltn (v := .ty "tuple") rfl T.f_tuple (by decide +kernel) rfl) pa_nil))) (pe_callB call_isi (by rfl) T.f_isinstance (by decide +kernel) (pa_cons (pv 1) (pa_cons (pe_bltn (v := .ty "tuple") rfl T.f_tuple (by decide +kernel) rfl) pa_nil))) (nomark _)) (pss_one (ps_ret pe_bl)) pss_nil)
    (pss_cons (ps_if (pt_not (pt_val (pe_callB call_isiT (by rfl) T.f_isinstance (by decide +kernel) (pa_cons (pv 0) (pa_cons (pe_tup (pa_cons (pe_bltn (v := .ty "list") rfl T.f_list (by decide +kernel) rfl) (pa_cons (pe_bltn (v := .ty "tuple") rfl T.f_tuple (by decide +kernel) rfl) pa_nil))) pa_nil))))) (pss_one (ps_ret (pe_cmpR op_eq (pv 0) (pv 1) (nomark _)))) pss_nil)
    (pss_cons (ps_if (pt_cmpR op_ne (pe_callB call_len_seq (by rfl) T.f_len (by decide +kernel) (pa_cons (pv 0) pa_nil)) (pe_callB call_len_seq (by rfl) T.f_len (by decide +kernel) (pa_cons (pv 1) pa_nil)) (nomark _)) (pss_one (ps_ret pe_bl)) pss_nil)
    (pss_one (ps_ret (pe_cmpR (op_eqD hr.units) (pe_lc (own := [("k", 2)]) (g := gName 2) rfl sc_law_alike.nd (pi_range1 rfl T.f_range (pa_cons (pe_callB call_len_seq (by rfl) T.f_len (by decide +kernel) (pa_cons (pv 0) pa_nil)) pa_nil)) (blkOk_by (own := [("k", 2)]) (N := ["one", "other", "k"]) (sc := defScope s_law_alike) (by decide +kernel)) (fun _ _ _ _ _ => (pg_name (i := 2) sc_law_alike.nd rfl (Or.inl rfl))) (fun _ _ _ _ _ => (pts_one (pt_not (pt_val (pe_c D_law_alike (hr.mono (by omega)) (pa_cons (pe_ix (r := rIx K) ix_seq (pv 0) (pv 2) (fun _ _ => rfl)) (pa_cons (pe_ix (r := rIx K) ix_seq (pv 1) (pv 2) (fun _ _ => rfl)) pa_nil))))))) (fun _ _ _ _ _ => (pv 2))) (pe_lst pa_nil) (nomark _)))))))), ?_⟩
    -- both readings of the kinds
    have hc : Lf x y ∨ ∃ m a b xs ys, n = m + 1 ∧ x = .ref a ∧ y = .ref b ∧ ((H a = some (.lst xs) ∧ H b = some (.lst ys)) ∨ (H a = some (.tup xs) ∧ H b = some (.tup ys))) ∧ xs.length ≤ 100000 ∧ Paired (AL H m) xs ys := by
      cases n with
      | zero => exact .inl hal
      | succ m =>
        rcases hal with h | ⟨a, b, xs, ys, h1, h2, h3, h4, h5⟩
        · exact .inl h
        · exact .inr ⟨m, a, b, xs, ys, rfl, h1, h2, h3, h4, h5⟩
    rcases hc with hl | ⟨m, a, b, xs, ys, rfl, rfl, rfl, h3, h4, h5⟩
    · obtain ⟨t, t2, sc, de⟩ := ty_lf (K := K) (H := H) hl
      refine ⟨_, rfl, _, .ty "bool", _, _, false, rfl, .ty "bool", t2.tx, kit_ty t2.nb, _, rfl, iteF ?_⟩
      refine ⟨_, rfl, _, .ty "list", _, _, _, rfl, .ty "list", t2.tx, kit_ty t2.li, _, rfl, _, .ty "list", _, _, _, rfl, .ty "list", t2.ty, kit_ty t2.li, rfl, _, rfl, iteF ?_⟩
      refine ⟨_, rfl, _, .ty "tuple", _, _, _, rfl, .ty "tuple", t2.tx, kit_ty t2.tu, _, rfl, _, .ty "tuple", _, _, _, rfl, .ty "tuple", t2.ty, kit_ty t2.tu, rfl, _, rfl, iteF ?_⟩
      refine ⟨_, rfl, by show 2 ≤ sizeLine; decide, fun tp htp => ?_⟩
      have s1 := same_new htp (.tup [.ty "list", .ty "tuple"])
      obtain ⟨t', t2', sc, de⟩ := ty_lf (K := K) (H := upd H tp (.tup [.ty "list", .ty "tuple"])) hl
      refine ⟨x, tp, [.ty "list", .ty "tuple"], _, [.type "list", .type "tuple"], false, rfl, upd_same, .cons (.ty _) (.cons (.ty _) .nil), t2'.tx, kitAny_cons (kit_ty t2'.li) (fun _ => kitAny_cons (kit_ty t2'.tu) (fun _ => rfl) (fun z => nomatch z)) (fun z => nomatch z), _, rfl, iteT ?_⟩
      refine ⟨_, rfl, _, rfl, sc, ?_⟩
      rw [de]
      exact k _ s1
    · have hlen := Paired.len h5
      rcases h3 with ⟨ha, hb⟩ | ⟨ha, hb⟩
      · have t2 := ty_lst (K := K) ha hb
        refine ⟨_, rfl, _, .ty "bool", _, _, false, rfl, .ty "bool", t2.tx, kit_ty t2.nb, _, rfl, iteF ?_⟩
        refine ⟨_, rfl, _, .ty "list", _, _, _, rfl, .ty "list", t2.tx, kit_ty t2.li, _, rfl, _, .ty "list", _, _, _, rfl, .ty "list", t2.ty, kit_ty t2.li, rfl, _, rfl, iteF ?_⟩
        refine ⟨_, rfl, _, .ty "tuple", _, _, _, rfl, .ty "tuple", t2.tx, kit_ty t2.tu, _, rfl, _, .ty "tuple", _, _, _, rfl, .ty "tuple", t2.ty, kit_ty t2.tu, rfl, _, rfl, iteF ?_⟩
        refine ⟨_, rfl, by show 2 ≤ sizeLine; decide, fun tp htp => ?_⟩
        have s1 := same_new htp (.tup [.ty "list", .ty "tuple"])
        have t2' := ty_lst (K := K) (s1 _ _ ha) (s1 _ _ hb)
        refine ⟨_, tp, [.ty "list", .ty "tuple"], _, [.type "list", .type "tuple"], true, rfl, upd_same, .cons (.ty _) (.cons (.ty _) .nil), t2'.tx, kitAny_cons (kit_ty t2'.li) (fun z => nomatch z) (fun _ => rfl), _, rfl, iteF ?_⟩
        have sa : ∀ {H'}, Same H H' → SqL K H' a xs ∨ SqT K H' a xs := fun s => .inl (SqL.of (s _ _ ha))
        have sb : ∀ {H'}, Same H H' → SqL K H' b ys ∨ SqT K H' b ys := fun s => .inl (SqL.of (s _ _ hb))
        have ixa : ∀ {H'} {i : Int} {u : V} {R : VK}, Same H H' → atI xs i = some u → R u H' → rIx K (.ref a) (.int i) H' R := fun s e r => .inl ⟨a, xs, _, _, rfl, rfl, SqL.of (s _ _ ha), e, r⟩
        have ixb : ∀ {H'} {i : Int} {u : V} {R : VK}, Same H H' → atI ys i = some u → R u H' → rIx K (.ref b) (.int i) H' R := fun s e r => .inl ⟨b, ys, _, _, rfl, rfl, SqL.of (s _ _ hb), e, r⟩
        -- the lengths
        refine ⟨_, rfl, a, xs, rfl, sa s1, _, rfl, b, ys, rfl, sb s1, rfl, _, rfl, ?_⟩
        rw [show (!decide (V.int ((xs.length : Nat) : Int) = V.int ((ys.length : Nat) : Int))) = false from by rw [hlen]; simp]
        refine iteF ?_
        refine ⟨_, rfl, a, xs, rfl, sa s1, _, rfl, by omega, by omega, fun D hD => lc_range (n := ((xs.length : Nat) : Int).toNat) (fun i H' => Same (upd H tp (.tup [.ty "list", .ty "tuple"])) H' ∧ H' D = some (.lst [])) ⟨same_mut (Same.refl _) hD, upd_same⟩ ?_ ?_⟩
        · rintro i H' hi ⟨s2, hD2⟩
          have hil : i < xs.length := by omega
          have s12 := s1.trans s2
          obtain ⟨u, hu1⟩ : ∃ u, xs[i]? = some u := ⟨xs[i], List.getElem?_eq_getElem hil⟩
          obtain ⟨v, hv1, huv⟩ := Paired.get_l h5 hu1
          have e0 : (0 : Int) + (i : Nat) = ((i : Nat) : Int) := by omega
          refine ⟨rfl, ?_⟩
          refine ⟨_, rfl, _, rfl, ixa s12 (at_of e0 hu1) ⟨_, rfl, _, rfl, ixb s12 (at_of e0 hv1) ?_⟩⟩
          refine ⟨u, v, m, rfl, rfl, huv.same s12, fun H3 s3 => ⟨_, rfl, iteF ⟨s2.trans s3, s3 _ _ hD2⟩⟩⟩
        · rintro H' ⟨s2, hD2⟩
          refine ⟨Nat.zero_le _, fun q hq => ?_⟩
          refine eq_nilI (ns := []) (SqL.of (same_new hq _ _ _ hD2)) (SqL.of upd_same) ?_
          exact k _ (s1.trans (s2.trans (same_new hq _)))
      · have t2 := ty_tup (K := K) ha hb
        refine ⟨_, rfl, _, .ty "bool", _, _, false, rfl, .ty "bool", t2.tx, kit_ty t2.nb, _, rfl, iteF ?_⟩
        refine ⟨_, rfl, _, .ty "list", _, _, _, rfl, .ty "list", t2.tx, kit_ty t2.li, _, rfl, _, .ty "list", _, _, _, rfl, .ty "list", t2.ty, kit_ty t2.li, rfl, _, rfl, iteF ?_⟩
        refine ⟨_, rfl, _, .ty "tuple", _, _, _, rfl, .ty "tuple", t2.tx, kit_ty t2.tu, _, rfl, _, .ty "tuple", _, _, _, rfl, .ty "tuple", t2.ty, kit_ty t2.tu, rfl, _, rfl, iteF ?_⟩
        refine ⟨_, rfl, by show 2 ≤ sizeLine; decide, fun tp htp => ?_⟩
        have s1 := same_new htp (.tup [.ty "list", .ty "tuple"])
        have t2' := ty_tup (K := K) (s1 _ _ ha) (s1 _ _ hb)
        refine ⟨_, tp, [.ty "list", .ty "tuple"], _, [.type "list", .type "tuple"], true, rfl, upd_same, .cons (.ty _) (.cons (.ty _) .nil), t2'.tx, kitAny_cons (kit_ty t2'.li) (fun _ => kitAny_cons (kit_ty t2'.tu) (fun z => nomatch z) (fun _ => rfl)) (fun z => nomatch z), _, rfl, iteF ?_⟩
        have sa : ∀ {H'}, Same H H' → SqL K H' a xs ∨ SqT K H' a xs := fun s => .inr (SqT.of (s _ _ ha))
        have sb : ∀ {H'}, Same H H' → SqL K H' b ys ∨ SqT K H' b ys := fun s => .inr (SqT.of (s _ _ hb))
        have ixa : ∀ {H'} {i : Int} {u : V} {R : VK}, Same H H' → atI xs i = some u → R u H' → rIx K (.ref a) (.int i) H' R := fun s e r => .inr (.inl ⟨a, xs, _, _, rfl, rfl, SqT.of (s _ _ ha), e, r⟩)
        have ixb : ∀ {H'} {i : Int} {u : V} {R : VK}, Same H H' → atI ys i = some u → R u H' → rIx K (.ref b) (.int i) H' R := fun s e r => .inr (.inl ⟨b, ys, _, _, rfl, rfl, SqT.of (s _ _ hb), e, r⟩)
        -- the lengths
        refine ⟨_, rfl, a, xs, rfl, sa s1, _, rfl, b, ys, rfl, sb s1, rfl, _, rfl, ?_⟩
        rw [show (!decide (V.int ((xs.length : Nat) : Int) = V.int ((ys.length : Nat) : Int))) = false from by rw [hlen]; simp]
        refine iteF ?_
        refine ⟨_, rfl, a, xs, rfl, sa s1, _, rfl, by omega, by omega, fun D hD => lc_range (n := ((xs.length : Nat) : Int).toNat) (fun i H' => Same (upd H tp (.tup [.ty "list", .ty "tuple"])) H' ∧ H' D = some (.lst [])) ⟨same_mut (Same.refl _) hD, upd_same⟩ ?_ ?_⟩
        · rintro i H' hi ⟨s2, hD2⟩
          have hil : i < xs.length := by omega
          have s12 := s1.trans s2
          obtain ⟨u, hu1⟩ : ∃ u, xs[i]? = some u := ⟨xs[i], List.getElem?_eq_getElem hil⟩
          obtain ⟨v, hv1, huv⟩ := Paired.get_l h5 hu1
          have e0 : (0 : Int) + (i : Nat) = ((i : Nat) : Int) := by omega
          refine ⟨rfl, ?_⟩
          refine ⟨_, rfl, _, rfl, ixa s12 (at_of e0 hu1) ⟨_, rfl, _, rfl, ixb s12 (at_of e0 hv1) ?_⟩⟩
          refine ⟨u, v, m, rfl, rfl, huv.same s12, fun H3 s3 => ⟨_, rfl, iteF ⟨s2.trans s3, s3 _ _ hD2⟩⟩⟩
        · rintro H' ⟨s2, hD2⟩
          refine ⟨Nat.zero_le _, fun q hq => ?_⟩
          refine eq_nilI (ns := []) (SqL.of (same_new hq _ _ _ hD2)) (SqL.of upd_same) ?_
          exact k _ (s1.trans (s2.trans (same_new hq _)))
end
end L2.K17

set_option maxHeartbeats 4000000
/-! the decks; worths; sayings -/
namespace L2.K17
open PySem L2
def DeckH (H : Hp) (a : Addr) : Prop := ∃ c k t : Int, H a = some (.lst [.int c, .int k, .int t])
theorem DeckH.same {H H' : Hp} {a : Addr} (h : DeckH H a) (s : Same H H') : DeckH H' a := by
  obtain ⟨c, k, t, h⟩ := h
  exact ⟨c, k, t, s _ _ h⟩
theorem Keep.same {a : Addr} {H H' : Hp} (s : Same H H') : Keep a H H' := fun b o _ e => s b o e
theorem Keep.tup {a : Addr} {H H' : Hp} (h : Keep a H H') (d : DeckH H a) : TupS H H' := fun b xs e => h b _ (by
  obtain ⟨c, k, t, d⟩ := d
  exact fun z => by
    rw [z, d] at e
    cases e) e
theorem atI_mem {xs : List V} {r : Int} (h0 : 0 ≤ r) (h1 : r < xs.length) : ∃ v, atI xs r = some v ∧ v ∈ xs := by
  obtain ⟨j, rfl⟩ : ∃ j : Nat, r = j := ⟨r.toNat, by omega⟩
  have hj : j < xs.length := by omega
  exact ⟨xs[j], atI_nat (List.getElem?_eq_getElem hj), List.getElem_mem hj⟩
theorem DeckH.ne {H : Hp} {a p : Addr} (h : DeckH H a) (hp : H p = none) : p ≠ a := by
  obtain ⟨c, k, t, h⟩ := h
  exact (ne_of_none h hp).symm
def spDeck : Sp := fun vs H Q _ => ∃ c t : Int, vs = [.int c, .int t] ∧ ∀ H' a, H a = none → Same H H' → DeckH H' a → Q (.ref a) H'
def spPick : Sp := fun vs H Q _ => ∃ (a : Addr) (m : Int), vs = [.ref a, .int m] ∧ DeckH H a ∧ 0 < m ∧ m < 2 ^ 60 ∧ ∀ H' r, Keep a H H' → DeckH H' a → 0 ≤ r → r < m → Q (.int r) H'
def spName : Sp := fun vs H Q _ => ∃ a : Addr, vs = [.ref a] ∧ DeckH H a ∧ ∀ H' x, Keep a H H' → DeckH H' a → Q (.str x) H'
def spWorthG : Sp := fun vs H Q _ => ∃ a : Addr, vs = [.ref a] ∧ DeckH H a ∧ ∀ H' w, Keep a H H' → DeckH H' a → Sm w → Q (wv w) H'
def spSaying (d : Nat) : Sp := fun vs H Q _ => ∃ (a : Addr) (n : Nat), vs = [.ref a, .int (n : Int)] ∧ 1 ≤ n ∧ n ≤ d ∧ DeckH H a ∧ ∀ H' v e, Keep a H H' → DeckH H' a → SayH H' e v → e.ok → e.depth ≤ n → Q v H'
section
variable {P : Program} {w : World} {K : PySem.W.Frag} {mg : Str → Option Value} {base : Heap}
theorem sc_law_deck : FnScope ["cell", "turn"] ["cell", "turn"] (defScope s_law_deck) := ⟨rfl, rfl, rfl, by decide +kernel, rfl, by decide +kernel, by decide +kernel⟩
theorem D_law_deck (T : Tx K mg) : Def1 P w K mg base 1 "_law_deck" ["cell", "turn"] spDeck := by
  refine T.mk1 (st := s_law_deck) 7 7 rfl rfl sc_law_deck (fun _ _ _ _ _ _ us hl => match us, hl with | [_, _], _ => rfl) (fun vs H Q E h => ?_) (fun cdv A outer s H vs Q E hr h => ?_)
  · obtain ⟨_, _, rfl, _⟩ := h
    rfl
  obtain ⟨c, t, rfl, k⟩ := h
  refine ⟨_, (pss_cons (ps_if (pt_cmpR op_ge (pv 0) (pe_op op_pow pe_int pe_int) (nomark _)) (pss_one (ps_ret (pe_lst (pa_cons (pe_op op_sub (pv 0) (pe_op op_pow pe_int pe_int)) (pa_cons pe_int (pa_cons (pv 1) pa_nil)))))) pss_nil)
    (pss_one (ps_ret (pe_lst (pa_cons (pv 0) (pa_cons pe_int (pa_cons (pv 1) pa_nil))))))), ?_⟩
  refine ⟨_, rfl, _, _, rfl, rfl, ⟨by decide, by decide, by decide⟩, _, _, rfl, rfl, _, rfl, ?_⟩
  refine ite2 (fun _ => ?_) (fun _ => ?_)
  · refine ⟨_, rfl, _, _, rfl, rfl, ⟨by decide, by decide, by decide⟩, _, _, rfl, rfl, _, rfl, by show 3 ≤ sizeLine; decide, fun p hp => ?_⟩
    exact k _ p hp (same_new hp _) ⟨_, _, _, upd_same⟩
  · refine ⟨_, rfl, _, rfl, by show 3 ≤ sizeLine; decide, fun p hp => ?_⟩
    exact k _ p hp (same_new hp _) ⟨_, _, _, upd_same⟩
theorem sc_law_pick : FnScope ["deck", "many", "found", "number"] ["deck", "many"] (defScope s_law_pick) := ⟨rfl, rfl, rfl, by decide +kernel, rfl, by decide +kernel, by decide +kernel⟩
theorem D_law_pick (T : Tx K mg) : Def1 P w K mg base 1 "_law_pick" ["deck", "many"] spPick := by
  refine T.mk1 (st := s_law_pick) 8 8 rfl rfl sc_law_pick (fun _ _ _ _ _ _ us hl => match us, hl with | [_, _], _ => rfl) (fun vs H Q E h => ?_) (fun cdv A outer s H vs Q E hr h => ?_)
  · obtain ⟨_, _, rfl, _⟩ := h
    rfl
  obtain ⟨a, m, rfl, ⟨c, z, t, h⟩, hm, hm2, k⟩ := h
  refine ⟨_, (pss_cons (ps_asg (pe_op op_add (pe_ix ix_list (pv 0) pe_int (fun _ _ => rfl)) pe_int) (pg_sub (pv 0) pe_int set_list))
    (pss_cons (ps_if (pt_cmpR op_eq (pe_ix ix_list (pv 0) pe_int (fun _ _ => rfl)) pe_int (nomark _)) (pss_cons (ps_set (i := 2) sc_law_pick.nd rfl (Or.inl rfl) (pe_op op_mod (pe_ix ix_list (pv 0) pe_int (fun _ _ => rfl)) (pv 1)))
    (pss_cons (ps_asg (pe_op op_fdivW (pe_ix ix_list (pv 0) pe_int (fun _ _ => rfl)) (pv 1)) (pg_sub (pv 0) pe_int set_list))
    (pss_one (ps_ret (pv 2))))) pss_nil)
    (pss_cons (ps_set (i := 3) sc_law_pick.nd rfl (Or.inl rfl) (pe_op op_mod (pe_op op_add (pe_ix ix_list (pv 0) pe_int (fun _ _ => rfl)) (pe_op op_mul pe_int (pe_ix ix_list (pv 0) pe_int (fun _ _ => rfl)))) pe_int))
    (pss_cons (ps_set (i := 3) sc_law_pick.nd rfl (Or.inl rfl) (pe_op op_mod (pe_op op_mul (pv 3) (pv 3)) pe_int))
    (pss_one (ps_ret (pe_op op_mod (pe_op op_fdiv (pe_op op_mod (pe_op op_mul (pv 3) (pe_op op_add (pe_op op_add (pv 3) pe_int) (pe_op op_mul pe_int (pe_ix ix_list (pv 0) pe_int (fun _ _ => rfl))))) pe_int) pe_int) (pv 1)))))))), ?_⟩
  refine ⟨_, rfl, a, _, _, _, rfl, rfl, SqL.of h, rfl, _, _, rfl, rfl, _, rfl, a, _, 2, 2, rfl, rfl, h, rfl, ?_⟩
  obtain ⟨H1, eH1⟩ : ∃ H1, H1 = upd H a (.lst [.int c, .int z, .int (t + 1)]) := ⟨_, rfl⟩
  have h1 : H1 a = some (.lst [.int c, .int z, .int (t + 1)]) := by rw [eH1, upd_same]
  have k1 : Keep a H H1 := by rw [eH1]; exact Keep.put
  show tSeq _ _ _ _ (upd H a (.lst [.int c, .int z, .int (t + 1)]))
  rw [← eH1]
  refine ⟨_, rfl, a, _, _, _, rfl, rfl, SqL.of h1, rfl, rfl, _, rfl, ?_⟩
  refine ite2 (fun _ => ?_) (fun _ => ?_)
  · refine ⟨_, rfl, a, _, _, _, rfl, rfl, SqL.of h1, rfl, _, rfl, _, _, rfl, rfl, hm, ?_⟩
    refine ⟨_, rfl, a, _, _, _, rfl, rfl, SqL.of h1, rfl, _, rfl, _, _, rfl, rfl, wide_div (b := 60) hm (by omega) (by decide) (by decide), _, rfl, a, _, 0, 0, rfl, rfl, h1, rfl, ?_⟩
    exact ⟨_, rfl, k _ _ (k1.trans Keep.put) ⟨_, _, _, upd_same⟩ (Int.emod_nonneg _ (by omega)) (Int.emod_lt_of_pos _ hm)⟩
  · have z1 : (0 : Int) < 2147483579 := by decide
    have z2 : (0 : Int) < 2147483563 := by decide
    have z3 : (0 : Int) < 2147483549 := by decide
    refine ⟨_, rfl, a, _, _, _, rfl, rfl, SqL.of h1, rfl, _, rfl, a, _, _, _, rfl, rfl, SqL.of h1, rfl, _, _, rfl, rfl, .inl ⟨by decide, by decide⟩, _, _, rfl, rfl, _, _, rfl, rfl, z1, ?_⟩
    have b1 : ∀ x : Int, 0 ≤ x % 2147483579 ∧ x % 2147483579 < 2147483579 := fun x => ⟨Int.emod_nonneg _ (by decide), Int.emod_lt_of_pos _ (by decide)⟩
    have b2 : ∀ x : Int, 0 ≤ x % 2147483563 ∧ x % 2147483563 < 2147483563 := fun x => ⟨Int.emod_nonneg _ (by decide), Int.emod_lt_of_pos _ (by decide)⟩
    have bb : ∀ (n x : Int), 0 ≤ n ∧ n < 2147483579 → CMul n x := fun n x hn => .inl ⟨by omega, by omega⟩
    refine ⟨_, rfl, _, rfl, _, _, rfl, rfl, bb _ _ (b1 _), _, _, rfl, rfl, z2, ?_⟩
    refine ⟨_, rfl, _, rfl, _, _, rfl, rfl, _, rfl, a, _, _, _, rfl, rfl, SqL.of h1, rfl, _, _, rfl, rfl, .inl ⟨by decide, by decide⟩, _, _, rfl, rfl, _, _, rfl, rfl, bb _ _ ⟨(b2 _).1, by have := (b2 ((c + 15485867 * (t + 1)) % 2147483579 * ((c + 15485867 * (t + 1)) % 2147483579))).2; omega⟩, _, _, rfl, rfl, z3, _, _, rfl, rfl, ⟨by decide, by decide⟩, _, rfl, _, _, rfl, rfl, hm, ?_⟩
    exact k _ _ k1 ⟨_, _, _, h1⟩ (Int.emod_nonneg _ (by omega)) (Int.emod_lt_of_pos _ hm)
theorem sc_law_name : FnScope ["deck"] ["deck"] (defScope s_law_name) := ⟨rfl, rfl, rfl, by decide +kernel, rfl, by decide +kernel, by decide +kernel⟩
theorem D_law_name (T : Tx K mg) : Def1 P w K mg base 2 "_law_name" ["deck"] spName := by
  have D_law_pick : Def1 P w K mg base 1 "_law_pick" ["deck", "many"] spPick := D_law_pick T
  refine T.mk1 (st := s_law_name) 9 9 rfl rfl sc_law_name (fun _ _ _ _ _ _ us hl => match us, hl with | [_], _ => rfl) (fun vs H Q E h => ?_) (fun cdv A outer s H vs Q E hr h => ?_)
  · obtain ⟨_, rfl, _⟩ := h
    rfl
  obtain ⟨a, rfl, hd, k⟩ := h
  refine ⟨_, (pss_one (ps_ret (pe_ix ix_list (pe_lst (pa_cons pe_str (pa_cons pe_str (pa_cons pe_str (pa_cons pe_str pa_nil))))) (pe_c D_law_pick (hr.mono (by omega)) (pa_cons (pv 0) (pa_cons pe_int pa_nil))) (fun _ _ => rfl)))), ?_⟩
  refine ⟨by show 4 ≤ sizeLine; decide, fun p hp => ?_⟩
  have s1 := same_new hp (.lst [.str "paid", .str "pay", .str "p", .str "go"])
  refine ⟨_, rfl, a, 4, rfl, hd.same s1, by decide, by decide, fun H1 r k1 d1 r0 r1 => ?_⟩
  obtain ⟨v, hv, hm⟩ := atI_mem (xs := [.str "paid", .str "pay", .str "p", .str "go"]) r0 r1
  obtain ⟨x, rfl⟩ : ∃ x, v = .str x := by
    simp only [List.mem_cons, List.not_mem_nil, or_false] at hm
    rcases hm with h | h | h | h <;> exact ⟨_, h⟩
  exact ⟨p, _, _, _, rfl, rfl, SqL.of (k1 _ _ (hd.ne hp) upd_same), hv, k _ x ((Keep.same s1).trans k1) d1⟩
theorem sc_law_worth : FnScope ["deck", "kind"] ["deck"] (defScope s_law_worth) := ⟨rfl, rfl, rfl, by decide +kernel, rfl, by decide +kernel, by decide +kernel⟩
theorem D_law_worth (T : Tx K mg) : Def1 P w K mg base 2 "_law_worth" ["deck"] spWorthG := by
  have D_law_pick : Def1 P w K mg base 1 "_law_pick" ["deck", "many"] spPick := D_law_pick T
  refine T.mk1 (st := s_law_worth) 10 10 rfl rfl sc_law_worth (fun _ _ _ _ _ _ us hl => match us, hl with | [_], _ => rfl) (fun vs H Q E h => ?_) (fun cdv A outer s H vs Q E hr h => ?_)
  · obtain ⟨_, rfl, _⟩ := h
    rfl
  obtain ⟨a, rfl, hd, k⟩ := h
  refine ⟨_, (pss_cons (ps_set (i := 1) sc_law_worth.nd rfl (Or.inl rfl) (pe_c D_law_pick (hr.mono (by omega)) (pa_cons (pv 0) (pa_cons pe_int pa_nil))))
    (pss_cons (ps_if (pt_cmpR op_eq (pv 1) pe_int (nomark _)) (pss_one (ps_ret pe_non)) pss_nil)
    (pss_cons (ps_if (pt_cmpR op_eq (pv 1) pe_int (nomark _)) (pss_one (ps_ret (pe_ix ix_list (pe_lst (pa_cons (pe_op op_pow pe_int pe_int) (pa_cons (pe_un un_neg (pe_op op_pow pe_int pe_int)) (pa_cons (pe_op op_mul pe_int (pe_op op_pow pe_int pe_int)) (pa_cons (pe_un un_neg pe_int) pa_nil))))) (pe_c D_law_pick (hr.mono (by omega)) (pa_cons (pv 0) (pa_cons pe_int pa_nil))) (fun _ _ => rfl)))) pss_nil)
    (pss_one (ps_ret (pe_c D_law_pick (hr.mono (by omega)) (pa_cons (pv 0) (pa_cons pe_int pa_nil)))))))), ?_⟩
  refine ⟨_, rfl, a, 8, rfl, hd, by decide, by decide, fun H1 r k1 d1 r0 r1 => ?_⟩
  refine ⟨_, rfl, rfl, _, rfl, ?_⟩
  refine ite2 (fun _ => ?_) (fun _ => ?_)
  · exact k _ none k1 d1 Sm.none
  refine ⟨_, rfl, rfl, _, rfl, ?_⟩
  refine ite2 (fun _ => ?_) (fun _ => ?_)
  · have pw : CPow 10 9 := ⟨by decide, by decide, by decide⟩
    have pw8 : CPow 10 8 := ⟨by decide, by decide, by decide⟩
    refine ⟨_, _, rfl, rfl, pw, _, _, rfl, rfl, pw, _, rfl, _, _, rfl, rfl, pw8, _, _, rfl, rfl, .inl ⟨by decide, by decide⟩, _, rfl, by show 4 ≤ sizeLine; decide, fun p hp => ?_⟩
    refine ⟨_, rfl, a, 4, rfl, d1.same (same_new hp _), by decide, by decide, fun H2 r k2 d2 r0 r1 => ?_⟩
    obtain ⟨v, hv, hm⟩ := atI_mem (xs := [.int (10 ^ (9 : Int).toNat), .int (-(10 ^ (9 : Int).toNat)), .int (5 * 10 ^ (8 : Int).toNat), .int (-3)]) r0 r1
    obtain ⟨x, rfl, hx⟩ : ∃ x : Int, v = .int x ∧ (-1000000000 ≤ x ∧ x ≤ 1000000000) := by
      simp only [List.mem_cons, List.not_mem_nil, or_false] at hm
      rcases hm with h | h | h | h
      · exact ⟨_, h, by decide, by decide⟩
      · exact ⟨_, h, by decide, by decide⟩
      · exact ⟨_, h, by decide, by decide⟩
      · exact ⟨_, h, by decide, by decide⟩
    exact ⟨p, _, _, _, rfl, rfl, SqL.of (k2 _ _ (d1.ne hp) upd_same), hv, k _ (some x) (k1.trans ((Keep.same (same_new hp _)).trans k2)) d2 (Sm.some hx.1 hx.2)⟩
  · refine ⟨_, rfl, a, 5, rfl, d1, by decide, by decide, fun H2 r k2 d2 r0 r1 => ?_⟩
    exact k _ (some r) (k1.trans k2) d2 (Sm.some (by omega) (by omega))
theorem sc_law_saying : FnScope ["deck", "deep", "kind", "one"] ["deck", "deep"] (defScope s_law_saying) := ⟨rfl, rfl, rfl, by decide +kernel, rfl, by decide +kernel, by decide +kernel⟩
theorem D_law_saying (T : Tx K mg) : ∀ d : Nat, Def1 P w K mg base (d + 3) "_law_saying" ["deck", "deep"] (spSaying d)
  | 0 => by
    refine T.mk1 (st := s_law_saying) 11 11 rfl rfl sc_law_saying (fun _ _ _ _ _ _ us hl => match us, hl with | [_, _], _ => rfl) (fun vs H Q E h => ?_) (fun cdv A outer s H vs Q E hr h => ?_)
    · obtain ⟨_, _, rfl, _⟩ := h
      rfl
    · obtain ⟨_, _, rfl, h1, h2, _⟩ := h
      omega
  | d + 1 => by
    have D_law_pick : Def1 P w K mg base 1 "_law_pick" ["deck", "many"] spPick := D_law_pick T
    have D_law_name : Def1 P w K mg base 2 "_law_name" ["deck"] spName := D_law_name T
    have D_law_saying : Def1 P w K mg base (d + 3) "_law_saying" ["deck", "deep"] (spSaying d) := D_law_saying T d
    refine T.mk1 (st := s_law_saying) 11 11 rfl rfl sc_law_saying (fun _ _ _ _ _ _ us hl => match us, hl with | [_, _], _ => rfl) (fun vs H Q E h => ?_) (fun cdv A outer s H vs Q E hr h => ?_)
    · obtain ⟨_, _, rfl, _⟩ := h
      rfl
    obtain ⟨a, n, rfl, hn1, hn, hd, k⟩ := h
    refine ⟨_, (pss_cons (ps_set (i := 2) sc_law_saying.nd rfl (Or.inl rfl) (pe_c D_law_pick (hr.mono (by omega)) (pa_cons (pv 0) (pa_cons pe_int pa_nil))))
    (pss_cons (ps_if (pt_cmpR op_lt (pv 2) pe_int (nomark _)) (pss_one (ps_ret (pe_tup (pa_cons pe_str (pa_cons (pe_c D_law_name (hr.mono (by omega)) (pa_cons (pv 0) pa_nil)) pa_nil))))) pss_nil)
    (pss_cons (ps_if (PW.pt (pw_or (pt_cmpR op_lt (pv 2) pe_int (nomark _)) (pw_or1 (pt_cmpR op_lt (pv 1) pe_int (nomark _))))) (pss_one (ps_ret (pe_ix ix_list (pe_lst (pa_cons (pe_tup (pa_cons pe_str (pa_cons (pe_c D_law_pick (hr.mono (by omega)) (pa_cons (pv 0) (pa_cons pe_int pa_nil))) pa_nil))) (pa_cons (pe_tup (pa_cons pe_str pa_nil)) (pa_cons (pe_tup (pa_cons pe_str pa_nil)) (pa_cons (pe_tup (pa_cons pe_str pa_nil)) (pa_cons (pe_tup (pa_cons pe_str (pa_cons (pe_un un_neg pe_int) pa_nil))) pa_nil)))))) (pe_c D_law_pick (hr.mono (by omega)) (pa_cons (pv 0) (pa_cons pe_int pa_nil))) (fun _ _ => rfl)))) pss_nil)
    (pss_cons (ps_if (pt_cmpR op_eq (pv 2) pe_int (nomark _)) (pss_one (ps_ret (pe_tup (pa_cons pe_str (pa_cons (pe_ix ix_list (pe_lst (pa_cons (pe_op op_pow pe_int pe_int) (pa_cons (pe_un un_neg (pe_op op_pow pe_int pe_int)) (pa_cons pe_int (pa_cons pe_int pa_nil))))) (pe_c D_law_pick (hr.mono (by omega)) (pa_cons (pv 0) (pa_cons pe_int pa_nil))) (fun _ _ => rfl)) pa_nil))))) pss_nil)
    (pss_cons (ps_if (pt_cmpR op_eq (pv 2) pe_int (nomark _)) (pss_one (ps_ret (pe_tup (pa_cons pe_str (pa_cons (pe_c D_law_saying (hr.mono (by omega)) (pa_cons (pv 0) (pa_cons (pe_op op_sub (pv 1) pe_int) pa_nil))) pa_nil))))) pss_nil)
    (pss_cons (ps_if (pt_cmpR op_eq (pv 2) pe_int (nomark _)) (pss_one (ps_ret (pe_tup (pa_cons pe_str (pa_cons (pe_c D_law_saying (hr.mono (by omega)) (pa_cons (pv 0) (pa_cons (pe_op op_sub (pv 1) pe_int) pa_nil))) pa_nil))))) pss_nil)
    (pss_cons (ps_set (i := 3) sc_law_saying.nd rfl (Or.inl rfl) (pe_c D_law_saying (hr.mono (by omega)) (pa_cons (pv 0) (pa_cons (pe_op op_sub (pv 1) pe_int) pa_nil))))
    (pss_one (ps_ret (pe_tup (pa_cons (pe_ix ix_list (pe_lst (pa_cons pe_str (pa_cons pe_str (pa_cons pe_str (pa_cons pe_str (pa_cons pe_str pa_nil)))))) (pe_c D_law_pick (hr.mono (by omega)) (pa_cons (pv 0) (pa_cons pe_int pa_nil))) (fun _ _ => rfl)) (pa_cons (pv 3) (pa_cons (pe_c D_law_saying (hr.mono (by omega)) (pa_cons (pv 0) (pa_cons (pe_op op_sub (pv 1) pe_int) pa_nil))) pa_nil))))))))))))), ?_⟩
    refine ⟨_, rfl, a, 12, rfl, hd, by decide, by decide, fun H1 r k1 d1 r0 r1 => ?_⟩
    refine ⟨_, rfl, _, _, rfl, rfl, _, rfl, ?_⟩
    refine ite2 (fun _ => ?_) (fun _ => ?_)
    · refine ⟨_, rfl, a, rfl, d1, fun H2 x k2 d2 => ⟨by show 2 ≤ sizeLine; decide, fun p hp => ?_⟩⟩
      have s := same_new hp (.tup [.str "name", .str x])
      exact k _ _ (.name x) (k1.trans (k2.trans (Keep.same s))) (d2.same s) ⟨p, rfl, upd_same⟩ True.intro hn1
    -- a leaf
    refine ⟨_, rfl, _, _, rfl, rfl, _, rfl, ?_⟩
    refine ite2 (fun _ => iteT ?_) (fun _ => ?_)
    · skip
      refine ⟨_, rfl, a, 5, rfl, d1, by decide, by decide, fun H2 z k2 d2 z0 z1 => ?_⟩
      refine ⟨by show 2 ≤ sizeLine; decide, fun p1 hp1 => ⟨by show 1 ≤ sizeLine; decide, fun p2 hp2 => ⟨by show 1 ≤ sizeLine; decide, fun p3 hp3 => ⟨by show 1 ≤ sizeLine; decide, fun p4 hp4 => ⟨_, rfl, by show 2 ≤ sizeLine; decide, fun p5 hp5 => ⟨by show 5 ≤ sizeLine; decide, fun l hl => ?_⟩⟩⟩⟩⟩⟩
      have q1 := same_new hp1 (.tup [.str "number", .int z])
      have q2 := same_new hp2 (.tup [.str "none"])
      have q3 := same_new hp3 (.tup [.str "arg"])
      have q4 := same_new hp4 (.tup [.str "now"])
      have q5 := same_new hp5 (.tup [.str "number", .int (-7)])
      have q6 := same_new hl (.lst [.ref p1, .ref p2, .ref p3, .ref p4, .ref p5])
      have dl := ((((d2.same q1).same q2).same q3).same q4).same q5
      refine ⟨_, rfl, a, 5, rfl, dl.same q6, by decide, by decide, fun H3 i k3 d3 i0 i1 => ?_⟩
      obtain ⟨v, hv, hm⟩ := atI_mem (xs := [.ref p1, .ref p2, .ref p3, .ref p4, .ref p5]) i0 i1
      have t3 := k3.tup (dl.same q6)
      refine ⟨l, _, _, _, rfl, rfl, SqL.of (k3 _ _ (dl.ne hl) upd_same), hv, ?_⟩
      have kk := k1.trans (k2.trans ((Keep.same (q1.trans (q2.trans (q3.trans (q4.trans (q5.trans q6)))))).trans k3))
      simp only [List.mem_cons, List.not_mem_nil, or_false] at hm
      rcases hm with h | h | h | h | h
      · subst h
        exact k _ _ (.num z) kk d3 ⟨p1, rfl, t3 _ _ (q6 _ _ (q5 _ _ (q4 _ _ (q3 _ _ (q2 _ _ upd_same)))))⟩ ⟨by omega, by omega⟩ hn1
      · subst h
        exact k _ _ .non kk d3 ⟨p2, rfl, t3 _ _ (q6 _ _ (q5 _ _ (q4 _ _ (q3 _ _ upd_same))))⟩ True.intro hn1
      · subst h
        exact k _ _ .arg kk d3 ⟨p3, rfl, t3 _ _ (q6 _ _ (q5 _ _ (q4 _ _ upd_same)))⟩ True.intro hn1
      · subst h
        exact k _ _ .now kk d3 ⟨p4, rfl, t3 _ _ (q6 _ _ (q5 _ _ upd_same))⟩ True.intro hn1
      · subst h
        exact k _ _ (.num (-7)) kk d3 ⟨p5, rfl, t3 _ _ (q6 _ _ upd_same)⟩ ⟨by decide, by decide⟩ hn1
    refine ⟨_, rfl, _, _, rfl, rfl, _, rfl, ?_⟩
    refine ite2 (fun _ => ?_) (fun hn2 => ?_)
    · skip
      refine ⟨_, rfl, a, 5, rfl, d1, by decide, by decide, fun H2 z k2 d2 z0 z1 => ?_⟩
      refine ⟨by show 2 ≤ sizeLine; decide, fun p1 hp1 => ⟨by show 1 ≤ sizeLine; decide, fun p2 hp2 => ⟨by show 1 ≤ sizeLine; decide, fun p3 hp3 => ⟨by show 1 ≤ sizeLine; decide, fun p4 hp4 => ⟨_, rfl, by show 2 ≤ sizeLine; decide, fun p5 hp5 => ⟨by show 5 ≤ sizeLine; decide, fun l hl => ?_⟩⟩⟩⟩⟩⟩
      have q1 := same_new hp1 (.tup [.str "number", .int z])
      have q2 := same_new hp2 (.tup [.str "none"])
      have q3 := same_new hp3 (.tup [.str "arg"])
      have q4 := same_new hp4 (.tup [.str "now"])
      have q5 := same_new hp5 (.tup [.str "number", .int (-7)])
      have q6 := same_new hl (.lst [.ref p1, .ref p2, .ref p3, .ref p4, .ref p5])
      have dl := ((((d2.same q1).same q2).same q3).same q4).same q5
      refine ⟨_, rfl, a, 5, rfl, dl.same q6, by decide, by decide, fun H3 i k3 d3 i0 i1 => ?_⟩
      obtain ⟨v, hv, hm⟩ := atI_mem (xs := [.ref p1, .ref p2, .ref p3, .ref p4, .ref p5]) i0 i1
      have t3 := k3.tup (dl.same q6)
      refine ⟨l, _, _, _, rfl, rfl, SqL.of (k3 _ _ (dl.ne hl) upd_same), hv, ?_⟩
      have kk := k1.trans (k2.trans ((Keep.same (q1.trans (q2.trans (q3.trans (q4.trans (q5.trans q6)))))).trans k3))
      simp only [List.mem_cons, List.not_mem_nil, or_false] at hm
      rcases hm with h | h | h | h | h
      · subst h
        exact k _ _ (.num z) kk d3 ⟨p1, rfl, t3 _ _ (q6 _ _ (q5 _ _ (q4 _ _ (q3 _ _ (q2 _ _ upd_same)))))⟩ ⟨by omega, by omega⟩ hn1
      · subst h
        exact k _ _ .non kk d3 ⟨p2, rfl, t3 _ _ (q6 _ _ (q5 _ _ (q4 _ _ (q3 _ _ upd_same))))⟩ True.intro hn1
      · subst h
        exact k _ _ .arg kk d3 ⟨p3, rfl, t3 _ _ (q6 _ _ (q5 _ _ (q4 _ _ upd_same)))⟩ True.intro hn1
      · subst h
        exact k _ _ .now kk d3 ⟨p4, rfl, t3 _ _ (q6 _ _ (q5 _ _ upd_same))⟩ True.intro hn1
      · subst h
        exact k _ _ (.num (-7)) kk d3 ⟨p5, rfl, t3 _ _ (q6 _ _ upd_same)⟩ ⟨by decide, by decide⟩ hn1
    have hn2 : 2 ≤ n := by
      have z : ¬ (n : Int) < 2 := fun q => hn2 (decide_eq_true q)
      omega
    have em : (n : Int) - 1 = ((n - 1 : Nat) : Int) := by omega
    -- a great number
    refine ⟨_, rfl, rfl, _, rfl, ?_⟩
    refine ite2 (fun _ => ?_) (fun _ => ?_)
    · have pw : CPow 10 9 := ⟨by decide, by decide, by decide⟩
      refine ⟨_, _, rfl, rfl, pw, _, _, rfl, rfl, pw, _, rfl, by show 4 ≤ sizeLine; decide, fun l hl => ?_⟩
      have q1 := same_new hl (.lst [.int (10 ^ (9 : Int).toNat), .int (-(10 ^ (9 : Int).toNat)), .int 999999998, .int 100000])
      refine ⟨_, rfl, a, 4, rfl, d1.same q1, by decide, by decide, fun H2 i k2 d2 i0 i1 => ?_⟩
      obtain ⟨v, hv, hm⟩ := atI_mem (xs := [.int (10 ^ (9 : Int).toNat), .int (-(10 ^ (9 : Int).toNat)), .int 999999998, .int 100000]) i0 i1
      obtain ⟨x, rfl, hx⟩ : ∃ x : Int, v = .int x ∧ (-1000000000 ≤ x ∧ x ≤ 1000000000) := by
        simp only [List.mem_cons, List.not_mem_nil, or_false] at hm
        rcases hm with h | h | h | h
        · exact ⟨_, h, by decide, by decide⟩
        · exact ⟨_, h, by decide, by decide⟩
        · exact ⟨_, h, by decide, by decide⟩
        · exact ⟨_, h, by decide, by decide⟩
      refine ⟨l, _, _, _, rfl, rfl, SqL.of (k2 _ _ (d1.ne hl) upd_same), hv, by show 2 ≤ sizeLine; decide, fun p hp => ?_⟩
      have s := same_new hp (.tup [.str "number", .int x])
      exact k _ _ (.num x) (k1.trans ((Keep.same q1).trans (k2.trans (Keep.same s)))) (d2.same s) ⟨p, rfl, upd_same⟩ hx hn1
    -- answer
    refine ⟨_, rfl, rfl, _, rfl, ?_⟩
    refine ite2 (fun _ => ?_) (fun _ => ?_)
    · refine ⟨_, rfl, _, rfl, _, _, rfl, rfl, a, n - 1, congrArg (fun z => [V.ref a, V.int z]) em, by omega, by omega, d1, fun H2 v e k2 d2 hv ho hd2 => ⟨by show 2 ≤ sizeLine; decide, fun p hp => ?_⟩⟩
      have s := same_new hp (.tup [.str "answer", v])
      exact k _ _ (.ans e) (k1.trans (k2.trans (Keep.same s))) (d2.same s) ⟨p, v, rfl, upd_same, hv.mono (TupS.of_same s)⟩ ho (by show e.depth + 1 ≤ n; omega)
    refine ⟨_, rfl, rfl, _, rfl, ?_⟩
    refine ite2 (fun _ => ?_) (fun _ => ?_)
    · refine ⟨_, rfl, _, rfl, _, _, rfl, rfl, a, n - 1, congrArg (fun z => [V.ref a, V.int z]) em, by omega, by omega, d1, fun H2 v e k2 d2 hv ho hd2 => ⟨by show 2 ≤ sizeLine; decide, fun p hp => ?_⟩⟩
      have s := same_new hp (.tup [.str "not", v])
      exact k _ _ (.neg e) (k1.trans (k2.trans (Keep.same s))) (d2.same s) ⟨p, v, rfl, upd_same, hv.mono (TupS.of_same s)⟩ ho (by show e.depth + 1 ≤ n; omega)
    -- two
    refine ⟨_, rfl, _, rfl, _, _, rfl, rfl, a, n - 1, congrArg (fun z => [V.ref a, V.int z]) em, by omega, by omega, d1, fun H2 v1 e1 k2 d2 hv1 ho1 hd1 => ?_⟩
    refine ⟨by show 5 ≤ sizeLine; decide, fun l hl => ?_⟩
    have q1 := same_new hl (.lst [.str "+", .str "-", .str "*", .str "<", .str "="])
    refine ⟨_, rfl, a, 5, rfl, d2.same q1, by decide, by decide, fun H3 i k3 d3 i0 i1 => ?_⟩
    obtain ⟨v, hv, hm⟩ := atI_mem (xs := [.str "+", .str "-", .str "*", .str "<", .str "="]) i0 i1
    obtain ⟨o, rfl⟩ : ∃ o : Op, v = .str o.str := by
      simp only [List.mem_cons, List.not_mem_nil, or_false] at hm
      rcases hm with h | h | h | h | h
      · exact ⟨.add, h⟩
      · exact ⟨.sub, h⟩
      · exact ⟨.mul, h⟩
      · exact ⟨.lt, h⟩
      · exact ⟨.eq, h⟩
    have t3 := k3.tup (d2.same q1)
    refine ⟨l, _, _, _, rfl, rfl, SqL.of (k3 _ _ (d2.ne hl) upd_same), hv, _, rfl, ?_⟩
    refine ⟨_, rfl, _, rfl, _, _, rfl, rfl, a, n - 1, congrArg (fun z => [V.ref a, V.int z]) em, by omega, by omega, d3, fun H4 v2 e2 k4 d4 hv2 ho2 hd2 => ⟨by show 3 ≤ sizeLine; decide, fun p hp => ?_⟩⟩
    have s := same_new hp (.tup [.str o.str, v1, v2])
    have t4 := k4.tup d3
    refine k _ _ (.bin o e1 e2) (k1.trans (k2.trans ((Keep.same q1).trans (k3.trans (k4.trans (Keep.same s)))))) (d4.same s) ⟨p, v1, v2, rfl, upd_same, hv1.mono ((TupS.of_same q1).trans (t3.trans (t4.trans (TupS.of_same s)))), hv2.mono (TupS.of_same s)⟩ ⟨ho1, ho2⟩ ?_
    show max e1.depth e2.depth + 1 ≤ n
    omega
end
end L2.K17

set_option maxHeartbeats 4000000
/-! statements -/
namespace L2.K17
open PySem L2
theorem str2 {x y : Str} {r : Int} (h0 : 0 ≤ r) (h1 : r < 2) : ∃ z, atI [V.str x, V.str y] r = some (.str z) := by
  obtain ⟨v, hv, hm⟩ := atI_mem (xs := [V.str x, V.str y]) h0 h1
  simp only [List.mem_cons, List.not_mem_nil, or_false] at hm
  rcases hm with h | h
  · exact ⟨x, by rw [hv, h]⟩
  · exact ⟨y, by rw [hv, h]⟩
theorem fit_of {e : Say} {n : Nat} (h : e.ok) (hd : e.depth ≤ n) (hn : n ≤ 4) : e.fit := ⟨h, Nat.le_trans hd hn⟩
def spStmt : Sp := fun vs H Q _ => ∃ a : Addr, vs = [.ref a] ∧ DeckH H a ∧ ∀ H' p us s, Keep a H H' → DeckH H' a → H' p = some (.tup us) → SimpH H' s us → s.ok → Q (.ref p) H'
theorem Keep.mut {a p : Addr} {H H' : Hp} {o : HO} (k : Keep a H H') (hp : H p = none) : Keep a H (upd H' p o) := fun b u n e => by
  rw [upd_ne (ne_of_none e hp)]
  exact k b u n e
theorem SaysH.snoc {H : Hp} {e : Say} {v : V} (h : SayH H e v) : ∀ {es : List Say} {vs : List V}, SaysH H es vs → SaysH H (es ++ [e]) (vs ++ [v])
  | [], _, q => by
    cases q
    exact ⟨v, [], rfl, h, rfl⟩
  | a :: es, vs, ⟨u, us, h1, h2, h3⟩ => by
    subst h1
    exact ⟨u, us ++ [v], rfl, h2, SaysH.snoc h h3⟩
section
variable {P : Program} {w : World} {K : PySem.W.Frag} {mg : Str → Option Value} {base : Heap}
theorem sc_law_plain : FnScope ["deck", "kind"] ["deck"] (defScope s_law_plain) := ⟨rfl, rfl, rfl, by decide +kernel, rfl, by decide +kernel, by decide +kernel⟩
theorem D_law_plain (T : Tx K mg) : Def1 P w K mg base 8 "_law_plain" ["deck"] spStmt := by
  have D_law_pick : Def1 P w K mg base 1 "_law_pick" ["deck", "many"] spPick := D_law_pick T
  have D_law_name : Def1 P w K mg base 2 "_law_name" ["deck"] spName := D_law_name T
  have D_law_saying : Def1 P w K mg base 7 "_law_saying" ["deck", "deep"] (spSaying 4) := D_law_saying T 4
  refine T.mk1 (st := s_law_plain) 12 12 rfl rfl sc_law_plain (fun _ _ _ _ _ _ us hl => match us, hl with | [_], _ => rfl) (fun vs H Q E h => ?_) (fun cdv A outer s H vs Q E hr h => ?_)
  · obtain ⟨_, rfl, _⟩ := h
    rfl
  obtain ⟨a, rfl, hd, k⟩ := h
  refine ⟨_, (pss_cons (ps_set (i := 1) sc_law_plain.nd rfl (Or.inl rfl) (pe_c D_law_pick (hr.mono (by omega)) (pa_cons (pv 0) (pa_cons pe_int pa_nil))))
    (pss_cons (ps_if (pt_cmpR op_lt (pv 1) pe_int (nomark _)) (pss_one (ps_ret (pe_tup (pa_cons pe_str (pa_cons (pe_c D_law_name (hr.mono (by omega)) (pa_cons (pv 0) pa_nil)) (pa_cons (pe_c D_law_saying (hr.mono (by omega)) (pa_cons (pv 0) (pa_cons pe_int pa_nil))) pa_nil)))))) pss_nil)
    (pss_cons (ps_if (pt_cmpR op_lt (pv 1) pe_int (nomark _)) (pss_one (ps_ret (pe_tup (pa_cons pe_str (pa_cons (pe_c D_law_name (hr.mono (by omega)) (pa_cons (pv 0) pa_nil)) (pa_cons (pe_ix ix_list (pe_lst (pa_cons pe_str (pa_cons pe_str pa_nil))) (pe_c D_law_pick (hr.mono (by omega)) (pa_cons (pv 0) (pa_cons pe_int pa_nil))) (fun _ _ => rfl)) (pa_cons (pe_c D_law_saying (hr.mono (by omega)) (pa_cons (pv 0) (pa_cons pe_int pa_nil))) pa_nil))))))) pss_nil)
    (pss_cons (ps_if (pt_cmpR op_eq (pv 1) pe_int (nomark _)) (pss_one (ps_ret (pe_tup (pa_cons pe_str (pa_cons (pe_c D_law_name (hr.mono (by omega)) (pa_cons (pv 0) pa_nil)) (pa_cons (pe_c D_law_saying (hr.mono (by omega)) (pa_cons (pv 0) (pa_cons pe_int pa_nil))) pa_nil)))))) pss_nil)
    (pss_cons (ps_if (pt_cmpR op_eq (pv 1) pe_int (nomark _)) (pss_one (ps_ret (pe_tup (pa_cons pe_str (pa_cons (pe_c D_law_name (hr.mono (by omega)) (pa_cons (pv 0) pa_nil)) (pa_cons (pe_ix ix_list (pe_lst (pa_cons pe_str (pa_cons pe_str pa_nil))) (pe_c D_law_pick (hr.mono (by omega)) (pa_cons (pv 0) (pa_cons pe_int pa_nil))) (fun _ _ => rfl)) (pa_cons (pe_c D_law_saying (hr.mono (by omega)) (pa_cons (pv 0) (pa_cons pe_int pa_nil))) pa_nil))))))) pss_nil)
    (pss_cons (ps_if (pt_cmpR op_eq (pv 1) pe_int (nomark _)) (pss_one (ps_ret (pe_tup (pa_cons pe_str (pa_cons (pe_c D_law_saying (hr.mono (by omega)) (pa_cons (pv 0) (pa_cons pe_int pa_nil))) (pa_cons (pe_ix ix_list (pe_lst (pa_cons pe_str (pa_cons pe_str pa_nil))) (pe_c D_law_pick (hr.mono (by omega)) (pa_cons (pv 0) (pa_cons pe_int pa_nil))) (fun _ _ => rfl)) (pa_cons (pe_c D_law_saying (hr.mono (by omega)) (pa_cons (pv 0) (pa_cons pe_int pa_nil))) pa_nil))))))) pss_nil)
    (pss_one (ps_ret (pe_tup (pa_cons pe_str (pa_cons (pe_c D_law_saying (hr.mono (by omega)) (pa_cons (pv 0) (pa_cons pe_int pa_nil))) pa_nil))))))))))), ?_⟩
  refine ⟨_, rfl, a, 8, rfl, hd, by decide, by decide, fun H1 r k1 d1 r0 r1 => ?_⟩
  -- set
  refine ⟨_, rfl, _, _, rfl, rfl, _, rfl, ?_⟩
  refine ite2 (fun _ => ?_) (fun _ => ?_)
  · refine ⟨_, rfl, a, rfl, d1, fun H2 x k2 d2 => ⟨_, rfl, a, 4, rfl, by decide, by decide, d2, fun H3 v e k3 d3 hv ho hde => ⟨by show 3 ≤ sizeLine; decide, fun p hp => ?_⟩⟩⟩
    have s := same_new hp (.tup [.str "set", .str x, v])
    exact k _ p _ (.set x e) (k1.trans (k2.trans (k3.trans (Keep.same s)))) (d3.same s) upd_same ⟨v, rfl, hv.mono (TupS.of_same s)⟩ (fit_of ho hde (by decide))
  refine ⟨_, rfl, _, _, rfl, rfl, _, rfl, ?_⟩
  refine ite2 (fun _ => ?_) (fun _ => ?_)
  · refine ⟨_, rfl, a, rfl, d1, fun H2 x k2 d2 => ⟨by show 2 ≤ sizeLine; decide, fun l hl => ?_⟩⟩
    have q1 := same_new hl (.lst [.str "payout", .str "payou"])
    refine ⟨_, rfl, a, 2, rfl, d2.same q1, by decide, by decide, fun H3 i k3 d3 i0 i1 => ?_⟩
    obtain ⟨z, hz⟩ := str2 (x := "payout") (y := "payou") i0 i1
    refine ⟨l, _, _, _, rfl, rfl, SqL.of (k3 _ _ (d2.ne hl) upd_same), hz, _, rfl, a, 3, rfl, by decide, by decide, d3, fun H4 v e k4 d4 hv ho hde => ⟨by show 4 ≤ sizeLine; decide, fun p hp => ?_⟩⟩
    have s := same_new hp (.tup [.str "order", .str x, .str z, v])
    exact k _ p _ (.order false x z e) (k1.trans (k2.trans ((Keep.same q1).trans (k3.trans (k4.trans (Keep.same s)))))) (d4.same s) upd_same ⟨v, rfl, hv.mono (TupS.of_same s)⟩ (fit_of ho hde (by decide))
  refine ⟨_, rfl, rfl, _, rfl, ?_⟩
  refine ite2 (fun _ => ?_) (fun _ => ?_)
  · refine ⟨_, rfl, a, rfl, d1, fun H2 x k2 d2 => ⟨_, rfl, a, 3, rfl, by decide, by decide, d2, fun H3 v e k3 d3 hv ho hde => ⟨by show 3 ≤ sizeLine; decide, fun p hp => ?_⟩⟩⟩
    have s := same_new hp (.tup [.str "timer", .str x, v])
    exact k _ p _ (.timer x e) (k1.trans (k2.trans (k3.trans (Keep.same s)))) (d3.same s) upd_same ⟨v, rfl, hv.mono (TupS.of_same s)⟩ (fit_of ho hde (by decide))
  refine ⟨_, rfl, rfl, _, rfl, ?_⟩
  refine ite2 (fun _ => ?_) (fun _ => ?_)
  · refine ⟨_, rfl, a, rfl, d1, fun H2 x k2 d2 => ⟨by show 2 ≤ sizeLine; decide, fun l hl => ?_⟩⟩
    have q1 := same_new hl (.lst [.str "kid", .str "kids"])
    refine ⟨_, rfl, a, 2, rfl, d2.same q1, by decide, by decide, fun H3 i k3 d3 i0 i1 => ?_⟩
    obtain ⟨z, hz⟩ := str2 (x := "kid") (y := "kids") i0 i1
    refine ⟨l, _, _, _, rfl, rfl, SqL.of (k3 _ _ (d2.ne hl) upd_same), hz, _, rfl, a, 3, rfl, by decide, by decide, d3, fun H4 v e k4 d4 hv ho hde => ⟨by show 4 ≤ sizeLine; decide, fun p hp => ?_⟩⟩
    have s := same_new hp (.tup [.str "child", .str x, .str z, v])
    exact k _ p _ (.order true x z e) (k1.trans (k2.trans ((Keep.same q1).trans (k3.trans (k4.trans (Keep.same s)))))) (d4.same s) upd_same ⟨v, rfl, hv.mono (TupS.of_same s)⟩ (fit_of ho hde (by decide))
  refine ⟨_, rfl, rfl, _, rfl, ?_⟩
  refine ite2 (fun _ => ?_) (fun _ => ?_)
  · refine ⟨_, rfl, a, 2, rfl, by decide, by decide, d1, fun H2 v1 e1 k2 d2 hv1 ho1 hde1 => ⟨by show 2 ≤ sizeLine; decide, fun l hl => ?_⟩⟩
    have q1 := same_new hl (.lst [.str "go", .str "paid"])
    refine ⟨_, rfl, a, 2, rfl, d2.same q1, by decide, by decide, fun H3 i k3 d3 i0 i1 => ?_⟩
    obtain ⟨z, hz⟩ := str2 (x := "go") (y := "paid") i0 i1
    have t3 := k3.tup (d2.same q1)
    refine ⟨l, _, _, _, rfl, rfl, SqL.of (k3 _ _ (d2.ne hl) upd_same), hz, _, rfl, a, 3, rfl, by decide, by decide, d3, fun H4 v e k4 d4 hv ho hde => ⟨by show 4 ≤ sizeLine; decide, fun p hp => ?_⟩⟩
    have s := same_new hp (.tup [.str "send", v1, .str z, v])
    exact k _ p _ (.send e1 z e) (k1.trans (k2.trans ((Keep.same q1).trans (k3.trans (k4.trans (Keep.same s)))))) (d4.same s) upd_same ⟨v1, v, rfl, hv1.mono ((TupS.of_same q1).trans (t3.trans ((k4.tup d3).trans (TupS.of_same s)))), hv.mono (TupS.of_same s)⟩ ⟨fit_of ho1 hde1 (by decide), fit_of ho hde (by decide)⟩
  · refine ⟨_, rfl, a, 2, rfl, by decide, by decide, d1, fun H2 v e k2 d2 hv ho hde => ⟨by show 2 ≤ sizeLine; decide, fun p hp => ?_⟩⟩
    have s := same_new hp (.tup [.str "drop", v])
    exact k _ p _ (.drop e) (k1.trans (k2.trans (Keep.same s))) (d2.same s) upd_same ⟨v, rfl, hv.mono (TupS.of_same s)⟩ (fit_of ho hde (by decide))
theorem sc_law_simple : FnScope ["deck", "kind", "sayings", "k"] ["deck"] (defScope s_law_simple) := ⟨rfl, rfl, rfl, by decide +kernel, rfl, by decide +kernel, by decide +kernel⟩
theorem D_law_simple (T : Tx K mg) : Def1 P w K mg base 9 "_law_simple" ["deck"] spStmt := by
  have D_law_pick : Def1 P w K mg base 1 "_law_pick" ["deck", "many"] spPick := D_law_pick T
  have D_law_name : Def1 P w K mg base 2 "_law_name" ["deck"] spName := D_law_name T
  have D_law_saying : Def1 P w K mg base 7 "_law_saying" ["deck", "deep"] (spSaying 4) := D_law_saying T 4
  have D_law_plain : Def1 P w K mg base 8 "_law_plain" ["deck"] spStmt := D_law_plain T
  refine T.mk1 (st := s_law_simple) 13 13 rfl rfl sc_law_simple (fun _ _ _ _ _ _ us hl => match us, hl with | [_], _ => rfl) (fun vs H Q E h => ?_) (fun cdv A outer s H vs Q E hr h => ?_)
  · obtain ⟨_, rfl, _⟩ := h
    rfl
  obtain ⟨a, rfl, hd, k⟩ := h
  refine ⟨_, (pss_cons (ps_set (i := 1) sc_law_simple.nd rfl (Or.inl rfl) (pe_c D_law_pick (hr.mono (by omega)) (pa_cons (pv 0) (pa_cons pe_int pa_nil))))
    (pss_cons (ps_if (pt_cmpR op_lt (pv 1) pe_int (nomark _)) (pss_cons (ps_setLc (i := 2) (own := [("k", 3)]) (g := gName 3) rfl sc_law_simple.nd rfl rfl (sw_true rfl rfl rfl (by decide +kernel)) (pi_range1 rfl T.f_range (pa_cons (pe_op op_add pe_int (pe_c D_law_pick (hr.mono (by omega)) (pa_cons (pv 0) (pa_cons pe_int pa_nil)))) pa_nil)) (blkOk_by (own := [("k", 3)]) (N := ["deck", "kind", "sayings", "k"]) (sc := defScope s_law_simple) (by decide +kernel)) (fun _ _ _ _ _ => (pg_name (i := 3) sc_law_simple.nd rfl (Or.inl rfl))) (fun _ _ _ _ _ => pts_nil) (fun _ _ _ _ _ => (pe_c D_law_saying (hr.mono (by omega)) (pa_cons (pv 0) (pa_cons pe_int pa_nil)))))
    (pss_one (ps_ret (pe_tup (pa_cons pe_str (pa_cons (pe_c D_law_name (hr.mono (by omega)) (pa_cons (pv 0) pa_nil)) (pa_cons (pe_callTy call_tuple_of (by rfl) T.f_tuple (by decide +kernel) (pa_cons (pv 2) pa_nil)) pa_nil))))))) pss_nil)
    (pss_cons (ps_if (pt_cmpR op_eq (pv 1) pe_int (nomark _)) (pss_one (ps_ret (pe_tup (pa_cons pe_str (pa_cons (pe_c D_law_name (hr.mono (by omega)) (pa_cons (pv 0) pa_nil)) (pa_cons (pe_ix ix_list (pe_lst (pa_cons pe_str (pa_cons pe_str pa_nil))) (pe_c D_law_pick (hr.mono (by omega)) (pa_cons (pv 0) (pa_cons pe_int pa_nil))) (fun _ _ => rfl)) pa_nil)))))) pss_nil)
    (pss_cons (ps_if (PW.pt (pw_and (pt_cmpR op_eq (pv 1) pe_int (nomark _)) (pw_and1 (pt_cmpR op_eq (pe_c D_law_pick (hr.mono (by omega)) (pa_cons (pv 0) (pa_cons pe_int pa_nil))) pe_int (nomark _))))) (pss_one (ps_ret (pe_tup (pa_cons pe_str (pa_cons (pe_c D_law_saying (hr.mono (by omega)) (pa_cons (pv 0) (pa_cons pe_int pa_nil))) pa_nil))))) pss_nil)
    (pss_one (ps_ret (pe_c D_law_plain (hr.mono (by omega)) (pa_cons (pv 0) pa_nil)))))))), ?_⟩
  refine ⟨_, rfl, a, 9, rfl, hd, by decide, by decide, fun H1 r k1 d1 r0 r1 => ?_⟩
  refine ⟨_, rfl, _, _, rfl, rfl, _, rfl, ?_⟩
  refine ite2 (fun _ => ?_) (fun _ => ?_)
  · -- wait
    refine ⟨_, rfl, a, 4, rfl, d1, by decide, by decide, fun H2 i k2 d2 i0 i1 => ?_⟩
    refine ⟨_, _, rfl, rfl, _, rfl, by omega, by omega, fun D hD => lc_range (n := (1 + i).toNat) (fun j H' => Keep a H2 H' ∧ DeckH H' a ∧ ∃ es vs, es.length = j ∧ (∀ e ∈ es, e.fit) ∧ SaysH H' es vs ∧ H' D = some (.lst vs)) ⟨Keep.same (same_new hD _), d2.same (same_new hD _), [], [], rfl, (fun e he => by cases he), rfl, upd_same⟩ ?_ ?_⟩
    · rintro j H' hj ⟨kj, dj, es, vs, hl, hf, hs, hDj⟩
      have hjl : j < 4 := by omega
      refine ⟨rfl, _, rfl, a, 2, rfl, by decide, by decide, dj, fun H3 v e k3 d3 hv ho hde => ?_⟩
      have hD3 : H3 D = some (.lst vs) := k3 _ _ (d2.ne hD) hDj
      have hvl := hs.length
      have t4 : TupS H3 (upd H3 D (.lst (vs ++ [v]))) := TupS.lst hD3
      refine ⟨vs, hD3, szB (by omega), (kj.trans k3).mut hD, ?_, es ++ [e], vs ++ [v], by rw [List.length_append, hl]; rfl, ?_, SaysH.snoc (hv.mono t4) (hs.mono ((k3.tup dj).trans t4)), upd_same⟩
      · obtain ⟨c1, c2, c3, q⟩ := d3
        exact ⟨c1, c2, c3, by rw [upd_ne (d2.ne hD).symm]; exact q⟩
      · intro e' he
        rcases List.mem_append.mp he with q | q
        · exact hf e' q
        · cases List.mem_singleton.mp q
          exact fit_of ho hde (by decide)
    · rintro H' ⟨kj, dj, es, vs, hl, hf, hs, hDj⟩
      refine ⟨_, rfl, a, rfl, dj, fun H3 x k3 d3 => ⟨_, rfl, D, vs, rfl, .inl ⟨SqL.of (k3 _ _ (d2.ne hD) hDj), fun q hq => ⟨by show 3 ≤ sizeLine; decide, fun p hp => ?_⟩⟩⟩⟩
      have s1 := same_new hq (.tup vs)
      have s2 := same_new hp (.tup [.str "wait", .str x, .ref q])
      have s := s1.trans s2
      exact k _ p _ (.wait x es) (k1.trans (k2.trans (kj.trans (k3.trans (Keep.same s))))) (d3.same s) upd_same ⟨q, vs, rfl, s2 _ _ upd_same, hs.mono ((k3.tup dj).trans (TupS.of_same s))⟩ ⟨hf, by omega⟩
  refine ⟨_, rfl, rfl, _, rfl, ?_⟩
  refine ite2 (fun _ => ?_) (fun _ => ?_)
  · refine ⟨_, rfl, a, rfl, d1, fun H2 x k2 d2 => ⟨by show 2 ≤ sizeLine; decide, fun l hl => ?_⟩⟩
    have q1 := same_new hl (.lst [.str "go", .str "paid"])
    refine ⟨_, rfl, a, 2, rfl, d2.same q1, by decide, by decide, fun H3 i k3 d3 i0 i1 => ?_⟩
    obtain ⟨z, hz⟩ := str2 (x := "go") (y := "paid") i0 i1
    refine ⟨l, _, _, _, rfl, rfl, SqL.of (k3 _ _ (d2.ne hl) upd_same), hz, by show 3 ≤ sizeLine; decide, fun p hp => ?_⟩
    have s := same_new hp (.tup [.str "hear", .str x, .str z])
    exact k _ p _ (.hear x z) (k1.trans (k2.trans ((Keep.same q1).trans (k3.trans (Keep.same s))))) (d3.same s) upd_same rfl True.intro
  refine ⟨_, rfl, rfl, _, rfl, ?_⟩
  refine ite2 (fun _ => ?_) (fun _ => ?_)
  · refine ⟨_, rfl, a, 3, rfl, d1, by decide, by decide, fun H2 i k2 d2 i0 i1 => ⟨rfl, _, rfl, ?_⟩⟩
    refine ite2 (fun _ => ?_) (fun _ => ?_)
    · refine ⟨_, rfl, a, 3, rfl, by decide, by decide, d2, fun H3 v e k3 d3 hv ho hde => ⟨by show 2 ≤ sizeLine; decide, fun p hp => ?_⟩⟩
      have s := same_new hp (.tup [.str "end", v])
      exact k _ p _ (.fin e) (k1.trans (k2.trans (k3.trans (Keep.same s)))) (d3.same s) upd_same ⟨v, rfl, hv.mono (TupS.of_same s)⟩ (fit_of ho hde (by decide))
    · exact ⟨_, rfl, a, rfl, d2, fun H3 p us s k3 d3 hp hs hok => k _ p us s (k1.trans (k2.trans k3)) d3 hp hs hok⟩
  · refine iteF ?_
    exact ⟨_, rfl, a, rfl, d1, fun H3 p us s k3 d3 hp hs hok => k _ p us s (k1.trans k3) d3 hp hs hok⟩
end
end L2.K17

set_option maxHeartbeats 4000000
/-! the frames: a program while it is made -/
namespace L2.K17
open PySem L2
structure Fr where
  hd : Option (Bool × Say)
  b1 : Blk
  b2 : Option Blk
def Fr.add (F : Fr) (s : Blk) : Fr := match F.b2 with
  | none => { F with b1 := F.b1.app s }
  | some b => { F with b2 := some (b.app s) }
def Fr.close (F : Fr) (b : Bool) (c : Say) : Blk := if b then .ite c F.b1 (F.b2.getD .nil) .nil else .whl c F.b1 .nil
def ifW (b : Bool) : Str := if b then "if" else "while"
theorem BlkH.app {H : Hp} {c : Blk} {ws : List V} (hc : BlkH H c ws) : ∀ {b : Blk} {vs : List V}, BlkH H b vs → BlkH H (b.app c) (vs ++ ws)
  | .nil, _, h => by
    cases h
    exact hc
  | .one s r, vs, ⟨p, us, vr, h1, h2, h3, h4⟩ => by
    subst h1
    exact ⟨p, us, vr ++ ws, rfl, h2, h3, BlkH.app hc h4⟩
  | .ite d a b r, vs, ⟨p, u, pa, pb, va, vb, vr, h1, h2, h3, h4, h5, h6, h7, h8⟩ => by
    subst h1
    exact ⟨p, u, pa, pb, va, vb, vr ++ ws, rfl, h2, h3, h4, h5, h6, h7, BlkH.app hc h8⟩
  | .whl d a r, vs, ⟨p, u, pa, va, vr, h1, h2, h3, h4, h5, h6⟩ => by
    subst h1
    exact ⟨p, u, pa, va, vr ++ ws, rfl, h2, h3, h4, h5, BlkH.app hc h6⟩
/-- the head of a frame -/
def HdH (H : Hp) (hv : V) : Option (Bool × Say) → Prop
  | none => hv = .non
  | some bc => ∃ p u, hv = .ref p ∧ H p = some (.tup [.str (ifW bc.1), u]) ∧ SayH H bc.2 u
/-- the second list of a frame -/
def SecH (H : Hp) (sec : V) (o2 : List Addr) : Option Blk → Prop
  | none => sec = .non ∧ o2 = []
  | some b => ∃ l vs, sec = .ref l ∧ o2 = [l] ∧ H l = some (.lst vs) ∧ BlkH H b vs
def FrH (H : Hp) (f : Addr) (F : Fr) (own : List Addr) : Prop := ∃ (hv : V) (l1 : Addr) (vs1 : List V) (sec : V) (o2 : List Addr), H f = some (.lst [hv, .ref l1, sec]) ∧ H l1 = some (.lst vs1) ∧ BlkH H F.b1 vs1 ∧ own = f :: l1 :: o2 ∧ HdH H hv F.hd ∧ SecH H sec o2 F.b2
def StkH (H : Hp) : List Fr → List Addr → List Addr → Prop
  | [], fs, own => fs = [] ∧ own = []
  | F :: Fs, fs, own => ∃ f fs' o o', fs = f :: fs' ∧ own = o ++ o' ∧ FrH H f F o ∧ StkH H Fs fs' o'
def PrgH (T : Tg) (H : Hp) (fl : Addr) (Fs : List Fr) : Prop := ∃ fs own, H fl = some (.lst (fs.reverse.map V.ref)) ∧ StkH H Fs fs own ∧ (fl :: own).Nodup ∧ ∀ b ∈ fl :: own, T b = .co
section
variable {T : Tg} {H H' : Hp} {fl f : Addr} {F G : Fr} {Fs : List Fr} {fs own : List Addr}
theorem HdH.mono {hv : V} (k : TupS H H') : ∀ {o : Option (Bool × Say)}, HdH H hv o → HdH H' hv o
  | none, h => h
  | some bc, ⟨p, u, h1, h2, h3⟩ => ⟨p, u, h1, k _ _ h2, h3.mono k⟩
theorem SecH.frame {sec : V} {o2 : List Addr} (k : TupS H H') (e : ∀ b ∈ o2, ∀ o, H b = some o → H' b = some o) : ∀ {o : Option Blk}, SecH H sec o2 o → SecH H' sec o2 o
  | none, h => h
  | some b, ⟨l, vs, h1, h2, h3, h4⟩ => ⟨l, vs, h1, h2, e l (by rw [h2]; exact List.mem_singleton.mpr rfl) _ h3, h4.mono k⟩
theorem FrH.frame (h : FrH H f F own) (k : TupS H H') (e : ∀ b ∈ own, ∀ o, H b = some o → H' b = some o) : FrH H' f F own := by
  obtain ⟨hv, l1, vs1, sec, o2, h1, h2, h3, h4, h5, h6⟩ := h
  subst h4
  exact ⟨hv, l1, vs1, sec, o2, e _ (List.mem_cons_self ..) _ h1, e _ (List.mem_cons_of_mem _ (List.mem_cons_self ..)) _ h2, h3.mono k, rfl, h5.mono k, h6.frame k fun b hb => e b (List.mem_cons_of_mem _ (List.mem_cons_of_mem _ hb))⟩
theorem StkH.frame (k : TupS H H') : ∀ {Fs : List Fr} {fs own : List Addr}, StkH H Fs fs own → (∀ b ∈ own, ∀ o, H b = some o → H' b = some o) → StkH H' Fs fs own
  | [], _, _, h, _ => h
  | F :: Fs, _, _, ⟨f, fs', o, o', h1, h2, h3, h4⟩, e => by
    subst h2
    exact ⟨f, fs', o, o', h1, rfl, h3.frame k fun b hb => e b (List.mem_append.mpr (.inl hb)), StkH.frame k h4 fun b hb => e b (List.mem_append.mpr (.inr hb))⟩
theorem FrH.ex (h : FrH H f F own) : ∀ b ∈ own, ∃ xs, H b = some (.lst xs) := by
  obtain ⟨hv, l1, vs1, sec, o2, h1, h2, h3, h4, h5, h6⟩ := h
  subst h4
  intro b hb
  rcases List.mem_cons.mp hb with rfl | hb
  · exact ⟨_, h1⟩
  rcases List.mem_cons.mp hb with rfl | hb
  · exact ⟨_, h2⟩
  cases e : F.b2 with
  | none =>
    rw [e] at h6
    rw [h6.2] at hb
    cases hb
  | some b2 =>
    rw [e] at h6
    obtain ⟨l, vs, z1, z2, z3, _⟩ := h6
    rw [z2] at hb
    cases List.mem_singleton.mp hb
    exact ⟨_, z3⟩
theorem StkH.ex : ∀ {Fs : List Fr} {fs own : List Addr}, StkH H Fs fs own → ∀ b ∈ own, ∃ xs, H b = some (.lst xs)
  | [], _, _, ⟨_, h⟩, b, hb => by
    subst h
    cases hb
  | F :: Fs, _, _, ⟨f, fs', o, o', h1, h2, h3, h4⟩, b, hb => by
    subst h2
    rcases List.mem_append.mp hb with q | q
    · exact h3.ex b q
    · exact StkH.ex h4 b q
theorem StkH.len : ∀ {Fs : List Fr} {fs own : List Addr}, StkH H Fs fs own → fs.length = Fs.length
  | [], _, _, ⟨h, _⟩ => by
    subst h
    rfl
  | F :: Fs, _, _, ⟨f, fs', o, o', h1, h2, h3, h4⟩ => by
    subst h1
    exact congrArg Nat.succ (StkH.len h4)
theorem PrgH.same (h : PrgH T H fl Fs) (s : Same H H') : PrgH T H' fl Fs := by
  obtain ⟨fs, own, h1, h2, h3, h4⟩ := h
  exact ⟨fs, own, s _ _ h1, h2.frame (TupS.of_same s) fun b _ o e => s _ _ e, h3, h4⟩
theorem PrgH.len (h : PrgH T H fl Fs) : ∃ fs : List Addr, H fl = some (.lst (fs.map V.ref)) ∧ fs.length = Fs.length := by
  obtain ⟨fs, own, h1, h2, h3, h4⟩ := h
  exact ⟨fs.reverse, h1, by rw [List.length_reverse]; exact h2.len⟩
/-- a new frame -/
theorem PrgH.push (h : PrgH T H fl Fs) {H1 : Hp} (s : Same H H1) {l1 : Addr} {hv : V} (hl : H l1 = none) (hf : H f = none) (ne : f ≠ l1) (e1 : H1 l1 = some (.lst [])) (e2 : H1 f = some (.lst [hv, .ref l1, .non])) {hd : Option (Bool × Say)} (hh : HdH H1 hv hd) {gs : List Addr} (eg : H1 fl = some (.lst (gs.map V.ref))) :
    PrgH (setT (setT T l1 .co) f .co) (upd H1 fl (.lst (gs.map V.ref ++ [V.ref f]))) fl (⟨hd, .nil, none⟩ :: Fs) ∧ Evo T H (setT (setT T l1 .co) f .co) (upd H1 fl (.lst (gs.map V.ref ++ [V.ref f]))) := by
  obtain ⟨fs, own, h1, h2, h3, h4⟩ := h
  have eg' := s _ _ h1
  rw [eg] at eg'
  have e3 : gs = fs.reverse := by
    have z : gs.map V.ref = fs.reverse.map V.ref := by injection eg' with z; injection z
    exact (List.map_inj_right (fun x y q => by injection q)).mp z
  subst e3
  have hex : ∀ b ∈ fl :: own, H b ≠ none := fun b hb => by
    rcases List.mem_cons.mp hb with rfl | hb
    · rw [h1]; exact fun z => nomatch z
    · obtain ⟨xs, q⟩ := h2.ex b hb
      rw [q]; exact fun z => nomatch z
  have nf : f ∉ fl :: own := fun z => hex f z hf
  have nl : l1 ∉ fl :: own := fun z => hex l1 z hl
  have k1 : TupS H1 (upd H1 fl (.lst (fs.reverse.map V.ref ++ [V.ref f]))) := TupS.lst eg
  have nfl : fl ≠ f := fun z => nf (by rw [← z]; exact List.mem_cons_self ..)
  have nll : fl ≠ l1 := fun z => nl (by rw [← z]; exact List.mem_cons_self ..)
  obtain ⟨hn1, hn2⟩ := List.nodup_cons.mp h3
  refine ⟨⟨f :: fs, [f, l1] ++ own, ?_, ⟨f, fs, [f, l1], own, rfl, rfl, ⟨hv, l1, [], .non, [], ?_, ?_, rfl, rfl, hh.mono k1, rfl, rfl⟩, h2.frame ((TupS.of_same s).trans k1) fun b hb o e => ?_⟩, ?_, ?_⟩, ?_⟩
  · rw [upd_same, List.reverse_cons, List.map_append]
    rfl
  · rw [upd_ne nfl.symm]; exact e2
  · rw [upd_ne nll.symm]; exact e1
  · rw [upd_ne fun z => hn1 (by rw [← z]; exact hb)]
    exact s _ _ e
  · refine List.nodup_cons.mpr ⟨fun z => ?_, List.nodup_cons.mpr ⟨fun z => ?_, List.nodup_cons.mpr ⟨fun z => nl (List.mem_cons_of_mem _ z), hn2⟩⟩⟩
    · rcases List.mem_cons.mp z with q | z
      · exact nfl q
      rcases List.mem_cons.mp z with q | z
      · exact nll q
      exact hn1 z
    · rcases List.mem_cons.mp z with q | z
      · exact ne q
      exact nf (List.mem_cons_of_mem _ z)
  · intro b hb
    by_cases c1 : b = f
    · rw [c1]; exact setT_same
    rw [setT_ne c1]
    by_cases c2 : b = l1
    · rw [c2]; exact setT_same
    rw [setT_ne c2]
    refine h4 b ?_
    rcases List.mem_cons.mp hb with q | hb
    · rw [q]; exact List.mem_cons_self ..
    rcases List.mem_cons.mp hb with q | hb
    · exact absurd q c1
    rcases List.mem_cons.mp hb with q | hb
    · exact absurd q c2
    exact List.mem_cons_of_mem _ hb
  · have tfl : T fl = .co := h4 fl (List.mem_cons_self ..)
    refine ⟨fun b o e hb => ?_, fun b hb => ?_, (TupS.of_same s).trans k1, fun b e => ?_⟩
    · rw [upd_ne fun z => by rw [z, tfl] at hb; cases hb]
      exact s _ _ e
    · by_cases c1 : b = f
      · exact .inr ⟨by rw [c1]; exact hf, by rw [c1, upd_ne nfl.symm, e2]; exact fun z => nomatch z⟩
      · rw [setT_ne c1] at hb
        by_cases c2 : b = l1
        · exact .inr ⟨by rw [c2]; exact hl, by rw [c2, upd_ne nll.symm, e1]; exact fun z => nomatch z⟩
        · rw [setT_ne c2] at hb
          exact .inl hb
    · by_cases c1 : b = fl
      · rw [c1, upd_same] at e
        cases e
      · rw [upd_ne c1] at e
        exact s.free e
/-- the top frame, its current list -/
theorem PrgH.cur (h : PrgH T H fl (G :: Fs)) : ∃ (gs : List Addr) (g : Addr) (hv : V) (l1 : Addr) (sec : V) (l : Addr) (vs : List V), H fl = some (.lst (gs.map V.ref ++ [V.ref g])) ∧ gs.length = Fs.length ∧ H g = some (.lst [hv, .ref l1, sec]) ∧ HdH H hv G.hd ∧
    (decide (sec = .non) = decide (G.b2 = none)) ∧ atI [hv, .ref l1, sec] (1 + (if (!decide (sec = V.non)) then 1 else 0)) = some (.ref l) ∧ H l = some (.lst vs) ∧ vs.length = (match G.b2 with
    | none => G.b1.len
    | some b => b.len) ∧
    ∀ H' p s, Same H H' → BlkH H' s [.ref p] → PrgH T (upd H' l (.lst (vs ++ [.ref p]))) fl (G.add s :: Fs) ∧ Evo T H' T (upd H' l (.lst (vs ++ [.ref p]))) := by
  obtain ⟨fs, own, h1, ⟨g, fs', o, o', rfl, rfl, h2, h3⟩, h4, h5⟩ := h
  obtain ⟨hv, l1, vs1, sec, o2, f1, f2, f3, rfl, f5, f6⟩ := h2
  have hfl : H fl = some (.lst (fs'.reverse.map V.ref ++ [V.ref g])) := by
    rw [h1, List.reverse_cons, List.map_append]
    rfl
  have hglen : fs'.reverse.length = Fs.length := by rw [List.length_reverse]; exact h3.len
  obtain ⟨n1, n2⟩ := List.nodup_cons.mp h4
  have hgl : g ≠ l1 := fun z => (List.nodup_cons.mp n2).1 (by rw [z]; exact List.mem_cons_self ..)
  have hflg : fl ≠ g := fun z => n1 (by rw [z]; exact List.mem_cons_self ..)
  have hfll : fl ≠ l1 := fun z => n1 (by rw [z]; exact List.mem_cons_of_mem _ (List.mem_cons_self ..))
  have n3 := (List.nodup_cons.mp n2).2
  cases eb : G.b2 with
  | none =>
    rw [eb] at f6
    obtain ⟨rfl, rfl⟩ := f6
    refine ⟨fs'.reverse, g, hv, l1, .non, l1, vs1, hfl, hglen, f1, f5, rfl, rfl, f2, f3.length, fun H' p s sm hb => ?_⟩
    have k : TupS H' (upd H' l1 (.lst (vs1 ++ [.ref p]))) := TupS.lst (sm _ _ f2)
    have nin : ∀ b ∈ o', b ≠ l1 := fun b hb z => (List.nodup_cons.mp n3).1 (by rw [← z]; exact hb)
    refine ⟨⟨g :: fs', _, by rw [upd_ne hfll]; exact sm _ _ h1, ⟨g, fs', [g, l1], o', rfl, rfl, ⟨hv, l1, vs1 ++ [.ref p], .non, [], by rw [upd_ne hgl]; exact sm _ _ f1, upd_same, ?_, rfl, ?_, ?_⟩, h3.frame ((TupS.of_same sm).trans k) fun b hb o e => by rw [upd_ne (nin b hb)]; exact sm _ _ e⟩, h4, h5⟩, Evo.putL (h5 l1 (List.mem_cons_of_mem _ (List.mem_cons_of_mem _ (List.mem_cons_self ..)))) (by decide) (sm _ _ f2)⟩
    · unfold Fr.add
      rw [eb]
      exact BlkH.app (hb.mono k) (f3.mono ((TupS.of_same sm).trans k))
    · have e : (G.add s).hd = G.hd := by unfold Fr.add; rw [eb]
      rw [e]
      exact f5.mono ((TupS.of_same sm).trans k)
    · have e : (G.add s).b2 = none := by unfold Fr.add; rw [eb]
      rw [e]
      exact ⟨rfl, rfl⟩
  | some b2 =>
    rw [eb] at f6
    obtain ⟨l2, vs2, rfl, rfl, q1, q2⟩ := f6
    have hgl2 : g ≠ l2 := fun z => (List.nodup_cons.mp n2).1 (by rw [z]; exact List.mem_cons_of_mem _ (List.mem_cons_self ..))
    have hfll2 : fl ≠ l2 := fun z => n1 (by rw [z]; exact List.mem_cons_of_mem _ (List.mem_cons_of_mem _ (List.mem_cons_self ..)))
    have hl12 : l1 ≠ l2 := fun z => (List.nodup_cons.mp n3).1 (by rw [z]; exact List.mem_cons_self ..)
    have n4 := (List.nodup_cons.mp n3).2
    refine ⟨fs'.reverse, g, hv, l1, .ref l2, l2, vs2, hfl, hglen, f1, f5, (decide_eq_false (fun z => nomatch z)).trans (decide_eq_false (fun z => nomatch z)).symm, rfl, q1, q2.length, fun H' p s sm hb => ?_⟩
    have k : TupS H' (upd H' l2 (.lst (vs2 ++ [.ref p]))) := TupS.lst (sm _ _ q1)
    have nin : ∀ b ∈ o', b ≠ l2 := fun b hb z => (List.nodup_cons.mp n4).1 (by rw [← z]; exact hb)
    have kk := (TupS.of_same sm).trans k
    refine ⟨⟨g :: fs', _, by rw [upd_ne hfll2]; exact sm _ _ h1, ⟨g, fs', [g, l1, l2], o', rfl, rfl, ⟨hv, l1, vs1, .ref l2, [l2], by rw [upd_ne hgl2]; exact sm _ _ f1, by rw [upd_ne hl12]; exact sm _ _ f2, ?_, rfl, ?_, ?_⟩, h3.frame kk fun b hb o e => by rw [upd_ne (nin b hb)]; exact sm _ _ e⟩, h4, h5⟩, Evo.putL (h5 l2 (List.mem_cons_of_mem _ (List.mem_cons_of_mem _ (List.mem_cons_of_mem _ (List.mem_cons_self ..))))) (by decide) (sm _ _ q1)⟩
    · have e : (G.add s).b1 = G.b1 := by unfold Fr.add; rw [eb]
      rw [e]
      exact f3.mono kk
    · have e : (G.add s).hd = G.hd := by unfold Fr.add; rw [eb]
      rw [e]
      exact f5.mono kk
    · have e : (G.add s).b2 = some (b2.app s) := by unfold Fr.add; rw [eb]
      rw [e]
      exact ⟨l2, _, rfl, rfl, upd_same, BlkH.app (hb.mono k) (q2.mono kk)⟩
/-- frames[-1][2] = [] -/
theorem PrgH.second (h : PrgH T H fl (G :: Fs)) (hb : G.b2 = none) {gs : List Addr} {g : Addr} {hv : V} {l1 : Addr} {sec : V} (e1 : H fl = some (.lst (gs.map V.ref ++ [V.ref g]))) (e2 : H g = some (.lst [hv, .ref l1, sec])) {l2 : Addr} (hl : H l2 = none) :
    PrgH (setT T l2 .co) (upd (upd H l2 (.lst [])) g (.lst [hv, .ref l1, .ref l2])) fl (⟨G.hd, G.b1, some .nil⟩ :: Fs) ∧ Evo T H (setT T l2 .co) (upd (upd H l2 (.lst [])) g (.lst [hv, .ref l1, .ref l2])) := by
  obtain ⟨fs, own, h1, ⟨g', fs', o, o', rfl, rfl, h2, h3⟩, h4, h5⟩ := h
  obtain ⟨hv', l1', vs1, sec', o2, f1, f2, f3, rfl, f5, f6⟩ := h2
  have eg : g' = g := by
    rw [h1, List.reverse_cons, List.map_append] at e1
    injection e1 with e1
    injection e1 with e1
    have z := congrArg List.getLast? e1
    rw [List.getLast?_append, List.getLast?_append] at z
    simp at z
    exact z
  subst eg
  rw [f1] at e2
  injection e2 with e2
  injection e2 with e2
  injection e2 with e2 e3
  injection e3 with e3 e4
  injection e3 with e3
  injection e4 with e4 _
  subst e2 e3 e4
  rw [hb] at f6
  obtain ⟨rfl, rfl⟩ := f6
  obtain ⟨n1, n2⟩ := List.nodup_cons.mp h4
  have hgl : g' ≠ l1' := fun z => (List.nodup_cons.mp n2).1 (by rw [z]; exact List.mem_cons_self ..)
  have hflg : fl ≠ g' := fun z => n1 (by rw [z]; exact List.mem_cons_self ..)
  have s := same_new hl (.lst [])
  have k : TupS H (upd (upd H l2 (.lst [])) g' (.lst [hv', .ref l1', .ref l2])) := (TupS.of_same s).trans (TupS.lst (s _ _ f1))
  have x2 : l2 ≠ fl := (ne_of_none h1 hl).symm
  have x3 : l2 ≠ g' := (ne_of_none f1 hl).symm
  have x4 : l2 ≠ l1' := (ne_of_none f2 hl).symm
  have nin : ∀ b ∈ o', b ≠ g' := fun b hb z => (List.nodup_cons.mp n2).1 (by rw [← z]; exact List.mem_cons_of_mem _ hb)
  have x5 : l2 ∉ o' := fun z => by
    obtain ⟨xs, q⟩ := h3.ex l2 z
    rw [hl] at q
    cases q
  have tg : T g' = .co := h5 g' (List.mem_cons_of_mem _ (List.mem_cons_self ..))
  obtain ⟨m1, m2⟩ := List.nodup_cons.mp n2
  refine ⟨⟨g' :: fs', [g', l1', l2] ++ o', by rw [upd_ne hflg]; exact s _ _ h1, ⟨g', fs', [g', l1', l2], o', rfl, rfl, ⟨hv', l1', vs1, .ref l2, [l2], upd_same, by rw [upd_ne hgl.symm]; exact s _ _ f2, f3.mono k, rfl, f5.mono k, ⟨l2, [], rfl, rfl, by rw [upd_ne x3]; exact upd_same, rfl⟩⟩, h3.frame k fun b hb o e => by rw [upd_ne (nin b hb)]; exact s _ _ e⟩, ?_, ?_⟩, (Evo.new hl).trans (Evo.putL (t := .co) (by rw [setT_ne x3.symm]; exact tg) (by decide) (s _ _ f1))⟩
  · refine List.nodup_cons.mpr ⟨fun z => ?_, List.nodup_cons.mpr ⟨fun z => ?_, List.nodup_cons.mpr ⟨fun z => ?_, List.nodup_cons.mpr ⟨x5, (List.nodup_cons.mp m2).2⟩⟩⟩⟩
    · rcases List.mem_cons.mp z with q | z
      · exact hflg q
      rcases List.mem_cons.mp z with q | z
      · exact n1 (by rw [q]; exact List.mem_cons_of_mem _ (List.mem_cons_self ..))
      rcases List.mem_cons.mp z with q | z
      · exact x2 q.symm
      exact n1 (List.mem_cons_of_mem _ (List.mem_cons_of_mem _ z))
    · rcases List.mem_cons.mp z with q | z
      · exact hgl q
      rcases List.mem_cons.mp z with q | z
      · exact x3 q.symm
      exact m1 (List.mem_cons_of_mem _ z)
    · rcases List.mem_cons.mp z with q | z
      · exact x4 q.symm
      exact (List.nodup_cons.mp m2).1 z
  · intro b hb
    by_cases c : b = l2
    · rw [c]; exact setT_same
    rw [setT_ne c]
    refine h5 b ?_
    rcases List.mem_cons.mp hb with q | hb
    · rw [q]; exact List.mem_cons_self ..
    rcases List.mem_cons.mp hb with q | hb
    · rw [q]; exact List.mem_cons_of_mem _ (List.mem_cons_self ..)
    rcases List.mem_cons.mp hb with q | hb
    · rw [q]; exact List.mem_cons_of_mem _ (List.mem_cons_of_mem _ (List.mem_cons_self ..))
    rcases List.mem_cons.mp hb with q | hb
    · exact absurd q c
    exact List.mem_cons_of_mem _ (List.mem_cons_of_mem _ (List.mem_cons_of_mem _ hb))
theorem dropLast_snoc {α : Type} (xs : List α) (y : α) : (xs ++ [y]).dropLast = xs := by simp
/-- frames.pop() -/
theorem PrgH.pop (h : PrgH T H fl (F :: Fs)) : ∃ (gs : List Addr) (f : Addr) (hv : V) (l1 : Addr) (vs1 : List V) (sec : V) (o2 : List Addr), H fl = some (.lst (gs.map V.ref ++ [V.ref f])) ∧ PrgH T (upd H fl (.lst (gs.map V.ref))) fl Fs ∧ Evo T H T (upd H fl (.lst (gs.map V.ref))) ∧
    upd H fl (.lst (gs.map V.ref)) f = some (.lst [hv, .ref l1, sec]) ∧ upd H fl (.lst (gs.map V.ref)) l1 = some (.lst vs1) ∧ BlkH (upd H fl (.lst (gs.map V.ref))) F.b1 vs1 ∧ HdH (upd H fl (.lst (gs.map V.ref))) hv F.hd ∧ SecH (upd H fl (.lst (gs.map V.ref))) sec o2 F.b2 ∧ vs1.length = F.b1.len := by
  obtain ⟨fs, own, h1, ⟨f, fs', o, o', rfl, rfl, h2, h3⟩, h4, h5⟩ := h
  obtain ⟨hv, l1, vs1, sec, o2, f1, f2, f3, rfl, f5, f6⟩ := h2
  have hfl : H fl = some (.lst (fs'.reverse.map V.ref ++ [V.ref f])) := by
    rw [h1, List.reverse_cons, List.map_append]
    rfl
  obtain ⟨n1, n2⟩ := List.nodup_cons.mp h4
  have k : TupS H (upd H fl (.lst (fs'.reverse.map V.ref))) := TupS.lst h1
  have nin : ∀ b ∈ (f :: l1 :: o2) ++ o', b ≠ fl := fun b hb z => n1 (by rw [← z]; exact hb)
  refine ⟨fs'.reverse, f, hv, l1, vs1, sec, o2, hfl, ⟨fs', o', upd_same, h3.frame k fun b hb o e => by rw [upd_ne (nin b (List.mem_append.mpr (.inr hb)))]; exact e, List.nodup_cons.mpr ⟨fun z => n1 (List.mem_append.mpr (.inr z)), ?_⟩, fun b hb => h5 b ?_⟩, Evo.putL (h5 fl (List.mem_cons_self ..)) (by decide) h1, ?_, ?_, f3.mono k, f5.mono k, f6.frame k fun b hb o e => by rw [upd_ne (nin b (List.mem_append.mpr (.inl (List.mem_cons_of_mem _ (List.mem_cons_of_mem _ hb)))))]; exact e, f3.length⟩
  · exact (List.nodup_append.mp n2).2.1
  · rcases List.mem_cons.mp hb with q | hb
    · rw [q]; exact List.mem_cons_self ..
    · exact List.mem_cons_of_mem _ (List.mem_append.mpr (.inr hb))
  · rw [upd_ne (nin f (List.mem_append.mpr (.inl (List.mem_cons_self ..))))]
    exact f1
  · rw [upd_ne (nin l1 (List.mem_append.mpr (.inl (List.mem_cons_of_mem _ (List.mem_cons_self ..)))))]
    exact f2
end
end L2.K17

set_option maxHeartbeats 4000000
/-! a frame is closed -/
namespace L2.K17
open PySem L2
def Fr.cur (F : Fr) : Nat := match F.b2 with
  | none => F.b1.len
  | some b => b.len
def spClosed : Sp := fun vs H Q _ => ∃ (T : Tg) (fl : Addr) (F G : Fr) (Fs : List Fr) (b : Bool) (c : Say), vs = [.ref fl] ∧ PrgH T H fl (F :: G :: Fs) ∧ F.hd = some (b, c) ∧ G.cur ≤ 1000 ∧
  ∀ H', Evo T H T H' → PrgH T H' fl (G.add (F.close b c) :: Fs) → Q .non H'
section
variable {P : Program} {w : World} {K : PySem.W.Frag} {mg : Str → Option Value} {base : Heap}
theorem sc_law_closed : FnScope ["frames", "head", "first", "second"] ["frames"] (defScope s_law_closed) := ⟨rfl, rfl, rfl, by decide +kernel, rfl, by decide +kernel, by decide +kernel⟩
theorem D_law_closed (T : Tx K mg) : Def1 P w K mg base 1 "_law_closed" ["frames"] spClosed := by
  refine T.mk1 (st := s_law_closed) 14 14 rfl rfl sc_law_closed (fun _ _ _ _ _ _ us hl => match us, hl with | [_], _ => rfl) (fun vs H Q E h => ?_) (fun cdv A outer s H vs Q E hr h => ?_)
  · obtain ⟨_, _, _, _, _, _, _, rfl, _⟩ := h
    rfl
  obtain ⟨U, fl, F, G, Fs, b, c, rfl, hP, hF, hcu, k⟩ := h
  refine ⟨_, (pss_cons (ps_asg (pe_bm0 PySem.F.plainAttrs_list PySem.F.slot_list_pop PySem.F.type_list_pop mt_pop (pv 0)) (pg_unl rfl (pgs_cons (pg_name (i := 1) sc_law_closed.nd rfl (Or.inl rfl)) (pgs_cons (pg_name (i := 2) sc_law_closed.nd rfl (Or.inl rfl)) (pgs_cons (pg_name (i := 3) sc_law_closed.nd rfl (Or.inl rfl)) pgs_nil)))))
    (pss_one (ps_if (pt_cmpR op_eq (pe_ix ix_tup (pv 1) pe_int (fun _ _ => rfl)) pe_str (nomark _)) (pss_one (ps_expr (pe_bm PySem.F.plainAttrs_list PySem.F.slot_list_append PySem.F.type_list_append mt_append (pe_ix ix_list (pe_ix ix_list (pv 0) (pe_un un_neg pe_int) (fun _ _ => rfl)) (pe_op op_add pe_int (pe_callTy call_int1 (by rfl) T.f_int (by decide +kernel) (pa_cons (pe_cmpR op_notN (pe_ix ix_list (pe_ix ix_list (pv 0) (pe_un un_neg pe_int) (fun _ _ => rfl)) pe_int (fun _ _ => rfl)) pe_non (nomark _)) pa_nil))) (fun _ _ => rfl)) (pa_cons (pe_op op_catA (pv 1) (pe_tup (pa_cons (pe_callTy call_tuple_of (by rfl) T.f_tuple (by decide +kernel) (pa_cons (pv 2) pa_nil)) (pa_cons (pe_callTy call_tuple_of (by rfl) T.f_tuple (by decide +kernel) (pa_cons (pe_orT (pv 3) (pe_one (pe_lst pa_nil))) pa_nil)) pa_nil)))) pa_nil)))) (pss_one (ps_expr (pe_bm PySem.F.plainAttrs_list PySem.F.slot_list_append PySem.F.type_list_append mt_append (pe_ix ix_list (pe_ix ix_list (pv 0) (pe_un un_neg pe_int) (fun _ _ => rfl)) (pe_op op_add pe_int (pe_callTy call_int1 (by rfl) T.f_int (by decide +kernel) (pa_cons (pe_cmpR op_notN (pe_ix ix_list (pe_ix ix_list (pv 0) (pe_un un_neg pe_int) (fun _ _ => rfl)) pe_int (fun _ _ => rfl)) pe_non (nomark _)) pa_nil))) (fun _ _ => rfl)) (pa_cons (pe_op op_catA (pv 1) (pe_tup (pa_cons (pe_callTy call_tuple_of (by rfl) T.f_tuple (by decide +kernel) (pa_cons (pv 2) pa_nil)) pa_nil))) pa_nil))))))), ?_⟩
  obtain ⟨gs, f, hv, l1, vs1, sec, o2, p1, p2, p3, p4, p5, p6, p7, p8, _⟩ := hP.pop
  refine ⟨_, rfl, tyL p1, fl, _, _, rfl, rfl, p1, by rw [show (gs.map V.ref ++ [V.ref f]).length - 1 = (gs.map V.ref).length by rw [List.length_append]; rfl]; exact get_mid rfl, ?_⟩
  rw [dropLast_snoc]
  obtain ⟨H1, eH1⟩ : ∃ H1, H1 = upd H fl (.lst (gs.map V.ref)) := ⟨_, rfl⟩
  rw [← eH1] at p2 p3 p4 p5 p6 p7 p8 ⊢
  rw [hF] at p7
  obtain ⟨hp, u, rfl, hhp, hu⟩ := p7
  have hhp : H1 hp = some (.tup [.str (ifW b), u]) := hhp
  have hu : SayH H1 c u := hu
  refine ⟨f, _, rfl, SqL.of p4, rfl, _, _, rfl, _, _, rfl, _, _, rfl, rfl, ?_⟩
  obtain ⟨gs2, g, hv2, l12, sec2, l, vs, c1, c2, c3, c4, c5, c6, c7, c8, c9⟩ := p2.cur
  have c8 : vs.length ≤ 1000 := by
    rw [c8]
    exact hcu
  cases b with
  | true =>
    refine ⟨_, rfl, hp, _, _, _, rfl, rfl, SqT.of hhp, rfl, rfl, _, rfl, iteT ?_⟩
    refine ⟨_, rfl, _, rfl, fl, _, _, _, rfl, rfl, SqL.of c1, atI_last _ _, _, rfl, _, rfl, fl, _, _, _, rfl, rfl, SqL.of c1, atI_last _ _, g, _, _, _, rfl, rfl, SqL.of c3, rfl, rfl, .inr ⟨_, rfl, _, _, rfl, rfl, g, _, _, _, rfl, rfl, SqL.of c3, c6, tyL c7, _, rfl, ?_⟩⟩
    refine ⟨_, rfl, l1, vs1, rfl, .inl ⟨SqL.of p5, fun t1 ht1 => ?_⟩⟩
    have s1 := same_new ht1 (.tup vs1)
    cases e2 : F.b2 with
    | none =>
      rw [e2] at p8
      obtain ⟨rfl, _⟩ := p8
      refine ⟨_, rfl, _, rfl, iteF ⟨Nat.zero_le _, fun q0 hq0 => ⟨q0, [], rfl, .inl ⟨SqL.of upd_same, fun t2 ht2 => ?_⟩⟩⟩⟩
      have s0 := (same_new hq0 (.lst [])).trans (same_new ht2 (.tup []))
      have s2 := s1.trans s0
      have hb2 : BlkH H1 (F.b2.getD .nil) [] := by rw [e2]; rfl
      have a1 := s0 _ _ (upd_same (H := H1) (a := t1) (o := .tup vs1))
      have a2 := upd_same (H := upd (upd H1 t1 (.tup vs1)) q0 (.lst [])) (a := t2) (o := .tup [])
      refine ⟨by show 2 ≤ sizeLine; decide, fun q hq => cat_all (SqT.of (same_new hq _ _ _ (s2 _ _ hhp))) upd_same (by show 2 + 2 ≤ sizeLine; decide) (by simp) fun r H' s hr => ?_⟩
      have s3 := (same_new hq _).trans s
      have sa := s2.trans s3
      refine ⟨l, _, _, rfl, rfl, sa _ _ c7, szB (by omega), ?_⟩
      obtain ⟨d1, d2⟩ := c9 H' r (F.close true c) sa ⟨r, u, t1, t2, vs1, _, [], rfl, hr, hu.mono (TupS.of_same sa), s3 _ _ a1, p6.mono (TupS.of_same sa), s3 _ _ a2, hb2.mono (TupS.of_same sa), rfl⟩
      exact k _ (p3.trans ((Evo.same sa).trans d2)) d1
    | some b2 =>
      rw [e2] at p8
      obtain ⟨l2, vs2, rfl, _, z1, z2⟩ := p8
      have hb2 : BlkH H1 (F.b2.getD .nil) vs2 := by rw [e2]; exact z2
      refine ⟨_, rfl, _, .inl ⟨vs2, SqL.of (s1 _ _ z1), rfl⟩, ?_⟩
      cases vs2 with
      | nil =>
        refine iteF ⟨Nat.zero_le _, fun q0 hq0 => ⟨q0, [], rfl, .inl ⟨SqL.of upd_same, fun t2 ht2 => ?_⟩⟩⟩
        have s0 := (same_new hq0 (.lst [])).trans (same_new ht2 (.tup []))
        have s2 := s1.trans s0
        have a1 := s0 _ _ (upd_same (H := H1) (a := t1) (o := .tup vs1))
        have a2 := upd_same (H := upd (upd H1 t1 (.tup vs1)) q0 (.lst [])) (a := t2) (o := .tup [])
        refine ⟨by show 2 ≤ sizeLine; decide, fun q hq => cat_all (SqT.of (same_new hq _ _ _ (s2 _ _ hhp))) upd_same (by show 2 + 2 ≤ sizeLine; decide) (by simp) fun r H' s hr => ?_⟩
        have s3 := (same_new hq _).trans s
        have sa := s2.trans s3
        refine ⟨l, _, _, rfl, rfl, sa _ _ c7, szB (by omega), ?_⟩
        obtain ⟨d1, d2⟩ := c9 H' r (F.close true c) sa ⟨r, u, t1, t2, vs1, _, [], rfl, hr, hu.mono (TupS.of_same sa), s3 _ _ a1, p6.mono (TupS.of_same sa), s3 _ _ a2, hb2.mono (TupS.of_same sa), rfl⟩
        exact k _ (p3.trans ((Evo.same sa).trans d2)) d1
      | cons z zs =>
        refine iteT ⟨l2, z :: zs, rfl, .inl ⟨SqL.of (s1 _ _ z1), fun t2 ht2 => ?_⟩⟩
        have s0 := same_new ht2 (.tup (z :: zs))
        have s2 := s1.trans s0
        have a1 := s0 _ _ (upd_same (H := H1) (a := t1) (o := .tup vs1))
        have a2 := upd_same (H := upd H1 t1 (.tup vs1)) (a := t2) (o := .tup (z :: zs))
        refine ⟨by show 2 ≤ sizeLine; decide, fun q hq => cat_all (SqT.of (same_new hq _ _ _ (s2 _ _ hhp))) upd_same (by show 2 + 2 ≤ sizeLine; decide) (by simp) fun r H' s hr => ?_⟩
        have s3 := (same_new hq _).trans s
        have sa := s2.trans s3
        refine ⟨l, _, _, rfl, rfl, sa _ _ c7, szB (by omega), ?_⟩
        obtain ⟨d1, d2⟩ := c9 H' r (F.close true c) sa ⟨r, u, t1, t2, vs1, _, [], rfl, hr, hu.mono (TupS.of_same sa), s3 _ _ a1, p6.mono (TupS.of_same sa), s3 _ _ a2, hb2.mono (TupS.of_same sa), rfl⟩
        exact k _ (p3.trans ((Evo.same sa).trans d2)) d1
  | false =>
    refine ⟨_, rfl, hp, _, _, _, rfl, rfl, SqT.of hhp, rfl, rfl, _, rfl, iteF ?_⟩
    refine ⟨_, rfl, _, rfl, fl, _, _, _, rfl, rfl, SqL.of c1, atI_last _ _, _, rfl, _, rfl, fl, _, _, _, rfl, rfl, SqL.of c1, atI_last _ _, g, _, _, _, rfl, rfl, SqL.of c3, rfl, rfl, .inr ⟨_, rfl, _, _, rfl, rfl, g, _, _, _, rfl, rfl, SqL.of c3, c6, tyL c7, _, rfl, ?_⟩⟩
    refine ⟨_, rfl, l1, vs1, rfl, .inl ⟨SqL.of p5, fun t1 ht1 => ?_⟩⟩
    have s2 := same_new ht1 (.tup vs1)
    have a1 := upd_same (H := H1) (a := t1) (o := .tup vs1)
    refine ⟨by show 1 ≤ sizeLine; decide, fun q hq => cat_all (SqT.of (same_new hq _ _ _ (s2 _ _ hhp))) upd_same (by show 2 + 1 ≤ sizeLine; decide) (by simp) fun r H' s hr => ?_⟩
    have s3 := (same_new hq _).trans s
    have sa := s2.trans s3
    refine ⟨l, _, _, rfl, rfl, sa _ _ c7, szB (by omega), ?_⟩
    obtain ⟨d1, d2⟩ := c9 H' r (F.close false c) sa ⟨r, u, t1, vs1, [], rfl, hr, hu.mono (TupS.of_same sa), s3 _ _ a1, p6.mono (TupS.of_same sa), rfl⟩
    exact k _ (p3.trans ((Evo.same sa).trans d2)) d1
end
end L2.K17

set_option maxHeartbeats 4000000
/-! a program is made -/
namespace L2.K17
open PySem L2
theorem app_size : ∀ a b : Blk, (a.app b).size = a.size + b.size
  | .nil, b => (Nat.zero_add _).symm
  | .one s r, b => by
    have := app_size r b
    show (r.app b).size + 1 = r.size + 1 + b.size
    omega
  | .ite c x y r, b => by
    have := app_size r b
    show x.size + y.size + (r.app b).size + 2 = x.size + y.size + r.size + 2 + b.size
    omega
  | .whl c x r, b => by
    have := app_size r b
    show x.size + (r.app b).size + 2 = x.size + r.size + 2 + b.size
    omega
theorem app_depth : ∀ a b : Blk, (a.app b).depth ≤ max a.depth b.depth
  | .nil, b => Nat.le_max_right ..
  | .one s r, b => app_depth r b
  | .ite c x y r, b => by
    have := app_depth r b
    show max (max x.depth y.depth + 1) (r.app b).depth ≤ max (max (max x.depth y.depth + 1) r.depth) b.depth
    omega
  | .whl c x r, b => by
    have := app_depth r b
    show max (x.depth + 1) (r.app b).depth ≤ max (max (x.depth + 1) r.depth) b.depth
    omega
theorem len_size : ∀ x : Blk, x.len ≤ x.size
  | .nil => Nat.le_refl _
  | .one s r => Nat.succ_le_succ (len_size r)
  | .ite c a b r => by
    have := len_size r
    show r.len + 1 ≤ a.size + b.size + r.size + 2
    omega
  | .whl c a r => by
    have := len_size r
    show r.len + 1 ≤ a.size + r.size + 2
    omega
structure Fr.ok (n : Nat) (F : Fr) : Prop where
  o1 : F.b1.ok
  d1 : F.b1.depth + n ≤ 5
  o2 : ∀ b, F.b2 = some b → b.ok ∧ b.depth + n ≤ 5
  hd : n ≠ 0 → ∃ b c, F.hd = some (b, c) ∧ c.fit
def Fr.sz (F : Fr) : Nat := F.b1.size + (match F.b2 with
  | none => 0
  | some b => b.size) + 2
def StkOk : List Fr → Prop
  | [] => True
  | F :: Fs => F.ok Fs.length ∧ StkOk Fs
def pot : List Fr → Nat
  | [] => 0
  | F :: Fs => F.sz + pot Fs
theorem Fr.cur_le (F : Fr) : F.cur ≤ F.sz := by
  unfold Fr.cur Fr.sz
  cases F.b2 with
  | none =>
    have := len_size F.b1
    simp only
    omega
  | some b =>
    have := len_size b
    simp only
    omega
theorem Fr.add_sz (F : Fr) (s : Blk) : (F.add s).sz = F.sz + s.size := by
  unfold Fr.add Fr.sz
  cases e : F.b2 with
  | none =>
    simp only [e, app_size]
    omega
  | some b =>
    simp only [app_size]
    omega
theorem Fr.ok.add {F : Fr} {n : Nat} (h : F.ok n) {s : Blk} (hs : s.ok) (hd : s.depth + n ≤ 5) : (F.add s).ok n := by
  have d1 := app_depth F.b1 s
  unfold Fr.add
  cases e : F.b2 with
  | none =>
    have := h.d1
    exact ⟨Blk.ok_app h.o1 hs, by show (F.b1.app s).depth + n ≤ 5; omega, fun b hb => (by cases hb), h.hd⟩
  | some b =>
    have d2 := app_depth b s
    obtain ⟨q1, q2⟩ := h.o2 b e
    refine ⟨h.o1, h.d1, fun b' hb => ?_, h.hd⟩
    have hb : some (b.app s) = some b' := hb
    cases hb
    exact ⟨Blk.ok_app q1 hs, by omega⟩
theorem Fr.ok.close {F : Fr} {n : Nat} (h : F.ok (n + 1)) {b : Bool} {c : Say} (hc : c.fit) : (F.close b c).ok ∧ (F.close b c).depth + n ≤ 5 := by
  have e1 := h.d1
  have e2 : (F.b2.getD .nil).ok ∧ (F.b2.getD .nil).depth + (n + 1) ≤ 5 := by
    cases e : F.b2 with
    | none => exact ⟨True.intro, by show 0 + (n + 1) ≤ 5; omega⟩
    | some x => exact h.o2 x e
  cases b with
  | true =>
    refine ⟨⟨hc, h.o1, e2.1, True.intro⟩, ?_⟩
    show max (max F.b1.depth (F.b2.getD .nil).depth + 1) 0 + n ≤ 5
    omega
  | false =>
    refine ⟨⟨hc, h.o1, True.intro⟩, ?_⟩
    show max (F.b1.depth + 1) 0 + n ≤ 5
    omega
theorem Fr.close_sz (F : Fr) (b : Bool) (c : Say) : (F.close b c).size ≤ F.sz := by
  have e : (F.b2.getD .nil).size = (match F.b2 with
    | none => 0
    | some b => b.size) := by
    cases F.b2 <;> rfl
  cases b with
  | true =>
    show F.b1.size + (F.b2.getD .nil).size + 0 + 2 ≤ F.sz
    unfold Fr.sz
    omega
  | false =>
    show F.b1.size + 0 + 2 ≤ F.sz
    unfold Fr.sz
    omega
theorem same_keep {a : Addr} {H H1 H2 : Hp} (s : Same H H1) (k : Keep a H1 H2) (h : H a = none) : Same H H2 := fun b o e => k b o (ne_of_none e h) (s b o e)
def spProg : Sp := fun vs H Q _ => ∃ (ca : Addr) (ns : List Int), vs = [.ref ca] ∧ H ca = some (.lst (ns.map V.int)) ∧ ns.length ≤ 100 ∧
  ∀ H' p blk, Same H H' → ProgH H' blk p → blk.ok → blk.depth ≤ 5 → blk.size ≤ 1000 → Q (.ref p) H'
section
variable {P : Program} {w : World} {K : PySem.W.Frag} {mg : Str → Option Value} {base : Heap}
theorem sc_law_program : FnScope ["cells", "frames", "cell", "deck", "kind"] ["cells"] (defScope s_law_program) := ⟨rfl, rfl, rfl, by decide +kernel, rfl, by decide +kernel, by decide +kernel⟩
theorem D_law_program (T : Tx K mg) : Def1 P w K mg base 10 "_law_program" ["cells"] spProg := by
  have D_law_deck : Def1 P w K mg base 1 "_law_deck" ["cell", "turn"] spDeck := D_law_deck T
  have D_law_pick : Def1 P w K mg base 1 "_law_pick" ["deck", "many"] spPick := D_law_pick T
  have D_law_saying : Def1 P w K mg base 7 "_law_saying" ["deck", "deep"] (spSaying 4) := D_law_saying T 4
  have D_law_simple : Def1 P w K mg base 9 "_law_simple" ["deck"] spStmt := D_law_simple T
  have D_law_closed : Def1 P w K mg base 1 "_law_closed" ["frames"] spClosed := D_law_closed T
  refine T.mk1 (st := s_law_program) 15 15 rfl rfl sc_law_program (fun _ _ _ _ _ _ us hl => match us, hl with | [_], _ => rfl) (fun vs H Q E h => ?_) (fun cdv A outer s H vs Q E hr h => ?_)
  · obtain ⟨_, _, rfl, _⟩ := h
    rfl
  obtain ⟨ca, ns, rfl, hca, hnl, k⟩ := h
  refine ⟨_, (pss_cons (ps_set (i := 1) sc_law_program.nd rfl (Or.inl rfl) (pe_lst (pa_cons (pe_lst (pa_cons pe_non (pa_cons (pe_lst pa_nil) (pa_cons pe_non pa_nil)))) pa_nil)))
    (pss_cons (ps_for PassesOwn.never rfl (pi_list (pv 0)) (pg_name (i := 2) sc_law_program.nd rfl (Or.inl rfl)) (pss_cons (ps_set (i := 3) sc_law_program.nd rfl (Or.inl rfl) (pe_c D_law_deck (hr.mono (by omega)) (pa_cons (pv 2) (pa_cons pe_int pa_nil))))
    (pss_cons (ps_set (i := 4) sc_law_program.nd rfl (Or.inl rfl) (pe_c D_law_pick (hr.mono (by omega)) (pa_cons (pv 3) (pa_cons pe_int pa_nil))))
    (pss_one (ps_if (PW.pt (pw_and (pt_cmpR op_lt (pv 4) pe_int (nomark _)) (pw_and1 (pt_cmpR op_lt (pe_callB call_len_seq (by rfl) T.f_len (by decide +kernel) (pa_cons (pv 1) pa_nil)) pe_int (nomark _))))) (pss_one (ps_expr (pe_bm PySem.F.plainAttrs_list PySem.F.slot_list_append PySem.F.type_list_append mt_append (pv 1) (pa_cons (pe_lst (pa_cons (pe_tup (pa_cons (pe_ix ix_list (pe_lst (pa_cons pe_str (pa_cons pe_str (pa_cons pe_str (pa_cons pe_str pa_nil))))) (pv 4) (fun _ _ => rfl)) (pa_cons (pe_c D_law_saying (hr.mono (by omega)) (pa_cons (pv 3) (pa_cons pe_int pa_nil))) pa_nil))) (pa_cons (pe_lst pa_nil) (pa_cons pe_non pa_nil)))) pa_nil)))) (pss_one (ps_if (PW.pt (pw_and (pt_cmpR op_eq (pv 4) pe_int (nomark _)) (pw_and1 (pt_cmpR op_gt (pe_callB call_len_seq (by rfl) T.f_len (by decide +kernel) (pa_cons (pv 1) pa_nil)) pe_int (nomark _))))) (pss_one (ps_expr (pe_c D_law_closed (hr.mono (by omega)) (pa_cons (pv 1) pa_nil)))) (pss_one (ps_if (PW.pt (pw_and (pt_cmpR op_eq (pv 4) pe_int (nomark _)) (pw_and (pt_cmpR op_gt (pe_callB call_len_seq (by rfl) T.f_len (by decide +kernel) (pa_cons (pv 1) pa_nil)) pe_int (nomark _)) (pw_and (pt_cmpR op_eq (pe_ix ix_tup (pe_ix ix_list (pe_ix ix_list (pv 1) (pe_un un_neg pe_int) (fun _ _ => rfl)) pe_int (fun _ _ => rfl)) pe_int (fun _ _ => rfl)) pe_str (nomark _)) (pw_and1 (pt_cmpR op_isN (pe_ix ix_list (pe_ix ix_list (pv 1) (pe_un un_neg pe_int) (fun _ _ => rfl)) pe_int (fun _ _ => rfl)) pe_non (nomark _))))))) (pss_one (ps_asg (pe_lst pa_nil) (pg_sub (pe_ix ix_list (pv 1) (pe_un un_neg pe_int) (fun _ _ => rfl)) pe_int set_list))) (pss_one (ps_expr (pe_bm PySem.F.plainAttrs_list PySem.F.slot_list_append PySem.F.type_list_append mt_append (pe_ix ix_list (pe_ix ix_list (pv 1) (pe_un un_neg pe_int) (fun _ _ => rfl)) (pe_op op_add pe_int (pe_callTy call_int1 (by rfl) T.f_int (by decide +kernel) (pa_cons (pe_cmpR op_notN (pe_ix ix_list (pe_ix ix_list (pv 1) (pe_un un_neg pe_int) (fun _ _ => rfl)) pe_int (fun _ _ => rfl)) pe_non (nomark _)) pa_nil))) (fun _ _ => rfl)) (pa_cons (pe_c D_law_simple (hr.mono (by omega)) (pa_cons (pv 3) pa_nil)) pa_nil)))))))))))))
    (pss_cons (ps_while PassesOwn.never (pt_cmpR op_gt (pe_callB call_len_seq (by rfl) T.f_len (by decide +kernel) (pa_cons (pv 1) pa_nil)) pe_int (nomark _)) (pss_one (ps_expr (pe_c D_law_closed (hr.mono (by omega)) (pa_cons (pv 1) pa_nil)))))
    (pss_one (ps_ret (pe_callTy call_tuple_of (by rfl) T.f_tuple (by decide +kernel) (pa_cons (pe_ix ix_list (pe_ix ix_list (pv 1) pe_int (fun _ _ => rfl)) pe_int (fun _ _ => rfl)) pa_nil))))))), ?_⟩
  refine ⟨Nat.zero_le _, fun l1 hl1 => ⟨by show 3 ≤ sizeLine; decide, fun f hf => ⟨by show 1 ≤ sizeLine; decide, fun fl hfl => ?_⟩⟩⟩
  have i1 : Evo noT H (setT noT l1 .co) (upd H l1 (.lst [])) := Evo.new hl1
  have i2 : Evo (setT noT l1 .co) (upd H l1 (.lst [])) (setT (setT noT l1 .co) f .co) (upd (upd H l1 (.lst [])) f (.lst [.non, .ref l1, .non])) := Evo.new hf
  have i3 : Evo (setT (setT noT l1 .co) f .co) (upd (upd H l1 (.lst [])) f (.lst [.non, .ref l1, .non])) (setT (setT (setT noT l1 .co) f .co) fl .co) (upd (upd (upd H l1 (.lst [])) f (.lst [.non, .ref l1, .non])) fl (.lst [.ref f])) := Evo.new hfl
  have n1 : f ≠ l1 := (ne_of_none upd_same hf).symm
  have n2 : fl ≠ f := (ne_of_none upd_same hfl).symm
  have n3 : fl ≠ l1 := (ne_of_none (same_new hf _ _ _ upd_same) hfl).symm
  have P0 : PrgH (setT (setT (setT noT l1 .co) f .co) fl .co) (upd (upd (upd H l1 (.lst [])) f (.lst [.non, .ref l1, .non])) fl (.lst [.ref f])) fl [⟨none, .nil, none⟩] := by
    refine ⟨[f], [f, l1], upd_same, ⟨f, [], [f, l1], [], rfl, rfl, ⟨.non, l1, [], .non, [], by rw [upd_ne n2.symm]; exact upd_same, by rw [upd_ne n3.symm, upd_ne n1.symm]; exact upd_same, rfl, rfl, rfl, rfl, rfl⟩, rfl, rfl⟩, ?_, ?_⟩
    · simp [n1, n2, n3]
    · intro b hb
      by_cases c1 : b = fl
      · rw [c1]; exact setT_same
      rw [setT_ne c1]
      by_cases c2 : b = f
      · rw [c2]; exact setT_same
      rw [setT_ne c2]
      by_cases c3 : b = l1
      · rw [c3]; exact setT_same
      simp [c1, c2, c3] at hb
  refine ⟨_, rfl, ca, rfl, ⟨_, SqL.of ((i1.trans (i2.trans i3)).out _ _ hca rfl)⟩, for_list (K := K) (a := ca) (xs := ns.map V.int) (fun i σ H' => ∃ (U : Tg) (Fs : List Fr) (v2 v3 v4 : Option V), σ = [some (.ref ca), some (.ref fl), v2, v3, v4] ∧ Evo noT H U H' ∧ PrgH U H' fl Fs ∧ Fs ≠ [] ∧ StkOk Fs ∧ Fs.length ≤ 6 ∧ pot Fs ≤ 2 + 2 * i)
    ⟨_, [⟨none, .nil, none⟩], none, none, none, rfl, i1.trans (i2.trans i3), P0, (fun z => nomatch z), ⟨⟨True.intro, Nat.zero_le _, (fun b z => nomatch z), (fun z => absurd rfl z)⟩, True.intro⟩, by decide, by decide⟩ (fun i σ H' _ ⟨U, Fs, _, _, _, _, ev, _⟩ => SqL.of (ev.out _ _ hca rfl)) ?_ ?_⟩
  · rintro i x σ H0 hi ⟨U, Fs, v2, v3, v4, rfl, ev, hP, hne, hok, hfl6, hpot⟩
    have hil : i < (ns.map V.int).length := (List.getElem?_eq_some_iff.mp hi).1
    rw [List.length_map] at hil
    rw [List.getElem?_map] at hi
    obtain ⟨cell, hcell, rfl⟩ := Option.map_eq_some_iff.mp hi
    obtain ⟨gs0, hg0, hgl0⟩ := hP.len
    refine ⟨_, rfl, cell, 3, rfl, fun H1 a ha s1 d1 => ?_⟩
    refine ⟨_, rfl, a, 16, rfl, d1, by decide, by decide, fun H2 r k2 d2 r0 r1 => ?_⟩
    have s2 := same_keep s1 k2 ha
    have el : (gs0.map V.ref).length = Fs.length := by rw [List.length_map, hgl0]
    refine ⟨_, rfl, _, _, rfl, rfl, _, rfl, ?_⟩
    refine ite2 (fun c1 => ?_) (fun c1 => iteF ?_)
    · skip
      refine ⟨_, rfl, fl, _, rfl, .inl (SqL.of (s2 _ _ hg0)), _, _, rfl, rfl, _, rfl, ?_⟩
      rw [el]
      by_cases c6 : Fs.length < 6
      · rw [show decide (((Fs.length : Nat) : Int) < 6) = true from decide_eq_true (by omega)]
        refine iteT ?_
        refine ⟨_, rfl, tyL (s2 _ _ hg0), by show 4 ≤ sizeLine; decide, fun wd hwd => ?_⟩
        have sw := same_new hwd (.lst [.str "if", .str "while", .str "if", .str "if"])
        have r4 : r < 4 := of_decide_eq_true c1
        obtain ⟨v0, hv0, hm0⟩ := atI_mem (xs := [.str "if", .str "while", .str "if", .str "if"]) r0 r4
        obtain ⟨b, rfl⟩ : ∃ b : Bool, v0 = .str (ifW b) := by
          simp only [List.mem_cons, List.not_mem_nil, or_false] at hm0
          rcases hm0 with h | h | h | h
          · exact ⟨true, h⟩
          · exact ⟨false, h⟩
          · exact ⟨true, h⟩
          · exact ⟨true, h⟩
        refine ⟨_, rfl, wd, _, _, _, rfl, rfl, SqL.of upd_same, hv0, _, rfl, a, 3, rfl, by decide, by decide, d2.same sw, fun H4 v e k4 d4 hv ho hde => ⟨by show 2 ≤ sizeLine; decide, fun hp hhp => ⟨Nat.zero_le _, fun l1' hl1' => ⟨by show 3 ≤ sizeLine; decide, fun f' hf' => ?_⟩⟩⟩⟩
        have s4 : Same H0 H4 := same_keep s1 (k2.trans ((Keep.same sw).trans k4)) ha
        have q1 := same_new hhp (.tup [.str (ifW b), v])
        have q2 := same_new hl1' (.lst [])
        have q3 := same_new hf' (.lst [.ref hp, .ref l1', .non])
        have s7 := s4.trans (q1.trans (q2.trans q3))
        refine ⟨fl, _, _, rfl, rfl, s7 _ _ hg0, by rw [el]; exact szB (by omega), ?_⟩
        have hh : HdH (upd (upd (upd H4 hp (.tup [.str (ifW b), v])) l1' (.lst [])) f' (.lst [.ref hp, .ref l1', .non])) (.ref hp) (some (b, e)) := ⟨hp, v, rfl, q3 _ _ (q2 _ _ upd_same), hv.mono (TupS.of_same (q1.trans (q2.trans q3)))⟩
        have n1' : f' ≠ l1' := (ne_of_none upd_same hf').symm
        obtain ⟨e1, e2⟩ := hP.push s7 ((s4.trans q1).free hl1') ((s4.trans (q1.trans q2)).free hf') n1' (q3 _ _ upd_same) upd_same hh (s7 _ _ hg0)
        have hsz : (⟨some (b, e), .nil, none⟩ : Fr).sz = 2 := rfl
        exact ⟨_, ⟨some (b, e), .nil, none⟩ :: Fs, _, _, _, rfl, ev.trans e2, e1, (fun z => nomatch z), ⟨⟨True.intro, by show 0 + Fs.length ≤ 5; omega, (fun b z => nomatch z), fun _ => ⟨b, e, rfl, ho, by omega⟩⟩, hok⟩, by rw [List.length_cons]; omega, by show (⟨some (b, e), .nil, none⟩ : Fr).sz + pot Fs ≤ _; omega⟩
      · rw [show decide (((Fs.length : Nat) : Int) < 6) = false from decide_eq_false (by omega)]
        refine iteF ?_
        refine ⟨_, rfl, rfl, _, rfl, ?_⟩
        refine ite2 (fun c4 => ?_) (fun c4 => iteF ?_)
        · skip
          refine ⟨_, rfl, fl, _, rfl, .inl (SqL.of (s2 _ _ hg0)), _, _, rfl, rfl, _, rfl, ?_⟩
          rw [el]
          by_cases c7 : 1 < Fs.length
          · rw [show decide ((1 : Int) < ((Fs.length : Nat) : Int)) = true from decide_eq_true (by omega)]
            refine iteT ?_
            obtain ⟨F, G, Fs', rfl⟩ : ∃ F G Fs', Fs = F :: G :: Fs' := by
              cases Fs with
              | nil => exact absurd rfl hne
              | cons F r => cases r with
                | nil => exact absurd c7 (Nat.lt_irrefl 1)
                | cons G r => exact ⟨F, G, r, rfl⟩
            obtain ⟨ok1, ok2, ok3⟩ := hok
            obtain ⟨b, c, hF, hc⟩ := ok1.hd (by rw [List.length_cons]; omega)
            have hcur := G.cur_le
            have hpot' : F.sz + (G.sz + pot Fs') ≤ 2 + 2 * i := hpot
            refine ⟨_, rfl, U, fl, F, G, Fs', b, c, rfl, hP.same s2, hF, by omega, fun H3 e3 P3 => ?_⟩
            obtain ⟨z1, z2⟩ := ok1.close (b := b) hc
            have asz := G.add_sz (F.close b c)
            have csz := F.close_sz b c
            have hl : (F :: G :: Fs').length = Fs'.length + 2 := rfl
            exact ⟨U, G.add (F.close b c) :: Fs', _, _, _, rfl, ev.trans ((Evo.same s2).trans e3), P3, (fun z => nomatch z), ⟨ok2.add z1 z2, ok3⟩, by rw [List.length_cons]; omega, by show (G.add (F.close b c)).sz + pot Fs' ≤ _; omega⟩
          · rw [show decide ((1 : Int) < ((Fs.length : Nat) : Int)) = false from decide_eq_false (by omega)]
            refine iteF ?_
            refine ⟨_, rfl, rfl, _, rfl, ?_⟩
            refine ite2 (fun c5 => ?_) (fun c5 => iteF ?_)
            · skip
              refine ⟨_, rfl, fl, _, rfl, .inl (SqL.of (s2 _ _ hg0)), _, _, rfl, rfl, _, rfl, ?_⟩
              rw [el]
              by_cases c7 : 1 < Fs.length
              · rw [show decide ((1 : Int) < ((Fs.length : Nat) : Int)) = true from decide_eq_true (by omega)]
                refine iteT ?_
                obtain ⟨F, G, Fs', rfl⟩ : ∃ F G Fs', Fs = F :: G :: Fs' := by
                  cases Fs with
                  | nil => exact absurd rfl hne
                  | cons F r => cases r with
                    | nil => exact absurd c7 (Nat.lt_irrefl 1)
                    | cons G r => exact ⟨F, G, r, rfl⟩
                have hok' := hok
                obtain ⟨ok1, ok2, ok3⟩ := hok'
                obtain ⟨b, c, hF, hc⟩ := ok1.hd (by rw [List.length_cons]; omega)
                have hP2 := hP.same s2
                obtain ⟨gs2, g, hv2, l12, sec2, l, vs, c1', c2', c3', c4', c5', c6', c7', c8', c9'⟩ := hP2.cur
                rw [hF] at c4'
                obtain ⟨hp, u, rfl, hhp, hu⟩ := c4'
                have hhp : H2 hp = some (.tup [.str (ifW b), u]) := hhp
                cases b with
                | false =>
                  refine ⟨_, rfl, _, rfl, fl, _, _, _, rfl, rfl, SqL.of c1', atI_last _ _, g, _, _, _, rfl, rfl, SqL.of c3', rfl, hp, _, _, _, rfl, rfl, SqT.of hhp, rfl, rfl, _, rfl, iteF (iteF ?_)⟩
                  clear c1' c2' c3' c5' c6' c7' c8' c9'
                  obtain ⟨G, Fs', eF⟩ := List.exists_cons_of_ne_nil hne
                  rw [eF] at hP hok hpot hfl6
                  obtain ⟨ok1, ok2⟩ := hok
                  have hP2 := hP.same s2
                  obtain ⟨gs2, g, hv2, l12, sec2, l, vs, c1', c2', c3', c4', c5', c6', c7', c8', c9'⟩ := hP2.cur
                  refine ⟨_, rfl, _, rfl, fl, _, _, _, rfl, rfl, SqL.of c1', atI_last _ _, _, rfl, _, rfl, fl, _, _, _, rfl, rfl, SqL.of c1', atI_last _ _, g, _, _, _, rfl, rfl, SqL.of c3', rfl, rfl, .inr ⟨_, rfl, _, _, rfl, rfl, g, _, _, _, rfl, rfl, SqL.of c3', c6', tyL c7', _, rfl, ?_⟩⟩
                  refine ⟨a, rfl, d2, fun H3 p us s k3 d3 hp hs hso => ?_⟩
                  have s3 : Same H0 H3 := same_keep s1 (k2.trans k3) ha
                  obtain ⟨gs4, g4, hv4, l14, sec4, l4, vs4, b1, b2, b3, b4, b5, b6, b7, b8, b9⟩ := hP.cur
                  have hge : g4 = g ∧ vs4 = vs ∧ l4 = l := by
                    have q1 := s2 _ _ b1
                    rw [c1'] at q1
                    injection q1 with q1
                    injection q1 with q1
                    have z := congrArg List.getLast? q1
                    rw [List.getLast?_append, List.getLast?_append] at z
                    simp at z
                    subst z
                    have q2 := s2 _ _ b3
                    rw [c3'] at q2
                    injection q2 with q2
                    injection q2 with q2
                    injection q2 with q2 q3
                    injection q3 with q3 q4
                    injection q3 with q3
                    injection q4 with q4 _
                    subst q2 q3 q4
                    rw [b6] at c6'
                    injection c6' with c6'
                    injection c6' with c6'
                    subst c6'
                    have q5 := s2 _ _ b7
                    rw [c7'] at q5
                    injection q5 with q5
                    injection q5 with q5
                    exact ⟨rfl, q5.symm, rfl⟩
                  obtain ⟨rfl, rfl, rfl⟩ := hge
                  have hcur := G.cur_le
                  have hvl : vs4.length = G.cur := b8
                  have hpot' : G.sz + pot Fs' ≤ 2 + 2 * i := hpot
                  refine ⟨l4, _, _, rfl, rfl, s3 _ _ b7, szB (by omega), ?_⟩
                  obtain ⟨e1, e2⟩ := b9 H3 p (.one s .nil) s3 ⟨p, us, [], rfl, hp, hs, rfl⟩
                  have asz := G.add_sz (.one s .nil)
                  have a1 : (Blk.one s .nil).size = 1 := rfl
                  exact ⟨U, G.add (.one s .nil) :: Fs', _, _, _, rfl, ev.trans ((Evo.same s3).trans e2), e1, (fun z => nomatch z), ⟨ok1.add ⟨hso, True.intro⟩ (by show 0 + _ ≤ 5; have := ok1.d1; omega), ok2⟩, hfl6, by show (G.add (.one s .nil)).sz + pot Fs' ≤ _; omega⟩
                | true =>
                  refine ⟨_, rfl, _, rfl, fl, _, _, _, rfl, rfl, SqL.of c1', atI_last _ _, g, _, _, _, rfl, rfl, SqL.of c3', rfl, hp, _, _, _, rfl, rfl, SqT.of hhp, rfl, rfl, _, rfl, iteT ?_⟩
                  refine ⟨_, rfl, _, rfl, fl, _, _, _, rfl, rfl, SqL.of c1', atI_last _ _, g, _, _, _, rfl, rfl, SqL.of c3', rfl, rfl, _, rfl, ?_⟩
                  rw [c5']
                  by_cases cb : F.b2 = none
                  · rw [decide_eq_true cb]
                    refine iteT ⟨Nat.zero_le _, fun l2 hl2 => ?_⟩
                    have sl := same_new hl2 (.lst [])
                    refine ⟨_, rfl, _, rfl, fl, _, _, _, rfl, rfl, SqL.of (sl _ _ c1'), atI_last _ _, g, _, 2, 2, rfl, rfl, sl _ _ c3', rfl, ?_⟩
                    obtain ⟨e1, e2⟩ := hP2.second cb c1' c3' hl2
                    have hl : (F :: G :: Fs').length = Fs'.length + 2 := rfl
                    have hsz : (⟨F.hd, F.b1, some .nil⟩ : Fr).sz = F.sz := by
                      unfold Fr.sz
                      rw [cb]
                      rfl
                    have hpot' : F.sz + (G.sz + pot Fs') ≤ 2 + 2 * i := hpot
                    refine ⟨_, ⟨F.hd, F.b1, some .nil⟩ :: G :: Fs', _, _, _, rfl, ev.trans ((Evo.same s2).trans e2), e1, (fun z => nomatch z), ⟨⟨ok1.o1, ok1.d1, fun b hb => ?_, ok1.hd⟩, ok2, ok3⟩, hfl6, by show (⟨F.hd, F.b1, some .nil⟩ : Fr).sz + (G.sz + pot Fs') ≤ _; omega⟩
                    have hb : some Blk.nil = some b := hb
                    cases hb
                    have := ok1.d1
                    exact ⟨True.intro, by show 0 + _ ≤ 5; omega⟩
                  · rw [decide_eq_false cb]
                    refine iteF ?_
                    clear c1' c2' c3' c5' c6' c7' c8' c9'
                    obtain ⟨G, Fs', eF⟩ := List.exists_cons_of_ne_nil hne
                    rw [eF] at hP hok hpot hfl6
                    obtain ⟨ok1, ok2⟩ := hok
                    have hP2 := hP.same s2
                    obtain ⟨gs2, g, hv2, l12, sec2, l, vs, c1', c2', c3', c4', c5', c6', c7', c8', c9'⟩ := hP2.cur
                    refine ⟨_, rfl, _, rfl, fl, _, _, _, rfl, rfl, SqL.of c1', atI_last _ _, _, rfl, _, rfl, fl, _, _, _, rfl, rfl, SqL.of c1', atI_last _ _, g, _, _, _, rfl, rfl, SqL.of c3', rfl, rfl, .inr ⟨_, rfl, _, _, rfl, rfl, g, _, _, _, rfl, rfl, SqL.of c3', c6', tyL c7', _, rfl, ?_⟩⟩
                    refine ⟨a, rfl, d2, fun H3 p us s k3 d3 hp hs hso => ?_⟩
                    have s3 : Same H0 H3 := same_keep s1 (k2.trans k3) ha
                    obtain ⟨gs4, g4, hv4, l14, sec4, l4, vs4, b1, b2, b3, b4, b5, b6, b7, b8, b9⟩ := hP.cur
                    have hge : g4 = g ∧ vs4 = vs ∧ l4 = l := by
                      have q1 := s2 _ _ b1
                      rw [c1'] at q1
                      injection q1 with q1
                      injection q1 with q1
                      have z := congrArg List.getLast? q1
                      rw [List.getLast?_append, List.getLast?_append] at z
                      simp at z
                      subst z
                      have q2 := s2 _ _ b3
                      rw [c3'] at q2
                      injection q2 with q2
                      injection q2 with q2
                      injection q2 with q2 q3
                      injection q3 with q3 q4
                      injection q3 with q3
                      injection q4 with q4 _
                      subst q2 q3 q4
                      rw [b6] at c6'
                      injection c6' with c6'
                      injection c6' with c6'
                      subst c6'
                      have q5 := s2 _ _ b7
                      rw [c7'] at q5
                      injection q5 with q5
                      injection q5 with q5
                      exact ⟨rfl, q5.symm, rfl⟩
                    obtain ⟨rfl, rfl, rfl⟩ := hge
                    have hcur := G.cur_le
                    have hvl : vs4.length = G.cur := b8
                    have hpot' : G.sz + pot Fs' ≤ 2 + 2 * i := hpot
                    refine ⟨l4, _, _, rfl, rfl, s3 _ _ b7, szB (by omega), ?_⟩
                    obtain ⟨e1, e2⟩ := b9 H3 p (.one s .nil) s3 ⟨p, us, [], rfl, hp, hs, rfl⟩
                    have asz := G.add_sz (.one s .nil)
                    have a1 : (Blk.one s .nil).size = 1 := rfl
                    exact ⟨U, G.add (.one s .nil) :: Fs', _, _, _, rfl, ev.trans ((Evo.same s3).trans e2), e1, (fun z => nomatch z), ⟨ok1.add ⟨hso, True.intro⟩ (by show 0 + _ ≤ 5; have := ok1.d1; omega), ok2⟩, hfl6, by show (G.add (.one s .nil)).sz + pot Fs' ≤ _; omega⟩
              · rw [show decide ((1 : Int) < ((Fs.length : Nat) : Int)) = false from decide_eq_false (by omega)]
                refine iteF (iteF ?_)
                obtain ⟨G, Fs', eF⟩ := List.exists_cons_of_ne_nil hne
                rw [eF] at hP hok hpot hfl6
                obtain ⟨ok1, ok2⟩ := hok
                have hP2 := hP.same s2
                obtain ⟨gs2, g, hv2, l12, sec2, l, vs, c1', c2', c3', c4', c5', c6', c7', c8', c9'⟩ := hP2.cur
                refine ⟨_, rfl, _, rfl, fl, _, _, _, rfl, rfl, SqL.of c1', atI_last _ _, _, rfl, _, rfl, fl, _, _, _, rfl, rfl, SqL.of c1', atI_last _ _, g, _, _, _, rfl, rfl, SqL.of c3', rfl, rfl, .inr ⟨_, rfl, _, _, rfl, rfl, g, _, _, _, rfl, rfl, SqL.of c3', c6', tyL c7', _, rfl, ?_⟩⟩
                refine ⟨a, rfl, d2, fun H3 p us s k3 d3 hp hs hso => ?_⟩
                have s3 : Same H0 H3 := same_keep s1 (k2.trans k3) ha
                obtain ⟨gs4, g4, hv4, l14, sec4, l4, vs4, b1, b2, b3, b4, b5, b6, b7, b8, b9⟩ := hP.cur
                have hge : g4 = g ∧ vs4 = vs ∧ l4 = l := by
                  have q1 := s2 _ _ b1
                  rw [c1'] at q1
                  injection q1 with q1
                  injection q1 with q1
                  have z := congrArg List.getLast? q1
                  rw [List.getLast?_append, List.getLast?_append] at z
                  simp at z
                  subst z
                  have q2 := s2 _ _ b3
                  rw [c3'] at q2
                  injection q2 with q2
                  injection q2 with q2
                  injection q2 with q2 q3
                  injection q3 with q3 q4
                  injection q3 with q3
                  injection q4 with q4 _
                  subst q2 q3 q4
                  rw [b6] at c6'
                  injection c6' with c6'
                  injection c6' with c6'
                  subst c6'
                  have q5 := s2 _ _ b7
                  rw [c7'] at q5
                  injection q5 with q5
                  injection q5 with q5
                  exact ⟨rfl, q5.symm, rfl⟩
                obtain ⟨rfl, rfl, rfl⟩ := hge
                have hcur := G.cur_le
                have hvl : vs4.length = G.cur := b8
                have hpot' : G.sz + pot Fs' ≤ 2 + 2 * i := hpot
                refine ⟨l4, _, _, rfl, rfl, s3 _ _ b7, szB (by omega), ?_⟩
                obtain ⟨e1, e2⟩ := b9 H3 p (.one s .nil) s3 ⟨p, us, [], rfl, hp, hs, rfl⟩
                have asz := G.add_sz (.one s .nil)
                have a1 : (Blk.one s .nil).size = 1 := rfl
                exact ⟨U, G.add (.one s .nil) :: Fs', _, _, _, rfl, ev.trans ((Evo.same s3).trans e2), e1, (fun z => nomatch z), ⟨ok1.add ⟨hso, True.intro⟩ (by show 0 + _ ≤ 5; have := ok1.d1; omega), ok2⟩, hfl6, by show (G.add (.one s .nil)).sz + pot Fs' ≤ _; omega⟩
            · skip
              obtain ⟨G, Fs', eF⟩ := List.exists_cons_of_ne_nil hne
              rw [eF] at hP hok hpot hfl6
              obtain ⟨ok1, ok2⟩ := hok
              have hP2 := hP.same s2
              obtain ⟨gs2, g, hv2, l12, sec2, l, vs, c1', c2', c3', c4', c5', c6', c7', c8', c9'⟩ := hP2.cur
              refine ⟨_, rfl, _, rfl, fl, _, _, _, rfl, rfl, SqL.of c1', atI_last _ _, _, rfl, _, rfl, fl, _, _, _, rfl, rfl, SqL.of c1', atI_last _ _, g, _, _, _, rfl, rfl, SqL.of c3', rfl, rfl, .inr ⟨_, rfl, _, _, rfl, rfl, g, _, _, _, rfl, rfl, SqL.of c3', c6', tyL c7', _, rfl, ?_⟩⟩
              refine ⟨a, rfl, d2, fun H3 p us s k3 d3 hp hs hso => ?_⟩
              have s3 : Same H0 H3 := same_keep s1 (k2.trans k3) ha
              obtain ⟨gs4, g4, hv4, l14, sec4, l4, vs4, b1, b2, b3, b4, b5, b6, b7, b8, b9⟩ := hP.cur
              have hge : g4 = g ∧ vs4 = vs ∧ l4 = l := by
                have q1 := s2 _ _ b1
                rw [c1'] at q1
                injection q1 with q1
                injection q1 with q1
                have z := congrArg List.getLast? q1
                rw [List.getLast?_append, List.getLast?_append] at z
                simp at z
                subst z
                have q2 := s2 _ _ b3
                rw [c3'] at q2
                injection q2 with q2
                injection q2 with q2
                injection q2 with q2 q3
                injection q3 with q3 q4
                injection q3 with q3
                injection q4 with q4 _
                subst q2 q3 q4
                rw [b6] at c6'
                injection c6' with c6'
                injection c6' with c6'
                subst c6'
                have q5 := s2 _ _ b7
                rw [c7'] at q5
                injection q5 with q5
                injection q5 with q5
                exact ⟨rfl, q5.symm, rfl⟩
              obtain ⟨rfl, rfl, rfl⟩ := hge
              have hcur := G.cur_le
              have hvl : vs4.length = G.cur := b8
              have hpot' : G.sz + pot Fs' ≤ 2 + 2 * i := hpot
              refine ⟨l4, _, _, rfl, rfl, s3 _ _ b7, szB (by omega), ?_⟩
              obtain ⟨e1, e2⟩ := b9 H3 p (.one s .nil) s3 ⟨p, us, [], rfl, hp, hs, rfl⟩
              have asz := G.add_sz (.one s .nil)
              have a1 : (Blk.one s .nil).size = 1 := rfl
              exact ⟨U, G.add (.one s .nil) :: Fs', _, _, _, rfl, ev.trans ((Evo.same s3).trans e2), e1, (fun z => nomatch z), ⟨ok1.add ⟨hso, True.intro⟩ (by show 0 + _ ≤ 5; have := ok1.d1; omega), ok2⟩, hfl6, by show (G.add (.one s .nil)).sz + pot Fs' ≤ _; omega⟩
        · skip
          refine ⟨_, rfl, rfl, _, rfl, ?_⟩
          refine ite2 (fun c5 => ?_) (fun c5 => iteF ?_)
          · skip
            refine ⟨_, rfl, fl, _, rfl, .inl (SqL.of (s2 _ _ hg0)), _, _, rfl, rfl, _, rfl, ?_⟩
            rw [el]
            by_cases c7 : 1 < Fs.length
            · rw [show decide ((1 : Int) < ((Fs.length : Nat) : Int)) = true from decide_eq_true (by omega)]
              refine iteT ?_
              obtain ⟨F, G, Fs', rfl⟩ : ∃ F G Fs', Fs = F :: G :: Fs' := by
                cases Fs with
                | nil => exact absurd rfl hne
                | cons F r => cases r with
                  | nil => exact absurd c7 (Nat.lt_irrefl 1)
                  | cons G r => exact ⟨F, G, r, rfl⟩
              have hok' := hok
              obtain ⟨ok1, ok2, ok3⟩ := hok'
              obtain ⟨b, c, hF, hc⟩ := ok1.hd (by rw [List.length_cons]; omega)
              have hP2 := hP.same s2
              obtain ⟨gs2, g, hv2, l12, sec2, l, vs, c1', c2', c3', c4', c5', c6', c7', c8', c9'⟩ := hP2.cur
              rw [hF] at c4'
              obtain ⟨hp, u, rfl, hhp, hu⟩ := c4'
              have hhp : H2 hp = some (.tup [.str (ifW b), u]) := hhp
              cases b with
              | false =>
                refine ⟨_, rfl, _, rfl, fl, _, _, _, rfl, rfl, SqL.of c1', atI_last _ _, g, _, _, _, rfl, rfl, SqL.of c3', rfl, hp, _, _, _, rfl, rfl, SqT.of hhp, rfl, rfl, _, rfl, iteF (iteF ?_)⟩
                clear c1' c2' c3' c5' c6' c7' c8' c9'
                obtain ⟨G, Fs', eF⟩ := List.exists_cons_of_ne_nil hne
                rw [eF] at hP hok hpot hfl6
                obtain ⟨ok1, ok2⟩ := hok
                have hP2 := hP.same s2
                obtain ⟨gs2, g, hv2, l12, sec2, l, vs, c1', c2', c3', c4', c5', c6', c7', c8', c9'⟩ := hP2.cur
                refine ⟨_, rfl, _, rfl, fl, _, _, _, rfl, rfl, SqL.of c1', atI_last _ _, _, rfl, _, rfl, fl, _, _, _, rfl, rfl, SqL.of c1', atI_last _ _, g, _, _, _, rfl, rfl, SqL.of c3', rfl, rfl, .inr ⟨_, rfl, _, _, rfl, rfl, g, _, _, _, rfl, rfl, SqL.of c3', c6', tyL c7', _, rfl, ?_⟩⟩
                refine ⟨a, rfl, d2, fun H3 p us s k3 d3 hp hs hso => ?_⟩
                have s3 : Same H0 H3 := same_keep s1 (k2.trans k3) ha
                obtain ⟨gs4, g4, hv4, l14, sec4, l4, vs4, b1, b2, b3, b4, b5, b6, b7, b8, b9⟩ := hP.cur
                have hge : g4 = g ∧ vs4 = vs ∧ l4 = l := by
                  have q1 := s2 _ _ b1
                  rw [c1'] at q1
                  injection q1 with q1
                  injection q1 with q1
                  have z := congrArg List.getLast? q1
                  rw [List.getLast?_append, List.getLast?_append] at z
                  simp at z
                  subst z
                  have q2 := s2 _ _ b3
                  rw [c3'] at q2
                  injection q2 with q2
                  injection q2 with q2
                  injection q2 with q2 q3
                  injection q3 with q3 q4
                  injection q3 with q3
                  injection q4 with q4 _
                  subst q2 q3 q4
                  rw [b6] at c6'
                  injection c6' with c6'
                  injection c6' with c6'
                  subst c6'
                  have q5 := s2 _ _ b7
                  rw [c7'] at q5
                  injection q5 with q5
                  injection q5 with q5
                  exact ⟨rfl, q5.symm, rfl⟩
                obtain ⟨rfl, rfl, rfl⟩ := hge
                have hcur := G.cur_le
                have hvl : vs4.length = G.cur := b8
                have hpot' : G.sz + pot Fs' ≤ 2 + 2 * i := hpot
                refine ⟨l4, _, _, rfl, rfl, s3 _ _ b7, szB (by omega), ?_⟩
                obtain ⟨e1, e2⟩ := b9 H3 p (.one s .nil) s3 ⟨p, us, [], rfl, hp, hs, rfl⟩
                have asz := G.add_sz (.one s .nil)
                have a1 : (Blk.one s .nil).size = 1 := rfl
                exact ⟨U, G.add (.one s .nil) :: Fs', _, _, _, rfl, ev.trans ((Evo.same s3).trans e2), e1, (fun z => nomatch z), ⟨ok1.add ⟨hso, True.intro⟩ (by show 0 + _ ≤ 5; have := ok1.d1; omega), ok2⟩, hfl6, by show (G.add (.one s .nil)).sz + pot Fs' ≤ _; omega⟩
              | true =>
                refine ⟨_, rfl, _, rfl, fl, _, _, _, rfl, rfl, SqL.of c1', atI_last _ _, g, _, _, _, rfl, rfl, SqL.of c3', rfl, hp, _, _, _, rfl, rfl, SqT.of hhp, rfl, rfl, _, rfl, iteT ?_⟩
                refine ⟨_, rfl, _, rfl, fl, _, _, _, rfl, rfl, SqL.of c1', atI_last _ _, g, _, _, _, rfl, rfl, SqL.of c3', rfl, rfl, _, rfl, ?_⟩
                rw [c5']
                by_cases cb : F.b2 = none
                · rw [decide_eq_true cb]
                  refine iteT ⟨Nat.zero_le _, fun l2 hl2 => ?_⟩
                  have sl := same_new hl2 (.lst [])
                  refine ⟨_, rfl, _, rfl, fl, _, _, _, rfl, rfl, SqL.of (sl _ _ c1'), atI_last _ _, g, _, 2, 2, rfl, rfl, sl _ _ c3', rfl, ?_⟩
                  obtain ⟨e1, e2⟩ := hP2.second cb c1' c3' hl2
                  have hl : (F :: G :: Fs').length = Fs'.length + 2 := rfl
                  have hsz : (⟨F.hd, F.b1, some .nil⟩ : Fr).sz = F.sz := by
                    unfold Fr.sz
                    rw [cb]
                    rfl
                  have hpot' : F.sz + (G.sz + pot Fs') ≤ 2 + 2 * i := hpot
                  refine ⟨_, ⟨F.hd, F.b1, some .nil⟩ :: G :: Fs', _, _, _, rfl, ev.trans ((Evo.same s2).trans e2), e1, (fun z => nomatch z), ⟨⟨ok1.o1, ok1.d1, fun b hb => ?_, ok1.hd⟩, ok2, ok3⟩, hfl6, by show (⟨F.hd, F.b1, some .nil⟩ : Fr).sz + (G.sz + pot Fs') ≤ _; omega⟩
                  have hb : some Blk.nil = some b := hb
                  cases hb
                  have := ok1.d1
                  exact ⟨True.intro, by show 0 + _ ≤ 5; omega⟩
                · rw [decide_eq_false cb]
                  refine iteF ?_
                  clear c1' c2' c3' c5' c6' c7' c8' c9'
                  obtain ⟨G, Fs', eF⟩ := List.exists_cons_of_ne_nil hne
                  rw [eF] at hP hok hpot hfl6
                  obtain ⟨ok1, ok2⟩ := hok
                  have hP2 := hP.same s2
                  obtain ⟨gs2, g, hv2, l12, sec2, l, vs, c1', c2', c3', c4', c5', c6', c7', c8', c9'⟩ := hP2.cur
                  refine ⟨_, rfl, _, rfl, fl, _, _, _, rfl, rfl, SqL.of c1', atI_last _ _, _, rfl, _, rfl, fl, _, _, _, rfl, rfl, SqL.of c1', atI_last _ _, g, _, _, _, rfl, rfl, SqL.of c3', rfl, rfl, .inr ⟨_, rfl, _, _, rfl, rfl, g, _, _, _, rfl, rfl, SqL.of c3', c6', tyL c7', _, rfl, ?_⟩⟩
                  refine ⟨a, rfl, d2, fun H3 p us s k3 d3 hp hs hso => ?_⟩
                  have s3 : Same H0 H3 := same_keep s1 (k2.trans k3) ha
                  obtain ⟨gs4, g4, hv4, l14, sec4, l4, vs4, b1, b2, b3, b4, b5, b6, b7, b8, b9⟩ := hP.cur
                  have hge : g4 = g ∧ vs4 = vs ∧ l4 = l := by
                    have q1 := s2 _ _ b1
                    rw [c1'] at q1
                    injection q1 with q1
                    injection q1 with q1
                    have z := congrArg List.getLast? q1
                    rw [List.getLast?_append, List.getLast?_append] at z
                    simp at z
                    subst z
                    have q2 := s2 _ _ b3
                    rw [c3'] at q2
                    injection q2 with q2
                    injection q2 with q2
                    injection q2 with q2 q3
                    injection q3 with q3 q4
                    injection q3 with q3
                    injection q4 with q4 _
                    subst q2 q3 q4
                    rw [b6] at c6'
                    injection c6' with c6'
                    injection c6' with c6'
                    subst c6'
                    have q5 := s2 _ _ b7
                    rw [c7'] at q5
                    injection q5 with q5
                    injection q5 with q5
                    exact ⟨rfl, q5.symm, rfl⟩
                  obtain ⟨rfl, rfl, rfl⟩ := hge
                  have hcur := G.cur_le
                  have hvl : vs4.length = G.cur := b8
                  have hpot' : G.sz + pot Fs' ≤ 2 + 2 * i := hpot
                  refine ⟨l4, _, _, rfl, rfl, s3 _ _ b7, szB (by omega), ?_⟩
                  obtain ⟨e1, e2⟩ := b9 H3 p (.one s .nil) s3 ⟨p, us, [], rfl, hp, hs, rfl⟩
                  have asz := G.add_sz (.one s .nil)
                  have a1 : (Blk.one s .nil).size = 1 := rfl
                  exact ⟨U, G.add (.one s .nil) :: Fs', _, _, _, rfl, ev.trans ((Evo.same s3).trans e2), e1, (fun z => nomatch z), ⟨ok1.add ⟨hso, True.intro⟩ (by show 0 + _ ≤ 5; have := ok1.d1; omega), ok2⟩, hfl6, by show (G.add (.one s .nil)).sz + pot Fs' ≤ _; omega⟩
            · rw [show decide ((1 : Int) < ((Fs.length : Nat) : Int)) = false from decide_eq_false (by omega)]
              refine iteF (iteF ?_)
              obtain ⟨G, Fs', eF⟩ := List.exists_cons_of_ne_nil hne
              rw [eF] at hP hok hpot hfl6
              obtain ⟨ok1, ok2⟩ := hok
              have hP2 := hP.same s2
              obtain ⟨gs2, g, hv2, l12, sec2, l, vs, c1', c2', c3', c4', c5', c6', c7', c8', c9'⟩ := hP2.cur
              refine ⟨_, rfl, _, rfl, fl, _, _, _, rfl, rfl, SqL.of c1', atI_last _ _, _, rfl, _, rfl, fl, _, _, _, rfl, rfl, SqL.of c1', atI_last _ _, g, _, _, _, rfl, rfl, SqL.of c3', rfl, rfl, .inr ⟨_, rfl, _, _, rfl, rfl, g, _, _, _, rfl, rfl, SqL.of c3', c6', tyL c7', _, rfl, ?_⟩⟩
              refine ⟨a, rfl, d2, fun H3 p us s k3 d3 hp hs hso => ?_⟩
              have s3 : Same H0 H3 := same_keep s1 (k2.trans k3) ha
              obtain ⟨gs4, g4, hv4, l14, sec4, l4, vs4, b1, b2, b3, b4, b5, b6, b7, b8, b9⟩ := hP.cur
              have hge : g4 = g ∧ vs4 = vs ∧ l4 = l := by
                have q1 := s2 _ _ b1
                rw [c1'] at q1
                injection q1 with q1
                injection q1 with q1
                have z := congrArg List.getLast? q1
                rw [List.getLast?_append, List.getLast?_append] at z
                simp at z
                subst z
                have q2 := s2 _ _ b3
                rw [c3'] at q2
                injection q2 with q2
                injection q2 with q2
                injection q2 with q2 q3
                injection q3 with q3 q4
                injection q3 with q3
                injection q4 with q4 _
                subst q2 q3 q4
                rw [b6] at c6'
                injection c6' with c6'
                injection c6' with c6'
                subst c6'
                have q5 := s2 _ _ b7
                rw [c7'] at q5
                injection q5 with q5
                injection q5 with q5
                exact ⟨rfl, q5.symm, rfl⟩
              obtain ⟨rfl, rfl, rfl⟩ := hge
              have hcur := G.cur_le
              have hvl : vs4.length = G.cur := b8
              have hpot' : G.sz + pot Fs' ≤ 2 + 2 * i := hpot
              refine ⟨l4, _, _, rfl, rfl, s3 _ _ b7, szB (by omega), ?_⟩
              obtain ⟨e1, e2⟩ := b9 H3 p (.one s .nil) s3 ⟨p, us, [], rfl, hp, hs, rfl⟩
              have asz := G.add_sz (.one s .nil)
              have a1 : (Blk.one s .nil).size = 1 := rfl
              exact ⟨U, G.add (.one s .nil) :: Fs', _, _, _, rfl, ev.trans ((Evo.same s3).trans e2), e1, (fun z => nomatch z), ⟨ok1.add ⟨hso, True.intro⟩ (by show 0 + _ ≤ 5; have := ok1.d1; omega), ok2⟩, hfl6, by show (G.add (.one s .nil)).sz + pot Fs' ≤ _; omega⟩
          · skip
            obtain ⟨G, Fs', eF⟩ := List.exists_cons_of_ne_nil hne
            rw [eF] at hP hok hpot hfl6
            obtain ⟨ok1, ok2⟩ := hok
            have hP2 := hP.same s2
            obtain ⟨gs2, g, hv2, l12, sec2, l, vs, c1', c2', c3', c4', c5', c6', c7', c8', c9'⟩ := hP2.cur
            refine ⟨_, rfl, _, rfl, fl, _, _, _, rfl, rfl, SqL.of c1', atI_last _ _, _, rfl, _, rfl, fl, _, _, _, rfl, rfl, SqL.of c1', atI_last _ _, g, _, _, _, rfl, rfl, SqL.of c3', rfl, rfl, .inr ⟨_, rfl, _, _, rfl, rfl, g, _, _, _, rfl, rfl, SqL.of c3', c6', tyL c7', _, rfl, ?_⟩⟩
            refine ⟨a, rfl, d2, fun H3 p us s k3 d3 hp hs hso => ?_⟩
            have s3 : Same H0 H3 := same_keep s1 (k2.trans k3) ha
            obtain ⟨gs4, g4, hv4, l14, sec4, l4, vs4, b1, b2, b3, b4, b5, b6, b7, b8, b9⟩ := hP.cur
            have hge : g4 = g ∧ vs4 = vs ∧ l4 = l := by
              have q1 := s2 _ _ b1
              rw [c1'] at q1
              injection q1 with q1
              injection q1 with q1
              have z := congrArg List.getLast? q1
              rw [List.getLast?_append, List.getLast?_append] at z
              simp at z
              subst z
              have q2 := s2 _ _ b3
              rw [c3'] at q2
              injection q2 with q2
              injection q2 with q2
              injection q2 with q2 q3
              injection q3 with q3 q4
              injection q3 with q3
              injection q4 with q4 _
              subst q2 q3 q4
              rw [b6] at c6'
              injection c6' with c6'
              injection c6' with c6'
              subst c6'
              have q5 := s2 _ _ b7
              rw [c7'] at q5
              injection q5 with q5
              injection q5 with q5
              exact ⟨rfl, q5.symm, rfl⟩
            obtain ⟨rfl, rfl, rfl⟩ := hge
            have hcur := G.cur_le
            have hvl : vs4.length = G.cur := b8
            have hpot' : G.sz + pot Fs' ≤ 2 + 2 * i := hpot
            refine ⟨l4, _, _, rfl, rfl, s3 _ _ b7, szB (by omega), ?_⟩
            obtain ⟨e1, e2⟩ := b9 H3 p (.one s .nil) s3 ⟨p, us, [], rfl, hp, hs, rfl⟩
            have asz := G.add_sz (.one s .nil)
            have a1 : (Blk.one s .nil).size = 1 := rfl
            exact ⟨U, G.add (.one s .nil) :: Fs', _, _, _, rfl, ev.trans ((Evo.same s3).trans e2), e1, (fun z => nomatch z), ⟨ok1.add ⟨hso, True.intro⟩ (by show 0 + _ ≤ 5; have := ok1.d1; omega), ok2⟩, hfl6, by show (G.add (.one s .nil)).sz + pot Fs' ≤ _; omega⟩
    · skip
      refine ⟨_, rfl, rfl, _, rfl, ?_⟩
      refine ite2 (fun c4 => ?_) (fun c4 => iteF ?_)
      · skip
        refine ⟨_, rfl, fl, _, rfl, .inl (SqL.of (s2 _ _ hg0)), _, _, rfl, rfl, _, rfl, ?_⟩
        rw [el]
        by_cases c7 : 1 < Fs.length
        · rw [show decide ((1 : Int) < ((Fs.length : Nat) : Int)) = true from decide_eq_true (by omega)]
          refine iteT ?_
          obtain ⟨F, G, Fs', rfl⟩ : ∃ F G Fs', Fs = F :: G :: Fs' := by
            cases Fs with
            | nil => exact absurd rfl hne
            | cons F r => cases r with
              | nil => exact absurd c7 (Nat.lt_irrefl 1)
              | cons G r => exact ⟨F, G, r, rfl⟩
          obtain ⟨ok1, ok2, ok3⟩ := hok
          obtain ⟨b, c, hF, hc⟩ := ok1.hd (by rw [List.length_cons]; omega)
          have hcur := G.cur_le
          have hpot' : F.sz + (G.sz + pot Fs') ≤ 2 + 2 * i := hpot
          refine ⟨_, rfl, U, fl, F, G, Fs', b, c, rfl, hP.same s2, hF, by omega, fun H3 e3 P3 => ?_⟩
          obtain ⟨z1, z2⟩ := ok1.close (b := b) hc
          have asz := G.add_sz (F.close b c)
          have csz := F.close_sz b c
          have hl : (F :: G :: Fs').length = Fs'.length + 2 := rfl
          exact ⟨U, G.add (F.close b c) :: Fs', _, _, _, rfl, ev.trans ((Evo.same s2).trans e3), P3, (fun z => nomatch z), ⟨ok2.add z1 z2, ok3⟩, by rw [List.length_cons]; omega, by show (G.add (F.close b c)).sz + pot Fs' ≤ _; omega⟩
        · rw [show decide ((1 : Int) < ((Fs.length : Nat) : Int)) = false from decide_eq_false (by omega)]
          refine iteF ?_
          refine ⟨_, rfl, rfl, _, rfl, ?_⟩
          refine ite2 (fun c5 => ?_) (fun c5 => iteF ?_)
          · skip
            refine ⟨_, rfl, fl, _, rfl, .inl (SqL.of (s2 _ _ hg0)), _, _, rfl, rfl, _, rfl, ?_⟩
            rw [el]
            by_cases c7 : 1 < Fs.length
            · rw [show decide ((1 : Int) < ((Fs.length : Nat) : Int)) = true from decide_eq_true (by omega)]
              refine iteT ?_
              obtain ⟨F, G, Fs', rfl⟩ : ∃ F G Fs', Fs = F :: G :: Fs' := by
                cases Fs with
                | nil => exact absurd rfl hne
                | cons F r => cases r with
                  | nil => exact absurd c7 (Nat.lt_irrefl 1)
                  | cons G r => exact ⟨F, G, r, rfl⟩
              have hok' := hok
              obtain ⟨ok1, ok2, ok3⟩ := hok'
              obtain ⟨b, c, hF, hc⟩ := ok1.hd (by rw [List.length_cons]; omega)
              have hP2 := hP.same s2
              obtain ⟨gs2, g, hv2, l12, sec2, l, vs, c1', c2', c3', c4', c5', c6', c7', c8', c9'⟩ := hP2.cur
              rw [hF] at c4'
              obtain ⟨hp, u, rfl, hhp, hu⟩ := c4'
              have hhp : H2 hp = some (.tup [.str (ifW b), u]) := hhp
              cases b with
              | false =>
                refine ⟨_, rfl, _, rfl, fl, _, _, _, rfl, rfl, SqL.of c1', atI_last _ _, g, _, _, _, rfl, rfl, SqL.of c3', rfl, hp, _, _, _, rfl, rfl, SqT.of hhp, rfl, rfl, _, rfl, iteF (iteF ?_)⟩
                clear c1' c2' c3' c5' c6' c7' c8' c9'
                obtain ⟨G, Fs', eF⟩ := List.exists_cons_of_ne_nil hne
                rw [eF] at hP hok hpot hfl6
                obtain ⟨ok1, ok2⟩ := hok
                have hP2 := hP.same s2
                obtain ⟨gs2, g, hv2, l12, sec2, l, vs, c1', c2', c3', c4', c5', c6', c7', c8', c9'⟩ := hP2.cur
                refine ⟨_, rfl, _, rfl, fl, _, _, _, rfl, rfl, SqL.of c1', atI_last _ _, _, rfl, _, rfl, fl, _, _, _, rfl, rfl, SqL.of c1', atI_last _ _, g, _, _, _, rfl, rfl, SqL.of c3', rfl, rfl, .inr ⟨_, rfl, _, _, rfl, rfl, g, _, _, _, rfl, rfl, SqL.of c3', c6', tyL c7', _, rfl, ?_⟩⟩
                refine ⟨a, rfl, d2, fun H3 p us s k3 d3 hp hs hso => ?_⟩
                have s3 : Same H0 H3 := same_keep s1 (k2.trans k3) ha
                obtain ⟨gs4, g4, hv4, l14, sec4, l4, vs4, b1, b2, b3, b4, b5, b6, b7, b8, b9⟩ := hP.cur
                have hge : g4 = g ∧ vs4 = vs ∧ l4 = l := by
                  have q1 := s2 _ _ b1
                  rw [c1'] at q1
                  injection q1 with q1
                  injection q1 with q1
                  have z := congrArg List.getLast? q1
                  rw [List.getLast?_append, List.getLast?_append] at z
                  simp at z
                  subst z
                  have q2 := s2 _ _ b3
                  rw [c3'] at q2
                  injection q2 with q2
                  injection q2 with q2
                  injection q2 with q2 q3
                  injection q3 with q3 q4
                  injection q3 with q3
                  injection q4 with q4 _
                  subst q2 q3 q4
                  rw [b6] at c6'
                  injection c6' with c6'
                  injection c6' with c6'
                  subst c6'
                  have q5 := s2 _ _ b7
                  rw [c7'] at q5
                  injection q5 with q5
                  injection q5 with q5
                  exact ⟨rfl, q5.symm, rfl⟩
                obtain ⟨rfl, rfl, rfl⟩ := hge
                have hcur := G.cur_le
                have hvl : vs4.length = G.cur := b8
                have hpot' : G.sz + pot Fs' ≤ 2 + 2 * i := hpot
                refine ⟨l4, _, _, rfl, rfl, s3 _ _ b7, szB (by omega), ?_⟩
                obtain ⟨e1, e2⟩ := b9 H3 p (.one s .nil) s3 ⟨p, us, [], rfl, hp, hs, rfl⟩
                have asz := G.add_sz (.one s .nil)
                have a1 : (Blk.one s .nil).size = 1 := rfl
                exact ⟨U, G.add (.one s .nil) :: Fs', _, _, _, rfl, ev.trans ((Evo.same s3).trans e2), e1, (fun z => nomatch z), ⟨ok1.add ⟨hso, True.intro⟩ (by show 0 + _ ≤ 5; have := ok1.d1; omega), ok2⟩, hfl6, by show (G.add (.one s .nil)).sz + pot Fs' ≤ _; omega⟩
              | true =>
                refine ⟨_, rfl, _, rfl, fl, _, _, _, rfl, rfl, SqL.of c1', atI_last _ _, g, _, _, _, rfl, rfl, SqL.of c3', rfl, hp, _, _, _, rfl, rfl, SqT.of hhp, rfl, rfl, _, rfl, iteT ?_⟩
                refine ⟨_, rfl, _, rfl, fl, _, _, _, rfl, rfl, SqL.of c1', atI_last _ _, g, _, _, _, rfl, rfl, SqL.of c3', rfl, rfl, _, rfl, ?_⟩
                rw [c5']
                by_cases cb : F.b2 = none
                · rw [decide_eq_true cb]
                  refine iteT ⟨Nat.zero_le _, fun l2 hl2 => ?_⟩
                  have sl := same_new hl2 (.lst [])
                  refine ⟨_, rfl, _, rfl, fl, _, _, _, rfl, rfl, SqL.of (sl _ _ c1'), atI_last _ _, g, _, 2, 2, rfl, rfl, sl _ _ c3', rfl, ?_⟩
                  obtain ⟨e1, e2⟩ := hP2.second cb c1' c3' hl2
                  have hl : (F :: G :: Fs').length = Fs'.length + 2 := rfl
                  have hsz : (⟨F.hd, F.b1, some .nil⟩ : Fr).sz = F.sz := by
                    unfold Fr.sz
                    rw [cb]
                    rfl
                  have hpot' : F.sz + (G.sz + pot Fs') ≤ 2 + 2 * i := hpot
                  refine ⟨_, ⟨F.hd, F.b1, some .nil⟩ :: G :: Fs', _, _, _, rfl, ev.trans ((Evo.same s2).trans e2), e1, (fun z => nomatch z), ⟨⟨ok1.o1, ok1.d1, fun b hb => ?_, ok1.hd⟩, ok2, ok3⟩, hfl6, by show (⟨F.hd, F.b1, some .nil⟩ : Fr).sz + (G.sz + pot Fs') ≤ _; omega⟩
                  have hb : some Blk.nil = some b := hb
                  cases hb
                  have := ok1.d1
                  exact ⟨True.intro, by show 0 + _ ≤ 5; omega⟩
                · rw [decide_eq_false cb]
                  refine iteF ?_
                  clear c1' c2' c3' c5' c6' c7' c8' c9'
                  obtain ⟨G, Fs', eF⟩ := List.exists_cons_of_ne_nil hne
                  rw [eF] at hP hok hpot hfl6
                  obtain ⟨ok1, ok2⟩ := hok
                  have hP2 := hP.same s2
                  obtain ⟨gs2, g, hv2, l12, sec2, l, vs, c1', c2', c3', c4', c5', c6', c7', c8', c9'⟩ := hP2.cur
                  refine ⟨_, rfl, _, rfl, fl, _, _, _, rfl, rfl, SqL.of c1', atI_last _ _, _, rfl, _, rfl, fl, _, _, _, rfl, rfl, SqL.of c1', atI_last _ _, g, _, _, _, rfl, rfl, SqL.of c3', rfl, rfl, .inr ⟨_, rfl, _, _, rfl, rfl, g, _, _, _, rfl, rfl, SqL.of c3', c6', tyL c7', _, rfl, ?_⟩⟩
                  refine ⟨a, rfl, d2, fun H3 p us s k3 d3 hp hs hso => ?_⟩
                  have s3 : Same H0 H3 := same_keep s1 (k2.trans k3) ha
                  obtain ⟨gs4, g4, hv4, l14, sec4, l4, vs4, b1, b2, b3, b4, b5, b6, b7, b8, b9⟩ := hP.cur
                  have hge : g4 = g ∧ vs4 = vs ∧ l4 = l := by
                    have q1 := s2 _ _ b1
                    rw [c1'] at q1
                    injection q1 with q1
                    injection q1 with q1
                    have z := congrArg List.getLast? q1
                    rw [List.getLast?_append, List.getLast?_append] at z
                    simp at z
                    subst z
                    have q2 := s2 _ _ b3
                    rw [c3'] at q2
                    injection q2 with q2
                    injection q2 with q2
                    injection q2 with q2 q3
                    injection q3 with q3 q4
                    injection q3 with q3
                    injection q4 with q4 _
                    subst q2 q3 q4
                    rw [b6] at c6'
                    injection c6' with c6'
                    injection c6' with c6'
                    subst c6'
                    have q5 := s2 _ _ b7
                    rw [c7'] at q5
                    injection q5 with q5
                    injection q5 with q5
                    exact ⟨rfl, q5.symm, rfl⟩
                  obtain ⟨rfl, rfl, rfl⟩ := hge
                  have hcur := G.cur_le
                  have hvl : vs4.length = G.cur := b8
                  have hpot' : G.sz + pot Fs' ≤ 2 + 2 * i := hpot
                  refine ⟨l4, _, _, rfl, rfl, s3 _ _ b7, szB (by omega), ?_⟩
                  obtain ⟨e1, e2⟩ := b9 H3 p (.one s .nil) s3 ⟨p, us, [], rfl, hp, hs, rfl⟩
                  have asz := G.add_sz (.one s .nil)
                  have a1 : (Blk.one s .nil).size = 1 := rfl
                  exact ⟨U, G.add (.one s .nil) :: Fs', _, _, _, rfl, ev.trans ((Evo.same s3).trans e2), e1, (fun z => nomatch z), ⟨ok1.add ⟨hso, True.intro⟩ (by show 0 + _ ≤ 5; have := ok1.d1; omega), ok2⟩, hfl6, by show (G.add (.one s .nil)).sz + pot Fs' ≤ _; omega⟩
            · rw [show decide ((1 : Int) < ((Fs.length : Nat) : Int)) = false from decide_eq_false (by omega)]
              refine iteF (iteF ?_)
              obtain ⟨G, Fs', eF⟩ := List.exists_cons_of_ne_nil hne
              rw [eF] at hP hok hpot hfl6
              obtain ⟨ok1, ok2⟩ := hok
              have hP2 := hP.same s2
              obtain ⟨gs2, g, hv2, l12, sec2, l, vs, c1', c2', c3', c4', c5', c6', c7', c8', c9'⟩ := hP2.cur
              refine ⟨_, rfl, _, rfl, fl, _, _, _, rfl, rfl, SqL.of c1', atI_last _ _, _, rfl, _, rfl, fl, _, _, _, rfl, rfl, SqL.of c1', atI_last _ _, g, _, _, _, rfl, rfl, SqL.of c3', rfl, rfl, .inr ⟨_, rfl, _, _, rfl, rfl, g, _, _, _, rfl, rfl, SqL.of c3', c6', tyL c7', _, rfl, ?_⟩⟩
              refine ⟨a, rfl, d2, fun H3 p us s k3 d3 hp hs hso => ?_⟩
              have s3 : Same H0 H3 := same_keep s1 (k2.trans k3) ha
              obtain ⟨gs4, g4, hv4, l14, sec4, l4, vs4, b1, b2, b3, b4, b5, b6, b7, b8, b9⟩ := hP.cur
              have hge : g4 = g ∧ vs4 = vs ∧ l4 = l := by
                have q1 := s2 _ _ b1
                rw [c1'] at q1
                injection q1 with q1
                injection q1 with q1
                have z := congrArg List.getLast? q1
                rw [List.getLast?_append, List.getLast?_append] at z
                simp at z
                subst z
                have q2 := s2 _ _ b3
                rw [c3'] at q2
                injection q2 with q2
                injection q2 with q2
                injection q2 with q2 q3
                injection q3 with q3 q4
                injection q3 with q3
                injection q4 with q4 _
                subst q2 q3 q4
                rw [b6] at c6'
                injection c6' with c6'
                injection c6' with c6'
                subst c6'
                have q5 := s2 _ _ b7
                rw [c7'] at q5
                injection q5 with q5
                injection q5 with q5
                exact ⟨rfl, q5.symm, rfl⟩
              obtain ⟨rfl, rfl, rfl⟩ := hge
              have hcur := G.cur_le
              have hvl : vs4.length = G.cur := b8
              have hpot' : G.sz + pot Fs' ≤ 2 + 2 * i := hpot
              refine ⟨l4, _, _, rfl, rfl, s3 _ _ b7, szB (by omega), ?_⟩
              obtain ⟨e1, e2⟩ := b9 H3 p (.one s .nil) s3 ⟨p, us, [], rfl, hp, hs, rfl⟩
              have asz := G.add_sz (.one s .nil)
              have a1 : (Blk.one s .nil).size = 1 := rfl
              exact ⟨U, G.add (.one s .nil) :: Fs', _, _, _, rfl, ev.trans ((Evo.same s3).trans e2), e1, (fun z => nomatch z), ⟨ok1.add ⟨hso, True.intro⟩ (by show 0 + _ ≤ 5; have := ok1.d1; omega), ok2⟩, hfl6, by show (G.add (.one s .nil)).sz + pot Fs' ≤ _; omega⟩
          · skip
            obtain ⟨G, Fs', eF⟩ := List.exists_cons_of_ne_nil hne
            rw [eF] at hP hok hpot hfl6
            obtain ⟨ok1, ok2⟩ := hok
            have hP2 := hP.same s2
            obtain ⟨gs2, g, hv2, l12, sec2, l, vs, c1', c2', c3', c4', c5', c6', c7', c8', c9'⟩ := hP2.cur
            refine ⟨_, rfl, _, rfl, fl, _, _, _, rfl, rfl, SqL.of c1', atI_last _ _, _, rfl, _, rfl, fl, _, _, _, rfl, rfl, SqL.of c1', atI_last _ _, g, _, _, _, rfl, rfl, SqL.of c3', rfl, rfl, .inr ⟨_, rfl, _, _, rfl, rfl, g, _, _, _, rfl, rfl, SqL.of c3', c6', tyL c7', _, rfl, ?_⟩⟩
            refine ⟨a, rfl, d2, fun H3 p us s k3 d3 hp hs hso => ?_⟩
            have s3 : Same H0 H3 := same_keep s1 (k2.trans k3) ha
            obtain ⟨gs4, g4, hv4, l14, sec4, l4, vs4, b1, b2, b3, b4, b5, b6, b7, b8, b9⟩ := hP.cur
            have hge : g4 = g ∧ vs4 = vs ∧ l4 = l := by
              have q1 := s2 _ _ b1
              rw [c1'] at q1
              injection q1 with q1
              injection q1 with q1
              have z := congrArg List.getLast? q1
              rw [List.getLast?_append, List.getLast?_append] at z
              simp at z
              subst z
              have q2 := s2 _ _ b3
              rw [c3'] at q2
              injection q2 with q2
              injection q2 with q2
              injection q2 with q2 q3
              injection q3 with q3 q4
              injection q3 with q3
              injection q4 with q4 _
              subst q2 q3 q4
              rw [b6] at c6'
              injection c6' with c6'
              injection c6' with c6'
              subst c6'
              have q5 := s2 _ _ b7
              rw [c7'] at q5
              injection q5 with q5
              injection q5 with q5
              exact ⟨rfl, q5.symm, rfl⟩
            obtain ⟨rfl, rfl, rfl⟩ := hge
            have hcur := G.cur_le
            have hvl : vs4.length = G.cur := b8
            have hpot' : G.sz + pot Fs' ≤ 2 + 2 * i := hpot
            refine ⟨l4, _, _, rfl, rfl, s3 _ _ b7, szB (by omega), ?_⟩
            obtain ⟨e1, e2⟩ := b9 H3 p (.one s .nil) s3 ⟨p, us, [], rfl, hp, hs, rfl⟩
            have asz := G.add_sz (.one s .nil)
            have a1 : (Blk.one s .nil).size = 1 := rfl
            exact ⟨U, G.add (.one s .nil) :: Fs', _, _, _, rfl, ev.trans ((Evo.same s3).trans e2), e1, (fun z => nomatch z), ⟨ok1.add ⟨hso, True.intro⟩ (by show 0 + _ ≤ 5; have := ok1.d1; omega), ok2⟩, hfl6, by show (G.add (.one s .nil)).sz + pot Fs' ≤ _; omega⟩
      · skip
        refine ⟨_, rfl, rfl, _, rfl, ?_⟩
        refine ite2 (fun c5 => ?_) (fun c5 => iteF ?_)
        · skip
          refine ⟨_, rfl, fl, _, rfl, .inl (SqL.of (s2 _ _ hg0)), _, _, rfl, rfl, _, rfl, ?_⟩
          rw [el]
          by_cases c7 : 1 < Fs.length
          · rw [show decide ((1 : Int) < ((Fs.length : Nat) : Int)) = true from decide_eq_true (by omega)]
            refine iteT ?_
            obtain ⟨F, G, Fs', rfl⟩ : ∃ F G Fs', Fs = F :: G :: Fs' := by
              cases Fs with
              | nil => exact absurd rfl hne
              | cons F r => cases r with
                | nil => exact absurd c7 (Nat.lt_irrefl 1)
                | cons G r => exact ⟨F, G, r, rfl⟩
            have hok' := hok
            obtain ⟨ok1, ok2, ok3⟩ := hok'
            obtain ⟨b, c, hF, hc⟩ := ok1.hd (by rw [List.length_cons]; omega)
            have hP2 := hP.same s2
            obtain ⟨gs2, g, hv2, l12, sec2, l, vs, c1', c2', c3', c4', c5', c6', c7', c8', c9'⟩ := hP2.cur
            rw [hF] at c4'
            obtain ⟨hp, u, rfl, hhp, hu⟩ := c4'
            have hhp : H2 hp = some (.tup [.str (ifW b), u]) := hhp
            cases b with
            | false =>
              refine ⟨_, rfl, _, rfl, fl, _, _, _, rfl, rfl, SqL.of c1', atI_last _ _, g, _, _, _, rfl, rfl, SqL.of c3', rfl, hp, _, _, _, rfl, rfl, SqT.of hhp, rfl, rfl, _, rfl, iteF (iteF ?_)⟩
              clear c1' c2' c3' c5' c6' c7' c8' c9'
              obtain ⟨G, Fs', eF⟩ := List.exists_cons_of_ne_nil hne
              rw [eF] at hP hok hpot hfl6
              obtain ⟨ok1, ok2⟩ := hok
              have hP2 := hP.same s2
              obtain ⟨gs2, g, hv2, l12, sec2, l, vs, c1', c2', c3', c4', c5', c6', c7', c8', c9'⟩ := hP2.cur
              refine ⟨_, rfl, _, rfl, fl, _, _, _, rfl, rfl, SqL.of c1', atI_last _ _, _, rfl, _, rfl, fl, _, _, _, rfl, rfl, SqL.of c1', atI_last _ _, g, _, _, _, rfl, rfl, SqL.of c3', rfl, rfl, .inr ⟨_, rfl, _, _, rfl, rfl, g, _, _, _, rfl, rfl, SqL.of c3', c6', tyL c7', _, rfl, ?_⟩⟩
              refine ⟨a, rfl, d2, fun H3 p us s k3 d3 hp hs hso => ?_⟩
              have s3 : Same H0 H3 := same_keep s1 (k2.trans k3) ha
              obtain ⟨gs4, g4, hv4, l14, sec4, l4, vs4, b1, b2, b3, b4, b5, b6, b7, b8, b9⟩ := hP.cur
              have hge : g4 = g ∧ vs4 = vs ∧ l4 = l := by
                have q1 := s2 _ _ b1
                rw [c1'] at q1
                injection q1 with q1
                injection q1 with q1
                have z := congrArg List.getLast? q1
                rw [List.getLast?_append, List.getLast?_append] at z
                simp at z
                subst z
                have q2 := s2 _ _ b3
                rw [c3'] at q2
                injection q2 with q2
                injection q2 with q2
                injection q2 with q2 q3
                injection q3 with q3 q4
                injection q3 with q3
                injection q4 with q4 _
                subst q2 q3 q4
                rw [b6] at c6'
                injection c6' with c6'
                injection c6' with c6'
                subst c6'
                have q5 := s2 _ _ b7
                rw [c7'] at q5
                injection q5 with q5
                injection q5 with q5
                exact ⟨rfl, q5.symm, rfl⟩
              obtain ⟨rfl, rfl, rfl⟩ := hge
              have hcur := G.cur_le
              have hvl : vs4.length = G.cur := b8
              have hpot' : G.sz + pot Fs' ≤ 2 + 2 * i := hpot
              refine ⟨l4, _, _, rfl, rfl, s3 _ _ b7, szB (by omega), ?_⟩
              obtain ⟨e1, e2⟩ := b9 H3 p (.one s .nil) s3 ⟨p, us, [], rfl, hp, hs, rfl⟩
              have asz := G.add_sz (.one s .nil)
              have a1 : (Blk.one s .nil).size = 1 := rfl
              exact ⟨U, G.add (.one s .nil) :: Fs', _, _, _, rfl, ev.trans ((Evo.same s3).trans e2), e1, (fun z => nomatch z), ⟨ok1.add ⟨hso, True.intro⟩ (by show 0 + _ ≤ 5; have := ok1.d1; omega), ok2⟩, hfl6, by show (G.add (.one s .nil)).sz + pot Fs' ≤ _; omega⟩
            | true =>
              refine ⟨_, rfl, _, rfl, fl, _, _, _, rfl, rfl, SqL.of c1', atI_last _ _, g, _, _, _, rfl, rfl, SqL.of c3', rfl, hp, _, _, _, rfl, rfl, SqT.of hhp, rfl, rfl, _, rfl, iteT ?_⟩
              refine ⟨_, rfl, _, rfl, fl, _, _, _, rfl, rfl, SqL.of c1', atI_last _ _, g, _, _, _, rfl, rfl, SqL.of c3', rfl, rfl, _, rfl, ?_⟩
              rw [c5']
              by_cases cb : F.b2 = none
              · rw [decide_eq_true cb]
                refine iteT ⟨Nat.zero_le _, fun l2 hl2 => ?_⟩
                have sl := same_new hl2 (.lst [])
                refine ⟨_, rfl, _, rfl, fl, _, _, _, rfl, rfl, SqL.of (sl _ _ c1'), atI_last _ _, g, _, 2, 2, rfl, rfl, sl _ _ c3', rfl, ?_⟩
                obtain ⟨e1, e2⟩ := hP2.second cb c1' c3' hl2
                have hl : (F :: G :: Fs').length = Fs'.length + 2 := rfl
                have hsz : (⟨F.hd, F.b1, some .nil⟩ : Fr).sz = F.sz := by
                  unfold Fr.sz
                  rw [cb]
                  rfl
                have hpot' : F.sz + (G.sz + pot Fs') ≤ 2 + 2 * i := hpot
                refine ⟨_, ⟨F.hd, F.b1, some .nil⟩ :: G :: Fs', _, _, _, rfl, ev.trans ((Evo.same s2).trans e2), e1, (fun z => nomatch z), ⟨⟨ok1.o1, ok1.d1, fun b hb => ?_, ok1.hd⟩, ok2, ok3⟩, hfl6, by show (⟨F.hd, F.b1, some .nil⟩ : Fr).sz + (G.sz + pot Fs') ≤ _; omega⟩
                have hb : some Blk.nil = some b := hb
                cases hb
                have := ok1.d1
                exact ⟨True.intro, by show 0 + _ ≤ 5; omega⟩
              · rw [decide_eq_false cb]
                refine iteF ?_
                clear c1' c2' c3' c5' c6' c7' c8' c9'
                obtain ⟨G, Fs', eF⟩ := List.exists_cons_of_ne_nil hne
                rw [eF] at hP hok hpot hfl6
                obtain ⟨ok1, ok2⟩ := hok
                have hP2 := hP.same s2
                obtain ⟨gs2, g, hv2, l12, sec2, l, vs, c1', c2', c3', c4', c5', c6', c7', c8', c9'⟩ := hP2.cur
                refine ⟨_, rfl, _, rfl, fl, _, _, _, rfl, rfl, SqL.of c1', atI_last _ _, _, rfl, _, rfl, fl, _, _, _, rfl, rfl, SqL.of c1', atI_last _ _, g, _, _, _, rfl, rfl, SqL.of c3', rfl, rfl, .inr ⟨_, rfl, _, _, rfl, rfl, g, _, _, _, rfl, rfl, SqL.of c3', c6', tyL c7', _, rfl, ?_⟩⟩
                refine ⟨a, rfl, d2, fun H3 p us s k3 d3 hp hs hso => ?_⟩
                have s3 : Same H0 H3 := same_keep s1 (k2.trans k3) ha
                obtain ⟨gs4, g4, hv4, l14, sec4, l4, vs4, b1, b2, b3, b4, b5, b6, b7, b8, b9⟩ := hP.cur
                have hge : g4 = g ∧ vs4 = vs ∧ l4 = l := by
                  have q1 := s2 _ _ b1
                  rw [c1'] at q1
                  injection q1 with q1
                  injection q1 with q1
                  have z := congrArg List.getLast? q1
                  rw [List.getLast?_append, List.getLast?_append] at z
                  simp at z
                  subst z
                  have q2 := s2 _ _ b3
                  rw [c3'] at q2
                  injection q2 with q2
                  injection q2 with q2
                  injection q2 with q2 q3
                  injection q3 with q3 q4
                  injection q3 with q3
                  injection q4 with q4 _
                  subst q2 q3 q4
                  rw [b6] at c6'
                  injection c6' with c6'
                  injection c6' with c6'
                  subst c6'
                  have q5 := s2 _ _ b7
                  rw [c7'] at q5
                  injection q5 with q5
                  injection q5 with q5
                  exact ⟨rfl, q5.symm, rfl⟩
                obtain ⟨rfl, rfl, rfl⟩ := hge
                have hcur := G.cur_le
                have hvl : vs4.length = G.cur := b8
                have hpot' : G.sz + pot Fs' ≤ 2 + 2 * i := hpot
                refine ⟨l4, _, _, rfl, rfl, s3 _ _ b7, szB (by omega), ?_⟩
                obtain ⟨e1, e2⟩ := b9 H3 p (.one s .nil) s3 ⟨p, us, [], rfl, hp, hs, rfl⟩
                have asz := G.add_sz (.one s .nil)
                have a1 : (Blk.one s .nil).size = 1 := rfl
                exact ⟨U, G.add (.one s .nil) :: Fs', _, _, _, rfl, ev.trans ((Evo.same s3).trans e2), e1, (fun z => nomatch z), ⟨ok1.add ⟨hso, True.intro⟩ (by show 0 + _ ≤ 5; have := ok1.d1; omega), ok2⟩, hfl6, by show (G.add (.one s .nil)).sz + pot Fs' ≤ _; omega⟩
          · rw [show decide ((1 : Int) < ((Fs.length : Nat) : Int)) = false from decide_eq_false (by omega)]
            refine iteF (iteF ?_)
            obtain ⟨G, Fs', eF⟩ := List.exists_cons_of_ne_nil hne
            rw [eF] at hP hok hpot hfl6
            obtain ⟨ok1, ok2⟩ := hok
            have hP2 := hP.same s2
            obtain ⟨gs2, g, hv2, l12, sec2, l, vs, c1', c2', c3', c4', c5', c6', c7', c8', c9'⟩ := hP2.cur
            refine ⟨_, rfl, _, rfl, fl, _, _, _, rfl, rfl, SqL.of c1', atI_last _ _, _, rfl, _, rfl, fl, _, _, _, rfl, rfl, SqL.of c1', atI_last _ _, g, _, _, _, rfl, rfl, SqL.of c3', rfl, rfl, .inr ⟨_, rfl, _, _, rfl, rfl, g, _, _, _, rfl, rfl, SqL.of c3', c6', tyL c7', _, rfl, ?_⟩⟩
            refine ⟨a, rfl, d2, fun H3 p us s k3 d3 hp hs hso => ?_⟩
            have s3 : Same H0 H3 := same_keep s1 (k2.trans k3) ha
            obtain ⟨gs4, g4, hv4, l14, sec4, l4, vs4, b1, b2, b3, b4, b5, b6, b7, b8, b9⟩ := hP.cur
            have hge : g4 = g ∧ vs4 = vs ∧ l4 = l := by
              have q1 := s2 _ _ b1
              rw [c1'] at q1
              injection q1 with q1
              injection q1 with q1
              have z := congrArg List.getLast? q1
              rw [List.getLast?_append, List.getLast?_append] at z
              simp at z
              subst z
              have q2 := s2 _ _ b3
              rw [c3'] at q2
              injection q2 with q2
              injection q2 with q2
              injection q2 with q2 q3
              injection q3 with q3 q4
              injection q3 with q3
              injection q4 with q4 _
              subst q2 q3 q4
              rw [b6] at c6'
              injection c6' with c6'
              injection c6' with c6'
              subst c6'
              have q5 := s2 _ _ b7
              rw [c7'] at q5
              injection q5 with q5
              injection q5 with q5
              exact ⟨rfl, q5.symm, rfl⟩
            obtain ⟨rfl, rfl, rfl⟩ := hge
            have hcur := G.cur_le
            have hvl : vs4.length = G.cur := b8
            have hpot' : G.sz + pot Fs' ≤ 2 + 2 * i := hpot
            refine ⟨l4, _, _, rfl, rfl, s3 _ _ b7, szB (by omega), ?_⟩
            obtain ⟨e1, e2⟩ := b9 H3 p (.one s .nil) s3 ⟨p, us, [], rfl, hp, hs, rfl⟩
            have asz := G.add_sz (.one s .nil)
            have a1 : (Blk.one s .nil).size = 1 := rfl
            exact ⟨U, G.add (.one s .nil) :: Fs', _, _, _, rfl, ev.trans ((Evo.same s3).trans e2), e1, (fun z => nomatch z), ⟨ok1.add ⟨hso, True.intro⟩ (by show 0 + _ ≤ 5; have := ok1.d1; omega), ok2⟩, hfl6, by show (G.add (.one s .nil)).sz + pot Fs' ≤ _; omega⟩
        · skip
          obtain ⟨G, Fs', eF⟩ := List.exists_cons_of_ne_nil hne
          rw [eF] at hP hok hpot hfl6
          obtain ⟨ok1, ok2⟩ := hok
          have hP2 := hP.same s2
          obtain ⟨gs2, g, hv2, l12, sec2, l, vs, c1', c2', c3', c4', c5', c6', c7', c8', c9'⟩ := hP2.cur
          refine ⟨_, rfl, _, rfl, fl, _, _, _, rfl, rfl, SqL.of c1', atI_last _ _, _, rfl, _, rfl, fl, _, _, _, rfl, rfl, SqL.of c1', atI_last _ _, g, _, _, _, rfl, rfl, SqL.of c3', rfl, rfl, .inr ⟨_, rfl, _, _, rfl, rfl, g, _, _, _, rfl, rfl, SqL.of c3', c6', tyL c7', _, rfl, ?_⟩⟩
          refine ⟨a, rfl, d2, fun H3 p us s k3 d3 hp hs hso => ?_⟩
          have s3 : Same H0 H3 := same_keep s1 (k2.trans k3) ha
          obtain ⟨gs4, g4, hv4, l14, sec4, l4, vs4, b1, b2, b3, b4, b5, b6, b7, b8, b9⟩ := hP.cur
          have hge : g4 = g ∧ vs4 = vs ∧ l4 = l := by
            have q1 := s2 _ _ b1
            rw [c1'] at q1
            injection q1 with q1
            injection q1 with q1
            have z := congrArg List.getLast? q1
            rw [List.getLast?_append, List.getLast?_append] at z
            simp at z
            subst z
            have q2 := s2 _ _ b3
            rw [c3'] at q2
            injection q2 with q2
            injection q2 with q2
            injection q2 with q2 q3
            injection q3 with q3 q4
            injection q3 with q3
            injection q4 with q4 _
            subst q2 q3 q4
            rw [b6] at c6'
            injection c6' with c6'
            injection c6' with c6'
            subst c6'
            have q5 := s2 _ _ b7
            rw [c7'] at q5
            injection q5 with q5
            injection q5 with q5
            exact ⟨rfl, q5.symm, rfl⟩
          obtain ⟨rfl, rfl, rfl⟩ := hge
          have hcur := G.cur_le
          have hvl : vs4.length = G.cur := b8
          have hpot' : G.sz + pot Fs' ≤ 2 + 2 * i := hpot
          refine ⟨l4, _, _, rfl, rfl, s3 _ _ b7, szB (by omega), ?_⟩
          obtain ⟨e1, e2⟩ := b9 H3 p (.one s .nil) s3 ⟨p, us, [], rfl, hp, hs, rfl⟩
          have asz := G.add_sz (.one s .nil)
          have a1 : (Blk.one s .nil).size = 1 := rfl
          exact ⟨U, G.add (.one s .nil) :: Fs', _, _, _, rfl, ev.trans ((Evo.same s3).trans e2), e1, (fun z => nomatch z), ⟨ok1.add ⟨hso, True.intro⟩ (by show 0 + _ ≤ 5; have := ok1.d1; omega), ok2⟩, hfl6, by show (G.add (.one s .nil)).sz + pot Fs' ≤ _; omega⟩
  · rintro σ H1 ⟨U, Fs, v2, v3, v4, rfl, ev, hP, hne, hok, hfl6, hpot⟩
    rw [List.length_map] at hpot
    refine ⟨fun m σ H' => ∃ (U : Tg) (Fs : List Fr) (v2 v3 v4 : Option V), σ = [some (.ref ca), some (.ref fl), v2, v3, v4] ∧ Evo noT H U H' ∧ PrgH U H' fl Fs ∧ Fs ≠ [] ∧ StkOk Fs ∧ pot Fs ≤ 202 ∧ m = Fs.length, ⟨Fs.length, U, Fs, v2, v3, v4, rfl, ev, hP, hne, hok, by omega, rfl⟩, ?_⟩
    rintro m σ H2 ⟨U, Fs, v2, v3, v4, rfl, ev, hP, hne, hok, hpot, rfl⟩
    obtain ⟨gs0, hg0, hgl0⟩ := hP.len
    refine ⟨_, rfl, fl, _, rfl, .inl (SqL.of hg0), _, _, rfl, rfl, _, rfl, ?_⟩
    rw [show (gs0.map V.ref).length = Fs.length by rw [List.length_map, hgl0]]
    by_cases c7 : 1 < Fs.length
    · rw [show decide ((1 : Int) < ((Fs.length : Nat) : Int)) = true from decide_eq_true (by omega)]
      obtain ⟨F, G, Fs', rfl⟩ : ∃ F G Fs', Fs = F :: G :: Fs' := by
        cases Fs with
        | nil => exact absurd rfl hne
        | cons F r => cases r with
          | nil => exact absurd c7 (Nat.lt_irrefl 1)
          | cons G r => exact ⟨F, G, r, rfl⟩
      refine iteT ⟨fun σ' H' => ∃ m', m' < (F :: G :: Fs').length ∧ ∃ (U : Tg) (Fs : List Fr) (v2 v3 v4 : Option V), σ' = [some (.ref ca), some (.ref fl), v2, v3, v4] ∧ Evo noT H U H' ∧ PrgH U H' fl Fs ∧ Fs ≠ [] ∧ StkOk Fs ∧ pot Fs ≤ 202 ∧ m' = Fs.length, fun _ _ z => z, ?_⟩
      obtain ⟨ok1, ok2, ok3⟩ := hok
      obtain ⟨b, c, hF, hc⟩ := ok1.hd (by rw [List.length_cons]; omega)
      have hcur := G.cur_le
      have hpot' : F.sz + (G.sz + pot Fs') ≤ 202 := hpot
      refine ⟨_, rfl, U, fl, F, G, Fs', b, c, rfl, hP, hF, by omega, fun H3 e3 P3 => ?_⟩
      obtain ⟨z1, z2⟩ := ok1.close (b := b) hc
      have asz := G.add_sz (F.close b c)
      have csz := F.close_sz b c
      exact ⟨(G.add (F.close b c) :: Fs').length, by rw [List.length_cons, List.length_cons, List.length_cons]; omega, U, G.add (F.close b c) :: Fs', _, _, _, rfl, ev.trans e3, P3, (fun z => nomatch z), ⟨ok2.add z1 z2, ok3⟩, by show (G.add (F.close b c)).sz + pot Fs' ≤ _; omega, rfl⟩
    · rw [show decide ((1 : Int) < ((Fs.length : Nat) : Int)) = false from decide_eq_false (by omega)]
      refine iteF ?_
      obtain ⟨F, rfl⟩ : ∃ F, Fs = [F] := by
        cases Fs with
        | nil => exact absurd rfl hne
        | cons F r => cases r with
          | nil => exact ⟨F, rfl⟩
          | cons G r => exact absurd (by rw [List.length_cons, List.length_cons]; omega) c7
      obtain ⟨fs, own, h1, ⟨f', fs', o, o', rfl, rfl, ⟨hv, l1', vs1, sec, o2, f1, f2, f3, rfl, f5, f6⟩, rfl, rfl⟩, h4, h5⟩ := hP
      obtain ⟨ok1, _⟩ := hok
      have hpot' : F.sz + 0 ≤ 202 := hpot
      refine ⟨_, rfl, fl, _, _, _, rfl, rfl, SqL.of h1, rfl, f', _, _, _, rfl, rfl, SqL.of f1, rfl, l1', vs1, rfl, .inl ⟨SqL.of f2, fun p hp => ?_⟩⟩
      have s := same_new hp (.tup vs1)
      have hsz : F.b1.size ≤ F.sz := by
        unfold Fr.sz
        omega
      have sm : Same H H2 := fun b o e => ev.out b o e rfl
      exact k _ p F.b1 (sm.trans s) ⟨vs1, upd_same, f3.mono (TupS.of_same s)⟩ ok1.o1 (by have := ok1.d1; omega) (by omega)
end
end L2.K17

set_option maxHeartbeats 4000000
/-! happenings -/
namespace L2.K17
open PySem L2
section
variable {T : Tg} {H H' : Hp} {m : Addr} {B D : Nat} {code : List CE} {S : AS}
theorem MdR.same (h : MdR T H m B code D S) (s : Same H H') : MdR T H' m B code D S := by
  obtain ⟨c, nm, op, dn, lt, aw, i, h1, h2⟩ := h
  exact ⟨c, nm, op, dn, lt, aw, i, h1.same s, h2⟩
/-- something untagged is changed -/
theorem MdR.other (h : MdR T H m B code D S) {p : Addr} {o : HO} {xs : List V} (t0 : T p = .non) (e : H p = some (.lst xs)) : MdR T (upd H p o) m B code D S := by
  obtain ⟨c, nm, op, dn, lt, aw, i, h1, h2⟩ := h
  have k : TupS H (upd H p o) := TupS.lst e
  refine ⟨c, nm, op, dn, lt, aw, i, ⟨h1.tm, by rw [upd_ne (ne_tag h1.tm t0 (by decide))]; exact h1.hm, h1.co.other k ?_ ?_ ?_ ?_ ?_ ?_, h1.cd.other k (by rw [t0]; decide)⟩, h2⟩
  all_goals
    rw [t0]
    first | decide | (intro x z; cases z)
end
def spHapp : Sp := fun vs H Q _ => ∃ (H0 : Hp) (T : Tg) (a m : Addr) (B D : Nat) (code : List CE) (S : AS), vs = [.ref a, .ref m] ∧ Same H0 H ∧ H0 a = none ∧ DeckH H a ∧ MdR T H0 m B code D S ∧ B ≤ 60000 ∧
  ∀ H' p h, Keep a H H' → DeckH H' a → HapH H' p h → h.ok → Q (.ref p) H'
section
variable {P : Program} {w : World} {K : PySem.W.Frag} {mg : Str → Option Value} {base : Heap}
theorem sc_law_happening : FnScope ["deck", "run", "moment", "kind", "ticket", "key"] ["deck", "run"] (defScope s_law_happening) := ⟨rfl, rfl, rfl, by decide +kernel, rfl, by decide +kernel, by decide +kernel⟩
theorem D_law_happening (T : Tx K mg) : Def1 P w K mg base 3 "_law_happening" ["deck", "run"] spHapp := by
  have D_law_pick : Def1 P w K mg base 1 "_law_pick" ["deck", "many"] spPick := D_law_pick T
  have D_law_worth : Def1 P w K mg base 2 "_law_worth" ["deck"] spWorthG := D_law_worth T
  refine T.mk1 (st := s_law_happening) 29 29 rfl rfl sc_law_happening (fun _ _ _ _ _ _ us hl => match us, hl with | [_, _], _ => rfl) (fun vs H Q E h => ?_) (fun cdv A outer s H vs Q E hr h => ?_)
  · obtain ⟨_, _, _, _, _, _, _, _, rfl, _⟩ := h
    rfl
  obtain ⟨H0, U, a, m, B, D, code, S, rfl, s0, ha, hd, hM, hB9, k⟩ := h
  have hu := hu_of hr
  refine ⟨_, (pss_cons (ps_set (i := 2) sc_law_happening.nd rfl (Or.inl rfl) (pe_ix ix_list (pe_lst (pa_cons (pe_c D_law_pick (hr.mono (by omega)) (pa_cons (pv 0) (pa_cons pe_int pa_nil))) (pa_cons (pe_c D_law_pick (hr.mono (by omega)) (pa_cons (pv 0) (pa_cons (pe_op op_add (pe_op op_pow pe_int pe_int) pe_int) pa_nil))) pa_nil))) (pe_callTy call_int1 (by rfl) T.f_int (by decide +kernel) (pa_cons (pe_cmpR op_eq (pe_c D_law_pick (hr.mono (by omega)) (pa_cons (pv 0) (pa_cons pe_int pa_nil))) pe_int (nomark _)) pa_nil)) (fun _ _ => rfl)))
    (pss_cons (ps_set (i := 3) sc_law_happening.nd rfl (Or.inl rfl) (pe_c D_law_pick (hr.mono (by omega)) (pa_cons (pv 0) (pa_cons pe_int pa_nil))))
    (pss_cons (ps_if (pt_cmpR op_eq (pv 3) pe_int (nomark _)) (pss_one (ps_ret (pe_tup (pa_cons pe_str (pa_cons (pv 2) (pa_cons (pe_c D_law_worth (hr.mono (by omega)) (pa_cons (pv 0) pa_nil)) pa_nil)))))) pss_nil)
    (pss_cons (ps_if (pt_cmpR op_lt (pv 3) pe_int (nomark _)) (pss_cons (ps_set (i := 4) sc_law_happening.nd rfl (Or.inl rfl) (pe_c D_law_pick (hr.mono (by omega)) (pa_cons (pv 0) (pa_cons pe_int pa_nil))))
    (pss_cons (ps_if (PW.pt (pw_and (pt_cmpR (op_neD hr.units) (pe_dget hu (pv 1) pe_str (fun _ _ => rfl)) (pe_lst pa_nil) (nomark _)) (pw_and1 (pt_cmpR op_lt (pv 3) pe_int (nomark _))))) (pss_one (ps_set (i := 4) sc_law_happening.nd rfl (Or.inl rfl) (pe_ix ix_list (pe_dget hu (pv 1) pe_str (fun _ _ => rfl)) (pe_c D_law_pick (hr.mono (by omega)) (pa_cons (pv 0) (pa_cons (pe_callB call_len_seq (by rfl) T.f_len (by decide +kernel) (pa_cons (pe_dget hu (pv 1) pe_str (fun _ _ => rfl)) pa_nil)) pa_nil))) (fun _ _ => rfl)))) pss_nil)
    (pss_one (ps_ret (pe_tup (pa_cons pe_str (pa_cons (pv 2) (pa_cons (pv 4) (pa_cons (pe_c D_law_worth (hr.mono (by omega)) (pa_cons (pv 0) pa_nil)) pa_nil))))))))) pss_nil)
    (pss_cons (ps_set (i := 5) sc_law_happening.nd rfl (Or.inl rfl) (pe_ix ix_list (pe_lst (pa_cons pe_str (pa_cons pe_str pa_nil))) (pe_c D_law_pick (hr.mono (by omega)) (pa_cons (pv 0) (pa_cons pe_int pa_nil))) (fun _ _ => rfl)))
    (pss_cons (ps_if (PW.pt (pw_and (pt_cmpR op_eq (pe_dget hu (pv 1) pe_str (fun _ _ => rfl)) pe_str (nomark _)) (pw_and1 (pt_cmpR op_lt (pv 3) pe_int (nomark _))))) (pss_one (ps_set (i := 5) sc_law_happening.nd rfl (Or.inl rfl) (pe_ix ix_tup (pe_ix ix_list (pe_ix ix_list (pe_dget hu (pv 1) pe_str (fun _ _ => rfl)) (pe_dget hu (pv 1) pe_str (fun _ _ => rfl)) (fun _ _ => rfl)) pe_int (fun _ _ => rfl)) pe_int (fun _ _ => rfl)))) pss_nil)
    (pss_one (ps_ret (pe_tup (pa_cons pe_str (pa_cons (pv 2) (pa_cons (pv 5) (pa_cons (pe_c D_law_worth (hr.mono (by omega)) (pa_cons (pv 0) pa_nil)) pa_nil))))))))))))), ?_⟩
  -- the moment
  refine ⟨_, rfl, a, 60, rfl, hd, by decide, by decide, fun H1 z1 k1 d1 z10 z11 => ?_⟩
  refine ⟨_, rfl, _, _, rfl, rfl, ⟨by decide, by decide, by decide⟩, _, _, rfl, rfl, a, 1000000000001, rfl, d1, by decide, by decide, fun H2 z2 k2 d2 z20 z21 => ⟨by show 2 ≤ sizeLine; decide, fun l hl => ?_⟩⟩
  have q1 := same_new hl (.lst [.int z1, .int z2])
  refine ⟨_, rfl, a, 9, rfl, d2.same q1, by decide, by decide, fun H3 z3 k3 d3 z30 z31 => ⟨rfl, .inr ⟨_, rfl, ?_⟩⟩⟩
  obtain ⟨mo, hmo, hmo0⟩ : ∃ mo : Int, atI [V.int z1, V.int z2] (if decide (V.int z3 = V.int 0) = true then 1 else 0) = some (.int mo) ∧ 0 ≤ mo := by
    by_cases c : decide (V.int z3 = V.int 0) = true
    · rw [if_pos c]
      exact ⟨z2, rfl, z20⟩
    · rw [if_neg c]
      exact ⟨z1, rfl, z10⟩
  have k3' := k1.trans (k2.trans ((Keep.same q1).trans k3))
  refine ⟨l, _, _, _, rfl, rfl, SqL.of (k3 _ _ (d2.ne hl) upd_same), hmo, ?_⟩
  -- the kind
  refine ⟨_, rfl, a, 8, rfl, d3, by decide, by decide, fun H4 r k4 d4 r0 r1 => ?_⟩
  have k4' := k3'.trans k4
  have s4 : Same H0 H4 := same_keep s0 k4' ha
  have hM4 := hM.same s4
  refine ⟨_, rfl, rfl, _, rfl, ?_⟩
  refine ite2 (fun _ => ?_) (fun _ => ?_)
  · refine ⟨_, rfl, _, rfl, a, rfl, d4, fun H5 w5 k5 d5 sw => ⟨by show 3 ≤ sizeLine; decide, fun p hp => ?_⟩⟩
    have q := same_new hp (.tup [.str "begin", .int mo, wv w5])
    exact k _ p (.begin mo w5) (k4'.trans (k5.trans (Keep.same q))) (d5.same q) upd_same ⟨hmo0, sw⟩
  refine ⟨_, rfl, _, _, rfl, rfl, _, rfl, ?_⟩
  refine ite2 (fun _ => ?_) (fun _ => ?_)
  · refine ⟨_, rfl, a, 6, rfl, d4, by decide, by decide, fun H5 t k5 d5 t0 t1 => ?_⟩
    have s5 : Same H0 H5 := same_keep s0 (k4'.trans k5) ha
    obtain ⟨c, nm, op, dn, lt, aw, i, h, hB, _⟩ := hM.same s5
    refine ⟨_, rfl, m, _, rfl, dget_s h.hm rfl, Nat.zero_le _, fun q0 hq0 => ne_nilI (SqL.of (same_new hq0 _ _ _ h.co.ho)) (SqL.of upd_same) ⟨_, rfl, ?_⟩⟩
    have q0s := same_new hq0 (.lst [])
    by_cases co : S.opn = []
    · rw [decide_eq_true co]
      refine iteF (iteF ?_)
      have dz := d5.same q0s
      have kz := k4'.trans (k5.trans (Keep.same q0s))
      obtain ⟨tt, htt⟩ : ∃ tt, tt = t := ⟨_, rfl⟩
      subst htt
      refine ⟨_, rfl, _, rfl, _, rfl, a, rfl, dz, fun H9 w9 k9 d9 sw => ⟨by show 4 ≤ sizeLine; decide, fun p hp => ?_⟩⟩
      have q := same_new hp (.tup [.str "done", .int mo, .int tt, wv w9])
      exact k _ p (.done mo tt w9) (kz.trans (k9.trans (Keep.same q))) (d9.same q) upd_same ⟨hmo0, sw⟩
    rw [decide_eq_false co]
    refine iteT ⟨_, rfl, _, _, rfl, rfl, _, rfl, ?_⟩
    refine ite2 (fun _ => ?_) (fun _ => ?_)
    · have h6 := h.same q0s
      have hpos : 0 < S.opn.length := List.length_pos_iff.mpr co
      have hlen : (S.opn.map V.int).length = S.opn.length := List.length_map ..
      have hop := hB.op
      refine ⟨_, rfl, m, _, rfl, dget_s h6.hm rfl, _, rfl, _, rfl, m, _, rfl, dget_s h6.hm rfl, op, _, rfl, .inl (SqL.of h6.co.ho), a, ((S.opn.map V.int).length : Int), rfl, d5.same q0s, by omega, by omega, fun H7 j k7 d7 j0 j1 => ?_⟩
      obtain ⟨v, hv, hm⟩ := atI_mem (xs := S.opn.map V.int) j0 j1
      obtain ⟨tt, _, rfl⟩ := List.mem_map.mp hm
      have kz := k4'.trans (k5.trans ((Keep.same q0s).trans k7))
      have s7 : Same H0 H7 := same_keep s0 kz ha
      have hop7 : H7 op = some (.lst (S.opn.map V.int)) := k7 _ _ (by
        intro z
        have hx := (d5.same q0s)
        obtain ⟨c1, c2, c3, hx⟩ := hx
        have := h6.co.ho
        rw [z] at this
        have e0 := hM
        obtain ⟨_, _, op', _, _, _, _, h', _⟩ := e0
        have hmm := s5 _ _ h'.hm
        rw [h.hm] at hmm
        have e2 : valV (mdD c (i : Int) nm op dn lt aw S) (Sum.inr "open") = some (.ref op) := rfl
        injection hmm with hmm
        injection hmm with hmm
        rw [hmm] at e2
        have e3 : (some (V.ref op') : Option V) = some (.ref op) := e2
        injection e3 with e3
        injection e3 with e3
        have hop0 := h'.co.ho
        rw [e3, z, ha] at hop0
        cases hop0) h6.co.ho
      have dz := d7
      refine ⟨op, _, _, _, rfl, rfl, SqL.of hop7, hv, ?_⟩
      refine ⟨_, rfl, _, rfl, _, rfl, a, rfl, dz, fun H9 w9 k9 d9 sw => ⟨by show 4 ≤ sizeLine; decide, fun p hp => ?_⟩⟩
      have q := same_new hp (.tup [.str "done", .int mo, .int tt, wv w9])
      exact k _ p (.done mo tt w9) (kz.trans (k9.trans (Keep.same q))) (d9.same q) upd_same ⟨hmo0, sw⟩
    · have dz := d5.same q0s
      have kz := k4'.trans (k5.trans (Keep.same q0s))
      obtain ⟨tt, htt⟩ : ∃ tt, tt = t := ⟨_, rfl⟩
      subst htt
      refine ⟨_, rfl, _, rfl, _, rfl, a, rfl, dz, fun H9 w9 k9 d9 sw => ⟨by show 4 ≤ sizeLine; decide, fun p hp => ?_⟩⟩
      have q := same_new hp (.tup [.str "done", .int mo, .int tt, wv w9])
      exact k _ p (.done mo tt w9) (kz.trans (k9.trans (Keep.same q))) (d9.same q) upd_same ⟨hmo0, sw⟩
  · refine ⟨by show 2 ≤ sizeLine; decide, fun l2 hl2 => ?_⟩
    have q2 := same_new hl2 (.lst [.str "go", .str "paid"])
    refine ⟨_, rfl, a, 2, rfl, d4.same q2, by decide, by decide, fun H5 j k5 d5 j0 j1 => ?_⟩
    obtain ⟨y, hy⟩ := str2 (x := "go") (y := "paid") j0 j1
    refine ⟨l2, _, _, _, rfl, rfl, SqL.of (k5 _ _ (d4.ne hl2) upd_same), hy, ?_⟩
    have kz := k4'.trans ((Keep.same q2).trans k5)
    have s5 : Same H0 H5 := same_keep s0 kz ha
    obtain ⟨c, nm, op, dn, lt, aw, i, h, hB, hR, hSt, _⟩ := hM.same s5
    refine ⟨_, rfl, m, _, rfl, dget_s h.hm rfl, rfl, _, rfl, ?_⟩
    rw [show decide (V.str S.mode.str = V.str "hear") = decide (S.mode = .hear) from mstr _ .hear]
    by_cases ch : S.mode = .hear
    · rw [decide_eq_true ch]
      refine iteT ⟨_, rfl, _, _, rfl, rfl, _, rfl, ?_⟩
      refine ite2 (fun _ => ?_) (fun _ => ?_)
      · obtain ⟨s0', r0', e1, e2, e3⟩ := hSt (.inr ch)
        obtain ⟨x, k', r1', q4⟩ := hR.hr ch
        rw [e1] at q4
        injection q4 with q4 q5
        subst q4
        have hcd := h.cd
        obtain ⟨tc, es, c1, c2'⟩ := hcd
        obtain ⟨e, he, hen⟩ := Paired.get_ c2' e2
        obtain ⟨te, v, pp, hee, hb⟩ := hen
        obtain ⟨sp, us, vr, eq, hsp, hs, _⟩ := hb
        injection eq with eq _
        injection eq with eq
        subst eq
        have hs : us = [.str "hear", .str x, .str k'] := hs
        subst hs
        have ixe : atI (es.map V.ref) ((i : Nat) : Int) = some (.ref e) := atI_nat (by rw [List.getElem?_map, he]; rfl)
        refine ⟨_, rfl, m, _, rfl, dget_s h.hm rfl, _, rfl, m, _, rfl, dget_s h.hm rfl, c, _, _, _, rfl, rfl, SqL.of c1, ixe, e, _, _, _, rfl, rfl, SqL.of hee, rfl, v, _, _, _, rfl, rfl, SqT.of hsp, rfl, ?_⟩
        obtain ⟨yy, hyy⟩ : ∃ yy, yy = k' := ⟨_, rfl⟩
        subst hyy
        refine ⟨_, rfl, _, rfl, _, rfl, a, rfl, d5, fun H9 w9 k9 d9 sw => ⟨by show 4 ≤ sizeLine; decide, fun p hp => ?_⟩⟩
        have q := same_new hp (.tup [.str "letter", .int mo, .str yy, wv w9])
        exact k _ p (.letter mo yy w9) (kz.trans (k9.trans (Keep.same q))) (d9.same q) upd_same ⟨hmo0, sw⟩
      · obtain ⟨yy, hyy⟩ : ∃ yy, yy = y := ⟨_, rfl⟩
        subst hyy
        refine ⟨_, rfl, _, rfl, _, rfl, a, rfl, d5, fun H9 w9 k9 d9 sw => ⟨by show 4 ≤ sizeLine; decide, fun p hp => ?_⟩⟩
        have q := same_new hp (.tup [.str "letter", .int mo, .str yy, wv w9])
        exact k _ p (.letter mo yy w9) (kz.trans (k9.trans (Keep.same q))) (d9.same q) upd_same ⟨hmo0, sw⟩
    · rw [decide_eq_false ch]
      refine iteF (iteF ?_)
      obtain ⟨yy, hyy⟩ : ∃ yy, yy = y := ⟨_, rfl⟩
      subst hyy
      refine ⟨_, rfl, _, rfl, _, rfl, a, rfl, d5, fun H9 w9 k9 d9 sw => ⟨by show 4 ≤ sizeLine; decide, fun p hp => ?_⟩⟩
      have q := same_new hp (.tup [.str "letter", .int mo, .str yy, wv w9])
      exact k _ p (.letter mo yy w9) (kz.trans (k9.trans (Keep.same q))) (d9.same q) upd_same ⟨hmo0, sw⟩
theorem HapH.one {H : Hp} {p : Addr} {h : Hap} (q : HapH H p h) (ok : h.ok) : ∃ v0 mo us, H p = some (.tup (v0 :: .int mo :: us)) ∧ 0 ≤ mo := by
  cases h with
  | «begin» m w => exact ⟨_, _, _, q, ok.1⟩
  | done m t w => exact ⟨_, _, _, q, ok.1⟩
  | letter m y w => exact ⟨_, _, _, q, ok.1⟩
def spRow : Sp := fun vs H Q _ => ∃ (p ca : Addr) (blk : Blk) (ns : List Int), vs = [.ref p, .ref ca] ∧ ProgH H blk p ∧ blk.ok ∧ blk.depth ≤ 5 ∧ blk.size ≤ 1000 ∧ H ca = some (.lst (ns.map V.int)) ∧ ns.length ≤ 100 ∧
  ∀ H' l (as : List Addr) (hs : List Hap), Same H H' → H' l = some (.lst (as.map V.ref)) → Paired (HapH H') as hs → (∀ h ∈ hs, h.ok) → hs.length ≤ 100 → Q (.ref l) H'
theorem sc_law_row : FnScope ["program", "cells", "run", "row", "k", "deck", "happening"] ["program", "cells"] (defScope s_law_row) := ⟨rfl, rfl, rfl, by decide +kernel, rfl, by decide +kernel, by decide +kernel⟩
theorem D_law_row (T : Tx K mg) : Def1 P w K mg base 10 "_law_row" ["program", "cells"] spRow := by
  have D_law_deck : Def1 P w K mg base 1 "_law_deck" ["cell", "turn"] spDeck := D_law_deck T
  have D_law_pick : Def1 P w K mg base 1 "_law_pick" ["deck", "many"] spPick := D_law_pick T
  have D_law_worth : Def1 P w K mg base 2 "_law_worth" ["deck"] spWorthG := D_law_worth T
  have D_law_new : Def1 P w K mg base 8 "_law_new" ["program"] spLNew := D_law_new T
  have D_law_happening : Def1 P w K mg base 3 "_law_happening" ["deck", "run"] spHapp := D_law_happening T
  have D_law_takes : Def1 P w K mg base 9 "_law_takes" ["run", "happening"] (spLTakes 5) := D_law_takes T 5
  refine T.mk1 (st := s_law_row) 30 30 rfl rfl sc_law_row (fun _ _ _ _ _ _ us hl => match us, hl with | [_, _], _ => rfl) (fun vs H Q E h => ?_) (fun cdv A outer s H vs Q E hr h => ?_)
  · obtain ⟨_, _, _, _, rfl, _⟩ := h
    rfl
  obtain ⟨p, ca, blk, ns, rfl, hp, hok, hd, hsz, hca, hnl, k⟩ := h
  refine ⟨_, (pss_cons (ps_set (i := 2) sc_law_row.nd rfl (Or.inl rfl) (pe_c D_law_new (hr.mono (by omega)) (pa_cons (pv 0) pa_nil)))
    (pss_cons (ps_set (i := 3) sc_law_row.nd rfl (Or.inl rfl) (pe_lst pa_nil))
    (pss_cons (ps_for PassesOwn.never rfl (pi_range1 rfl T.f_range (pa_cons (pe_callB call_len_seq (by rfl) T.f_len (by decide +kernel) (pa_cons (pv 1) pa_nil)) pa_nil)) (pg_name (i := 4) sc_law_row.nd rfl (Or.inl rfl)) (pss_cons (ps_set (i := 5) sc_law_row.nd rfl (Or.inl rfl) (pe_c D_law_deck (hr.mono (by omega)) (pa_cons (pe_ix ix_list (pv 1) (pv 4) (fun _ _ => rfl)) (pa_cons pe_int pa_nil))))
    (pss_cons (ps_set (i := 6) sc_law_row.nd rfl (Or.inl rfl) (pe_c D_law_happening (hr.mono (by omega)) (pa_cons (pv 5) (pa_cons (pv 2) pa_nil))))
    (pss_cons (ps_if (PW.pt (pw_and (pt_cmpR op_eq (pv 4) pe_int (nomark _)) (pw_and1 (pt_cmpR op_gt (pe_c D_law_pick (hr.mono (by omega)) (pa_cons (pv 5) (pa_cons pe_int pa_nil))) pe_int (nomark _))))) (pss_one (ps_set (i := 6) sc_law_row.nd rfl (Or.inl rfl) (pe_tup (pa_cons pe_str (pa_cons (pe_ix ix_tup (pv 6) pe_int (fun _ _ => rfl)) (pa_cons (pe_c D_law_worth (hr.mono (by omega)) (pa_cons (pv 5) pa_nil)) pa_nil)))))) pss_nil)
    (pss_cons (ps_expr (pe_bm PySem.F.plainAttrs_list PySem.F.slot_list_append PySem.F.type_list_append mt_append (pv 3) (pa_cons (pv 6) pa_nil)))
    (pss_one (ps_expr (pe_c D_law_takes (hr.mono (by omega)) (pa_cons (pv 2) (pa_cons (pv 6) pa_nil))))))))))
    (pss_one (ps_ret (pv 3)))))), ?_⟩
  refine ⟨_, rfl, p, blk, rfl, hp, hd, by omega, hok, fun U H1 m e1 M1 => ?_⟩
  refine ⟨Nat.zero_le _, fun row hrow => ?_⟩
  have s1 := same_new hrow (.lst [])
  have urow : H row = none := e1.free row hrow
  have trow : U row = .non := Classical.byContradiction fun z => by
    rcases e1.tag row z with q | q
    · exact q rfl
    · exact q.2 hrow
  have hca0 : ∀ {U' : Tg} {H' : Hp}, Evo noT H U' H' → H' ca = some (.lst (ns.map V.int)) := fun ev => ev.out _ _ hca rfl
  refine ⟨_, rfl, ca, _, rfl, .inl (SqL.of (s1 _ _ (hca0 e1))), _, rfl, by rw [List.length_map]; omega, by rw [List.length_map]; omega, for_range (lo := 0) (n := (((ns.map V.int).length : Nat) : Int).toNat)
    (fun i σ H' => ∃ (U' : Tg) (S : AS) (as : List Addr) (hs : List Hap) (v4 v5 v6 : Option V), σ = [some (.ref p), some (.ref ca), some (.ref m), some (.ref row), v4, v5, v6] ∧ Evo noT H U' H' ∧ U' row = .non ∧ MdR U' H' m (302 * i) (flatOf blk 0) 5 S ∧ H' row = some (.lst (as.map V.ref)) ∧ Paired (HapH H') as hs ∧ (∀ h ∈ hs, h.ok) ∧ hs.length = i)
    ⟨U, fresh blk, [], [], none, none, none, rfl, e1.trans (Evo.same s1), trow, M1.same s1, upd_same, .nil, (fun h z => by cases z), rfl⟩ ?_ ?_⟩
  · rintro i σ H2 hi ⟨U2, S, as, hs, v4, v5, v6, rfl, ev, tr, M2, hr2, hh, hho, hhl⟩
    rw [List.length_map] at hi
    have hil : i < ns.length := by omega
    have e0 : (0 : Int) + (i : Nat) = ((i : Nat) : Int) := by omega
    obtain ⟨cell, hcell⟩ : ∃ z, ns[i]? = some z := ⟨ns[i], List.getElem?_eq_getElem hil⟩
    refine ⟨_, rfl, _, rfl, ca, _, _, _, rfl, rfl, SqL.of (hca0 ev), at_of e0 (by rw [List.getElem?_map, hcell]; rfl), cell, 90, rfl, fun H3 a ha s3 d3 => ?_⟩
    refine ⟨_, rfl, _, rfl, H2, U2, a, m, 302 * i, 5, flatOf blk 0, S, rfl, s3, ha, d3, M2, by omega, fun H4 hp4 h4 k4 d4 q4 ok4 => ?_⟩
    have s4 : Same H2 H4 := same_keep s3 k4 ha
    refine ⟨_, rfl, rfl, _, rfl, ?_⟩
    refine ite2 (fun _ => ?_) (fun _ => iteF ?_)
    · refine ⟨_, rfl, a, 8, rfl, d4, by decide, by decide, fun H5' r k5 d5 r0 r1 => ⟨_, _, rfl, rfl, _, rfl, ?_⟩⟩
      have t45 := k5.tup d4
      refine ite2 (fun _ => ?_) (fun _ => ?_)
      · obtain ⟨v0, mo, us, hmo, hmo0⟩ := (q4.mono t45).one ok4
        refine ⟨_, rfl, hp4, _, _, _, rfl, rfl, SqT.of hmo, atI_nat (j := 1) rfl, _, rfl, a, rfl, d5, fun H6' w6 k6' d6 sw => ⟨by show 3 ≤ sizeLine; decide, fun hp5 hhp5 => ?_⟩⟩
        have q := same_new hhp5 (.tup [.str "begin", .int mo, wv w6])
        have s5 : Same H2 _ := (same_keep s3 (k4.trans (k5.trans k6')) ha).trans q
        have ok5 : (Hap.begin mo w6).ok := ⟨hmo0, sw⟩
        have q5 : HapH _ hp5 (Hap.begin mo w6) := (upd_same (H := H6') (a := hp5) (o := .tup [.str "begin", .int mo, wv w6]))
        obtain ⟨H5, eH5⟩ : ∃ H5, H5 = upd H6' hp5 (.tup [.str "begin", .int mo, wv w6]) := ⟨_, rfl⟩
        rw [← eH5] at s5 q5 ⊢
        obtain ⟨h5, eh5⟩ : ∃ h5, h5 = Hap.begin mo w6 := ⟨_, rfl⟩
        rw [← eh5] at ok5 q5
        refine ⟨_, rfl, tyL (s5 _ _ hr2), _, rfl, row, _, _, rfl, rfl, s5 _ _ hr2, by rw [List.length_map, Paired.len hh]; exact szB (by omega), ?_⟩
        have k6 : TupS H5 (upd H5 row (.lst (as.map V.ref ++ [V.ref hp5]))) := TupS.lst (s5 _ _ hr2)
        have M6 := (M2.same s5).other (o := .lst (as.map V.ref ++ [V.ref hp5])) tr (s5 _ _ hr2)
        have ev6 : Evo noT H U2 (upd H5 row (.lst (as.map V.ref ++ [V.ref hp5]))) := by
          have e5 := ev.trans (Evo.same s5)
          refine ⟨fun b o e hb => ?_, fun b hb => ?_, e5.tup.trans k6, fun b e => ?_⟩
          · rw [upd_ne (ne_of_none e urow)]
            exact e5.out b o e hb
          · rcases e5.tag b hb with z | z
            · exact .inl z
            · refine .inr ⟨z.1, ?_⟩
              by_cases c : b = row
              · rw [c, upd_same]; exact fun q => nomatch q
              · rw [upd_ne c]; exact z.2
          · by_cases c : b = row
            · rw [c, upd_same] at e
              cases e
            · rw [upd_ne c] at e
              exact e5.free b e
        refine ⟨_, rfl, _, rfl, U2, m, hp5, 302 * i, flatOf blk 0, S, h5, rfl, q5.mono k6, ok5, M6, by omega, fun U7 H7 od e7 M7 _ => ?_⟩
        have hrow6 : upd H5 row (.lst (as.map V.ref ++ [V.ref hp5])) row = some (.lst ((as ++ [hp5]).map V.ref)) := by
          rw [upd_same, List.map_append]
          rfl
        have tt := (TupS.of_same s5).trans (k6.trans e7.tup)
        have tr7 : U7 row = .non := Classical.byContradiction fun z => by
          rcases e7.tag row z with q | q
          · exact q tr
          · have q1 := q.1
            rw [hrow6] at q1
            cases q1
        refine ⟨U7, _, as ++ [hp5], hs ++ [h5], _, _, _, rfl, ev6.trans e7, tr7, by rw [show 302 * (i + 1) = 302 * i + 302 by omega]; exact M7, e7.out _ _ hrow6 tr, Paired.snoc (F := HapH H7) ((q5.mono k6).mono e7.tup) (Paired.mapP hh fun _ _ q => q.mono tt), fun h hm => ?_, by rw [List.length_append, hhl]; rfl⟩
        rcases List.mem_append.mp hm with z | z
        · exact hho h z
        · cases List.mem_singleton.mp z
          exact ok5
      · have s5 : Same H2 H5' := same_keep s3 (k4.trans k5) ha
        have q5 := q4.mono t45
        have ok5 := ok4
        obtain ⟨H5, eH5⟩ : ∃ H5, H5 = H5' := ⟨_, rfl⟩
        obtain ⟨h5, eh5⟩ : ∃ h5, h5 = h4 := ⟨_, rfl⟩
        obtain ⟨hp5, ehp5⟩ : ∃ hp5, hp5 = hp4 := ⟨_, rfl⟩
        subst eH5 eh5 ehp5
        refine ⟨_, rfl, tyL (s5 _ _ hr2), _, rfl, row, _, _, rfl, rfl, s5 _ _ hr2, by rw [List.length_map, Paired.len hh]; exact szB (by omega), ?_⟩
        have k6 : TupS H5 (upd H5 row (.lst (as.map V.ref ++ [V.ref hp5]))) := TupS.lst (s5 _ _ hr2)
        have M6 := (M2.same s5).other (o := .lst (as.map V.ref ++ [V.ref hp5])) tr (s5 _ _ hr2)
        have ev6 : Evo noT H U2 (upd H5 row (.lst (as.map V.ref ++ [V.ref hp5]))) := by
          have e5 := ev.trans (Evo.same s5)
          refine ⟨fun b o e hb => ?_, fun b hb => ?_, e5.tup.trans k6, fun b e => ?_⟩
          · rw [upd_ne (ne_of_none e urow)]
            exact e5.out b o e hb
          · rcases e5.tag b hb with z | z
            · exact .inl z
            · refine .inr ⟨z.1, ?_⟩
              by_cases c : b = row
              · rw [c, upd_same]; exact fun q => nomatch q
              · rw [upd_ne c]; exact z.2
          · by_cases c : b = row
            · rw [c, upd_same] at e
              cases e
            · rw [upd_ne c] at e
              exact e5.free b e
        refine ⟨_, rfl, _, rfl, U2, m, hp5, 302 * i, flatOf blk 0, S, h5, rfl, q5.mono k6, ok5, M6, by omega, fun U7 H7 od e7 M7 _ => ?_⟩
        have hrow6 : upd H5 row (.lst (as.map V.ref ++ [V.ref hp5])) row = some (.lst ((as ++ [hp5]).map V.ref)) := by
          rw [upd_same, List.map_append]
          rfl
        have tt := (TupS.of_same s5).trans (k6.trans e7.tup)
        have tr7 : U7 row = .non := Classical.byContradiction fun z => by
          rcases e7.tag row z with q | q
          · exact q tr
          · have q1 := q.1
            rw [hrow6] at q1
            cases q1
        refine ⟨U7, _, as ++ [hp5], hs ++ [h5], _, _, _, rfl, ev6.trans e7, tr7, by rw [show 302 * (i + 1) = 302 * i + 302 by omega]; exact M7, e7.out _ _ hrow6 tr, Paired.snoc (F := HapH H7) ((q5.mono k6).mono e7.tup) (Paired.mapP hh fun _ _ q => q.mono tt), fun h hm => ?_, by rw [List.length_append, hhl]; rfl⟩
        rcases List.mem_append.mp hm with z | z
        · exact hho h z
        · cases List.mem_singleton.mp z
          exact ok5
    · have s5 := s4
      have q5 := q4
      have ok5 := ok4
      obtain ⟨H5, eH5⟩ : ∃ H5, H5 = H4 := ⟨_, rfl⟩
      obtain ⟨h5, eh5⟩ : ∃ h5, h5 = h4 := ⟨_, rfl⟩
      obtain ⟨hp5, ehp5⟩ : ∃ hp5, hp5 = hp4 := ⟨_, rfl⟩
      subst eH5 eh5 ehp5
      refine ⟨_, rfl, tyL (s5 _ _ hr2), _, rfl, row, _, _, rfl, rfl, s5 _ _ hr2, by rw [List.length_map, Paired.len hh]; exact szB (by omega), ?_⟩
      have k6 : TupS H5 (upd H5 row (.lst (as.map V.ref ++ [V.ref hp5]))) := TupS.lst (s5 _ _ hr2)
      have M6 := (M2.same s5).other (o := .lst (as.map V.ref ++ [V.ref hp5])) tr (s5 _ _ hr2)
      have ev6 : Evo noT H U2 (upd H5 row (.lst (as.map V.ref ++ [V.ref hp5]))) := by
        have e5 := ev.trans (Evo.same s5)
        refine ⟨fun b o e hb => ?_, fun b hb => ?_, e5.tup.trans k6, fun b e => ?_⟩
        · rw [upd_ne (ne_of_none e urow)]
          exact e5.out b o e hb
        · rcases e5.tag b hb with z | z
          · exact .inl z
          · refine .inr ⟨z.1, ?_⟩
            by_cases c : b = row
            · rw [c, upd_same]; exact fun q => nomatch q
            · rw [upd_ne c]; exact z.2
        · by_cases c : b = row
          · rw [c, upd_same] at e
            cases e
          · rw [upd_ne c] at e
            exact e5.free b e
      refine ⟨_, rfl, _, rfl, U2, m, hp5, 302 * i, flatOf blk 0, S, h5, rfl, q5.mono k6, ok5, M6, by omega, fun U7 H7 od e7 M7 _ => ?_⟩
      have hrow6 : upd H5 row (.lst (as.map V.ref ++ [V.ref hp5])) row = some (.lst ((as ++ [hp5]).map V.ref)) := by
        rw [upd_same, List.map_append]
        rfl
      have tt := (TupS.of_same s5).trans (k6.trans e7.tup)
      have tr7 : U7 row = .non := Classical.byContradiction fun z => by
        rcases e7.tag row z with q | q
        · exact q tr
        · have q1 := q.1
          rw [hrow6] at q1
          cases q1
      refine ⟨U7, _, as ++ [hp5], hs ++ [h5], _, _, _, rfl, ev6.trans e7, tr7, by rw [show 302 * (i + 1) = 302 * i + 302 by omega]; exact M7, e7.out _ _ hrow6 tr, Paired.snoc (F := HapH H7) ((q5.mono k6).mono e7.tup) (Paired.mapP hh fun _ _ q => q.mono tt), fun h hm => ?_, by rw [List.length_append, hhl]; rfl⟩
      rcases List.mem_append.mp hm with z | z
      · exact hho h z
      · cases List.mem_singleton.mp z
        exact ok5
  · rintro σ H2 ⟨U2, S, as, hs, v4, v5, v6, rfl, ev, tr, M2, hr2, hh, hho, hhl⟩
    rw [List.length_map] at hhl
    exact ⟨_, rfl, k H2 row as hs (fun b o e => ev.out b o e rfl) hr2 hh hho (by omega)⟩
end
end L2.K17

set_option maxHeartbeats 4000000
/-! the two side by side -/
namespace L2.K17
open PySem L2
/-! ### commands are leaves -/
def CmdOk (c : Cmd) : Prop := c.length ≤ 4 ∧ ∀ v ∈ c, Lf v v
theorem Lf.non : Lf .non .non := .inl ⟨rfl, rfl⟩
theorem Lf.int (i : Int) : Lf (.int i) (.int i) := .inr (.inl ⟨i, rfl, rfl⟩)
theorem Lf.str (s : Str) : Lf (.str s) (.str s) := .inr (.inr ⟨s, rfl, rfl⟩)
theorem Lf.wv : ∀ o : Option Int, Lf (wv o) (wv o)
  | none => .non
  | some n => .int n
theorem plain_cmd (S : AS) (s : Simp) : ∀ c ∈ (doPlain S s).2, CmdOk c := by
  cases s with
  | set x e => intro c hc; cases hc
  | order b x w e =>
    intro c hc
    cases List.mem_singleton.mp hc
    refine ⟨by show 4 ≤ 4; decide, fun v hv => ?_⟩
    simp only [List.mem_cons, List.not_mem_nil, or_false] at hv
    rcases hv with rfl | rfl | rfl | rfl
    · exact .str _
    · exact .int _
    · exact .str _
    · exact .wv _
  | timer x e =>
    intro c hc
    cases List.mem_singleton.mp hc
    refine ⟨by show 3 ≤ 4; decide, fun v hv => ?_⟩
    simp only [List.mem_cons, List.not_mem_nil, or_false] at hv
    rcases hv with rfl | rfl | rfl
    · exact .str _
    · exact .int _
    · exact .int _
  | send e k e2 =>
    intro c hc
    cases List.mem_singleton.mp hc
    refine ⟨by show 4 ≤ 4; decide, fun v hv => ?_⟩
    simp only [List.mem_cons, List.not_mem_nil, or_false] at hv
    rcases hv with rfl | rfl | rfl | rfl
    · exact .str _
    · exact .wv _
    · exact .str _
    · exact .wv _
  | drop e =>
    show ∀ c ∈ (doDrop S (S.say e)).2, CmdOk c
    unfold doDrop
    split
    · intro c hc; cases hc
    · split
      · intro c hc
        cases List.mem_singleton.mp hc
        refine ⟨by show 2 ≤ 4; decide, fun v hv => ?_⟩
        simp only [List.mem_cons, List.not_mem_nil, or_false] at hv
        rcases hv with rfl | rfl
        · exact .str _
        · exact .int _
      · intro c hc; cases hc
  | wait x es => intro c hc; cases hc
  | hear x k => intro c hc; cases hc
  | fin e => intro c hc; cases hc
theorem end_cmd (o : Option Int) : ∀ c ∈ [[V.str "end", wv o]], CmdOk c := by
  intro c hc
  cases List.mem_singleton.mp hc
  refine ⟨by show 2 ≤ 4; decide, fun v hv => ?_⟩
  simp only [List.mem_cons, List.not_mem_nil, or_false] at hv
  rcases hv with rfl | rfl
  · exact .str _
  · exact .wv _
/-- what a step gives -/
def rsC : Rs → List Cmd
  | .go _ c => c
  | .stop _ c => c
def rsS : Rs → AS
  | .go S _ => S
  | .stop S _ => S
theorem step_cmd (S : AS) : (∀ c ∈ rsC (step S), CmdOk c) ∧ (rsC (step S)).length ≤ 1 ∧ (rsS (step S)).awaited.length ≤ max S.awaited.length S.opn.length := by
  have nil : ∀ c ∈ ([] : List Cmd), CmdOk c := fun c hc => by cases hc
  have le : S.awaited.length ≤ max S.awaited.length S.opn.length := Nat.le_max_left ..
  cases eK : S.K with
  | nil =>
    have e : step S = .stop (S.ended none) [[.str "end", .non]] := by unfold step; rw [eK]
    rw [e]
    exact ⟨end_cmd none, Nat.le_refl _, le⟩
  | ite c a b r =>
    rw [step_ite eK]
    exact ⟨nil, Nat.zero_le _, le⟩
  | whl c a r =>
    rw [step_whl eK]
    exact ⟨nil, Nat.zero_le _, le⟩
  | one s r =>
    by_cases hp : s.isPlain
    · rw [step_plain eK hp]
      refine ⟨plain_cmd S s, plain_len S s, ?_⟩
      have ea : (doPlain S s).1.awaited = S.awaited := by
        cases s with
        | drop e =>
          show (doDrop S (S.say e)).1.awaited = S.awaited
          unfold doDrop
          split
          · rfl
          · split <;> rfl
        | _ => rfl
      show ((doPlain S s).1.setK r).awaited.length ≤ _
      rw [show ((doPlain S s).1.setK r).awaited = (doPlain S s).1.awaited from rfl, ea]
      exact le
    cases s with
    | set _ _ => exact absurd True.intro hp
    | order _ _ _ _ => exact absurd True.intro hp
    | timer _ _ => exact absurd True.intro hp
    | send _ _ _ => exact absurd True.intro hp
    | drop _ => exact absurd True.intro hp
    | fin e =>
      rw [step_fin eK]
      exact ⟨end_cmd _, Nat.le_refl _, le⟩
    | wait x es =>
      rw [step_wait eK]
      have ha : (S.await es).length ≤ S.opn.length := await_le
      unfold stepWait
      cases e1 : S.ready es with
      | cons t l => exact ⟨nil, Nat.zero_le _, by show (S.await es).length ≤ _; omega⟩
      | nil =>
        cases e2 : S.await es with
        | nil => exact ⟨nil, Nat.zero_le _, Nat.zero_le _⟩
        | cons t l =>
          rw [e2] at ha
          exact ⟨nil, Nat.zero_le _, by show (t :: l).length ≤ _; omega⟩
    | hear x k =>
      rw [step_hear eK]
      unfold stepHear
      cases e1 : S.lets k with
      | nil => exact ⟨nil, Nat.zero_le _, le⟩
      | cons w ws => exact ⟨nil, Nat.zero_le _, le⟩
theorem go_cmd : ∀ (n : Nat) {B : Nat} {S : AS}, Bnd B S → S.awaited.length ≤ B → B + n ≤ 1000000000 → (∀ c ∈ (go n S).2, CmdOk c) ∧ (go n S).2.length ≤ n + 1 ∧ (go n S).1.awaited.length ≤ B + n
  | 0, B, S, hB, ha, hb => by
    by_cases e : S.K = .nil
    · rw [go_nil e]
      exact ⟨end_cmd none, Nat.le_refl _, ha⟩
    · rw [go_zero e]
      refine ⟨fun c hc => ?_, Nat.le_refl _, ha⟩
      cases List.mem_singleton.mp hc
      refine ⟨by show 1 ≤ 4; decide, fun v hv => ?_⟩
      cases List.mem_singleton.mp hv
      exact .str _
  | n + 1, B, S, hB, ha, hb => by
    obtain ⟨h1, h2, h3⟩ := step_cmd S
    have q := hB.step (by omega)
    have ho := hB.op
    cases e : step S with
    | stop S1 c =>
      rw [e] at h1 h2 h3
      rw [go_stop e]
      have h3 : S1.awaited.length ≤ _ := h3
      have h2 : c.length ≤ 1 := h2
      exact ⟨h1, by show c.length ≤ n + 1 + 1; omega, by show S1.awaited.length ≤ B + (n + 1); omega⟩
    | go S1 c =>
      rw [e] at h1 h2 h3 q
      rw [go_go e]
      have h3 : S1.awaited.length ≤ _ := h3
      have h2 : c.length ≤ 1 := h2
      obtain ⟨z1, z2, z3⟩ := go_cmd n (B := B + 1) q (by omega) (by omega)
      refine ⟨fun d hd => ?_, by show (c ++ (go n S1).2).length ≤ n + 1 + 1; rw [List.length_append]; omega, by show (go n S1).1.awaited.length ≤ B + (n + 1); omega⟩
      rcases List.mem_append.mp hd with y | y
      · exact h1 d y
      · exact z1 d y
theorem behind_cmd {B : Nat} {S : AS} {w : Option Int} (hB : Bnd B S) (ha : S.awaited.length ≤ B) (hb : B + 300 ≤ 1000000000) (hw : Sm w) : (∀ c ∈ (S.behind w).2, CmdOk c) ∧ (S.behind w).2.length ≤ 301 ∧ (S.behind w).1.awaited.length ≤ B + 300 := by
  have ko := hB.ko
  unfold AS.behind
  split
  · rename_i x es r eK
    rw [eK] at ko
    exact go_cmd 300 (((hB.setN (x := x) hw).setK ko.2).setM (m := .on)) ha hb
  · rename_i x es r eK
    rw [eK] at ko
    exact go_cmd 300 (((hB.setN (x := x) hw).setK ko.2).setM (m := .on)) ha hb
  · exact ⟨fun c hc => (by cases hc), Nat.zero_le _, by show S.awaited.length ≤ _; omega⟩
theorem take_cmd {B : Nat} {S : AS} (hB : Bnd B S) (ha : S.awaited.length ≤ B) (hb : B + 302 ≤ 1000000000) (h : Hap) (ho : h.ok) : (∀ c ∈ (S.take h).2, CmdOk c) ∧ (S.take h).2.length ≤ 301 ∧ (S.take h).1.awaited.length ≤ B + 302 := by
  have idle : ∀ {S1 : AS}, S1.awaited = S.awaited → (∀ c ∈ ((S1, []) : AS × List Cmd).2, CmdOk c) ∧ ((S1, []) : AS × List Cmd).2.length ≤ 301 ∧ ((S1, []) : AS × List Cmd).1.awaited.length ≤ B + 302 := fun e => ⟨fun c hc => (by cases hc), Nat.zero_le _, by
    show (AS.awaited _).length ≤ _
    rw [e]
    omega⟩
  cases h with
  | «begin» m w =>
    show (∀ c ∈ (S.takeB m w).2, CmdOk c) ∧ (S.takeB m w).2.length ≤ 301 ∧ (S.takeB m w).1.awaited.length ≤ B + 302
    unfold AS.takeB
    split
    · obtain ⟨z1, z2, z3⟩ := go_cmd 300 ((hB.began (n := m) ho.2).setM (m := .on)) ha (by omega)
      exact ⟨z1, z2, by omega⟩
    · exact idle rfl
  | done m t w =>
    show (∀ c ∈ (S.takeD m t w).2, CmdOk c) ∧ (S.takeD m t w).2.length ≤ 301 ∧ (S.takeD m t w).1.awaited.length ≤ B + 302
    unfold AS.takeD
    split
    · rename_i c1
      split
      · obtain ⟨z1, z2, z3⟩ := behind_cmd (hB.did (n := m) (t := t) ho.2) (show S.awaited.length ≤ B + 1 by omega) (by omega) (hB.ot t c1.2)
        exact ⟨z1, z2, by omega⟩
      · exact idle rfl
    · exact idle rfl
  | letter m k w =>
    show (∀ c ∈ (S.takeL m k w).2, CmdOk c) ∧ (S.takeL m k w).2.length ≤ 301 ∧ (S.takeL m k w).1.awaited.length ≤ B + 302
    unfold AS.takeL
    split
    · split
      · obtain ⟨hB2, hw1⟩ := hB.heard2 (n := m) (k := k) ho.2
        obtain ⟨z1, z2, z3⟩ := behind_cmd hB2 (show S.awaited.length ≤ B + 1 by omega) (by omega) hw1
        exact ⟨z1, z2, by omega⟩
      · exact idle rfl
    · exact idle rfl
/-! ### what stands untouched -/
section
variable {T : Tg} {H H' : Hp}
theorem Core.frame {nm op dn lt aw : Addr} {B : Nat} {sf : Bool} {ol : List Int} {S : AS} (h : Core T H nm op dn lt aw B sf ol S) (k : TupS H H') (e : ∀ b o, T b ≠ .non → H b = some o → H' b = some o) : Core T H' nm op dn lt aw B sf ol S := by
  have fr : ∀ {a : Addr} {t : Tag}, T a = t → t ≠ .non → ∀ o, H a = some o → H' a = some o := fun ha hn o q => e _ o (by rw [ha]; exact hn) q
  exact ⟨h.tn, h.hn.frame (fr h.tn (by decide)), h.to, fr h.to (by decide) _ h.ho, h.td, h.hd.frame k (fr h.td (by decide)), h.tl, h.hl.frame (fr h.tl (by decide)) fun l x o ht q => ⟨fr ht (by intro z; cases z) _ q, ht⟩, h.tw, fr h.tw (by decide) _ h.hw⟩
theorem MdR.frame {m : Addr} {B D : Nat} {code : List CE} {S : AS} (h : MdR T H m B code D S) (k : TupS H H') (e : ∀ b o, T b ≠ .non → H b = some o → H' b = some o) : MdR T H' m B code D S := by
  obtain ⟨c, nm, op, dn, lt, aw, i, h1, h2⟩ := h
  exact ⟨c, nm, op, dn, lt, aw, i, ⟨h1.tm, e _ _ (by rw [h1.tm]; decide) h1.hm, h1.co.frame k e, h1.cd.frame k fun b xs hb q => ⟨hb, e _ _ (by rw [hb]; decide) q⟩⟩, h2⟩
theorem RnR.frame {K : PySem.W.Frag} {x : Addr} {root : Blk} {B : Nat} {S : AS} (h : RnR K T H x root B S) (k : TupS H H') (e : ∀ b o, T b ≠ .non → H b = some o → H' b = some o) : RnR K T H' x root B S := by
  obtain ⟨nn, cs, ⟨ol, ps, i, ⟨dx, st, pa, nm, op, dn, lt, aw, od, h1, hst⟩, hp⟩, h2⟩ := h
  exact ⟨nn, cs, ⟨ol, ps, i, ⟨dx, st, pa, nm, op, dn, lt, aw, od, ⟨h1.tm, e _ _ (by rw [h1.tm]; decide) h1.hm, h1.co.frame k e, h1.tp, e _ _ (by rw [h1.tp]; decide) h1.hp, ⟨h1.ho.1, h1.ho.2.frame k fun o q => e _ _ (by rw [h1.ho.1]; decide) q⟩⟩, hst.mono k⟩, hp⟩, h2⟩
theorem RnR.same {K : PySem.W.Frag} {x : Addr} {root : Blk} {B : Nat} {S : AS} (h : RnR K T H x root B S) (s : Same H H') : RnR K T H' x root B S := h.frame (TupS.of_same s) fun b o _ q => s _ _ q
end
/-! ### alike -/
theorem pair_lf {H : Hp} {n : Nat} : ∀ {vs : List V}, (∀ v ∈ vs, Lf v v) → Paired (AL H (n + 1)) vs vs
  | [], _ => .nil
  | v :: vs, h => .cons (.inl (h v (List.mem_cons_self ..))) (pair_lf fun u hu => h u (List.mem_cons_of_mem _ hu))
theorem pair_lf0 {H : Hp} : ∀ {vs : List V}, (∀ v ∈ vs, Lf v v) → Paired (AL H 0) vs vs
  | [], _ => .nil
  | v :: vs, h => .cons (h v (List.mem_cons_self ..)) (pair_lf0 fun u hu => h u (List.mem_cons_of_mem _ hu))
theorem al_tup {H : Hp} {p q : Addr} {c : Cmd} (h1 : H p = some (.tup c)) (h2 : H q = some (.tup c)) (hc : CmdOk c) : AL H 1 (.ref p) (.ref q) :=
  .inr ⟨p, q, c, c, rfl, rfl, .inr ⟨h1, h2⟩, Nat.le_trans hc.1 (by decide), pair_lf0 hc.2⟩
theorem al_ords {H : Hp} {p q : Addr} {cs : List Cmd} (h1 : OrdH H p cs) (h2 : OrdH H q cs) (hc : ∀ c ∈ cs, CmdOk c) (hl : cs.length ≤ 100000) : AL H 2 (.ref p) (.ref q) := by
  obtain ⟨as, a1, a2⟩ := h1
  obtain ⟨bs, b1, b2⟩ := h2
  have e := Paired.len a2
  refine .inr ⟨p, q, _, _, rfl, rfl, .inl ⟨a1, b1⟩, by rw [List.length_map]; omega, ?_⟩
  clear a1 b1 e hl
  induction a2 generalizing bs with
  | nil =>
    cases b2
    exact .nil
  | @cons a c as cs ha _ ih =>
    cases b2 with
    | cons hb tb => exact .cons (al_tup ha hb (hc c (List.mem_cons_self ..))) (ih (fun d hd => hc d (List.mem_cons_of_mem _ hd)) _ tb)
theorem al_ints {H : Hp} {p q : Addr} {ns : List Int} (h1 : H p = some (.lst (ns.map V.int))) (h2 : H q = some (.lst (ns.map V.int))) (hl : ns.length ≤ 100000) : AL H 2 (.ref p) (.ref q) :=
  .inr ⟨p, q, _, _, rfl, rfl, .inl ⟨h1, h2⟩, by rw [List.length_map]; exact hl, pair_lf fun v hv => by
    obtain ⟨i, _, rfl⟩ := List.mem_map.mp hv
    exact .int i⟩
theorem al_flat {H : Hp} {p q : Addr} {vs : List V} (h1 : H p = some (.tup vs)) (h2 : H q = some (.tup vs)) (hl : vs.length ≤ 100000) (hv : ∀ v ∈ vs, Lf v v) : AL H 2 (.ref p) (.ref q) :=
  .inr ⟨p, q, _, _, rfl, rfl, .inr ⟨h1, h2⟩, hl, pair_lf hv⟩
theorem al_waits {H : Hp} {p q : Addr} {S : AS} (h1 : WaitsH H p S) (h2 : WaitsH H q S) (hl : S.awaited.length ≤ 100000) : AL H 2 (.ref p) (.ref q) := by
  unfold WaitsH at h1 h2
  cases e : S.mode with
  | wait =>
    rw [e] at h1 h2
    obtain ⟨a, a1, a2⟩ := h1
    obtain ⟨b, b1, b2⟩ := h2
    refine .inr ⟨p, q, _, _, rfl, rfl, .inr ⟨a1, b1⟩, by show 2 ≤ 100000; decide, .cons (.inl (.str _)) (.cons (.inr ⟨a, b, _, _, rfl, rfl, .inr ⟨a2, b2⟩, by rw [List.length_map]; exact hl, pair_lf0 fun v hv => ?_⟩) .nil)⟩
    obtain ⟨i, _, rfl⟩ := List.mem_map.mp hv
    exact .int i
  | hear =>
    rw [e] at h1 h2
    obtain ⟨a, a1, a2⟩ := h1
    obtain ⟨b, b1, b2⟩ := h2
    rw [a1] at b1
    injection b1 with b1
    subst b1
    refine al_flat a2 b2 (by show 2 ≤ 100000; decide) fun v hv => ?_
    simp only [List.mem_cons, List.not_mem_nil, or_false] at hv
    rcases hv with rfl | rfl
    · exact .str _
    · exact .str _
  | ended =>
    rw [e] at h1 h2
    refine al_flat h1 h2 (by show 2 ≤ 100000; decide) fun v hv => ?_
    simp only [List.mem_cons, List.not_mem_nil, or_false] at hv
    rcases hv with rfl | rfl
    · exact .str _
    · exact .wv _
  | new =>
    rw [e] at h1 h2
    refine al_flat h1 h2 (by show 1 ≤ 100000; decide) fun v hv => ?_
    cases List.mem_singleton.mp hv
    exact .str _
  | on =>
    rw [e] at h1 h2
    refine al_flat h1 h2 (by show 1 ≤ 100000; decide) fun v hv => ?_
    cases List.mem_singleton.mp hv
    exact .str _
  | worn =>
    rw [e] at h1 h2
    refine al_flat h1 h2 (by show 1 ≤ 100000; decide) fun v hv => ?_
    cases List.mem_singleton.mp hv
    exact .str _
end L2.K17

set_option maxHeartbeats 4000000
/-! the law -/
namespace L2.K17
open PySem L2
section
open PySem.Spec PyProof.Rows
variable {X : Cx}
theorem pe_slst {e : Expr} {ea eb : Option Expr} {te : TE} {tl th : TO} {c : Int} {k : Nat} {p1 p3 pos : Pos} (hc : 0 < c) (he : PE X e te) (ha : PO X ea tl) (hb : PO X eb th) (hpl : ∀ ov iv, subscripted (.Slice ea eb (some (.Constant (.int c) k p1)) p3) false ov iv = operate [ov, iv] (getItem ov iv) := by intros; with_unfolding_all rfl) :
    PE X (.Subscript e (.Slice ea eb (some (.Constant (.int c) k p1)) p3) pos) (tSlS X.K te tl th) := by
  refine ⟨fun pins s σ H Q I h => ?_⟩
  refine Subscript_ (thn (he.run pins s σ H _ I h) fun v s1 ⟨x, H1, I1, r1, q1⟩ => ?_)
  have hst : PO X (some (.Constant (.int c) k p1)) (tPart (tC (.int c))) := po_some pe_int
  refine wpAny_Slice (thn (ha.run pins s1 σ H1 _ I1 q1) fun vl s2 ⟨l, H2, I2, pl, q2⟩ => ?_)
  refine thn (hb.run pins s2 σ H2 _ I2 q2) fun vu s3 ⟨u, H3, I3, pu, q3⟩ => ?_
  refine thn (hst.run pins s3 σ H3 (fun o H4 => o = some c ∧ H4 = H3) I3 ⟨c, rfl, rfl, rfl⟩) fun vs s4 ⟨o, H4, I4, ps, eo, e4⟩ => ?_
  subst eo e4
  obtain ⟨a, xs, ex, hx, q⟩ := q3
  subst ex
  cases r1
  have I5 : Inv X pins σ H4 { s4 with heap := s4.heap.push { cls := .type "slice", data := .fields #[vl, vu, vs] } } := I4.kept (t' := s4.toks) fun b ob q => Heap.get?_push_of_some _ q
  obtain ⟨its, r, ht, hz⟩ := I5.list hx
  have hlen := r.length
  show wpAny (model X.prog X.w) X.A (subscriptTail e (.Slice ea eb (some (.Constant (.int c) k p1)) p3) (.ref a) (.ref s4.heap.objs.size)) (EP X pins σ Q) X.xe { s4 with heap := s4.heap.push { cls := .type "slice", data := .fields #[vl, vu, vs] } }
  refine tail_any (ops := [.ref a, .ref s4.heap.objs.size]) ht.isList.typeIs (PySem.slot_list_getitem.lookup) ?_ (hpl _ _)
  refine wpAny_getItem_list_slice ht.isList (Heap.IsSliceOf.new _ vl vu vs) pl pu ps (by intro z; cases z; exact absurd hc (by decide)) ?_ (by rw [List.size_toArray]; omega)
  have key : ∀ ks : List Nat, ks.length ≤ its.length → Q (.ref (s4.heap.push { cls := .type "slice", data := .fields #[vl, vu, vs] }).objs.size) (upd H4 (s4.heap.push { cls := .type "slice", data := .fields #[vl, vu, vs] }).objs.size (.lst (ks.filterMap fun (k : Nat) => xs[k]?))) := fun ks hk =>
    q _ _ (I5.hok.fresh (Nat.le_refl _)) (Nat.le_trans (List.length_filterMap_le ..) (by omega)) fun v hv => by
      obtain ⟨j, _, e⟩ := List.mem_filterMap.mp hv
      exact List.mem_of_getElem? e
  obtain ⟨b1, b2⟩ := bounds_pos (lo := l) (hi := u) (c := c) (n := its.length) hc
  have hk : (sliceRange (sliceBounds l u (some c) its.length).1 (sliceBounds l u (some c) its.length).2.1 (sliceBounds l u (some c) its.length).2.2).length ≤ its.length :=
    sliceRange_length_le _ _ _ _ (fun _ => ⟨b1, b2⟩) fun z => absurd hc z
  unfold slicePick
  rw [List.size_toArray]
  refine ⟨.ref _, _, I5.laid (t' := s4.toks) (o := .lst _) (fun b ob q => Heap.get?_push_of_some _ q) (Nat.le_refl _) ?_, rfl, key _ hk⟩
  exact ⟨Nat.le_trans (List.length_filterMap_le ..) (by omega), _, 0, vals_pick r _, Heap.get?_push_size _ rfl⟩
end
theorem SqL.grow {K : PySem.W.Frag} {H H' : Hp} {a : Addr} {xs : List V} (h : SqL K H a xs) (e : Same H H') : SqL K H' a xs :=
  Or.elim h (fun h => .inl (Or.elim h (fun h => .inl (e _ _ h)) fun ⟨o, h⟩ => .inr ⟨o, e _ _ h⟩)) fun h => .inr h
theorem all_ints {ns : List Int} : ∀ {ys : List V}, (∀ v ∈ ys, v ∈ ns.map V.int) → ∃ ms : List Int, ys = ms.map V.int ∧ ms.length = ys.length
  | [], _ => ⟨[], rfl, rfl⟩
  | y :: ys, h => by
    obtain ⟨i, _, e⟩ := List.mem_map.mp (h y (List.mem_cons_self ..))
    obtain ⟨ms, h1, h2⟩ := all_ints fun v hv => h v (List.mem_cons_of_mem _ hv)
    exact ⟨i :: ms, by rw [h1, ← e]; rfl, congrArg Nat.succ h2⟩
theorem WaitsH.same {H H' : Hp} {p : Addr} {S : AS} (h : WaitsH H p S) (s : Same H H') : WaitsH H' p S := by
  unfold WaitsH at h ⊢
  cases e : S.mode with
  | wait =>
    rw [e] at h
    obtain ⟨q, h1, h2⟩ := h
    exact ⟨q, s _ _ h1, s _ _ h2⟩
  | hear =>
    rw [e] at h
    obtain ⟨k, h1, h2⟩ := h
    exact ⟨k, h1, s _ _ h2⟩
  | ended =>
    rw [e] at h
    exact s _ _ h
  | new =>
    rw [e] at h
    exact s _ _ h
  | on =>
    rw [e] at h
    exact s _ _ h
  | worn =>
    rw [e] at h
    exact s _ _ h
def spLaw (K : PySem.W.Frag) : Sp := fun vs H Q _ => ∃ (a : Addr) (ns : List Int), vs = [.ref a] ∧ SqL K H a (ns.map V.int) ∧ ns.length ≤ 63 ∧ ∀ H', Q (.bl true) H'
section
variable {P : Program} {w : World} {K : PySem.W.Frag} {mg : Str → Option Value} {base : Heap}
theorem sc_law : FnScope ["script", "program", "row", "model", "run", "happening"] ["script"] (defScope s_law) := ⟨rfl, rfl, rfl, by decide +kernel, rfl, by decide +kernel, by decide +kernel⟩
theorem ok_law (T : Tx K mg) {fd : FuncData} (F : Fun K "law" "law" s_law (He.ga K "law") fd) : FnOk P w K mg base CX0 13 (He.ga K "law") fd ["script"] (spLaw K) := by
  have D_law_program : Def1 P w K mg base 10 "_law_program" ["cells"] spProg := D_law_program T
  have D_law_row : Def1 P w K mg base 10 "_law_row" ["program", "cells"] spRow := D_law_row T
  have D_law_new : Def1 P w K mg base 8 "_law_new" ["program"] spLNew := D_law_new T
  have D_law_alike : Def1 P w K mg base 4 "_law_alike" ["one", "other"] (spAlike 3) := D_law_alike T 3
  have D_take : DefM P w K mg base 12 "take" ["self", "happening"] (spTake K) := D_take T
  have D_waits : DefM P w K mg base 3 "waits" ["self"] (spWaits K) := D_waits T
  have D_open_tickets : DefM P w K mg base 1 "open_tickets" ["self"] (spOpen K) := D_open_tickets T
  obtain ⟨fd0, G_init, b_init⟩ := (D_init T : DefM P w K mg base 1 "__init__" ["self", "program"] (spInit K)).ok
  have D_law_takes : Def1 P w K mg base 9 "_law_takes" ["run", "happening"] (spLTakes 5) := D_law_takes T 5
  have D_law_waits : Def1 P w K mg base 1 "_law_waits" ["run"] (spLWaits 5) := D_law_waits T 5
  refine F.ok sc_law (fun vs H Q E h => ?_) (fun cdv A outer s H vs Q E hr h => ?_)
  · obtain ⟨_, _, rfl, _⟩ := h
    rfl
  obtain ⟨a, ns, rfl, hS, hn, k⟩ := h
  have hu := hu_of hr
  refine ⟨_, (pss_cons (ps_set (i := 1) sc_law.nd rfl (Or.inl rfl) (pe_c D_law_program (hr.mono (by omega)) (pa_cons (pe_slst (by decide) (pv 0) (po_some pe_int) (po_some pe_int)) pa_nil)))
    (pss_cons (ps_set (i := 2) sc_law.nd rfl (Or.inl rfl) (pe_c D_law_row (hr.mono (by omega)) (pa_cons (pv 1) (pa_cons (pe_slst (by decide) (pv 0) (po_some pe_int) (po_some pe_int)) pa_nil))))
    (pss_cons (ps_set (i := 3) sc_law.nd rfl (Or.inl rfl) (pe_c D_law_new (hr.mono (by omega)) (pa_cons (pv 1) pa_nil)))
    (pss_cons (ps_set (i := 4) sc_law.nd rfl (Or.inl rfl) (pe_make T.mkRun G_init (hr.mono (by omega)) rfl T.g_Run b_init .nil pass0 (pa_cons (pv 1) pa_nil)))
    (pss_cons (ps_for PassesOwn.never rfl (pi_list (pv 2)) (pg_name (i := 5) sc_law.nd rfl (Or.inl rfl)) (pss_cons (ps_if (pt_not (pt_val (pe_c D_law_alike (hr.mono (by omega)) (pa_cons (pe_m D_take T.cl T.m_take (hr.mono (by omega)) (pv 4) (pa_cons (pv 5) pa_nil)) (pa_cons (pe_c D_law_takes (hr.mono (by omega)) (pa_cons (pv 3) (pa_cons (pv 5) pa_nil))) pa_nil))))) (pss_one (ps_ret pe_bl)) pss_nil)
    (pss_one (ps_if (PW.pt (pw_or (pt_not (pt_val (pe_c D_law_alike (hr.mono (by omega)) (pa_cons (pe_m0 D_waits T.cl T.m_waits (hr.mono (by omega)) (pv 4)) (pa_cons (pe_c D_law_waits (hr.mono (by omega)) (pa_cons (pv 3) pa_nil)) pa_nil))))) (pw_or1 (pt_not (pt_val (pe_c D_law_alike (hr.mono (by omega)) (pa_cons (pe_m0 D_open_tickets T.cl T.m_open_tickets (hr.mono (by omega)) (pv 4)) (pa_cons (pe_dget hu (pv 3) pe_str (fun _ _ => rfl)) pa_nil)))))))) (pss_one (ps_ret pe_bl)) pss_nil))))
    (pss_one (ps_ret (pe_c D_law_alike (hr.mono (by omega)) (pa_cons (pe_m0 D_waits T.cl T.m_waits (hr.mono (by omega)) (pv 4)) (pa_cons (pe_c D_law_waits (hr.mono (by omega)) (pa_cons (pv 3) pa_nil)) pa_nil)))))))))), ?_⟩
  refine ⟨_, rfl, _, rfl, _, rfl, a, _, rfl, hS, fun c1 ys1 hc1 hl1 hm1 => ?_⟩
  obtain ⟨ms1, rfl, hml1⟩ := all_ints hm1
  have hnl : (ns.map V.int).length = ns.length := List.length_map ..
  have z1 := same_new hc1 (.lst (ms1.map V.int))
  refine ⟨c1, ms1, rfl, upd_same, by omega, fun H1 p blk s1 hp hok hd hsz => ?_⟩
  have s01 := z1.trans s1
  have hS1 : SqL K H1 a (ns.map V.int) := SqL.grow hS s01
  refine ⟨_, rfl, _, rfl, _, rfl, _, rfl, a, _, rfl, hS1, fun c2 ys2 hc2 hl2 hm2 => ?_⟩
  obtain ⟨ms2, rfl, hml2⟩ := all_ints hm2
  have z2 := same_new hc2 (.lst (ms2.map V.int))
  refine ⟨p, c2, blk, ms2, rfl, hp.mono (TupS.of_same z2), hok, hd, hsz, upd_same, by omega, fun H2 row as hs s2 hrow hpr hho hhl => ?_⟩
  have hp2 := hp.mono (TupS.of_same (z2.trans s2))
  refine ⟨_, rfl, p, blk, rfl, hp2, hd, by omega, hok, fun U1 H3 m e3 M3 => ?_⟩
  have s3 : Same H2 H3 := fun b o q => e3.out b o q rfl
  refine ⟨_, rfl, fun x dx hx hdx hne => ?_⟩
  have sx : Same H3 (upd (upd H3 dx (.own x)) x (.ins (CR K) dx [])) := (same_new hdx _).trans (same_new (by rw [upd_ne hne.symm]; exact hx) _)
  have hp3 := hp2.mono (TupS.of_same (s3.trans sx))
  refine ⟨x, dx, p, blk, rfl, upd_same, hp3, hd, hok, fun U2 H5 e5 R5 => ⟨rfl, ?_⟩⟩
  -- from H3 to H5
  have ex : Evo noT H3 (setT noT x .box) (upd (upd H3 dx (.own x)) x (.ins (CR K) dx [])) := Evo.newS hx sx upd_same
  have e35 := ex.trans e5
  have s35 : Same H3 H5 := fun b o q => e35.out b o q rfl
  have k1 : Trk U1 H3 := e3.trk fun b hb => absurd rfl hb
  have k2 : Trk U2 H5 := e35.trk fun b hb => absurd rfl hb
  have k1' : Trk U1 H5 := fun b hb z => k1 b hb (s35.free z)
  have sep : ∀ b, U1 b ≠ .non → U2 b = .non := fun b hb => Classical.byContradiction fun z => by
    rcases e35.tag b z with q | q
    · exact q rfl
    · exact k1 b hb q.1
  have hrow5 : H5 row = some (.lst (as.map V.ref)) := s35 _ _ (s3 _ _ hrow)
  have r1 : U1 row = .non := Classical.byContradiction fun z => by
    rcases e3.tag row z with q | q
    · exact q rfl
    · rw [hrow] at q
      cases q.1
  have r2 : U2 row = .non := Classical.byContradiction fun z => by
    rcases e35.tag row z with q | q
    · exact q rfl
    · have q1 := q.1
      rw [s3 _ _ hrow] at q1
      cases q1
  refine ⟨_, rfl, row, rfl, ⟨_, SqL.of hrow5⟩, for_list (K := K) (a := row) (xs := as.map V.ref) (fun i σ H' => ∃ (T1 T2 : Tg) (S : AS) (v5 : Option V), σ = [some (.ref a), some (.ref p), some (.ref row), some (.ref m), some (.ref x), v5] ∧ Trk T1 H' ∧ Trk T2 H' ∧ (∀ b, T1 b ≠ .non → T2 b = .non) ∧ T1 row = .non ∧ T2 row = .non ∧
      H' row = some (.lst (as.map V.ref)) ∧ Paired (HapH H') as hs ∧ MdR T1 H' m (302 * i) (flatOf blk 0) 5 S ∧ RnR K T2 H' x blk (302 * i) S ∧ S.awaited.length ≤ 302 * i ∧ Bnd (302 * i) S)
    ⟨U1, U2, fresh blk, none, rfl, k1', k2, sep, r1, r2, hrow5, Paired.mapP hpr fun _ _ q => q.mono (TupS.of_same (s3.trans s35)), M3.same s35, R5, Nat.zero_le _, Bnd.fresh hok⟩ (fun i σ H' _ ⟨_, _, _, _, _, _, _, _, _, _, hr, _⟩ => SqL.of hr) ?_ ?_⟩
  · rintro i v σ H6 hi ⟨T1, T2, S, v5, rfl, t1, t2, sp, q1, q2, hr6, hp6, M6, R6, hw6, hB6⟩
    rw [List.getElem?_map] at hi
    obtain ⟨hap, hhap, rfl⟩ := Option.map_eq_some_iff.mp hi
    obtain ⟨h, hh, hq⟩ := Paired.get_l hp6 hhap
    have ho : h.ok := hho h (List.mem_of_getElem? hh)
    have hil : i < 100 := by
      have := (List.getElem?_eq_some_iff.mp hh).1
      omega
    obtain ⟨cm1, cm2, cm3⟩ := take_cmd hB6 hw6 (by omega) h ho
    have hB7 := (hB6.take (by omega) ho).mono (show 302 * i + 301 ≤ 302 * (i + 1) by omega)
    have R6' := R6
    obtain ⟨nn, cs0, ⟨ol0, ps0, i0, ⟨dx0, st0, pa0, nm0, op0, dn0, lt0, aw0, od0, g0, _⟩, _⟩, _⟩ := R6'
    refine ⟨_, rfl, x, dx0, _, rfl, g0.hm, rfl, _, rfl, ?_⟩
    refine ⟨T2, x, hap, blk, 302 * i, S, h, rfl, hq, ho, t2, R6, by omega, fun T3 H7 l e7 hl6 tl7 R7 O7 => ?_⟩
    -- the model at H7
    have out1 : ∀ b o, T1 b ≠ .non → H6 b = some o → H7 b = some o := fun b o hb q => e7.out b o q (sp b hb)
    have M7 := M6.frame e7.tup out1
    have t17 : Trk T1 H7 := fun b hb z => t1 b hb (e7.free b z)
    have t37 : Trk T3 H7 := e7.trk t2
    have sp7 : ∀ b, T1 b ≠ .non → T3 b = .non := fun b hb => Classical.byContradiction fun z => by
      rcases e7.tag b z with q | q
      · exact q (sp b hb)
      · exact t1 b hb q.1
    have hr7 := e7.out _ _ hr6 q2
    have q37 : T3 row = .non := Classical.byContradiction fun z => by
      rcases e7.tag row z with q | q
      · exact q q2
      · rw [hr6] at q
        cases q.1
    have l1 : T1 l = .non := Classical.byContradiction fun z => t1 l z hl6
    refine ⟨_, rfl, _, rfl, T1, m, hap, 302 * i, flatOf blk 0, S, h, rfl, hq.mono e7.tup, ho, M7, by omega, fun T4 H8 od e8 M8 O8 => ?_⟩
    have out3 : ∀ b o, T3 b ≠ .non → H7 b = some o → H8 b = some o := fun b o hb q => e8.out b o q (Classical.byContradiction fun z => hb (sp7 b z))
    have R8 := R7.frame e8.tup out3
    have t38 : Trk T3 H8 := fun b hb z => t37 b hb (e8.free b z)
    have t48 : Trk T4 H8 := e8.trk t17
    have sp8 : ∀ b, T4 b ≠ .non → T3 b = .non := fun b hb => Classical.byContradiction fun z => by
      rcases e8.tag b hb with q | q
      · exact z (sp7 b q)
      · exact t37 b z q.1
    have hr8 := e8.out _ _ hr7 q1
    have q48 : T4 row = .non := Classical.byContradiction fun z => by
      rcases e8.tag row z with q | q
      · exact q q1
      · rw [hr7] at q
        cases q.1
    have O8l : OrdH H8 l (S.take h).2 := O7.frame e8.tup fun o q => e8.out _ _ q l1
    have eb : 302 * (i + 1) = 302 * i + 302 := by omega
    refine ⟨_, _, 2, rfl, rfl, al_ords O8l O8 cm1 (by omega), fun H9 s9 => ⟨_, rfl, iteF ?_⟩⟩
    -- what they wait for
    have R9 := R8.same s9
    have M9 := M8.same s9
    have R9' := R9
    obtain ⟨nn, cs0, ⟨ol0, ps0, i0, ⟨dx0, st0, pa0, nm0, op0, dn0, lt0, aw0, od0, g0, _⟩, _⟩, _⟩ := R9'
    refine ⟨_, rfl, x, dx0, _, rfl, g0.hm, rfl, ?_⟩
    refine ⟨T3, x, blk, _, (S.take h).1, rfl, R9, fun H10 w1 s10 W1 => ?_⟩
    refine ⟨_, rfl, T4, m, _, flatOf blk 0, (S.take h).1, rfl, M9.same s10, fun H11 w2 s11 W2 => ?_⟩
    have W1' := W1.same s11
    refine ⟨_, _, 2, rfl, rfl, al_waits W1' W2 (by omega), fun H12 s12 => ⟨_, rfl, iteF ?_⟩⟩
    have s912 := s10.trans (s11.trans s12)
    refine ⟨_, rfl, x, dx0, _, rfl, s912 _ _ g0.hm, rfl, ?_⟩
    refine ⟨T3, x, blk, _, (S.take h).1, rfl, R9.same s912, fun H13 lo s13 ho13 => ?_⟩
    have M13 := M9.same (s912.trans s13)
    have M13' := M13
    obtain ⟨c', nm', op', dn', lt', aw', i', g', gB, _⟩ := M13'
    have gop := gB.op
    refine ⟨_, rfl, m, _, rfl, dget_s g'.hm rfl, ?_⟩
    refine ⟨_, _, 2, rfl, rfl, al_ints ho13 g'.co.ho (by omega), fun H14 s14 => ⟨_, rfl, iteF ?_⟩⟩
    have s914 := s912.trans (s13.trans s14)
    have s814 := s9.trans s914
    have tt : TupS H6 H14 := e7.tup.trans (e8.tup.trans (TupS.of_same s814))
    refine ⟨T4, T3, (S.take h).1, _, rfl, fun b hb z => t48 b hb (s814.free z), fun b hb z => t38 b hb (s814.free z), fun b hb => sp8 b hb, q48, q37, s814 _ _ hr8, Paired.mapP hp6 fun _ _ q => q.mono tt, ?_, ?_, by omega, hB7⟩
    · rw [eb]
      exact M9.same s914
    · rw [eb]
      exact R9.same s914
  · rintro σ H6 ⟨T1, T2, S, v5, rfl, t1, t2, sp, q1, q2, hr6, hp6, M6, R6, hw6, hB6⟩
    have R6' := R6
    obtain ⟨nn, cs0, ⟨ol0, ps0, i0, ⟨dx0, st0, pa0, nm0, op0, dn0, lt0, aw0, od0, g0, _⟩, _⟩, _⟩ := R6'
    rw [List.length_map, Paired.len hpr] at hw6
    refine ⟨_, rfl, x, dx0, _, rfl, g0.hm, rfl, ?_⟩
    refine ⟨T2, x, blk, _, S, rfl, R6, fun H10 w1 s10 W1 => ?_⟩
    refine ⟨_, rfl, T1, m, _, flatOf blk 0, S, rfl, M6.same s10, fun H11 w2 s11 W2 => ?_⟩
    exact ⟨_, _, 2, rfl, rfl, al_waits (W1.same s11) W2 (by omega), fun H12 s12 => k H12⟩
end
end L2.K17

set_option maxHeartbeats 4000000
/-! the head -/
namespace L2.K17
open PySem PySem.Spec PyProof.Rows L2
theorem facts {P : Program} {w : World} {K : PySem.W.Frag} {h : Heap} {mg : Str → Option Value} {f : Addr} (X : K.In h) (G : h.Ns mainGlobals mg) (hfa : mg ("law" : Str) = some (.ref f)) (c : He.SaysD fa fn K) :
    ∃ fd : FuncData, (∀ (s : Shared) (v : Value), BindsTo s fd ⟨[v], []⟩ [("script", v)]) ∧ ∀ base : Heap, K.In base → base.Ns mainGlobals mg → FnOk P w K mg base CX0 13 f fd ["script"] (spLaw K) := by
  have T : Tx K mg := ⟨⟨h, X, G⟩, c⟩
  obtain ⟨fd, F0⟩ := c.def_ 32 (d := d_law) rfl
  have F : Fun K "law" "law" s_law (He.ga K "law") fd := funD_fun F0
  have e := hfa.symm.trans (T.glo 32 (x := "law") rfl)
  cases e
  have b := FunD.bindsA (ps := ["script"]) F0 fun _ _ _ _ _ _ us hl => match us, hl with | [_], _ => rfl
  exact ⟨fd, fun s v => b s [v] rfl, fun base _ _ => ok_law T F⟩
end L2.K17
open PySem PySem.W PySem.Calls PyProof.Rows
theorem PySem.Challenge.cw_outlast_k17_whole_any_program_holds : PySem.Challenge.rw_outlast_k17_whole_any_program.Holds := by
  w_on; o_law
  refine HandSHeadRun.head_any (r := OpenLaw.row PySem.Challenge.rw_outlast_k17_whole_any_program) (q := view (OpenLaw.row PySem.Challenge.rw_outlast_k17_whole_any_program).prog [41]) (H := L2.K17.hk) (ob := L2.K17.ob) (M := 6000) (loose := L2.K17.loose) (d := HandSHeadRun.topDef (OpenLaw.row PySem.Challenge.rw_outlast_k17_whole_any_program).prog 41) (kwd := []) L2.K17.ob_eq
    (by kernel_rfl) (fun s => by kernel_rfl) L2.K17.run (by kernel_rfl) (by kernel_rfl) (by kernel_rfl) (by rfl) (by first | assumption | decide +kernel) (by decide +kernel) ⟨rfl, rfl, rfl, rfl, rfl, by decide +kernel⟩ ?hw ?hc
  case hw => w_witness2
  case hc =>
    refine L2.walk_ofE (l := PySem.Challenge.rw_outlast_k17_whole_any_program) (n := 63) (k := 13) (x := "script") (CX := L2.CX0) rfl (by decide) (by kernel_rfl) ⟨rfl, by decide, by decide⟩ ?F (fun _ _ _ _ z => z)
    intro w mg fa h Y G hmg0
    obtain ⟨K, KX, c⟩ := Y
    have hmg : mg ("law" : PySem.Str) = some (.ref fa) := by
      have e : (HandSHeadRun.topDef (OpenLaw.row PySem.Challenge.rw_outlast_k17_whole_any_program).prog 41).name = ("law" : PySem.Str) := by kernel_rfl
      rw [← e]
      exact hmg0
    obtain ⟨fd, hb, hF⟩ := L2.K17.facts (P := (PySem.Challenge.rw_outlast_k17_whole_any_program).prog) (w := w) KX G hmg c
    exact ⟨K, fd, L2.K17.spLaw K, KX, hb, fun H a ns hl _ hS => ⟨a, ns, rfl, hS, hl, fun _ => rfl⟩, hF⟩
