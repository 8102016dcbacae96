import PyProof.Rows.All
import Wide.All
import OpenK.AllK
import Wide.FinOn
import HandS.ForMost
import HandS.Defaults
import HandS.IsInst
import HandS.Flow
import HandS.Style
import HandS.TupAny
import HandS.Zip
import HandS.SetKeys
import HandS.Star
import HandS.Codes
import HandS.Property
import HandS.MakeKw
import HandS.MakeKwOnly
import HandS.Conv
import HandS.Walk
import HandS.Evl
import HandS.HeadHook1
import HandS.HeadHook2
import HandS.HeadHook3
import PySem.Challenge.RW_sentonward_k06_whole_rules_fit
import HandS.OwnEq
import HandS.More
import KE.KxText
import KE.KStateDown
import HandS.Head0
import HandS.Head1
import HandS.Head2
import HandS.HeadEnd
set_option Elab.async false
set_option linter.all false
set_option maxRecDepth 100000
set_option maxHeartbeats 0
namespace Sw
open PySem L2
def top (i : Nat) : Stmt := PySem.Challenge.pw_sentonward_k06_whole_rules_fit.main.body.getD i (.Pass ⟨0, 0, 0, 0⟩)
theorem boot_list' : bootBuiltins "list" = some (.type "list") := by decide +kernel
structure Txt (K : PySem.W.Frag) (mg : Str → Option Value) : Prop where
  b_isinstance : mg "isinstance" = none
  b_len : mg "len" = none
  b_all : mg "all" = none
  b_str : mg "str" = none
  b_int : mg "int" = none
  b_bool : mg "bool" = none
  b_list : mg "list" = none
  b_tuple : mg "tuple" = none
  b_range : mg "range" = none
  b_zip : mg "zip" = none
  g_LETTERS : ∃ u, mg "LETTERS" = some u ∧ RelV (.str "abcdefghijklmnopqrstuvwxyz") u
  g_LONGEST_WORD : ∃ u, mg "LONGEST_WORD" = some u ∧ RelV (.int 8) u
  b_enumerate : mg "enumerate" = none
  b_repr : mg "repr" = none
  b_min : mg "min" = none
  c_Address : Cls K (He.ga K "Address")
  g_Address : ∃ u, mg "Address" = some u ∧ RelV (.ref (He.ga K "Address")) u
  i_Address : C8.InsC K (He.ga K "Address")
  n_Address_state : NoAttr K (He.ga K "Address") "own_state"
  n_Address_path : NoAttr K (He.ga K "Address") "own_path"
  n_Address_order : NoAttr K (He.ga K "Address") "own_order"
  c_Rule : Cls K (He.ga K "Rule")
  n_Rule_state : NoAttr K (He.ga K "Rule") "own_state"
  n_Rule_pattern : NoAttr K (He.ga K "Rule") "own_pattern"
  n_Rule_goal : NoAttr K (He.ga K "Rule") "own_goal"
  n_Rule_exact : NoAttr K (He.ga K "Rule") "own_exact"
  k_Rule_MOST_PATTERN : ∃ u, Con K (He.ga K "Rule") "MOST_PATTERN" (.int 2) u
  k_Rule_MOST_BEGINNING : ∃ u, Con K (He.ga K "Rule") "MOST_BEGINNING" (.int 4) u
  k_Rule_HOLES : ∃ u, Con K (He.ga K "Rule") "HOLES" (.int 2) u
theorem boot_str : bootBuiltins "str" = some (.type "str") := by decide +kernel
theorem boot_int : bootBuiltins "int" = some (.type "int") := by decide +kernel
theorem boot_bool : bootBuiltins "bool" = some (.type "bool") := by decide +kernel
theorem boot_list : bootBuiltins "list" = some (.type "list") := by decide +kernel
theorem boot_tuple : bootBuiltins "tuple" = some (.type "tuple") := by decide +kernel

end Sw
namespace Sw
open PySem L2 Evl
/-! the layer's rules with the written part told by a letter -/
section
variable {X : Cx} {K : PySem.W.Frag}
theorem call_isiK' (hK : X.K = K) : CallR X (.builtin "isinstance") (rIsi K) := by subst hK; exact call_isi
theorem call_isiTK (hK : X.K = K) : CallR X (.builtin "isinstance") (rIsiT K) := by subst hK; exact call_isiT
theorem cr_allK (hK : X.K = K) (hc : X.calm = true) : CallR X (.builtin "all") (rAll K) := by subst hK; exact cr_all hc
theorem cr_anyK (hK : X.K = K) (hc : X.calm = true) : CallR X (.builtin "any") (rAny K) := by subst hK; exact cr_any hc
def rLenQ (K : PySem.W.Frag) : List V → Hp → VK → Prop := fun xs H Q => ∃ p ys, xs = [.ref p] ∧ (SqL K H p ys ∨ SqT K H p ys) ∧ Q (.int ys.length) H
theorem call_len_seqK (hK : X.K = K) : CallR X (.builtin "len") (rLenQ K) := by subst hK; exact call_len_seq
def rLenZ : List V → Hp → VK → Prop := fun xs H Q => ∃ z, xs = [.str z] ∧ z.length ≤ sizeLine ∧ Q (.int z.length) H
theorem call_len_strK : CallR X (.builtin "len") rLenZ := call_len_str
def rListQ (K : PySem.W.Frag) : List V → Hp → VK → Prop := fun xs H Q => ∃ p ys, xs = [.ref p] ∧ (SqL K H p ys ∨ SqT K H p ys) ∧ ∀ l, H l = none → Q (.ref l) (upd H l (.lst ys))
theorem call_list_ofK (hK : X.K = K) : CallR X (.type "list") (rListQ K) := by subst hK; exact call_list_of
def rTupleQ (K : PySem.W.Frag) : List V → Hp → VK → Prop := fun xs H Q => ∃ p ys, xs = [.ref p] ∧ ((SqL K H p ys ∧ ∀ l, H l = none → Q (.ref l) (upd H l (.tup ys))) ∨ (SqT K H p ys ∧ Q (.ref p) H))
theorem call_tuple_ofK (hK : X.K = K) : CallR X (.type "tuple") (rTupleQ K) := by subst hK; exact call_tuple_of
theorem ix_listK (hK : X.K = K) : IxR X (rIxL K) := by subst hK; exact ix_list
theorem ix_tupK (hK : X.K = K) : IxR X (rIxT K) := by subst hK; exact ix_tup
theorem ix_seqK (hK : X.K = K) : IxR X (rIx K) := by subst hK; exact ix_seq
theorem sl_listK (hK : X.K = K) : SlR X (rSlL K) := by subst hK; exact sl_list
theorem sl_tupK (hK : X.K = K) : SlR X (rSlA K) := by subst hK; exact sl_tupA
theorem op_in_seqK (hK : X.K = K) : OpR X (compareOp .In) (rIn K false) := by subst hK; exact op_in_seq
theorem op_notIn_seqK (hK : X.K = K) : OpR X (compareOp .NotIn) (rIn K true) := by subst hK; exact op_notIn_seq
theorem op_eqDK (hK : X.K = K) (hu : X.A.units + 64 < cLine) : OpR X (compareOp .Eq) (rEqD K) := by subst hK; exact op_eqD hu
theorem op_neDK (hK : X.K = K) (hu : X.A.units + 64 < cLine) : OpR X (compareOp .NotEq) (rNeD K) := by subst hK; exact op_neD hu
theorem op_catK (hK : X.K = K) : OpR X (binaryOp .Add) (rCatA K) := by subst hK; exact op_catA
theorem pi_listK (hK : X.K = K) {tg e : Expr} {te : TE} (he : PE X e te) : PI X tg e (iList K te) := by subst hK; exact pi_list he
theorem pi_tupK (hK : X.K = K) {tg e : Expr} {te : TE} (he : PE X e te) : PI X tg e (iTup K te) := by subst hK; exact pi_tup he
theorem pi_zipK (hK : X.K = K) {e e2 : Expr} {ta : TA} {p pos tpos : Pos} {elts : List Expr} {kk : Nat} (h : PI X (.Tuple elts kk tpos) (.Call (.Name "zip" p) [e, e2] [] pos) (RZ.iZipA X.K ta)) : PI X (.Tuple elts kk tpos) (.Call (.Name "zip" p) [e, e2] [] pos) (RZ.iZipA K ta) := by subst hK; exact h
theorem pe_fldK (hK : X.K = K) {e : Expr} {f : Str} {pos : Pos} {ta : TE} (he : PE X e ta) (hb : attributeBase e f X.env (eval e X.env) = eval e X.env) : PE X (.Attribute e f pos) (tFld K ta f) := by subst hK; exact pe_fld he hb
theorem pe_conK (hK : X.K = K) {e : Expr} {f : Str} {pos : Pos} {ta : TE} (he : PE X e ta) (hb : attributeBase e f X.env (eval e X.env) = eval e X.env) : PE X (.Attribute e f pos) (tCon K ta f) := by subst hK; exact pe_con he hb
theorem pg_tupK (hK : X.K = K) {es : List Expr} {k : Nat} {t : TGs} {n : Nat} {pos : Pos} (hc : X.calm = true) (h : PGs X es t)
    (hn : (assignEach es X.env).length = n := by rfl) (hst : (assignEach es X.env).findIdx? (·.1) = none := by rfl) : PG X (.Tuple es k pos) (gTup K n t) := by subst hK; exact pg_tup hc h hn hst
theorem ps_fldK (hK : X.K = K) {o value : Expr} {f : Str} {pos pos' : Pos} {ta tv : TE} (ha : PE X o ta) (hv : PE X value tv) (hs : swapsWith value (some (.Attribute o f pos')) pos.line X.env = pure false) : PS X (.Assign [.Attribute o f pos'] value pos) (sFld K ta tv f) := by subst hK; exact ps_fld ha hv hs
def tTru (K : PySem.W.Frag) (ta : TE) : TT := fun σ H Q => ta σ H fun x H' => ∃ k, TruV K x H' k ∧ Q k H'
theorem pt_truthK (hK : X.K = K) {a : Expr} {ta : TE} (ha : PE X a ta) (he : ∀ whole, isTrue a X.env whole = (do let v ← whole; standAt a.pos; holding [v] (truthy v))) : PT X a (tTru K ta) := by subst hK; exact pt_truth ha he
end
/-! heaps: all that was stands (Ex); the tuples stand (Et) -/
def Et (H H' : Hp) : Prop := ∀ a xs, H a = some (.tup xs) → H' a = some (.tup xs)
theorem Et.refl (H : Hp) : Et H H := fun _ _ h => h
theorem Et.trans {H H1 H2 : Hp} (a : Et H H1) (b : Et H1 H2) : Et H H2 := fun x o h => b x o (a x o h)
theorem Et.of {H H' : Hp} (e : Ex H H') : Et H H' := fun a xs h => e a _ h
/-- a store to an object that is no tuple -/
theorem Et.upd {H H' : Hp} {p : Addr} {o u : HO} (e : Et H H') (h : H' p = some u) (hu : ∀ xs, u ≠ .tup xs) : Et H (upd H' p o) := fun a xs ha => by
  have h2 := e a xs ha
  by_cases hx : a = p
  · subst hx
    rw [h] at h2
    exact absurd (Option.some.inj h2) (hu xs)
  · rw [upd_ne hx]
    exact h2
theorem Et.lst {H H' : Hp} {p : Addr} {o : HO} {ys : List V} (e : Et H H') (h : H' p = some (.lst ys)) : Et H (L2.upd H' p o) := e.upd h fun _ q => nomatch q
theorem Et.new {H H' : Hp} {p : Addr} {o : HO} (e : Et H H') (h : H' p = none) : Et H (L2.upd H' p o) := e.trans (Et.of (Ex.new h))
theorem Ex.upd2 {H H' : Hp} {p : Addr} {o : HO} (e : Ex H H') (h : H' p = none) : Ex H (L2.upd H' p o) := e.trans (Ex.new h)
theorem et_t {K : PySem.W.Frag} {H H' : Hp} {a : Addr} {xs : List V} (e : Ex H H') (h : SqT K H a xs) : SqT K H' a xs := ex_t e h
/-! data that never changes: None, truths, ints, texts, tuples of these -/
/-- a tuple that is tracked -/
def TupAt (K : PySem.W.Frag) (H : Hp) (a : Addr) (xs : List V) : Prop := H a = some (.tup xs)
theorem TupAt.sq {K : PySem.W.Frag} {H : Hp} {a : Addr} {xs : List V} (h : TupAt K H a xs) : SqT K H a xs := st_of h
theorem TupAt.mono {K : PySem.W.Frag} {H H' : Hp} {a : Addr} {xs : List V} (e : Et H H') (h : TupAt K H a xs) : TupAt K H' a xs := e _ _ h
mutual
inductive Im (K : PySem.W.Frag) (H : Hp) : V → PyData → Prop
  | non : Im K H .non .none
  | bl (b : Bool) : Im K H (.bl b) (.bool b)
  | int (i : Int) : Im K H (.int i) (.int i)
  | str (x : Str) : Im K H (.str x) (.str x)
  | tup {a : Addr} {xs : List V} {ds : List PyData} : TupAt K H a xs → ImAll K H xs ds → Im K H (.ref a) (.tuple ds)
inductive ImAll (K : PySem.W.Frag) (H : Hp) : List V → List PyData → Prop
  | nil : ImAll K H [] []
  | cons {v : V} {vs : List V} {d : PyData} {ds : List PyData} : Im K H v d → ImAll K H vs ds → ImAll K H (v :: vs) (d :: ds)
end
mutual
theorem Im.mono {K : PySem.W.Frag} {H H' : Hp} (e : Et H H') : ∀ {v : V} {d : PyData}, Im K H v d → Im K H' v d
  | _, _, .non => .non
  | _, _, .bl b => .bl b
  | _, _, .int i => .int i
  | _, _, .str x => .str x
  | _, _, .tup s a => .tup (s.mono e) (ImAll.mono e a)
theorem ImAll.mono {K : PySem.W.Frag} {H H' : Hp} (e : Et H H') : ∀ {vs : List V} {ds : List PyData}, ImAll K H vs ds → ImAll K H' vs ds
  | _, _, .nil => .nil
  | _, _, .cons a r => .cons (Im.mono e a) (ImAll.mono e r)
end
mutual
theorem Im.dp {K : PySem.W.Frag} {H : Hp} : ∀ {v : V} {d : PyData}, Im K H v d → Dp K H v d
  | _, _, .non => .non
  | _, _, .bl b => .bl b
  | _, _, .int i => .int i
  | _, _, .str x => .str x
  | _, _, .tup s a => .tup s.sq (ImAll.dp a)
theorem ImAll.dp {K : PySem.W.Frag} {H : Hp} : ∀ {vs : List V} {ds : List PyData}, ImAll K H vs ds → DpAll K H vs ds
  | _, _, .nil => .nil
  | _, _, .cons a r => .cons (Im.dp a) (ImAll.dp r)
end
theorem ImAll.length {K : PySem.W.Frag} {H : Hp} : ∀ {vs : List V} {ds : List PyData}, ImAll K H vs ds → vs.length = ds.length
  | _, _, .nil => rfl
  | _, _, .cons _ r => congrArg (· + 1) (ImAll.length r)
theorem ImAll.app {K : PySem.W.Frag} {H : Hp} {us : List V} {es : List PyData} (h : ImAll K H us es) : ∀ {vs : List V} {ds : List PyData}, ImAll K H vs ds → ImAll K H (vs ++ us) (ds ++ es)
  | _, _, .nil => h
  | _, _, .cons a r => .cons a (ImAll.app h r)
theorem ImAll.snoc {K : PySem.W.Frag} {H : Hp} {v : V} {d : PyData} {vs : List V} {ds : List PyData} (r : ImAll K H vs ds) (h : Im K H v d) : ImAll K H (vs ++ [v]) (ds ++ [d]) := ImAll.app (.cons h .nil) r
theorem ImAll.get {K : PySem.W.Frag} {H : Hp} : ∀ {vs : List V} {ds : List PyData} {i : Nat} {v : V}, ImAll K H vs ds → vs[i]? = some v → ∃ d, ds[i]? = some d ∧ Im K H v d
  | _, _, 0, _, .cons a _, h => by cases h; exact ⟨_, rfl, a⟩
  | _, _, i + 1, _, .cons _ r, h => ImAll.get (i := i) r h
theorem ImAll.at_ {K : PySem.W.Frag} {H : Hp} : ∀ {vs : List V} {ds : List PyData} {i : Nat} {d : PyData}, ImAll K H vs ds → ds[i]? = some d → ∃ v, vs[i]? = some v ∧ Im K H v d
  | _, _, 0, _, .cons a _, h => by cases h; exact ⟨_, rfl, a⟩
  | _, _, i + 1, _, .cons _ r, h => ImAll.at_ (i := i) r h
theorem ImAll.take {K : PySem.W.Frag} {H : Hp} : ∀ {vs : List V} {ds : List PyData} (n : Nat), ImAll K H vs ds → ImAll K H (vs.take n) (ds.take n)
  | _, _, 0, _ => .nil
  | _, _, _ + 1, .nil => .nil
  | _, _, n + 1, .cons a r => .cons a (ImAll.take n r)
theorem ImAll.drop {K : PySem.W.Frag} {H : Hp} : ∀ {vs : List V} {ds : List PyData} (n : Nat), ImAll K H vs ds → ImAll K H (vs.drop n) (ds.drop n)
  | _, _, 0, h => h
  | _, _, _ + 1, .nil => .nil
  | _, _, n + 1, .cons _ r => ImAll.drop n r
theorem ImAll.strs {K : PySem.W.Frag} {H : Hp} : ∀ (zs : List Str), ImAll K H (zs.map V.str) (zs.map PyData.str)
  | [] => .nil
  | z :: zs => .cons (.str z) (ImAll.strs zs)
theorem ImAll.of_strs {K : PySem.W.Frag} {H : Hp} : ∀ {vs : List V} {zs : List Str}, ImAll K H vs (zs.map PyData.str) → vs = zs.map V.str
  | _, [], .nil => rfl
  | _, z :: zs, .cons a r => by cases a; rw [ImAll.of_strs r] <;> rfl
/-- data out of a reading, the heap grown -/
def Iv (K : PySem.W.Frag) (te : TE) (σ : L2.St) (H : Hp) (d : PyData) : Prop := ∀ H1, Ex H H1 → ∀ Q : VK, (∀ v H2, Ex H1 H2 → Im K H2 v d → Q v H2) → te σ H1 Q
def IvA (K : PySem.W.Frag) (ta : TA) (σ : L2.St) (H : Hp) (ds : List PyData) : Prop := ∀ H1, Ex H H1 → ∀ Q : List V → Hp → Prop, (∀ vs H2, Ex H1 H2 → ImAll K H2 vs ds → Q vs H2) → ta σ H1 Q
/-- a new list of data -/
def IvL (K : PySem.W.Frag) (te : TE) (σ : L2.St) (H : Hp) (ds : List PyData) : Prop := ∀ H1, Ex H H1 → ∀ Q : VK, (∀ p vs H2, H1 p = none → Ex H1 H2 → H2 p = some (.lst vs) → ImAll K H2 vs ds → Q (.ref p) H2) → te σ H1 Q
/-- a def's promise at data -/
def SpI (K : PySem.W.Frag) (sp : Sp) (ds : List PyData) (d : PyData) : Prop := ∀ vs H, ImAll K H vs ds → ∀ Q : VK, (∀ v H2, Ex H H2 → Im K H2 v d → Q v H2) → ∀ E : XK, sp vs H Q E
section
variable {K : PySem.W.Frag} {σ : L2.St} {H H' : Hp} {ta tb te tx : TE} {t u : TT} {x y z v : V} {r : R2} {d e : PyData}
theorem Iv.mono (x : Ex H H') (h : Iv K te σ H d) : Iv K te σ H' d := fun H1 a Q q => h H1 (x.trans a) Q q
theorem iv_ev (h : Ev te σ H v) (hd : Im K H v d) : Iv K te σ H d := fun H1 a Q q => h H1 a Q fun H2 b => q v H2 b (Im.mono (Et.of (a.trans b)) hd)
theorem iv_var {i : Nat} (h : σ[i]? = some (some v)) (hd : Im K H v d) : Iv K (tVar i) σ H d := iv_ev (ev_var h) hd
theorem iva_nil : IvA K tNil σ H [] := fun H1 _ _ q => q [] H1 (Ex.refl H1) .nil
theorem iva_cons {tr : TA} {ds : List PyData} (h : Iv K ta σ H d) (hr : IvA K tr σ H ds) : IvA K (tCons ta tr) σ H (d :: ds) := fun H1 a Q q =>
  h H1 a _ fun v H2 b hv => hr H2 (a.trans b) _ fun vs H3 c hvs => q (v :: vs) H3 (b.trans c) (.cons (Im.mono (Et.of c) hv) hvs)
theorem iv_tup {ta : TA} {ds : List PyData} (h : IvA K ta σ H ds) (hl : ds.length ≤ 100000) : Iv K (tTup ta) σ H (.tuple ds) := fun H1 a Q q =>
  h H1 a _ fun vs H2 b hvs => ⟨sz_of (by rw [hvs.length]; exact hl), fun p hp => q (.ref p) _ (b.trans (Ex.new hp)) (.tup upd_same (ImAll.mono (Et.of (Ex.new hp)) hvs))⟩
theorem ivl_lst {ta : TA} {ds : List PyData} (h : IvA K ta σ H ds) (hl : ds.length ≤ 100000) : IvL K (tLst ta) σ H ds := fun H1 a Q q =>
  h H1 a _ fun vs H2 b hvs => ⟨sz_of (by rw [hvs.length]; exact hl), fun p hp => q p vs _ (fresh_back b hp) (b.trans (Ex.new hp)) upd_same (ImAll.mono (Et.of (Ex.new hp)) hvs)⟩
theorem iv_call {sp : Sp} {ta : TA} {E : XK} {ds : List PyData} (h : IvA K ta σ H ds) (hs : SpI K sp ds d) : Iv K (tCall sp [] E ta) σ H d := fun H1 a Q q =>
  h H1 a _ fun vs H2 b hvs => by
    show sp (vs ++ []) H2 Q E
    rw [List.append_nil]
    exact hs vs H2 hvs Q (fun v H3 c hv => q v H3 (b.trans c) hv) E
theorem iv_ev' {b : Bool} (h : Iv K te σ H (.bool b)) : Ev te σ H (.bl b) := fun H1 a Q q => h H1 a _ fun v H2 c hv => by
  cases hv
  exact q H2 c
theorem iv_str' {z : Str} (h : Iv K te σ H (.str z)) : Ev te σ H (.str z) := fun H1 a Q q => h H1 a _ fun v H2 c hv => by
  cases hv
  exact q H2 c
theorem iv_bl {b : Bool} (h : Iv K te σ H (.bool b)) : EvT (tB te) σ H b := et_B (iv_ev' h)
theorem iv_test {b : Bool} (h : Iv K te σ H (.bool b)) : EvT (tTest te) σ H b := et_test (iv_ev' h)
theorem ivl_all {bs : List Bool} (h : IvL K te σ H (bs.map PyData.bool)) : Ev (tCB (rAll K) (tCons te tNil)) σ H (.bl (bs.all id)) := fun H1 a Q q =>
  h H1 a _ fun p vs H2 hp b hl hvs => by
    have e : vs = bs.map V.bl := by
      have gen : ∀ {vs : List V} {bs : List Bool}, ImAll K H2 vs (bs.map PyData.bool) → vs = bs.map V.bl := by
        intro vs bs
        induction bs generalizing vs with
        | nil => intro h; cases h; rfl
        | cons c cs ih =>
          intro h
          cases h with
          | cons h1 h2 => cases h1; rw [ih h2] <;> rfl
      exact gen hvs
    subst e
    exact ⟨p, bs, rfl, sq_of hl, q H2 b⟩
theorem s_retI {D : Ends} (h : Iv K te σ H d) (k : ∀ v H1, Ex H H1 → Im K H1 v d → D.rt v H1) : tRet te D σ H := h H (Ex.refl H) _ fun v H1 a hv => k v H1 a hv
end
/-! comprehensions at data -/
def givenD (n : Nat) (b : Nat → Bool) (f : Nat → PyData) : List PyData := ((List.range n).filter b).map f
theorem givenD_yes {n : Nat} {b : Nat → Bool} {f : Nat → PyData} (h : b n = true) : givenD (n + 1) b f = givenD n b f ++ [f n] := by
  unfold givenD
  rw [List.range_succ, List.filter_append, List.map_append, List.filter_cons, if_pos h] <;> rfl
theorem givenD_no {n : Nat} {b : Nat → Bool} {f : Nat → PyData} (h : b n = false) : givenD (n + 1) b f = givenD n b f := by
  unfold givenD
  rw [List.range_succ, List.filter_append, List.map_append, List.filter_cons, if_neg (by rw [h]; decide)]
  show _ ++ [] = _
  rw [List.append_nil]
theorem givenD_len (n : Nat) (b : Nat → Bool) (f : Nat → PyData) : (givenD n b f).length ≤ n := by
  unfold givenD
  rw [List.length_map]
  have h := List.length_filter_le b (List.range n)
  rw [List.length_range] at h
  exact h
theorem givenD_fm {α : Type} {xs : List α} {b : Nat → Bool} {f : Nat → PyData} {p : α → Bool} {g : α → PyData} (hb : ∀ i x, xs[i]? = some x → b i = p x) (h : ∀ i x, xs[i]? = some x → f i = g x) : givenD xs.length b f = (xs.filter p).map g := by
  have gen : ∀ n, n ≤ xs.length → givenD n b f = ((xs.take n).filter p).map g := by
    intro n
    induction n with
    | zero => intro _; rfl
    | succ n ih =>
      intro hn
      have hx : xs[n]? = some xs[n] := List.getElem?_eq_getElem (by omega)
      rw [List.take_succ, hx, List.filter_append, List.map_append]
      have q := hb n _ hx
      cases hp : b n with
      | true =>
        rw [hp] at q
        rw [givenD_yes hp, ih (by omega), h n _ hx]
        show _ = _ ++ List.map g (List.filter p [xs[n]])
        rw [List.filter_cons, if_pos q.symm] <;> rfl
      | false =>
        rw [hp] at q
        rw [givenD_no hp, ih (by omega)]
        show _ = _ ++ List.map g (List.filter p [xs[n]])
        rw [List.filter_cons, if_neg (by rw [← q]; decide)]
        show _ = _ ++ []
        rw [List.append_nil]
  rw [gen _ (Nat.le_refl _), List.take_length]
theorem givenD_map {α : Type} {xs : List α} {f : Nat → PyData} {g : α → PyData} (h : ∀ i x, xs[i]? = some x → f i = g x) : givenD xs.length (fun _ => true) f = xs.map g := by
  rw [givenD_fm (p := fun _ => true) (fun _ _ _ => rfl) h, List.filter_eq_self.mpr (fun _ _ => rfl)]
/-- the list of a comprehension whose turns change nothing -/
theorem lcI {K : PySem.W.Frag} {J : It} {n : Nat} {G : Hp → Prop} {Y : Nat → Hp → V → Hp → Prop} (wk : Walk J n G Y) {g : TG} {tt : TT} {te : TE} {vs : List Nat} {σ : L2.St} {H : Hp} {Q : VK} (b : Nat → Bool) (f : Nat → PyData) (hn : n ≤ 40000)
    (hG : ∀ H', Ex H H' → G H')
    (hs : ∀ i x H1 H2 (R : L2.St → Hp → Prop), i < n → Ex H H1 → Y i H1 x H2 → (∀ σ2 H3, Ex H1 H3 → wipe σ2 vs = wipe σ vs → EvT tt σ2 H3 (b i) → (b i = true → Iv K te σ2 H3 (f i)) → R σ2 H3) → g x (wipe σ vs) H2 R)
    (k : ∀ D acc H2, H D = none → Ex H H2 → H2 D = some (.lst acc) → ImAll K H2 acc (givenD n b f) → Q (.ref D) H2) :
    ∀ D, H D = none → ∃ W : Nat → Nat → Hp → Prop, (∃ m, W 0 m (L2.upd H D (.lst []))) ∧ ∀ i m H, W i m H →
      (J.stop i H ∧ Q (.ref D) H) ∨ (J.go i H ∧ ∃ Nx : Hp → Prop, (∀ H', Nx H' → ∃ m', m' < m ∧ W (i + 1) m' H') ∧ ∀ x H', J.yld i H x H' → g x (wipe σ vs) H' fun σ2 H2 => wipe σ2 vs = wipe σ vs ∧ tt σ2 H2 fun b H3 =>
        if b = true then te σ2 H3 fun y H4 => ∃ acc, H4 D = some (.lst acc) ∧ acc.length < sizeLine ∧ Nx (L2.upd H4 D (.lst (acc ++ [y]))) else Nx H3) := fun D hD => by
  refine lc_it wk (Qd := fun H => Q (.ref D) H) (fun i H' => Ex H H' ∧ ∃ acc, H' D = some (.lst acc) ∧ ImAll K H' acc (givenD i b f)) ⟨Ex.new hD, [], upd_same, .nil⟩ (fun i H' _ p => hG H' p.1) ?_ ?_
  · rintro i x H1 H2 hi ⟨e1, acc, ha, hda⟩ hy
    refine hs i x H1 H2 _ hi e1 hy ?_
    intro σ2 H3 e3 h1 h2 h3
    refine ⟨h1, h2 H3 (Ex.refl H3) _ fun H4 e4 => ?_⟩
    have hacc : acc.length ≤ i := by rw [hda.length]; exact givenD_len i b f
    cases hb : b i with
    | true =>
      show te σ2 H4 _
      refine h3 hb H4 e4 _ fun y H5 e5 hy => ?_
      have h5 : H5 D = some (.lst acc) := e5 D _ (e4 D _ (e3 D _ ha))
      refine ⟨acc, h5, sz_lt (by omega), Ex.mut (((e1.trans e3).trans e4).trans e5) hD, acc ++ [y], upd_same, ?_⟩
      rw [givenD_yes hb]
      exact ImAll.mono ((Et.refl H5).lst h5) (ImAll.snoc (ImAll.mono (Et.of ((e3.trans e4).trans e5)) hda) hy)
    | false =>
      show Ex H H4 ∧ _
      refine ⟨(e1.trans e3).trans e4, acc, e4 D _ (e3 D _ ha), ?_⟩
      rw [givenD_no hb]
      exact ImAll.mono (Et.of (e3.trans e4)) hda
  · rintro H' ⟨e1, acc, ha, hda⟩
    exact k D acc H' hD e1 ha hda
/-! a comprehension over a text, a list, a tuple, a range -/
section
variable {K : PySem.W.Frag} {σ : L2.St} {H : Hp} {tl te : TE} {tt : TT} {vs : List Nat} {j : Nat}
theorem ivl_str {z : Str} (h : Ev tl σ H (.str z)) (hz : z.length ≤ 30000) (b : Nat → Bool) (f : Nat → PyData) (hw : ∀ x, wipe ((wipe σ vs).set j (some x)) vs = wipe σ vs)
    (ht : ∀ (i : Nat) (c : Nat) H1, Ex H H1 → z.cps[i]? = some c → EvT tt ((wipe σ vs).set j (some (.str ⟨#[c]⟩))) H1 (b i))
    (he : ∀ (i : Nat) (c : Nat) H1, Ex H H1 → z.cps[i]? = some c → b i = true → Iv K te ((wipe σ vs).set j (some (.str ⟨#[c]⟩))) H1 (f i)) :
    IvL K (tLc (iStr tl) (gName j) tt te vs) σ H (givenD z.length b f) := fun H0 e0 Q q => h H0 e0 _ fun H1 e1 =>
  ⟨z, rfl, lcI walk_str b f (by have : z.cps.size = z.length := rfl; omega) (fun _ _ => trivial) (fun i x H2 H3 R hi e2 hy k => by
    obtain ⟨rfl, c, hc, rfl⟩ := hy
    exact k _ _ (Ex.refl _) (hw _) (ht i c _ ((e0.trans e1).trans e2) hc) (he i c _ ((e0.trans e1).trans e2) hc)) fun D acc H2 hD e2 h2 h3 => q D acc H2 (fresh_back e1 hD) (e1.trans e2) h2 h3⟩
theorem ivl_list {a : Addr} {xs : List V} (h : Ev tl σ H (.ref a)) (hx : SqL K H a xs) (hz : xs.length ≤ 30000) (b : Nat → Bool) (f : Nat → PyData) (hw : ∀ x, wipe ((wipe σ vs).set j (some x)) vs = wipe σ vs)
    (ht : ∀ (i : Nat) (x : V) H1, Ex H H1 → xs[i]? = some x → EvT tt ((wipe σ vs).set j (some x)) H1 (b i))
    (he : ∀ (i : Nat) (x : V) H1, Ex H H1 → xs[i]? = some x → b i = true → Iv K te ((wipe σ vs).set j (some x)) H1 (f i)) :
    IvL K (tLc (iList K tl) (gName j) tt te vs) σ H (givenD xs.length b f) := fun H0 e0 Q q => h H0 e0 _ fun H1 e1 =>
  ⟨a, rfl, ⟨xs, ex_l (e0.trans e1) hx⟩, lcI walk_list b f (by omega) (fun H' e' => ex_l ((e0.trans e1).trans e') hx) (fun i x H2 H3 R hi e2 hy k => by
    obtain ⟨rfl, hc⟩ := hy
    exact k _ _ (Ex.refl _) (hw _) (ht i x _ ((e0.trans e1).trans e2) hc) (he i x _ ((e0.trans e1).trans e2) hc)) fun D acc H2 hD e2 h2 h3 => q D acc H2 (fresh_back e1 hD) (e1.trans e2) h2 h3⟩
theorem ivl_tup {a : Addr} {xs : List V} (h : Ev tl σ H (.ref a)) (hx : SqT K H a xs) (hz : xs.length ≤ 30000) (b : Nat → Bool) (f : Nat → PyData) (hw : ∀ x, wipe ((wipe σ vs).set j (some x)) vs = wipe σ vs)
    (ht : ∀ (i : Nat) (x : V) H1, Ex H H1 → xs[i]? = some x → EvT tt ((wipe σ vs).set j (some x)) H1 (b i))
    (he : ∀ (i : Nat) (x : V) H1, Ex H H1 → xs[i]? = some x → b i = true → Iv K te ((wipe σ vs).set j (some x)) H1 (f i)) :
    IvL K (tLc (iTup K tl) (gName j) tt te vs) σ H (givenD xs.length b f) := fun H0 e0 Q q => h H0 e0 _ fun H1 e1 =>
  ⟨a, rfl, ⟨xs, ex_t (e0.trans e1) hx⟩, lcI walk_tup b f (by omega) (fun H' e' => ex_t ((e0.trans e1).trans e') hx) (fun i x H2 H3 R hi e2 hy k => by
    obtain ⟨rfl, hc⟩ := hy
    exact k _ _ (Ex.refl _) (hw _) (ht i x _ ((e0.trans e1).trans e2) hc) (he i x _ ((e0.trans e1).trans e2) hc)) fun D acc H2 hD e2 h2 h3 => q D acc H2 (fresh_back e1 hD) (e1.trans e2) h2 h3⟩
theorem et_yes : EvT tYes σ H true := fun H1 _ _ q => q H1 (Ex.refl H1)
theorem ev_chainI {ta tb tc : TE} {a b c : Int} {p p' : Int → Int → Bool} (ha : Ev ta σ H (.int a)) (hb : Ev tb σ H (.int b)) (hc : Ev tc σ H (.int c)) :
    Ev (tChain (rI0 fun i j => .bl (p i j)) (rI0 fun i j => .bl (p' i j)) ta tb tc) σ H (.bl (p a b && p' b c)) := fun H1 e1 Q q =>
  ha H1 e1 _ fun H2 e2 => hb H2 (e1.trans e2) _ fun H3 e3 => ⟨a, b, rfl, rfl, p a b, rfl, by
    cases hp : p a b with
    | true =>
      rw [hp, Bool.true_and] at q
      show tc σ H3 _
      exact hc H3 ((e1.trans e2).trans e3) _ fun H4 e4 => ⟨b, c, rfl, rfl, q H4 ((e2.trans e3).trans e4)⟩
    | false =>
      rw [hp, Bool.false_and] at q
      exact iteF (q H3 (e2.trans e3))⟩
end
/-! the same, each element told by its data -/
section
variable {K : PySem.W.Frag} {σ : L2.St} {H : Hp} {tl te : TE} {tt : TT} {vs : List Nat} {j : Nat}
theorem ivl_strM {z : Str} {g : Nat → PyData} (h : Ev tl σ H (.str z)) (hz : z.length ≤ 30000) (hw : ∀ x, wipe ((wipe σ vs).set j (some x)) vs = wipe σ vs)
    (he : ∀ (c : Nat) H1, Ex H H1 → c ∈ z.cps.toList → Iv K te ((wipe σ vs).set j (some (.str ⟨#[c]⟩))) H1 (g c)) :
    IvL K (tLc (iStr tl) (gName j) tYes te vs) σ H (z.cps.toList.map g) := by
  have hv := ivl_str (tt := tYes) (te := te) (vs := vs) (j := j) h hz (fun _ => true) (fun i => g ((z.cps.toList[i]?).getD 0)) hw (fun i c H1 e1 hc => et_yes) (fun i c H1 e1 hc _ => by
    have e : z.cps.toList[i]? = some c := by rw [Array.getElem?_toList]; exact hc
    show Iv K te _ H1 (g ((z.cps.toList[i]?).getD 0))
    rw [e]
    exact he c H1 e1 (List.mem_of_getElem? e))
  have e : z.length = z.cps.toList.length := rfl
  rw [e, givenD_map (xs := z.cps.toList) (g := g) (fun i x h => by rw [h] <;> rfl)] at hv
  exact hv
/-- with a test -/
theorem ivl_listF {a : Addr} {xs : List V} {ds : List PyData} {p : PyData → Bool} {g : PyData → PyData} (h : Ev tl σ H (.ref a)) (hx : SqL K H a xs) (hd : ImAll K H xs ds) (hz : ds.length ≤ 30000) (hw : ∀ x, wipe ((wipe σ vs).set j (some x)) vs = wipe σ vs)
    (ht : ∀ (x : V) (d : PyData) H1, Ex H H1 → d ∈ ds → Im K H1 x d → EvT tt ((wipe σ vs).set j (some x)) H1 (p d))
    (he : ∀ (x : V) (d : PyData) H1, Ex H H1 → d ∈ ds → Im K H1 x d → p d = true → Iv K te ((wipe σ vs).set j (some x)) H1 (g d)) :
    IvL K (tLc (iList K tl) (gName j) tt te vs) σ H ((ds.filter p).map g) := by
  have hv := ivl_list (tt := tt) (te := te) (vs := vs) (j := j) h hx (by rw [hd.length]; exact hz) (fun i => p ((ds[i]?).getD .none)) (fun i => g ((ds[i]?).getD .none)) hw (fun i x H1 e1 hi => by
    obtain ⟨d, h1, h2⟩ := hd.get hi
    show EvT tt _ H1 (p ((ds[i]?).getD .none))
    rw [h1]
    exact ht x d H1 e1 (List.mem_of_getElem? h1) (Im.mono (Et.of e1) h2)) (fun i x H1 e1 hi hp => by
    obtain ⟨d, h1, h2⟩ := hd.get hi
    have hp' : p ((ds[i]?).getD .none) = true := hp
    rw [h1] at hp'
    show Iv K te _ H1 (g ((ds[i]?).getD .none))
    rw [h1]
    exact he x d H1 e1 (List.mem_of_getElem? h1) (Im.mono (Et.of e1) h2) hp')
  rw [hd.length, givenD_fm (xs := ds) (p := p) (g := g) (fun i x h => by rw [h] <;> rfl) (fun i x h => by rw [h] <;> rfl)] at hv
  exact hv
theorem ivl_tupF {a : Addr} {xs : List V} {ds : List PyData} {p : PyData → Bool} {g : PyData → PyData} (h : Ev tl σ H (.ref a)) (hx : SqT K H a xs) (hd : ImAll K H xs ds) (hz : ds.length ≤ 30000) (hw : ∀ x, wipe ((wipe σ vs).set j (some x)) vs = wipe σ vs)
    (ht : ∀ (x : V) (d : PyData) H1, Ex H H1 → d ∈ ds → Im K H1 x d → EvT tt ((wipe σ vs).set j (some x)) H1 (p d))
    (he : ∀ (x : V) (d : PyData) H1, Ex H H1 → d ∈ ds → Im K H1 x d → p d = true → Iv K te ((wipe σ vs).set j (some x)) H1 (g d)) :
    IvL K (tLc (iTup K tl) (gName j) tt te vs) σ H ((ds.filter p).map g) := by
  have hv := ivl_tup (tt := tt) (te := te) (vs := vs) (j := j) h hx (by rw [hd.length]; exact hz) (fun i => p ((ds[i]?).getD .none)) (fun i => g ((ds[i]?).getD .none)) hw (fun i x H1 e1 hi => by
    obtain ⟨d, h1, h2⟩ := hd.get hi
    show EvT tt _ H1 (p ((ds[i]?).getD .none))
    rw [h1]
    exact ht x d H1 e1 (List.mem_of_getElem? h1) (Im.mono (Et.of e1) h2)) (fun i x H1 e1 hi hp => by
    obtain ⟨d, h1, h2⟩ := hd.get hi
    have hp' : p ((ds[i]?).getD .none) = true := hp
    rw [h1] at hp'
    show Iv K te _ H1 (g ((ds[i]?).getD .none))
    rw [h1]
    exact he x d H1 e1 (List.mem_of_getElem? h1) (Im.mono (Et.of e1) h2) hp')
  rw [hd.length, givenD_fm (xs := ds) (p := p) (g := g) (fun i x h => by rw [h] <;> rfl) (fun i x h => by rw [h] <;> rfl)] at hv
  exact hv
theorem ivl_listM {a : Addr} {xs : List V} {ds : List PyData} {g : PyData → PyData} (h : Ev tl σ H (.ref a)) (hx : SqL K H a xs) (hd : ImAll K H xs ds) (hz : ds.length ≤ 30000) (hw : ∀ x, wipe ((wipe σ vs).set j (some x)) vs = wipe σ vs)
    (he : ∀ (x : V) (d : PyData) H1, Ex H H1 → d ∈ ds → Im K H1 x d → Iv K te ((wipe σ vs).set j (some x)) H1 (g d)) : IvL K (tLc (iList K tl) (gName j) tYes te vs) σ H (ds.map g) := by
  have hv := ivl_listF (tt := tYes) (p := fun _ => true) (te := te) (vs := vs) (j := j) h hx hd hz hw (fun _ _ _ _ _ _ => et_yes) (fun x d H1 e m i _ => he x d H1 e m i)
  rw [List.filter_eq_self.mpr (fun _ _ => rfl)] at hv
  exact hv
theorem ivl_tupM {a : Addr} {xs : List V} {ds : List PyData} {g : PyData → PyData} (h : Ev tl σ H (.ref a)) (hx : SqT K H a xs) (hd : ImAll K H xs ds) (hz : ds.length ≤ 30000) (hw : ∀ x, wipe ((wipe σ vs).set j (some x)) vs = wipe σ vs)
    (he : ∀ (x : V) (d : PyData) H1, Ex H H1 → d ∈ ds → Im K H1 x d → Iv K te ((wipe σ vs).set j (some x)) H1 (g d)) : IvL K (tLc (iTup K tl) (gName j) tYes te vs) σ H (ds.map g) := by
  have hv := ivl_tupF (tt := tYes) (p := fun _ => true) (te := te) (vs := vs) (j := j) h hx hd hz hw (fun _ _ _ _ _ _ => et_yes) (fun x d H1 e m i _ => he x d H1 e m i)
  rw [List.filter_eq_self.mpr (fun _ _ => rfl)] at hv
  exact hv
/-- all([..]) of truths told by a function -/
theorem ev_allM {α : Type} {l : List α} {p : α → Bool} (h : IvL K te σ H (l.map fun x => .bool (p x))) : Ev (tCB (rAll K) (tCons te tNil)) σ H (.bl (l.all p)) := by
  have h2 : IvL K te σ H ((l.map p).map PyData.bool) := by
    rw [List.map_map]
    exact h
  have h3 := ivl_all (K := K) h2
  rw [List.all_map] at h3
  exact h3
end
/-! a list or a tuple that is walked -/
def SeqV (K : PySem.W.Frag) (H : Hp) (v : V) (xs : List V) : Prop := ∃ a, v = .ref a ∧ (SqL K H a xs ∨ SqT K H a xs)
theorem SeqV.mono {K : PySem.W.Frag} {H H' : Hp} {v : V} {xs : List V} (e : Ex H H') (h : SeqV K H v xs) : SeqV K H' v xs := by
  obtain ⟨a, rfl, h | h⟩ := h
  · exact ⟨a, rfl, .inl (ex_l e h)⟩
  · exact ⟨a, rfl, .inr (ex_t e h)⟩
def iSeq (K : PySem.W.Frag) (tl : TE) : TI := fun σ H R => iList K tl σ H R ∨ iTup K tl σ H R
theorem pi_seqK {X : Cx} {K : PySem.W.Frag} (hK : X.K = K) {tg e : Expr} {te : TE} (he : PE X e te) : PI X tg e (iSeq K te) := by
  subst hK
  refine ⟨fun pins s σ H R I h => ?_⟩
  rcases h with h | h
  · exact (pi_list he).run pins s σ H R I h
  · exact (pi_tup he).run pins s σ H R I h
section
variable {K : PySem.W.Frag} {σ : L2.St} {H : Hp} {tl te : TE} {tt : TT} {vs : List Nat} {j : Nat}
theorem ivl_seq {v : V} {xs : List V} (h : Ev tl σ H v) (hx : SeqV K H v xs) (hz : xs.length ≤ 30000) (b : Nat → Bool) (f : Nat → PyData) (hw : ∀ x, wipe ((wipe σ vs).set j (some x)) vs = wipe σ vs)
    (ht : ∀ (i : Nat) (x : V) H1, Ex H H1 → xs[i]? = some x → EvT tt ((wipe σ vs).set j (some x)) H1 (b i))
    (he : ∀ (i : Nat) (x : V) H1, Ex H H1 → xs[i]? = some x → b i = true → Iv K te ((wipe σ vs).set j (some x)) H1 (f i)) :
    IvL K (tLc (iSeq K tl) (gName j) tt te vs) σ H (givenD xs.length b f) := by
  obtain ⟨a, rfl, hl | ht'⟩ := hx
  · intro H0 e0 Q q
    exact Or.inl (ivl_list h hl hz b f hw ht he H0 e0 Q q)
  · intro H0 e0 Q q
    exact Or.inr (ivl_tup h ht' hz b f hw ht he H0 e0 Q q)
/-- a truth for each item -/
theorem ivl_seqB {v : V} {xs : List V} {p : V → Bool} (h : Ev tl σ H v) (hx : SeqV K H v xs) (hz : xs.length ≤ 30000) (hw : ∀ x, wipe ((wipe σ vs).set j (some x)) vs = wipe σ vs)
    (he : ∀ (x : V) H1, Ex H H1 → x ∈ xs → Ev te ((wipe σ vs).set j (some x)) H1 (.bl (p x))) : IvL K (tLc (iSeq K tl) (gName j) tYes te vs) σ H (xs.map fun x => .bool (p x)) := by
  have hv := ivl_seq (tt := tYes) (te := te) (vs := vs) (j := j) h hx hz (fun _ => true) (fun i => .bool (p ((xs[i]?).getD .non))) hw (fun _ _ _ _ _ => et_yes) (fun i x H1 e1 hi _ => by
    show Iv K te _ H1 (.bool (p ((xs[i]?).getD .non)))
    rw [hi]
    exact iv_ev (he x H1 e1 (List.mem_of_getElem? hi)) (.bl _))
  rw [givenD_map (xs := xs) (g := fun x => .bool (p x)) (fun i x h => by rw [h] <;> rfl)] at hv
  exact hv
theorem ev_lenS {v : V} {xs : List V} (h : Ev te σ H v) (hx : SeqV K H v xs) : Ev (tCB (rLenQ K) (tCons te tNil)) σ H (.int xs.length) :=
  ev_cb (ea_cons h ea_nil) fun H1 e _ q => by
    obtain ⟨a, rfl, hq⟩ := hx.mono e
    exact ⟨a, xs, rfl, hq, q H1 (Ex.refl H1)⟩
theorem ev_isN {v : V} (h : Ev te σ H v) : Ev (tOp (fun x y H Q => y = .non ∧ Q (.bl (decide (x = .non))) H) te (tC .non)) σ H (.bl (decide (v = .non))) := ev_op h ev_c fun H1 _ _ q => ⟨rfl, q H1 (Ex.refl H1)⟩
theorem ev_notN {v : V} (h : Ev te σ H v) : Ev (tOp (fun x y H Q => y = .non ∧ Q (.bl (!decide (x = .non))) H) te (tC .non)) σ H (.bl (!decide (v = .non))) := ev_op h ev_c fun H1 _ _ q => ⟨rfl, q H1 (Ex.refl H1)⟩
end
/-! for a, b in zip(two tuples) -/
theorem walk_zipT {K : PySem.W.Frag} {a b : Addr} {xs ys : List V} : Walk (RZ.ItzT K a b) (min xs.length ys.length) (fun H => SqT K H a xs ∧ SqT K H b ys) (YPair (fun i => xs[i]?) (fun i => ys[i]?)) := by
  refine ⟨fun i _ hi q => ?_, fun _ q => ⟨xs, ys, q.1, q.2, by omega⟩, fun i H v H' _ q y => ?_⟩
  · have h1 : i < xs.length := by omega
    have h2 : i < ys.length := by omega
    exact ⟨xs, ys, xs[i], ys[i], q.1, q.2, by simp [h1], by simp [h2]⟩
  · obtain ⟨T, x, z, h1, h2, h3, h4, h5⟩ := y
    exact ⟨T, x, z, h1, h2, h3, h4 xs q.1, h5 ys q.2⟩
theorem q_forZip {K : PySem.W.Frag} {σ : L2.St} {H : Hp} {ta tb : TE} {D : Ends} {tu tz : TS} {a b : Addr} {xs ys : List V} {i1 i2 : Nat} (h1 : Ev ta σ H (.ref a)) (h2 : Ev tb σ H (.ref b)) (hx : SqT K H a xs) (hy : SqT K H b ys)
    (Pv : Nat → L2.St → Hp → Prop) (h0 : ∀ H1, Ex H H1 → Pv 0 σ H1) (hq : ∀ i σ' H', Pv i σ' H' → SqT K H' a xs ∧ SqT K H' b ys)
    (hs : ∀ (i : Nat) (x y : V) σ' H', xs[i]? = some x → ys[i]? = some y → Pv i σ' H' → ∀ H1, Ex H' H1 → tu { D with nx := Pv (i + 1), ct := Pv (i + 1), bk := tz D } ((σ'.set i1 (some x)).set i2 (some y)) H1)
    (hd : ∀ σ' H', Pv (min xs.length ys.length) σ' H' → tz D σ' H') : tSeq (tFor (RZ.iZipA K (tCons ta (tCons tb tNil))) (gTup K 2 (gCons (gName i1) (gCons (gName i2) gNil))) tu) tz D σ H :=
  h1 H (Ex.refl H) _ fun H1 e1 => h2 H1 e1 _ fun H2 e2 => ⟨a, b, xs, ys, rfl, .inr ⟨ex_t (e1.trans e2) hx, ex_t (e1.trans e2) hy,
    for_it (D := { D with nx := tz D }) walk_zipT Pv (h0 H2 (e1.trans e2)) (fun i σ' H' _ p => hq i σ' H' p) (fun i v σ' H' H'' hi p hv => by
      obtain ⟨T, x, y, rfl, hT, rfl, gx, gy⟩ := hv
      exact ⟨T, [x, y], rfl, st_of upd_same, rfl, x, [y], rfl, y, [], rfl, rfl, hs i x y σ' H' gx gy p _ (Ex.new hT)⟩) hd⟩⟩
section
variable {K : PySem.W.Frag} {σ : L2.St} {H : Hp} {ta tb te : TE} {t : TT} {d : PyData}
theorem iv_ifx {b : Bool} (h : EvT t σ H b) (h1 : b = true → Iv K ta σ H d) (h2 : b = false → Iv K tb σ H d) : Iv K (tIf t ta tb) σ H d := fun H1 a Q q => h H1 a _ fun H2 c => by
  cases b with
  | true =>
    show ta σ H2 Q
    exact h1 rfl H2 (a.trans c) Q fun v H3 c3 hv => q v H3 (c.trans c3) hv
  | false =>
    show tb σ H2 Q
    exact h2 rfl H2 (a.trans c) Q fun v H3 c3 hv => q v H3 (c.trans c3) hv
/-- tuple([..]) -/
theorem iv_tupleL {ds : List PyData} (h : IvL K te σ H ds) : Iv K (tCB (rTupleQ K) (tCons te tNil)) σ H (.tuple ds) := fun H1 e1 Q q =>
  h H1 e1 _ fun p vs H2 hp e2 hl hd => ⟨p, vs, rfl, .inl ⟨sq_of hl, fun l hn => q _ _ (e2.trans (Ex.new hn)) (.tup upd_same (ImAll.mono (Et.of (Ex.new hn)) hd))⟩⟩
theorem ev_dget {a : Addr} {kvs : List (Key × V)} {k : Key} {v : V} (h1 : Ev ta σ H (.ref a)) (h2 : Ev tb σ H (kV k)) (hd : H a = some (.dK kvs)) (hv : valV kvs k = some v) : Ev (tDGet ta tb) σ H v := fun H1 e1 Q q =>
  h1 H1 e1 _ fun H2 e2 => h2 H2 (e1.trans e2) _ fun H3 e3 => ⟨a, v, rfl, by rw [← hv]; exact DGet.k (((e1.trans e2).trans e3) _ _ hd), q H3 (e2.trans e3)⟩
theorem ev_ixT {v : V} {xs : List V} {a : Addr} {i : Int} (h : Ev ta σ H (.ref a)) (hi : Ev tb σ H (.int i)) (hx : SqT K H a xs) (hv : atI xs i = some v) : Ev (tOp (rIxT K) ta tb) σ H v := ev_op h hi (rv_ixT hx hv)
theorem ev_ixL {v : V} {xs : List V} {a : Addr} {i : Int} (h : Ev ta σ H (.ref a)) (hi : Ev tb σ H (.int i)) (hx : SqL K H a xs) (hv : atI xs i = some v) : Ev (tOp (rIxL K) ta tb) σ H v := ev_op h hi (rv_ixL hx hv)
end
/-- a comprehension of truths over a list or tuple, with a test -/
theorem ivl_seqBF {K : PySem.W.Frag} {σ : L2.St} {H : Hp} {tl te : TE} {tt : TT} {vs : List Nat} {j : Nat} {v : V} {xs : List V} {p b : V → Bool} (h : Ev tl σ H v) (hx : SeqV K H v xs) (hz : xs.length ≤ 30000) (hw : ∀ x, wipe ((wipe σ vs).set j (some x)) vs = wipe σ vs)
    (ht : ∀ (x : V) H1, Ex H H1 → x ∈ xs → EvT tt ((wipe σ vs).set j (some x)) H1 (b x))
    (he : ∀ (x : V) H1, Ex H H1 → x ∈ xs → b x = true → Ev te ((wipe σ vs).set j (some x)) H1 (.bl (p x))) : IvL K (tLc (iSeq K tl) (gName j) tt te vs) σ H ((xs.filter b).map fun x => .bool (p x)) := by
  have hv := ivl_seq (tt := tt) (te := te) (vs := vs) (j := j) h hx hz (fun i => b ((xs[i]?).getD .non)) (fun i => .bool (p ((xs[i]?).getD .non))) hw (fun i x H1 e1 hi => by
    show EvT tt _ H1 (b ((xs[i]?).getD .non))
    rw [hi]
    exact ht x H1 e1 (List.mem_of_getElem? hi)) (fun i x H1 e1 hi hb => by
    have hb' : b ((xs[i]?).getD .non) = true := hb
    rw [hi] at hb'
    show Iv K te _ H1 (.bool (p ((xs[i]?).getD .non)))
    rw [hi]
    exact iv_ev (he x H1 e1 (List.mem_of_getElem? hi) hb') (.bl _))
  rw [givenD_fm (xs := xs) (p := b) (g := fun x => .bool (p x)) (fun i x h => by rw [h] <;> rfl) (fun i x h => by rw [h] <;> rfl)] at hv
  exact hv
end Sw
namespace Sw
open PySem L2 Evl
/-! kinds of values, isinstance -/
def kindV (H : Hp) : V → Option String
  | .non => some "NoneType"
  | .bl _ => some "bool"
  | .int _ => some "int"
  | .str _ => some "str"
  | .ref a => match H a with
    | some (.lst _) => some "list"
    | some (.tup _) => some "tuple"
    | some (.dK _) => some "dict"
    | _ => none
  | _ => none
theorem kind_tyx {K : PySem.W.Frag} {H : Hp} {v : V} {n : String} (h : kindV H v = some n) : TyX K H v (.type n) := by
  cases v with
  | non => cases h; exact .base .non
  | bl b => cases h; exact .base (.bl b)
  | int i => cases h; exact .base (.int i)
  | str z => cases h; exact .base (.str z)
  | ref a =>
    unfold kindV at h
    simp only at h
    split at h <;> first | (cases h; exact .base (.lst (by assumption))) | (cases h; exact .base (.tup (by assumption))) | (cases h; exact .base (.dK (by assumption))) | cases h
  | _ => cases h
theorem kind_mono {H H' : Hp} (e : Ex H H') {v : V} {n : String} (h : kindV H v = some n) : kindV H' v = some n := by
  cases v with
  | ref a =>
    unfold kindV at h ⊢
    simp only at h ⊢
    split at h
    · rename_i xs q; rw [e a _ q]; exact h
    · rename_i xs q; rw [e a _ q]; exact h
    · rename_i xs q; rw [e a _ q]; exact h
    · cases h
  | _ => exact h
def kinds : List String := ["NoneType", "bool", "int", "str", "list", "tuple", "dict"]
theorem kind_mem {H : Hp} {v : V} {n : String} (h : kindV H v = some n) : n ∈ kinds := by
  cases v with
  | ref a =>
    unfold kindV at h
    simp only at h
    split at h <;> first | (cases h; decide) | cases h
  | non => cases h; decide
  | bl _ => cases h; decide
  | int _ => cases h; decide
  | str _ => cases h; decide
  | _ => cases h
def isiK (T k : String) : Bool := decide (k = T) || (decide (T = "int") && decide (k = "bool"))
theorem kitB_all : ∀ k ∈ kinds, ∀ T ∈ (["bool", "int", "str", "list", "tuple", "dict"] : List String), kitB k T = some (isiK T k) := by decide +kernel
theorem r_isi {K : PySem.W.Frag} {H : Hp} {v : V} {k T : String} {Q : VK} (h : kindV H v = some k) (hT : T ∈ (["bool", "int", "str", "list", "tuple", "dict"] : List String)) (q : Q (.bl (isiK T k)) H) : rIsi K [v, .ty T] H Q :=
  ⟨v, .ty T, .type k, .type T, isiK T k, rfl, .ty T, kind_tyx h, kit_ty (kitB_all k (kind_mem h) T hT), q⟩
theorem ev_isi {K : PySem.W.Frag} {σ : L2.St} {H : Hp} {te : TE} {v : V} {k T : String} (h : Ev te σ H v) (hk : kindV H v = some k) (hT : T ∈ (["bool", "int", "str", "list", "tuple", "dict"] : List String) := by decide) :
    Ev (tCB (rIsi K) (tCons te (tCons (tC (.ty T)) tNil))) σ H (.bl (isiK T k)) :=
  ev_cb (ea_cons h (ea_cons ev_c ea_nil)) fun H1 e Q q => r_isi (kind_mono e hk) hT (q H1 (Ex.refl H1))
/-! is_word -/
abbrev s_is_word : Stmt := top 8
abbrev N_is_word : List Str := ["value", "letter"]
abbrev P_is_word : List Str := ["value"]
theorem sc_is_word : FnScope N_is_word P_is_word (defScope s_is_word) := ⟨rfl, rfl, rfl, by decide +kernel, rfl, by decide +kernel, by decide +kernel⟩
def letters : List Nat := (Str.ofString "abcdefghijklmnopqrstuvwxyz").cps.toList
def isWord (z : Str) : Bool := decide (1 ≤ z.length) && decide (z.length ≤ 8) && z.cps.toList.all fun c => decide (c ∈ letters)
def isWordV : V → Bool
  | .str z => isWord z
  | _ => false
def shortV : V → Prop
  | .str z => z.length ≤ 30000
  | _ => True
def spIsWord : Sp := fun vs H Q _ => ∃ v k, vs = [v] ∧ kindV H v = some k ∧ shortV v ∧ ∀ H', Ex H H' → Q (.bl (isWordV v)) H'
theorem isWordV_no {H : Hp} {v : V} {k : String} (h : kindV H v = some k) (hk : isiK "str" k = false) : isWordV v = false := by
  cases v with
  | str z => cases h; exact absurd hk (by decide)
  | _ => rfl
theorem str_of_kind {H : Hp} {v : V} {k : String} (h : kindV H v = some k) (hk : isiK "str" k = true) : ∃ z, v = .str z := by
  cases v with
  | str z => exact ⟨z, rfl⟩
  | non => cases h; exact absurd hk (by decide)
  | bl _ => cases h; exact absurd hk (by decide)
  | int _ => cases h; exact absurd hk (by decide)
  | ref a =>
    unfold kindV at h
    simp only at h
    split at h <;> first | (cases h; exact absurd hk (by decide)) | cases h
  | _ => cases h
theorem lenI (z : Str) : (decide ((1 : Int) ≤ (z.length : Int)) && decide ((z.length : Int) ≤ 8)) = (decide (1 ≤ z.length) && decide (z.length ≤ 8)) := by
  congr 1 <;> (rw [decide_eq_decide]; omega)
theorem isWordV_len {z : Str} (h : (decide ((1 : Int) ≤ (z.length : Int)) && decide ((z.length : Int) ≤ 8)) = true) : isWordV (.str z) = z.cps.toList.all fun c => decide (c ∈ letters) := by
  show (decide (1 ≤ z.length) && decide (z.length ≤ 8) && _) = _
  rw [← lenI, h, Bool.true_and]
section
variable {P : Program} {w : World} {K : PySem.W.Frag} {mg : Str → Option Value} {base : Heap}
theorem ok_is_word {f : Addr} {fd : FuncData} (F : FunD K "is_word" "is_word" (defArgs s_is_word) (defBody s_is_word) (defScope s_is_word) [] [] f fd) (T : Txt K mg) : FnOk P w K mg base C8.CX0 1 f fd P_is_word spIsWord := by
  refine F.ok sc_is_word (fun vs H Q E h => ?_) (fun cdv A outer s H vs Q E hr h => ?_)
  · obtain ⟨v, k, rfl, _⟩ := h
    rfl
  · obtain ⟨v, k, rfl, hk, hz, q⟩ := h
    refine ⟨_, PSs.nox (pss_cons (ps_if (PW.pt (pw_or (pt_not (pt_val (pe_callB (call_isiK' (K := K) rfl) (by rfl) T.b_isinstance (by decide +kernel) (pa_cons (pv 0) (pa_cons (pe_bltn (v := .ty "str") (by rfl) T.b_str boot_str rfl) pa_nil))))) (pw_or1 (pt_not (pt_chain op_le op_le pe_int (pe_callB call_len_strK (by rfl) T.b_len boot_len (pa_cons (pv 0) pa_nil)) (C8.pe_gc rfl T.g_LONGEST_WORD)))))) (pss_one (ps_ret pe_bl)) pss_nil)
      (pss_one (ps_ret (pe_callB (cr_allK (K := K) rfl rfl) (by rfl) T.b_all (by decide +kernel) (pa_cons (pe_lc (own := [("letter", 1)]) (tt := tYes) rfl sc_is_word.nd (pi_str (pv 0)) (blkOk_by (own := [("letter", 1)]) (N := N_is_word) (sc := defScope s_is_word) (by decide +kernel)) (fun _ _ _ _ _ => (pg_name (i := 1) sc_is_word.nd rfl (by first | exact Or.inl rfl | exact Or.inr rfl))) (fun _ _ _ _ _ => pts_nil) (fun _ _ _ _ _ => (pe_cmpR op_in_sign (pv 1) (C8.pe_gc rfl T.g_LETTERS) (by rfl)))) pa_nil))))), ?_⟩
    cases hs : isiK "str" k with
    | false =>
      refine q_when (b := true) (et_or (a := true) (b := true) (et_is (et_not (et_B (ev_isi (ev_var rfl) hk))) (by rw [hs]; rfl)) (fun z => absurd z (by decide))) (fun _ H1 e1 => ?_) (fun z => absurd z (by decide))
      refine s_ret ev_c fun H2 e2 => ?_
      have q2 := q H2 (e1.trans e2)
      rw [isWordV_no hk hs] at q2
      exact q2
    | true =>
      obtain ⟨z, rfl⟩ := str_of_kind hk hs
      have hz' : z.length ≤ 30000 := hz
      have hlen : ∀ {σ : L2.St} {H : Hp} {te : TE}, Ev te σ H (.str z) → Ev (tCB rLenZ (tCons te tNil)) σ H (.int z.length) := fun h =>
        ev_cb (ea_cons h ea_nil) fun H1 _ _ q => ⟨z, rfl, sz_of (by omega), q H1 (Ex.refl H1)⟩
      refine q_when (et_or (a := false) (et_is (et_not (et_B (ev_isi (ev_var rfl) hk))) (by rw [hs]; rfl)) (fun _ => et_not (et_test (ev_chainI ev_c (hlen (ev_var rfl)) ev_c)))) (fun hb H1 e1 => ?_) (fun hb H1 e1 => ?_)
      · refine s_ret ev_c fun H2 e2 => ?_
        have q2 := q H2 (e1.trans e2)
        have e : isWordV (.str z) = false := by
          show (decide (1 ≤ z.length) && decide (z.length ≤ 8) && _) = false
          have h0 : (decide ((1 : Int) ≤ (z.length : Int)) && decide ((z.length : Int) ≤ 8)) = false := by
            cases h : (decide ((1 : Int) ≤ (z.length : Int)) && decide ((z.length : Int) ≤ 8)) with
            | true => rw [h] at hb; cases hb
            | false => rfl
          rw [← lenI, h0]; rfl
        rw [e] at q2
        exact q2
      · have h0 : (decide ((1 : Int) ≤ (z.length : Int)) && decide ((z.length : Int) ≤ 8)) = true := by
          cases h : (decide ((1 : Int) ≤ (z.length : Int)) && decide ((z.length : Int) ≤ 8)) with
          | true => rfl
          | false => rw [h] at hb; cases hb
        refine s_ret (ev_allM (l := z.cps.toList) (p := fun c => decide (c ∈ letters)) (ivl_strM (ev_var rfl) hz' (fun x => rfl) fun c H1 e1 hc => iv_ev (ev_op (ev_var rfl) ev_c fun H3 _ _ q => ⟨c, _, rfl, rfl, q H3 (Ex.refl H3)⟩) (.bl _))) fun H2 e2 => ?_
        have q2 := q H2 (e1.trans e2)
        rw [isWordV_len h0] at q2
        exact q2
end
abbrev s_is_integer : Stmt := top 9
abbrev N_is_integer : List Str := ["value"]
abbrev P_is_integer : List Str := ["value"]
theorem sc_is_integer : FnScope N_is_integer P_is_integer (defScope s_is_integer) := ⟨rfl, rfl, rfl, by decide +kernel, rfl, by decide +kernel, by decide +kernel⟩
abbrev s_is_list : Stmt := top 11
abbrev N_is_list : List Str := ["value"]
abbrev P_is_list : List Str := ["value"]
theorem sc_is_list : FnScope N_is_list P_is_list (defScope s_is_list) := ⟨rfl, rfl, rfl, by decide +kernel, rfl, by decide +kernel, by decide +kernel⟩
abbrev s_are_words : Stmt := top 12
abbrev N_are_words : List Str := ["value", "most", "word"]
abbrev P_are_words : List Str := ["value", "most"]
theorem sc_are_words : FnScope N_are_words P_are_words (defScope s_are_words) := ⟨rfl, rfl, rfl, by decide +kernel, rfl, by decide +kernel, by decide +kernel⟩
def spIsInt : Sp := fun vs H Q _ => ∃ v k, vs = [v] ∧ kindV H v = some k ∧ ∀ H', Ex H H' → Q (.bl (decide (k = "int"))) H'
def isSeqK (k : String) : Bool := decide (k = "list") || decide (k = "tuple")
def spIsList : Sp := fun vs H Q _ => ∃ v k, vs = [v] ∧ kindV H v = some k ∧ ∀ H', Ex H H' → Q (.bl (isSeqK k)) H'
theorem intK : ∀ k ∈ kinds, (isiK "int" k && !isiK "bool" k) = decide (k = "int") := by decide +kernel
theorem kitSeq {K : PySem.W.Frag} : ∀ k ∈ kinds, PySem.W.kitAny K (.type k) [.type "list", .type "tuple"] = some (isSeqK k) := fun k hk => by
  refine kitAny_cons (kit_ty (kitB_all k hk "list" (by decide))) (fun h => ?_) (fun h => ?_)
  · refine kitAny_cons (kit_ty (kitB_all k hk "tuple" (by decide))) (fun h2 => ?_) (fun h2 => ?_)
    · rw [kitAny_nil]
      revert h h2
      revert k
      decide +kernel
    · revert h2
      revert k
      decide +kernel
  · revert h
    revert k
    decide +kernel
/-- what are_words looks at: a value of a known kind; of a list or a tuple its items too -/
structure Looked (K : PySem.W.Frag) (H : Hp) (v : V) (k : String) (xs : List V) : Prop where
  kd : kindV H v = some k
  seq : isSeqK k = true → SeqV K H v xs
  len : xs.length ≤ 20000
  items : ∀ x ∈ xs, ∃ k', kindV H x = some k'
  short : ∀ x ∈ xs, shortV x
theorem Looked.mono {K : PySem.W.Frag} {H H' : Hp} {v : V} {k : String} {xs : List V} (e : Ex H H') (h : Looked K H v k xs) : Looked K H' v k xs :=
  ⟨kind_mono e h.kd, fun q => (h.seq q).mono e, h.len, fun x hx => let ⟨k', q⟩ := h.items x hx; ⟨k', kind_mono e q⟩, h.short⟩
def mostB (m : V) (n : Nat) : Bool := match m with
  | .int i => decide ((n : Int) ≤ i)
  | _ => true
def areWordsV (k : String) (xs : List V) (m : V) : Bool := isSeqK k && mostB m xs.length && xs.all isWordV
def spAreWords (K : PySem.W.Frag) : Sp := fun vs H Q _ => ∃ v m k xs, vs = [v, m] ∧ Looked K H v k xs ∧ (m = .non ∨ ∃ i, m = .int i) ∧ ∀ H', Ex H H' → Q (.bl (areWordsV k xs m)) H'
theorem sp_is_word {H : Hp} {v : V} {k : String} (h : kindV H v = some k) (hs : shortV v) : SpV spIsWord [v] H (.bl (isWordV v)) := fun H1 e Q q E => ⟨v, k, rfl, kind_mono e h, hs, q⟩
section
variable {P : Program} {w : World} {K : PySem.W.Frag} {mg : Str → Option Value} {base : Heap}
theorem ok_is_integer {f : Addr} {fd : FuncData} (F : FunD K "is_integer" "is_integer" (defArgs s_is_integer) (defBody s_is_integer) (defScope s_is_integer) [] [] f fd) (T : Txt K mg) : FnOk P w K mg base C8.CX0 1 f fd P_is_integer spIsInt := by
  refine F.ok sc_is_integer (fun vs H Q E h => ?_) (fun cdv A outer s H vs Q E hr h => ?_)
  · obtain ⟨v, k, rfl, _⟩ := h
    rfl
  · obtain ⟨v, k, rfl, hk, q⟩ := h
    refine ⟨_, PSs.nox (pss_one (ps_ret (pe_and (pe_callB (call_isiK' (K := K) rfl) (by rfl) T.b_isinstance (by decide +kernel) (pa_cons (pv 0) (pa_cons (pe_bltn (v := .ty "int") (by rfl) T.b_int boot_int rfl) pa_nil))) (pe_one (pe_not (pe_callB (call_isiK' (K := K) rfl) (by rfl) T.b_isinstance (by decide +kernel) (pa_cons (pv 0) (pa_cons (pe_bltn (v := .ty "bool") (by rfl) T.b_bool boot_bool rfl) pa_nil)))))))), ?_⟩
    refine s_ret (ev_andV (ev_isi (ev_var rfl) hk) fun _ => ev_notV (ev_isi (ev_var rfl) hk)) fun H1 e1 => ?_
    have q1 := q H1 e1
    rw [← intK k (kind_mem hk)] at q1
    exact q1
theorem ok_is_list {f : Addr} {fd : FuncData} (F : FunD K "is_list" "is_list" (defArgs s_is_list) (defBody s_is_list) (defScope s_is_list) [] [] f fd) (T : Txt K mg) : FnOk P w K mg base C8.CX0 1 f fd P_is_list spIsList := by
  refine F.ok sc_is_list (fun vs H Q E h => ?_) (fun cdv A outer s H vs Q E hr h => ?_)
  · obtain ⟨v, k, rfl, _⟩ := h
    rfl
  · obtain ⟨v, k, rfl, hk, q⟩ := h
    refine ⟨_, PSs.nox (pss_one (ps_ret (pe_callB (call_isiTK (K := K) rfl) (by rfl) T.b_isinstance (by decide +kernel) (pa_cons (pv 0) (pa_cons (pe_tup (pa_cons (pe_bltn (v := .ty "list") (by rfl) T.b_list boot_list rfl) (pa_cons (pe_bltn (v := .ty "tuple") (by rfl) T.b_tuple boot_tuple rfl) pa_nil))) pa_nil))))), ?_⟩
    refine ⟨v, rfl, ⟨by show 2 ≤ sizeLine; decide, fun p hp => ?_⟩⟩
    exact ⟨v, p, _, .type k, _, _, rfl, upd_same, .cons (.ty "list") (.cons (.ty "tuple") .nil), kind_tyx (kind_mono (Ex.new hp) hk), kitSeq k (kind_mem hk), q _ (Ex.new hp)⟩
theorem ok_are_words {f : Addr} {fd : FuncData} (F : FunD K "are_words" "are_words" (defArgs s_are_words) (defBody s_are_words) (defScope s_are_words) [.non] [] f fd) (T : Txt K mg) (C_is_word : C8.Cal P w K mg base 1 "is_word" spIsWord []) (C_is_list : C8.Cal P w K mg base 1 "is_list" spIsList []) : FnOk P w K mg base C8.CX0 2 f fd P_are_words (spAreWords K) := by
  refine F.ok sc_are_words (fun vs H Q E h => ?_) (fun cdv A outer s H vs Q E hr h => ?_)
  · obtain ⟨v, m, k, xs, rfl, _⟩ := h
    rfl
  · obtain ⟨v, m, k, xs, rfl, L, hm, q⟩ := h
    refine ⟨_, PSs.nox (pss_cons (ps_if (PW.pt (pw_or (pt_not (pt_val (C8.pe_c C_is_list hr (by decide) rfl (pa_cons (pv 0) pa_nil)))) (pw_or1 (PW.pt (pw_and (pt_cmpR op_notN (pv 1) pe_non (nomark _)) (pw_and1 (pt_cmpR op_gt (pe_callB (call_len_seqK (K := K) rfl) (by rfl) T.b_len boot_len (pa_cons (pv 0) pa_nil)) (pv 1) (nomark _)))))))) (pss_one (ps_ret pe_bl)) pss_nil)
      (pss_one (ps_ret (pe_callB (cr_allK (K := K) rfl rfl) (by rfl) T.b_all (by decide +kernel) (pa_cons (pe_lc (own := [("word", 2)]) (tt := tYes) rfl sc_are_words.nd (pi_seqK (K := K) rfl (pv 0)) (blkOk_by (own := [("word", 2)]) (N := N_are_words) (sc := defScope s_are_words) (by decide +kernel)) (fun _ _ _ _ _ => (pg_name (i := 2) sc_are_words.nd rfl (by first | exact Or.inl rfl | exact Or.inr rfl))) (fun _ _ _ _ _ => pts_nil) (fun _ _ _ _ _ => (C8.pe_c C_is_word hr (by decide) rfl (pa_cons (pv 2) pa_nil)))) pa_nil))))), ?_⟩
    have hlist : EvT (tNot (tB (tCall spIsList [] C8.E0 (tCons (tVar 0) tNil)))) (L2.start N_are_words [v, m]) H (!isSeqK k) :=
      et_not (et_B (ev_call (ea_cons (ev_var rfl) ea_nil) fun H1 e Q q E => ⟨v, k, rfl, kind_mono e L.kd, q⟩))
    have done : ∀ H1, Ex H H1 → isSeqK k = true → mostB m xs.length = true → tRet (tCB (rAll K) (tCons (tLc (iSeq K (tVar 0)) (gName 2) tYes (tCall spIsWord [] C8.E0 (tCons (tVar 2) tNil)) [2]) tNil)) { nx := fun x H' => Q V.non H', rt := Q } (L2.start N_are_words [v, m]) H1 := fun H1 e1 hk hmb => by
      have L1 := L.mono e1
      refine s_ret (ev_allM (l := xs) (p := isWordV) (ivl_seqB (ev_var rfl) (L1.seq hk) (by have := L.len; omega) (fun x => rfl) fun x H2 e2 hx => ?_)) fun H2 e2 => ?_
      · obtain ⟨k', hk'⟩ := L1.items x hx
        exact ev_call (ea_cons (ev_var rfl) ea_nil) (sp_is_word (kind_mono e2 hk') (L1.short x hx))
      · have q2 := q H2 (e1.trans e2)
        unfold areWordsV at q2
        rw [hk, hmb, Bool.true_and, Bool.true_and] at q2
        exact q2
    have no : ∀ H1, Ex H H1 → (isSeqK k && mostB m xs.length) = false → tRet (tC (V.bl false)) { nx := fun x H' => Q V.non H', rt := Q } (L2.start N_are_words [v, m]) H1 := fun H1 e1 hb => by
      refine s_ret ev_c fun H2 e2 => ?_
      have q2 := q H2 (e1.trans e2)
      unfold areWordsV at q2
      rw [hb, Bool.false_and] at q2
      exact q2
    rcases hm with rfl | ⟨i, rfl⟩
    · refine q_when (et_or hlist fun hl => et_and (et_test (ev_notN (ev_var rfl))) (b := false) fun h => absurd h (by decide)) (fun hb H1 e1 => no H1 e1 ?_) (fun hb H1 e1 => done H1 e1 ?_ rfl)
      · cases hk : isSeqK k with
        | false => rfl
        | true => rw [hk] at hb; exact absurd hb (by decide)
      · cases hk : isSeqK k with
        | true => rfl
        | false => rw [hk] at hb; exact absurd hb (by decide)
    · refine q_when (et_or hlist fun hl => et_and (et_test (ev_notN (ev_var rfl))) (fun _ => et_test (ev_op (ev_lenS (ev_var rfl) (L.seq ?_)) (ev_var rfl) rv_I0))) (fun hb H1 e1 => no H1 e1 ?_) (fun hb H1 e1 => ?_)
      · cases hk : isSeqK k with
        | true => rfl
        | false => rw [hk] at hl; exact absurd hl (by decide)
      · cases hk : isSeqK k with
        | false => rfl
        | true =>
          rw [hk] at hb
          show (true && decide ((xs.length : Int) ≤ i)) = false
          have h2 : decide (i < (xs.length : Int)) = true := hb
          have h3 := of_decide_eq_true h2
          rw [decide_eq_false (by omega)] <;> rfl
      · cases hk : isSeqK k with
        | false => rw [hk] at hb; simp at hb
        | true =>
          rw [hk] at hb
          have h2 : decide (i < (xs.length : Int)) = false := hb
          have h3 := of_decide_eq_false h2
          exact done H1 e1 hk (decide_eq_true (by omega))
end
end Sw
namespace Sw
open PySem L2 Evl
/-! fields of an instance, in order -/
theorem lk {f : Str} {v : V} (ks : List Str) : ∀ {fs : List (Str × V)} (i : Nat), fs.map (·.1) = ks → fs[i]? = some (f, v) → decide (f ∈ ks.take i) = false → fs.lookup f = some v := by
  induction ks with
  | nil =>
    intro fs i hk hi _
    cases fs with
    | nil => cases hi
    | cons a r => cases hk
  | cons k ks ih =>
    intro fs i hk hi hn
    cases fs with
    | nil => cases hk
    | cons a r =>
      obtain ⟨g, u⟩ := a
      injection hk with h1 h2
      cases i with
      | zero =>
        have e : (g, u) = (f, v) := Option.some.inj hi
        injection e with e1 e2
        rw [List.lookup_cons, e1, beq_self_eq_true, e2]
      | succ i =>
        have hn' : ¬ f ∈ k :: ks.take i := of_decide_eq_false hn
        have hf : ¬ f = g := fun e => hn' (by rw [e, ← h1]; exact List.mem_cons_self)
        rw [List.lookup_cons, beq_eq_false_iff_ne.mpr hf]
        exact ih i h2 hi (decide_eq_false fun hm => hn' (List.mem_cons_of_mem _ hm))
theorem lkn {f : Str} (ks : List Str) : ∀ {fs : List (Str × V)}, fs.map (·.1) = ks → decide (f ∈ ks) = false → fs.lookup f = none := by
  induction ks with
  | nil =>
    intro fs hk _
    cases fs with
    | nil => rfl
    | cons a r => cases hk
  | cons k ks ih =>
    intro fs hk hn
    cases fs with
    | nil => cases hk
    | cons a r =>
      obtain ⟨g, u⟩ := a
      injection hk with h1 h2
      have hn' : ¬ f ∈ k :: ks := of_decide_eq_false hn
      have hf : ¬ f = g := fun e => hn' (by rw [e, ← h1]; exact List.mem_cons_self)
      rw [List.lookup_cons, beq_eq_false_iff_ne.mpr hf]
      exact ih h2 (decide_eq_false fun hm => hn' (List.mem_cons_of_mem _ hm))
theorem putF_end {f : Str} {v : V} (ks : List Str) : ∀ {fs : List (Str × V)}, fs.map (·.1) = ks → decide (f ∈ ks) = false → putF f v fs = fs ++ [(f, v)] := by
  induction ks with
  | nil =>
    intro fs hk _
    cases fs with
    | nil => rfl
    | cons a r => cases hk
  | cons k ks ih =>
    intro fs hk hn
    cases fs with
    | nil => cases hk
    | cons a r =>
      obtain ⟨g, u⟩ := a
      injection hk with h1 h2
      have hn' : ¬ f ∈ k :: ks := of_decide_eq_false hn
      have hf : ¬ g = f := fun e => hn' (by rw [← e, ← h1]; exact List.mem_cons_self)
      show (if g = f then _ else _) = _
      rw [if_neg hf, ih h2 (decide_eq_false fun hm => hn' (List.mem_cons_of_mem _ hm))] <;> rfl
section
variable {K : PySem.W.Frag} {σ : L2.St} {H : Hp} {tv te : TE} {D : Ends} {tz : TS} {x C dx : Addr} {fs : List (Str × V)} {f : Str} {v : V} {d : PyData} {i : Nat}
/-- self.f = e -/
theorem q_fld (h : Ev tv σ H v) (hx : σ[i]? = some (some (.ref x))) (ho : H x = some (.ins C dx fs)) (c : Cls K C) (n : NoAttr K C f) (l : fs.length < 1000) (k : ∀ H1, Ex H H1 → tz D σ (L2.upd H1 x (.ins C dx (putF f v fs)))) :
    tSeq (sFld K (tVar i) tv f) tz D σ H := h H (Ex.refl H) _ fun H1 e1 => ⟨_, hx, x, C, dx, fs, rfl, e1 _ _ ho, c, n, l, k H1 e1⟩
theorem q_fldI (h : Iv K tv σ H d) (hx : σ[i]? = some (some (.ref x))) (ho : H x = some (.ins C dx fs)) (c : Cls K C) (n : NoAttr K C f) (l : fs.length < 1000) (k : ∀ v H1, Ex H H1 → Im K H1 v d → tz D σ (L2.upd H1 x (.ins C dx (putF f v fs)))) :
    tSeq (sFld K (tVar i) tv f) tz D σ H := h H (Ex.refl H) _ fun v H1 e1 hv => ⟨_, hx, x, C, dx, fs, rfl, e1 _ _ ho, c, n, l, k v H1 e1 hv⟩
theorem s_fld (h : Ev tv σ H v) (hx : σ[i]? = some (some (.ref x))) (ho : H x = some (.ins C dx fs)) (c : Cls K C) (n : NoAttr K C f) (l : fs.length < 1000) (k : ∀ H1, Ex H H1 → D.nx σ (L2.upd H1 x (.ins C dx (putF f v fs)))) :
    sFld K (tVar i) tv f D σ H := h H (Ex.refl H) _ fun H1 e1 => ⟨_, hx, x, C, dx, fs, rfl, e1 _ _ ho, c, n, l, k H1 e1⟩
theorem s_fldI (h : Iv K tv σ H d) (hx : σ[i]? = some (some (.ref x))) (ho : H x = some (.ins C dx fs)) (c : Cls K C) (n : NoAttr K C f) (l : fs.length < 1000) (k : ∀ v H1, Ex H H1 → Im K H1 v d → D.nx σ (L2.upd H1 x (.ins C dx (putF f v fs)))) :
    sFld K (tVar i) tv f D σ H := h H (Ex.refl H) _ fun v H1 e1 hv => ⟨_, hx, x, C, dx, fs, rfl, e1 _ _ ho, c, n, l, k v H1 e1 hv⟩
/-- e.f -/
theorem ev_fld {te : TE} (h : Ev te σ H (.ref x)) (ho : H x = some (.ins C dx fs)) (c : Cls K C) (n : NoAttr K C f) (l : fs.lookup f = some v) : Ev (tFld K te f) σ H v := fun H1 e1 Q q =>
  h H1 e1 _ fun H2 e2 => ⟨x, C, dx, fs, v, rfl, (e1.trans e2) _ _ ho, c, n, l, q H2 e2⟩
theorem ev_con {te : TE} {u : Value} (h : Ev te σ H (.ref x)) (ho : H x = some (.ins C dx fs)) (c : Cls K C) (n : Con K C f v u) (l : fs.lookup f = none) : Ev (tCon K te f) σ H v := fun H1 e1 Q q =>
  h H1 e1 _ fun H2 e2 => ⟨x, C, dx, fs, v, u, rfl, (e1.trans e2) _ _ ho, c, n, l, q H2 e2⟩
/-- tuple(xs) -/
theorem iv_tuple {y : V} {xs : List V} {ds : List PyData} (h : Ev te σ H y) (hd : ImAll K H xs ds) (hs : (∃ a, y = .ref a ∧ H a = some (.lst xs)) ∨ ∃ a, y = .ref a ∧ TupAt K H a xs) :
    Iv K (tCB (rTupleQ K) (tCons te tNil)) σ H (.tuple ds) := fun H1 e1 Q q =>
  h H1 e1 _ fun H2 e2 => by
    rcases hs with ⟨a, rfl, ha⟩ | ⟨a, rfl, ha⟩
    · exact ⟨a, xs, rfl, .inl ⟨sq_of ((e1.trans e2) _ _ ha), fun l hl => q _ _ (e2.trans (Ex.new hl)) (.tup upd_same (ImAll.mono (Et.of ((e1.trans e2).trans (Ex.new hl))) hd))⟩⟩
    · exact ⟨a, xs, rfl, .inr ⟨(ha.mono (Et.of (e1.trans e2))).sq, q _ _ e2 (.tup (ha.mono (Et.of (e1.trans e2))) (ImAll.mono (Et.of (e1.trans e2)) hd))⟩⟩
end
/-- a store to a tracked thing that is no tuple keeps data -/
theorem et_ins {H : Hp} {x C dx : Addr} {fs : List (Str × V)} {o : HO} (h : H x = some (.ins C dx fs)) : Et H (L2.upd H x o) := (Et.refl H).upd h fun _ q => nomatch q
/-! Address -/
abbrev s_Address_init : Stmt := inClass (top 15) 0
abbrev N_Address_init : List Str := ["self", "state", "path"]
abbrev P_Address_init : List Str := ["self", "state", "path"]
theorem sc_Address_init : FnScope N_Address_init P_Address_init (defScope s_Address_init) := ⟨rfl, rfl, rfl, by decide +kernel, rfl, by decide +kernel, by decide +kernel⟩
abbrev aKs : List Str := ["own_state", "own_path", "own_order"]
def aF (st : Str) (p q : V) : List (Str × V) := [("own_state", .str st), ("own_path", p), ("own_order", q)]
theorem aF_put1 (st : Str) : putF "own_state" (.str st) [] = [(("own_state" : Str), V.str st)] := rfl
theorem aF_put2 (st : Str) (p : V) : putF "own_path" p [(("own_state" : Str), V.str st)] = ([("own_state", .str st), ("own_path", p)] : List (Str × V)) := putF_end ["own_state"] rfl (by decide +kernel)
theorem aF_put3 (st : Str) (p q : V) : putF "own_order" q ([("own_state", .str st), ("own_path", p)] : List (Str × V)) = aF st p q := putF_end ["own_state", "own_path"] rfl (by decide +kernel)
def strsD (ws : List Str) : List PyData := ws.map PyData.str
def orderD (st : Str) (ws : List Str) : PyData := .tuple [.int ws.length, .str st, .tuple (strsD ws)]
/-- an address with this state and this path stands at x -/
def AddrAt (K : PySem.W.Frag) (H : Hp) (x : Addr) (st : Str) (ws : List Str) : Prop := ∃ dx p q, H x = some (.ins (He.ga K "Address") dx (aF st p q)) ∧ Im K H p (.tuple (strsD ws)) ∧ Im K H q (orderD st ws)
def isWords (ws : List Str) : Bool := ws.all isWord
def WordsV (K : PySem.W.Frag) (H : Hp) (y : V) (ws : List Str) : Prop := (∃ a, y = .ref a ∧ H a = some (.lst (ws.map V.str))) ∨ (∃ a, y = .ref a ∧ H a = some (.tup (ws.map V.str)))
def spAddr (K : PySem.W.Frag) : Sp := fun vs H Q _ => ∃ x dx st y ws, vs = [.ref x, .str st, y] ∧ H x = some (.ins (He.ga K "Address") dx []) ∧ isWord st = true ∧ isWords ws = true ∧ ws.length ≤ 10000 ∧ WordsV K H y ws ∧
  ∀ H', (∀ b o, b ≠ x → H b = some o → H' b = some o) → AddrAt K H' x st ws → Q .non H'
theorem isWord_short {z : Str} (h : isWord z = true) : z.length ≤ 8 := by
  unfold isWord at h
  rw [Bool.and_eq_true, Bool.and_eq_true] at h
  exact of_decide_eq_true h.1.2
theorem words_looked {K : PySem.W.Frag} {H : Hp} {y : V} {ws : List Str} (h : WordsV K H y ws) (hl : ws.length ≤ 10000) (hw : isWords ws = true) : ∃ k, Looked K H y k (ws.map V.str) ∧ isSeqK k = true := by
  have items : ∀ x ∈ ws.map V.str, (∃ k', kindV H x = some k') ∧ shortV x := fun x hx => by
    obtain ⟨z, hz, rfl⟩ := List.mem_map.mp hx
    have := isWord_short (List.all_eq_true.mp hw z hz)
    exact ⟨⟨_, rfl⟩, show z.length ≤ 30000 by omega⟩
  rcases h with ⟨a, rfl, ha⟩ | ⟨a, rfl, ha⟩
  · exact ⟨"list", ⟨by unfold kindV; simp only; rw [ha], fun _ => ⟨a, rfl, .inl (sq_of ha)⟩, by rw [List.length_map]; omega, fun x hx => (items x hx).1, fun x hx => (items x hx).2⟩, by decide⟩
  · exact ⟨"tuple", ⟨by unfold kindV; simp only; rw [ha], fun _ => ⟨a, rfl, .inr (st_of ha)⟩, by rw [List.length_map]; omega, fun x hx => (items x hx).1, fun x hx => (items x hx).2⟩, by decide⟩
theorem all_words {ws : List Str} (h : isWords ws = true) : (ws.map V.str).all isWordV = true := by
  rw [List.all_map]
  exact h
theorem Im.words {K : PySem.W.Frag} {H : Hp} {p : V} {ws : List Str} (h : Im K H p (.tuple (strsD ws))) : ∃ a, p = .ref a ∧ TupAt K H a (ws.map V.str) := by
  cases h with
  | tup ht ha => exact ⟨_, rfl, by rw [← ImAll.of_strs ha]; exact ht⟩
theorem Im.seq {K : PySem.W.Frag} {H : Hp} {p : V} {ds : List PyData} (h : Im K H p (.tuple ds)) : ∃ xs, SeqV K H p xs ∧ xs.length = ds.length ∧ ImAll K H xs ds := by
  cases h with
  | tup ht ha => exact ⟨_, ⟨_, rfl, .inr ht.sq⟩, ha.length, ha⟩
/-- all but the object at x stands -/
def But (x : Addr) (H H' : Hp) : Prop := ∀ b o, b ≠ x → H b = some o → H' b = some o
theorem But.ex {x : Addr} {H H1 H2 : Hp} (b : But x H H1) (e : Ex H1 H2) : But x H H2 := fun a o h1 h2 => e a o (b a o h1 h2)
theorem But.upd {x : Addr} {H H1 : Hp} {o : HO} (b : But x H H1) : But x H (L2.upd H1 x o) := fun a u h1 h2 => by
  rw [upd_ne h1]
  exact b a u h1 h2
theorem But.of {x : Addr} {H H1 : Hp} (e : Ex H H1) : But x H H1 := fun a o _ h => e a o h
theorem WordsV.but {K : PySem.W.Frag} {x C dx : Addr} {fs : List (Str × V)} {H H1 : Hp} {y : V} {ws : List Str} (b : But x H H1) (hx : H x = some (.ins C dx fs)) (h : WordsV K H y ws) : WordsV K H1 y ws := by
  rcases h with ⟨a, rfl, ha⟩ | ⟨a, rfl, ha⟩
  · exact .inl ⟨a, rfl, b a _ (ne_of ha hx fun q => nomatch q) ha⟩
  · exact .inr ⟨a, rfl, b a _ (ne_of ha hx fun q => nomatch q) ha⟩
section
variable {P : Program} {w : World} {K : PySem.W.Frag} {mg : Str → Option Value} {base : Heap}
theorem ok_Address_init {f : Addr} {fd : FuncData} {dv : V} (F : FunD K "__init__" "Address.__init__" (defArgs s_Address_init) (defBody s_Address_init) (defScope s_Address_init) [dv] [] f fd) (T : Txt K mg) (C_is_word : C8.Cal P w K mg base 1 "is_word" spIsWord []) (C_are_words : C8.Cal P w K mg base 2 "are_words" (spAreWords K) [.non]) : FnOk P w K mg base C8.CX0 3 f fd P_Address_init (spAddr K) := by
  refine F.ok sc_Address_init (fun vs H Q E h => ?_) (fun cdv A outer s H vs Q E hr h => ?_)
  · obtain ⟨x, dx, st, y, ws, rfl, _⟩ := h
    rfl
  · obtain ⟨x, dx, st, y, ws, rfl, hx, hst, hws, hl, hp, q⟩ := h
    refine ⟨_, PSs.nox (pss_cons (ps_if (pt_not (pt_val (C8.pe_c C_is_word hr (by decide) rfl (pa_cons (pv 1) pa_nil)))) (pss_one ps_never) pss_nil)
      (pss_cons (ps_if (pt_not (pt_val (C8.pe_c C_are_words hr (by decide) rfl (pa_cons (pv 2) pa_nil)))) (pss_one ps_never) pss_nil)
      (pss_cons (ps_fldK (K := K) rfl (pv 0) (pv 1) rfl)
      (pss_cons (ps_fldK (K := K) rfl (pv 0) (pe_callTy (call_tuple_ofK (K := K) rfl) (by rfl) T.b_tuple boot_tuple (pa_cons (pv 2) pa_nil)) rfl)
      (pss_one (ps_fldK (K := K) rfl (pv 0) (pe_tup (pa_cons (pe_callB (call_len_seqK (K := K) rfl) (by rfl) T.b_len boot_len (pa_cons (pe_fldK (K := K) rfl (pv 0) rfl) pa_nil)) (pa_cons (pv 1) (pa_cons (pe_fldK (K := K) rfl (pv 0) rfl) pa_nil)))) rfl)))))), ?_⟩
    have hst8 := isWord_short hst
    obtain ⟨kk, L, hkk⟩ := words_looked hp hl hws
    refine q_when (b := false) (et_is (et_not (et_B (ev_call (ea_cons (ev_var rfl) ea_nil) (sp_is_word (v := .str st) (k := "str") rfl (show st.length ≤ 30000 by omega))))) (by show (!isWord st) = false; rw [hst]; rfl)) (fun z => nomatch z) (fun _ H1 e1 => ?_)
    refine q_when (b := false) (et_is (et_not (et_B (ev_call (dvs := [.non]) (ea_cons (ev_var rfl) ea_nil) (fun H2 e2 Q q E => ⟨y, .non, kk, _, rfl, (L.mono e1).mono e2, .inl rfl, q⟩)))) (by show (!(isSeqK kk && true && _)) = false; rw [hkk, all_words hws]; rfl)) (fun z => nomatch z) (fun _ H2 e2 => ?_)
    refine q_fld (ev_var rfl) rfl ((e1.trans e2) _ _ hx) T.c_Address T.n_Address_state (by show 0 < 1000; decide) fun H3 e3 => ?_
    rw [aF_put1]
    have b3 : But x H (L2.upd H3 x (.ins (He.ga K "Address") dx [("own_state", .str st)])) := (But.of ((e1.trans e2).trans e3)).upd
    have hp3 := hp.but b3 hx
    refine q_fldI (d := .tuple (strsD ws)) (iv_tuple (ev_var rfl) (ImAll.strs ws) (hp3.imp id fun ⟨a, h1, h2⟩ => ⟨a, h1, h2⟩)) rfl upd_same T.c_Address T.n_Address_path (by show 1 < 1000; decide) fun p H4 e4 hp4 => ?_
    rw [aF_put2]
    have x4 := e4 _ _ upd_same
    have hp5 : Im K (L2.upd H4 x (.ins (He.ga K "Address") dx [("own_state", .str st), ("own_path", p)])) p (.tuple (strsD ws)) := Im.mono (et_ins x4) hp4
    have b4 := (b3.ex e4).upd (o := .ins (He.ga K "Address") dx [("own_state", .str st), ("own_path", p)])
    obtain ⟨xs, hseq, hlen, hall⟩ := hp5.seq
    have hfp : (([("own_state", .str st), ("own_path", p)] : List (Str × V))).lookup ("own_path" : Str) = some p := lk ["own_state", "own_path"] 1 rfl rfl (by decide +kernel)
    have efld := fun {σ : L2.St} (hσ : σ[0]? = some (some (.ref x))) => ev_fld (K := K) (f := "own_path") (ev_var (H := L2.upd H4 x (.ins (He.ga K "Address") dx [("own_state", .str st), ("own_path", p)])) hσ) upd_same T.c_Address T.n_Address_path hfp
    have ed : strsD ws = ws.map PyData.str := rfl
    refine s_fldI (d := orderD st ws) (iv_tup (iva_cons (iv_ev (ev_lenS (efld rfl) hseq) (by rw [hlen, ed, List.length_map]; exact .int _)) (iva_cons (iv_var rfl (.str _)) (iva_cons (iv_ev (efld rfl) hp5) iva_nil))) (by show 3 ≤ 100000; decide)) rfl upd_same T.c_Address T.n_Address_order (by show 2 < 1000; decide) fun o H5 e5 ho5 => ?_
    rw [aF_put3]
    have x5 := e5 _ _ upd_same
    exact q _ (b4.ex e5).upd ⟨dx, p, o, upd_same, Im.mono (et_ins x5) (Im.mono (Et.of e5) hp5), Im.mono (et_ins x5) ho5⟩
end
/-! a property by its getter -/
structure Prp (P : Program) (w : World) (K : PySem.W.Frag) (mg : Str → Option Value) (base : Heap) (k : Nat) (C : Addr) (f : Str) (sp : Sp) : Prop where
  ex : ∃ (p g : Addr) (fd : FuncData) (ps : List Str), Cls K C ∧ PropOf K C f p g ∧ FnOk P w K mg base C8.CX0 k g fd ps sp ∧ Binds K fd ps []
theorem pe_pr {X : Cx} {k j : Nat} {C : Addr} {f : Str} {sp : Sp} {e : Expr} {pos : Pos} {ta : TE} (c : Prp X.prog X.w X.K X.mg X.base k C f sp) (hr : Room j X.A) (hk : k + 1 ≤ j) (he : PE X e ta) (hab : attributeBase e f X.env (eval e X.env) = eval e X.env) :
    PE X (.Attribute e f pos) (tProp C sp [] C8.E0 ta) := by
  obtain ⟨p, g, fd, ps, c1, c2, c3, c4⟩ := c.ex
  exact pe_prop he c1 c2 c3 (hr.mono hk) c4 .nil C8.pass0 hab
abbrev s_Address_state : Stmt := inClass (top 15) 2
abbrev N_Address_state : List Str := ["self"]
abbrev P_Address_state : List Str := ["self"]
theorem sc_Address_state : FnScope N_Address_state P_Address_state (defScope s_Address_state) := ⟨rfl, rfl, rfl, by decide +kernel, rfl, by decide +kernel, by decide +kernel⟩
abbrev s_Address_path : Stmt := inClass (top 15) 3
abbrev N_Address_path : List Str := ["self"]
abbrev P_Address_path : List Str := ["self"]
theorem sc_Address_path : FnScope N_Address_path P_Address_path (defScope s_Address_path) := ⟨rfl, rfl, rfl, by decide +kernel, rfl, by decide +kernel, by decide +kernel⟩
def spAState (K : PySem.W.Frag) : Sp := fun vs H Q _ => ∃ x st ws, vs = [.ref x] ∧ AddrAt K H x st ws ∧ Q (.str st) H
def spAPath (K : PySem.W.Frag) : Sp := fun vs H Q _ => ∃ x st ws, vs = [.ref x] ∧ AddrAt K H x st ws ∧ ∀ v, Im K H v (.tuple (strsD ws)) → Q v H
theorem AddrAt.mono {K : PySem.W.Frag} {H H' : Hp} {x : Addr} {st : Str} {ws : List Str} (e : Ex H H') (h : AddrAt K H x st ws) : AddrAt K H' x st ws := by
  obtain ⟨dx, p, q, h1, h2, h3⟩ := h
  exact ⟨dx, p, q, e _ _ h1, Im.mono (Et.of e) h2, Im.mono (Et.of e) h3⟩
theorem AddrAt.but {K : PySem.W.Frag} {H H' : Hp} {x y : Addr} {st : Str} {ws : List Str} (b : But y H H') (et : Et H H') (hy : x ≠ y) (h : AddrAt K H x st ws) : AddrAt K H' x st ws := by
  obtain ⟨dx, p, q, h1, h2, h3⟩ := h
  exact ⟨dx, p, q, b _ _ hy h1, Im.mono et h2, Im.mono et h3⟩
theorem aF_state (st : Str) (p q : V) : (aF st p q).lookup ("own_state" : Str) = some (.str st) := lk aKs 0 rfl rfl (by decide +kernel)
theorem aF_path (st : Str) (p q : V) : (aF st p q).lookup ("own_path" : Str) = some p := lk aKs 1 rfl rfl (by decide +kernel)
theorem aF_order (st : Str) (p q : V) : (aF st p q).lookup ("own_order" : Str) = some q := lk aKs 2 rfl rfl (by decide +kernel)
section
variable {P : Program} {w : World} {K : PySem.W.Frag} {mg : Str → Option Value} {base : Heap}
theorem ok_Address_state {f : Addr} {fd : FuncData} (F : FunD K "state" "Address.state" (defArgs s_Address_state) (defBody s_Address_state) (defScope s_Address_state) [] [] f fd) (T : Txt K mg) : FnOk P w K mg base C8.CX0 1 f fd P_Address_state (spAState K) := by
  refine F.ok sc_Address_state (fun vs H Q E h => ?_) (fun cdv A outer s H vs Q E hr h => ?_)
  · obtain ⟨x, st, ws, rfl, _⟩ := h
    rfl
  · obtain ⟨x, st, ws, rfl, ⟨dx, p, q, hx, _⟩, k⟩ := h
    refine ⟨_, PSs.nox (pss_one (ps_ret (pe_fldK (K := K) rfl (pv 0) rfl))), ?_⟩
    exact ⟨_, rfl, x, _, dx, _, _, rfl, hx, T.c_Address, T.n_Address_state, aF_state _ _ _, k⟩
theorem ok_Address_path {f : Addr} {fd : FuncData} (F : FunD K "path" "Address.path" (defArgs s_Address_path) (defBody s_Address_path) (defScope s_Address_path) [] [] f fd) (T : Txt K mg) : FnOk P w K mg base C8.CX0 1 f fd P_Address_path (spAPath K) := by
  refine F.ok sc_Address_path (fun vs H Q E h => ?_) (fun cdv A outer s H vs Q E hr h => ?_)
  · obtain ⟨x, st, ws, rfl, _⟩ := h
    rfl
  · obtain ⟨x, st, ws, rfl, ⟨dx, p, q, hx, hp, _⟩, k⟩ := h
    refine ⟨_, PSs.nox (pss_one (ps_ret (pe_fldK (K := K) rfl (pv 0) rfl))), ?_⟩
    exact ⟨_, rfl, x, _, dx, _, _, rfl, hx, T.c_Address, T.n_Address_path, aF_path _ _ _, k p hp⟩
end
section
variable {K : PySem.W.Frag} {σ : L2.St} {H : Hp} {te : TE} {x : Addr} {st : Str} {ws : List Str}
theorem ev_astate (h : Ev te σ H (.ref x)) (ha : AddrAt K H x st ws) : Ev (tProp (He.ga K "Address") (spAState K) [] C8.E0 te) σ H (.str st) := fun H1 e1 Q q => h H1 e1 _ fun H2 e2 => by
  have ha2 := (ha.mono e1).mono e2
  obtain ⟨dx, p, o, hx, _⟩ := id ha2
  exact ⟨x, dx, _, rfl, hx, x, st, ws, rfl, ha2, q H2 e2⟩
theorem iv_apath (h : Ev te σ H (.ref x)) (ha : AddrAt K H x st ws) : Iv K (tProp (He.ga K "Address") (spAPath K) [] C8.E0 te) σ H (.tuple (strsD ws)) := fun H1 e1 Q q => h H1 e1 _ fun H2 e2 => by
  have ha2 := (ha.mono e1).mono e2
  obtain ⟨dx, p, o, hx, _⟩ := id ha2
  exact ⟨x, dx, _, rfl, hx, x, st, ws, rfl, ha2, fun v hv => q v H2 e2 hv⟩
end
end Sw
namespace Sw
open PySem L2 Evl
/-! entries -/
inductive En where
  | h (i : Int)
  | w (z : Str)
  deriving DecidableEq
def En.v : En → V
  | .h i => .int i
  | .w z => .str z
def En.d : En → PyData
  | .h i => .int i
  | .w z => .str z
def entsD (es : List En) : List PyData := es.map En.d
abbrev s_bound : Stmt := top 21
abbrev N_bound : List Str := ["pattern", "path", "found", "entry", "segment"]
abbrev P_bound : List Str := ["pattern", "path"]
theorem sc_bound : FnScope N_bound P_bound (defScope s_bound) := ⟨rfl, rfl, rfl, by decide +kernel, rfl, by decide +kernel, by decide +kernel⟩
abbrev s_filled : Stmt := top 22
abbrev N_filled : List Str := ["beginning", "known", "entry"]
abbrev P_filled : List Str := ["beginning", "known"]
theorem sc_filled : FnScope N_filled P_filled (defScope s_filled) := ⟨rfl, rfl, rfl, by decide +kernel, rfl, by decide +kernel, by decide +kernel⟩
abbrev s_is_entry : Stmt := top 23
abbrev N_is_entry : List Str := ["value", "holes"]
abbrev P_is_entry : List Str := ["value", "holes"]
theorem sc_is_entry : FnScope N_is_entry P_is_entry (defScope s_is_entry) := ⟨rfl, rfl, rfl, by decide +kernel, rfl, by decide +kernel, by decide +kernel⟩
abbrev s_are_entries : Stmt := top 24
abbrev N_are_entries : List Str := ["value", "most", "holes", "entry"]
abbrev P_are_entries : List Str := ["value", "most", "holes"]
theorem sc_are_entries : FnScope N_are_entries P_are_entries (defScope s_are_entries) := ⟨rfl, rfl, rfl, by decide +kernel, rfl, by decide +kernel, by decide +kernel⟩
abbrev s_is_goal : Stmt := top 25
abbrev N_is_goal : List Str := ["value", "pattern", "most", "holes", "entry"]
abbrev P_is_goal : List Str := ["value", "pattern", "most", "holes"]
theorem sc_is_goal : FnScope N_is_goal P_is_goal (defScope s_is_goal) := ⟨rfl, rfl, rfl, by decide +kernel, rfl, by decide +kernel, by decide +kernel⟩
/-! what a pattern binds -/
def bndF : List En → List Str → List (Int × Str) → Option (List (Int × Str))
  | [], _, acc => some acc
  | _ :: _, [], _ => none
  | .h i :: es, z :: ws, acc => match acc.lookup i with
    | none => bndF es ws (acc ++ [(i, z)])
    | some y => if y = z then bndF es ws acc else none
  | .w x :: es, z :: ws, acc => if x = z then bndF es ws acc else none
def bnd (es : List En) (ws : List Str) : Option (List (Int × Str)) := bndF es ws []
theorem bndF_short : ∀ (es : List En) (ws : List Str) (acc : List (Int × Str)), ws.length < es.length → bndF es ws acc = none
  | [], _, _, h => absurd h (Nat.not_lt_zero _)
  | _ :: _, [], _, _ => rfl
  | .h i :: es, z :: ws, acc, h => by
    have h2 : ws.length < es.length := Nat.lt_of_succ_lt_succ h
    unfold bndF
    split
    · exact bndF_short es ws _ h2
    · split
      · exact bndF_short es ws _ h2
      · rfl
  | .w x :: es, z :: ws, acc, h => by
    have h2 : ws.length < es.length := Nat.lt_of_succ_lt_succ h
    unfold bndF
    split
    · exact bndF_short es ws _ h2
    · rfl
def toK (acc : List (Int × Str)) : List (Key × V) := acc.map fun p => (Sum.inl p.1, V.str p.2)
theorem toK_val (i : Int) : ∀ acc : List (Int × Str), valV (toK acc) (Sum.inl i) = (acc.lookup i).map V.str
  | [] => rfl
  | (j, z) :: r => by
    show valV ((Sum.inl j, V.str z) :: toK r) (Sum.inl i) = _
    rw [List.lookup_cons]
    by_cases e : j = i
    · subst e
      rw [valV_pos rfl, beq_self_eq_true] <;> rfl
    · rw [valV_neg (fun q => e (Sum.inl.inj q)), toK_val i r, beq_eq_false_iff_ne.mpr (fun q => e q.symm)]
theorem toK_put {i : Int} {z : Str} {acc : List (Int × Str)} (h : acc.lookup i = none) : putK (toK acc) (Sum.inl i) (V.str z) = toK (acc ++ [(i, z)]) := by
  unfold putK
  rw [valV_any, toK_val, h]
  show (if false = true then _ else _) = _
  rw [if_neg Bool.false_ne_true]
  unfold toK
  rw [List.map_append] <;> rfl
theorem ents_at {K : PySem.W.Frag} {H : Hp} {xs : List V} {es : List En} (h : ImAll K H xs (entsD es)) : xs = es.map En.v := by
  induction es generalizing xs with
  | nil => cases h; rfl
  | cons e es ih =>
    cases h with
    | cons h1 h2 =>
      rw [ih h2]
      cases e with
      | h i => cases h1; rfl
      | w z => cases h1; rfl
theorem Im.ents {K : PySem.W.Frag} {H : Hp} {p : V} {es : List En} (h : Im K H p (.tuple (entsD es))) : ∃ a, p = .ref a ∧ TupAt K H a (es.map En.v) := by
  cases h with
  | tup ht ha => exact ⟨_, rfl, by rw [← ents_at ha]; exact ht⟩
def spBound (K : PySem.W.Frag) : Sp := fun vs H Q _ => ∃ y1 y2 es ws, vs = [y1, y2] ∧ Im K H y1 (.tuple (entsD es)) ∧ Im K H y2 (.tuple (strsD ws)) ∧ es.length ≤ 10000 ∧
  (bnd es ws = none → ∀ H', Ex H H' → Q .non H') ∧ ∀ acc, bnd es ws = some acc → ∀ a H', H a = none → Ex H H' → H' a = some (.dK (toK acc)) → Q (.ref a) H'
theorem sp_is_int {H : Hp} {e : En} : SpV spIsInt [e.v] H (.bl (match e with | .h _ => true | .w _ => false)) := fun H1 _ Q q E => by
  cases e with
  | h i => exact ⟨_, "int", rfl, rfl, q⟩
  | w z => exact ⟨_, "str", rfl, rfl, q⟩
section
variable {P : Program} {w : World} {K : PySem.W.Frag} {mg : Str → Option Value} {base : Heap}
theorem ok_bound {f : Addr} {fd : FuncData} (F : FunD K "bound" "bound" (defArgs s_bound) (defBody s_bound) (defScope s_bound) [] [] f fd) (T : Txt K mg) (C_is_integer : C8.Cal P w K mg base 1 "is_integer" spIsInt []) : FnOk P w K mg base C8.CX0 2 f fd P_bound (spBound K) := by
  refine F.ok sc_bound (fun vs H Q E h => ?_) (fun cdv A outer s H vs Q E hr h => ?_)
  · obtain ⟨_, _, _, _, rfl, _⟩ := h
    rfl
  · obtain ⟨y1, y2, es, ws, rfl, h1, h2, hl, qn, qs⟩ := h
    refine ⟨_, PSs.nox (pss_cons (ps_if (pt_cmpR op_lt (pe_callB (call_len_seqK (K := K) rfl) (by rfl) T.b_len boot_len (pa_cons (pv 1) pa_nil)) (pe_callB (call_len_seqK (K := K) rfl) (by rfl) T.b_len boot_len (pa_cons (pv 0) pa_nil)) (nomark _)) (pss_one (ps_ret pe_non)) pss_nil)
      (pss_cons (ps_set (i := 2) sc_bound.nd rfl (by first | exact Or.inl rfl | exact Or.inr rfl) pe_dnewK)
      (pss_cons (ps_for PassesOwn.never rfl (pi_zipK (K := K) rfl (RZ.pi_zipA (by rfl) T.b_zip (pa_cons (pv 0) (pa_cons (pv 1) pa_nil)))) (pg_tupK (K := K) (n := 2) rfl rfl (pgs_cons (pg_name (i := 3) sc_bound.nd rfl (by first | exact Or.inl rfl | exact Or.inr rfl)) (pgs_cons (pg_name (i := 4) sc_bound.nd rfl (by first | exact Or.inl rfl | exact Or.inr rfl)) pgs_nil)))
      (pss_one (ps_if (pt_val (C8.pe_c C_is_integer hr (by decide) rfl (pa_cons (pv 3) pa_nil))) (pss_one (ps_if (pt_cmpR op_ne (pe_dsetd (pv 2) (pv 3) (pv 4) ⟨by rfl, by rfl, by rfl, by rfl⟩) (pv 4) (nomark _)) (pss_one (ps_ret pe_non)) pss_nil)) (pss_one (ps_if (pt_cmpR op_ne (pv 3) (pv 4) (nomark _)) (pss_one (ps_ret pe_non)) pss_nil)))))
      (pss_one (ps_ret (pv 2)))))), ?_⟩
    obtain ⟨a, rfl, ha⟩ := h1.ents
    obtain ⟨b, rfl, hb⟩ := h2.words
    have la : (es.map En.v).length = es.length := List.length_map _
    have lb : (ws.map V.str).length = ws.length := List.length_map _
    refine q_when (et_test (ev_op (ev_lenS (ev_var rfl) ⟨b, rfl, .inr hb.sq⟩) (ev_lenS (ev_var rfl) ⟨a, rfl, .inr ha.sq⟩) rv_I0)) (fun hlt H1 e1 => ?_) (fun hlt H1 e1 => ?_)
    · have hlt' := of_decide_eq_true hlt
      rw [la, lb] at hlt'
      exact qn (bndF_short es ws [] (by omega)) H1 e1
    · have hge := of_decide_eq_false hlt
      rw [la, lb] at hge
      have hmin : min (es.map En.v).length (ws.map V.str).length = es.length := by rw [la, lb]; omega
      intro d hd
      refine q_forZip (K := K) (a := a) (b := b) (xs := es.map En.v) (ys := ws.map V.str) (ev_var rfl) (ev_var rfl) (ex_t (e1.trans (Ex.new hd)) ha.sq) (ex_t (e1.trans (Ex.new hd)) hb.sq)
        (fun i σ' H' => ∃ acc v3 v4, σ' = [some (.ref a), some (.ref b), some (.ref d), v3, v4] ∧ Ex H H' ∧ H' d = some (.dK (toK acc)) ∧ acc.length ≤ i ∧ bndF (es.drop i) (ws.drop i) acc = bnd es ws) (fun H2 e2 => ⟨[], none, none, rfl, (e1.trans (Ex.new hd)).trans e2, e2 _ _ upd_same, Nat.le_refl _, rfl⟩)
        (fun i σ' H' ⟨acc, v3, v4, _, e, _⟩ => ⟨ex_t e ha.sq, ex_t e hb.sq⟩) ?_ ?_
      · rintro i x y σ' H' hx hy ⟨acc, v3, v4, rfl, e', hd', hacc, hbn⟩ H2 e2
        rw [List.getElem?_map] at hx hy
        obtain ⟨en, hen, rfl⟩ := Option.map_eq_some_iff.mp hx
        obtain ⟨z, hz, rfl⟩ := Option.map_eq_some_iff.mp hy
        have hile : i < es.length := (List.getElem?_eq_some_iff.mp hen).1
        have de : es.drop i = en :: es.drop (i + 1) := by
          rw [List.drop_eq_getElem_cons hile]
          have := (List.getElem?_eq_some_iff.mp hen).2
          rw [this]
        have dw : ws.drop i = z :: ws.drop (i + 1) := by
          have hi2 := (List.getElem?_eq_some_iff.mp hz).1
          rw [List.drop_eq_getElem_cons hi2]
          have := (List.getElem?_eq_some_iff.mp hz).2
          rw [this]
        rw [de, dw] at hbn
        have hd2 : H2 d = some (.dK (toK acc)) := e2 _ _ hd'
        have hHd : H d = none := fresh_back e1 hd
        cases en with
        | h j =>
          refine s_if (b := true) (et_B (ev_call (ea_cons (ev_var rfl) ea_nil) (sp_is_int (e := .h j)))) (fun _ H3 e3 => ?_) (fun q => nomatch q)
          have hd3 := e3 _ _ hd2
          refine ⟨_, rfl, d, rfl, .inl ⟨_, .inl hd3⟩, _, rfl, _, rfl, toK acc, Sum.inl j, hd3, rfl, ?_, ?_, ?_⟩
          · unfold toK
            rw [List.length_map]
            exact sz_lt (by omega)
          · intro v hv
            rw [toK_val] at hv
            obtain ⟨y, hy, rfl⟩ := Option.map_eq_some_iff.mp hv
            refine ⟨_, rfl, rfl, _, rfl, ?_⟩
            have hbn2 : (match acc.lookup j with | none => bndF (es.drop (i + 1)) (ws.drop (i + 1)) (acc ++ [(j, z)]) | some y => if y = z then bndF (es.drop (i + 1)) (ws.drop (i + 1)) acc else none) = bnd es ws := hbn
            rw [hy] at hbn2
            by_cases hyz : y = z
            · subst hyz
              refine iteNS rfl ?_
              refine ⟨acc, _, _, rfl, (e'.trans e2).trans e3, hd3, by omega, ?_⟩
              rw [← hbn2]
              show _ = if y = y then _ else _
              rw [if_pos rfl]
            · have hf : decide (V.str y = V.str z) = false := decide_eq_false fun q => hyz (V.str.inj q)
              rw [hf]
              refine iteT ?_
              refine qn ?_ _ ((e'.trans e2).trans e3)
              rw [← hbn2]
              show (if y = z then _ else _) = _
              rw [if_neg hyz]
          · intro hv
            rw [toK_val] at hv
            have hv' : acc.lookup j = none := Option.map_eq_none_iff.mp hv
            refine ⟨_, rfl, rfl, _, rfl, ?_⟩
            refine iteNS rfl ?_
            rw [toK_put hv']
            refine ⟨acc ++ [(j, z)], _, _, rfl, Ex.mut ((e'.trans e2).trans e3) hHd, upd_same, by rw [List.length_append]; exact Nat.succ_le_succ hacc, ?_⟩
            have hbn2 : (match acc.lookup j with | none => bndF (es.drop (i + 1)) (ws.drop (i + 1)) (acc ++ [(j, z)]) | some y => if y = z then bndF (es.drop (i + 1)) (ws.drop (i + 1)) acc else none) = bnd es ws := hbn
            rw [hv'] at hbn2
            exact hbn2
        | w x =>
          refine s_if (b := false) (et_B (ev_call (ea_cons (ev_var rfl) ea_nil) (sp_is_int (e := .w x)))) (fun q => nomatch q) (fun _ H3 e3 => ?_)
          have hbn2 : (if x = z then bndF (es.drop (i + 1)) (ws.drop (i + 1)) acc else none) = bnd es ws := hbn
          refine ⟨_, rfl, _, rfl, rfl, _, rfl, ?_⟩
          by_cases hyz : x = z
          · subst hyz
            refine iteNS rfl ?_
            rw [if_pos rfl] at hbn2
            exact ⟨acc, _, _, rfl, (e'.trans e2).trans e3, e3 _ _ hd2, by omega, hbn2⟩
          · have hf : decide (V.str x = V.str z) = false := decide_eq_false fun q => hyz (V.str.inj q)
            show if (!decide (V.str x = V.str z)) = true then _ else _
            rw [hf]
            refine iteT ?_
            rw [if_neg hyz] at hbn2
            exact qn hbn2.symm _ ((e'.trans e2).trans e3)
      · rintro σ' H' ⟨acc, v3, v4, rfl, e', hd', _, hbn⟩
        rw [hmin, List.drop_length] at hbn
        exact ⟨_, rfl, qs acc hbn.symm d H' (fresh_back e1 hd) e' hd'⟩
end
end Sw
namespace Sw
open PySem L2 Evl
/-! filled -/
def fillE (bs : List En) (acc : List (Int × Str)) : List Str := bs.map fun e => match e with
  | .h i => (acc.lookup i).getD default
  | .w z => z
def spFilled (K : PySem.W.Frag) : Sp := fun vs H Q _ => ∃ y a bs acc, vs = [y, .ref a] ∧ Im K H y (.tuple (entsD bs)) ∧ H a = some (.dK (toK acc)) ∧ bs.length ≤ 10000 ∧ (∀ i, En.h i ∈ bs → ∃ z, acc.lookup i = some z) ∧
  ∀ v H', Ex H H' → Im K H' v (.tuple (strsD (fillE bs acc))) → Q v H'
/-! entries among any values -/
def holesB (m : V) (i : Int) : Bool := match m with
  | .int n => decide (i ≤ n)
  | _ => true
def isEntryV (m v : V) : Bool := match v with
  | .int i => decide (1 ≤ i) && holesB m i
  | v => isWordV v
def spIsEntry : Sp := fun vs H Q _ => ∃ v m k, vs = [v, m] ∧ kindV H v = some k ∧ shortV v ∧ (m = .non ∨ ∃ n, m = .int n) ∧ ∀ H', Ex H H' → Q (.bl (isEntryV m v)) H'
def areEntriesV (k : String) (xs : List V) (m h : V) : Bool := isSeqK k && mostB m xs.length && xs.all (isEntryV h)
def spAreEntries (K : PySem.W.Frag) : Sp := fun vs H Q _ => ∃ v m h k xs, vs = [v, m, h] ∧ Looked K H v k xs ∧ (m = .non ∨ ∃ i, m = .int i) ∧ (h = .non ∨ ∃ i, h = .int i) ∧ ∀ H', Ex H H' → Q (.bl (areEntriesV k xs m h)) H'
def isIntV : V → Bool
  | .int _ => true
  | _ => false
/-- what is_goal looks at -/
inductive GoalLook (K : PySem.W.Frag) (H : Hp) (m h p : V) : V → Bool → Prop
  | kind {v : V} {k : String} : kindV H v = some k → isiK "tuple" k = false → GoalLook K H m h p v false
  | size {a : Addr} {xs : List V} : H a = some (.tup xs) → xs.length ≠ 2 → GoalLook K H m h p (.ref a) false
  | two {a : Addr} {u y : V} {ku ky : String} {ys ps : List V} : H a = some (.tup [u, y]) → kindV H u = some ku → shortV u → Looked K H y ky ys → SeqV K H p ps → ps.all flatV = true → GoalLook K H m h p (.ref a) (isWordV u && areEntriesV ky ys m h && (ys.filter isIntV).all fun e => inV e ps)
def spIsGoal (K : PySem.W.Frag) : Sp := fun vs H Q _ => ∃ v p m h b, vs = [v, p, m, h] ∧ GoalLook K H m h p v b ∧ (m = .non ∨ ∃ i, m = .int i) ∧ (h = .non ∨ ∃ i, h = .int i) ∧ ∀ H', Ex H H' → Q (.bl b) H'
theorem int_of_kind {H : Hp} {v : V} {k : String} (h : kindV H v = some k) : decide (k = "int") = isIntV v := by
  cases v with
  | ref a =>
    unfold kindV at h
    simp only at h
    split at h <;> first | (cases h; show decide _ = false; decide) | cases h
  | non => cases h; show decide _ = false; decide
  | bl _ => cases h; show decide _ = false; decide
  | int _ => cases h; rfl
  | str _ => cases h; show decide _ = false; decide
  | _ => cases h
theorem sp_int {H : Hp} {v : V} {k : String} (h : kindV H v = some k) : SpV spIsInt [v] H (.bl (isIntV v)) := fun H1 e Q q E => ⟨v, k, rfl, kind_mono e h, by rw [int_of_kind h]; exact q⟩
theorem isEntryV_no {m v : V} (h : isIntV v = false) : isEntryV m v = isWordV v := by
  cases v with
  | int i => cases h
  | _ => rfl
section
variable {P : Program} {w : World} {K : PySem.W.Frag} {mg : Str → Option Value} {base : Heap}
theorem ok_filled {f : Addr} {fd : FuncData} (F : FunD K "filled" "filled" (defArgs s_filled) (defBody s_filled) (defScope s_filled) [] [] f fd) (T : Txt K mg) (C_is_integer : C8.Cal P w K mg base 1 "is_integer" spIsInt []) : FnOk P w K mg base C8.CX0 2 f fd P_filled (spFilled K) := by
  refine F.ok sc_filled (fun vs H Q E h => ?_) (fun cdv A outer s H vs Q E hr h => ?_)
  · obtain ⟨_, _, _, _, rfl, _⟩ := h
    rfl
  · obtain ⟨y, a, bs, acc, rfl, hy, ha, hl, hh, q⟩ := h
    refine ⟨_, PSs.nox (pss_one (ps_ret (pe_callTy (call_tuple_ofK (K := K) rfl) (by rfl) T.b_tuple boot_tuple (pa_cons (pe_lc (own := [("entry", 2)]) (tt := tYes) rfl sc_filled.nd (pi_tupK (K := K) rfl (pv 0)) (blkOk_by (own := [("entry", 2)]) (N := N_filled) (sc := defScope s_filled) (by decide +kernel)) (fun _ _ _ _ _ => (pg_name (i := 2) sc_filled.nd rfl (by first | exact Or.inl rfl | exact Or.inr rfl))) (fun _ _ _ _ _ => pts_nil) (fun _ _ _ _ _ => (pe_ifExp (pt_val (C8.pe_c C_is_integer hr (by decide) rfl (pa_cons (pv 2) pa_nil))) (pe_dget (hu_of hr) (pv 1) (pv 2) (fun _ _ => rfl)) (pv 2)))) pa_nil)))), ?_⟩
    have ed : strsD (fillE bs acc) = (entsD bs).map fun d => match d with | .int i => .str ((acc.lookup i).getD default) | d => d := by
      unfold strsD fillE entsD
      rw [List.map_map, List.map_map]
      refine List.map_congr_left fun e _ => ?_
      cases e <;> rfl
    obtain ⟨b, rfl, hb⟩ := hy.ents
    have hal : ImAll K H (bs.map En.v) (entsD bs) := by
      cases hy with
      | tup ht hall => rw [← ents_at hall]; exact hall
    refine s_retI (d := .tuple (strsD (fillE bs acc))) ?_ (fun v H1 e1 hv => q v H1 e1 hv)
    rw [ed]
    refine iv_tupleL (ivl_tupM (ev_var rfl) hb.sq hal (by unfold entsD; rw [List.length_map]; omega) (fun x => rfl) fun x d H1 e1 hd hx => ?_)
    obtain ⟨e, he, rfl⟩ := List.mem_map.mp hd
    cases e with
    | h i =>
      cases hx
      obtain ⟨z, hz⟩ := hh i he
      refine iv_ifx (b := true) (et_B (ev_call (ea_cons (ev_var rfl) ea_nil) (sp_is_int (e := .h i)))) (fun _ => ?_) (fun q => nomatch q)
      show Iv K _ _ _ (.str ((acc.lookup i).getD default))
      rw [hz]
      exact iv_ev (ev_dget (a := a) (kvs := toK acc) (k := Sum.inl i) (ev_var rfl) (ev_var rfl) (e1 _ _ ha) (by rw [toK_val, hz]; rfl)) (.str _)
    | w z =>
      cases hx
      exact iv_ifx (b := false) (et_B (ev_call (ea_cons (ev_var rfl) ea_nil) (sp_is_int (e := .w z)))) (fun q => nomatch q) (fun _ => iv_var rfl (.str z))
theorem ok_is_entry {f : Addr} {fd : FuncData} (F : FunD K "is_entry" "is_entry" (defArgs s_is_entry) (defBody s_is_entry) (defScope s_is_entry) [] [] f fd) (T : Txt K mg) (C_is_integer : C8.Cal P w K mg base 1 "is_integer" spIsInt []) (C_is_word : C8.Cal P w K mg base 1 "is_word" spIsWord []) : FnOk P w K mg base C8.CX0 2 f fd P_is_entry spIsEntry := by
  refine F.ok sc_is_entry (fun vs H Q E h => ?_) (fun cdv A outer s H vs Q E hr h => ?_)
  · obtain ⟨_, _, _, rfl, _⟩ := h
    rfl
  · obtain ⟨v, m, k, rfl, hk, hs, hm, q⟩ := h
    refine ⟨_, PSs.nox (pss_cons (ps_if (pt_val (C8.pe_c C_is_integer hr (by decide) rfl (pa_cons (pv 0) pa_nil))) (pss_one (ps_ret (pe_and (pe_cmpR op_ge (pv 0) pe_int (nomark _)) (pe_one (pe_or (pe_cmpR op_isN (pv 1) pe_non (nomark _)) (pe_one (pe_cmpR op_le (pv 0) (pv 1) (nomark _)))))))) pss_nil)
      (pss_one (ps_ret (C8.pe_c C_is_word hr (by decide) rfl (pa_cons (pv 0) pa_nil))))), ?_⟩
    refine q_when (et_B (ev_call (ea_cons (ev_var rfl) ea_nil) (sp_int hk))) (fun hb H1 e1 => ?_) (fun hb H1 e1 => ?_)
    · cases v with
      | int i =>
        rcases hm with rfl | ⟨n, rfl⟩
        · refine s_ret (ev_andV (ev_op (ev_var rfl) ev_c rv_I0) fun _ => ev_orV (ev_isN (ev_var rfl)) (b := true) fun q => absurd q (by decide)) fun H2 e2 => ?_
          exact q H2 (e1.trans e2)
        · refine s_ret (ev_andV (ev_op (ev_var rfl) ev_c rv_I0) fun _ => ev_orV (ev_isN (ev_var rfl)) fun q => ev_op (ev_var rfl) (ev_var rfl) rv_I0) fun H2 e2 => ?_
          exact q H2 (e1.trans e2)
      | _ => cases hb
    · refine s_ret (ev_call (ea_cons (ev_var rfl) ea_nil) (sp_is_word (kind_mono e1 hk) hs)) fun H2 e2 => ?_
      have q2 := q H2 (e1.trans e2)
      rw [isEntryV_no hb] at q2
      exact q2
theorem sp_entry {H : Hp} {v m : V} {k : String} (h : kindV H v = some k) (hs : shortV v) (hm : m = .non ∨ ∃ n, m = .int n) : SpV spIsEntry [v, m] H (.bl (isEntryV m v)) := fun H1 e Q q E => ⟨v, m, k, rfl, kind_mono e h, hs, hm, q⟩
theorem ok_are_entries {f : Addr} {fd : FuncData} (F : FunD K "are_entries" "are_entries" (defArgs s_are_entries) (defBody s_are_entries) (defScope s_are_entries) [] [] f fd) (T : Txt K mg) (C_is_entry : C8.Cal P w K mg base 2 "is_entry" spIsEntry []) (C_is_list : C8.Cal P w K mg base 1 "is_list" spIsList []) : FnOk P w K mg base C8.CX0 3 f fd P_are_entries (spAreEntries K) := by
  refine F.ok sc_are_entries (fun vs H Q E h => ?_) (fun cdv A outer s H vs Q E hr h => ?_)
  · obtain ⟨_, _, _, _, _, rfl, _⟩ := h
    rfl
  · obtain ⟨v, m, hh, k, xs, rfl, L, hm, hhm, q⟩ := h
    refine ⟨_, PSs.nox (pss_cons (ps_if (PW.pt (pw_or (pt_not (pt_val (C8.pe_c C_is_list hr (by decide) rfl (pa_cons (pv 0) pa_nil)))) (pw_or1 (PW.pt (pw_and (pt_cmpR op_notN (pv 1) pe_non (nomark _)) (pw_and1 (pt_cmpR op_gt (pe_callB (call_len_seqK (K := K) rfl) (by rfl) T.b_len boot_len (pa_cons (pv 0) pa_nil)) (pv 1) (nomark _)))))))) (pss_one (ps_ret pe_bl)) pss_nil)
      (pss_one (ps_ret (pe_callB (cr_allK (K := K) rfl rfl) (by rfl) T.b_all (by decide +kernel) (pa_cons (pe_lc (own := [("entry", 3)]) (tt := tYes) rfl sc_are_entries.nd (pi_seqK (K := K) rfl (pv 0)) (blkOk_by (own := [("entry", 3)]) (N := N_are_entries) (sc := defScope s_are_entries) (by decide +kernel)) (fun _ _ _ _ _ => (pg_name (i := 3) sc_are_entries.nd rfl (by first | exact Or.inl rfl | exact Or.inr rfl))) (fun _ _ _ _ _ => pts_nil) (fun _ _ _ _ _ => (C8.pe_c C_is_entry hr (by decide) rfl (pa_cons (pv 3) (pa_cons (pv 2) pa_nil))))) pa_nil))))), ?_⟩
    have hlist : EvT (tNot (tB (tCall spIsList [] C8.E0 (tCons (tVar 0) tNil)))) (L2.start N_are_entries [v, m, hh]) H (!isSeqK k) :=
      et_not (et_B (ev_call (ea_cons (ev_var rfl) ea_nil) fun H1 e Q q E => ⟨v, k, rfl, kind_mono e L.kd, q⟩))
    have done : ∀ H1, Ex H H1 → isSeqK k = true → mostB m xs.length = true → tRet (tCB (rAll K) (tCons (tLc (iSeq K (tVar 0)) (gName 3) tYes (tCall spIsEntry [] C8.E0 (tCons (tVar 3) (tCons (tVar 2) tNil))) [3]) tNil)) { nx := fun x H' => Q V.non H', rt := Q } (L2.start N_are_entries [v, m, hh]) H1 := fun H1 e1 hk hmb => by
      have L1 := L.mono e1
      refine s_ret (ev_allM (l := xs) (p := isEntryV hh) (ivl_seqB (ev_var rfl) (L1.seq hk) (by have := L.len; omega) (fun x => rfl) fun x H2 e2 hx => ?_)) fun H2 e2 => ?_
      · obtain ⟨k', hk'⟩ := L1.items x hx
        exact ev_call (ea_cons (ev_var rfl) (ea_cons (ev_var rfl) ea_nil)) (sp_entry (kind_mono e2 hk') (L1.short x hx) hhm)
      · have q2 := q H2 (e1.trans e2)
        unfold areEntriesV at q2
        rw [hk, hmb, Bool.true_and, Bool.true_and] at q2
        exact q2
    have no : ∀ H1, Ex H H1 → (isSeqK k && mostB m xs.length) = false → tRet (tC (V.bl false)) { nx := fun x H' => Q V.non H', rt := Q } (L2.start N_are_entries [v, m, hh]) H1 := fun H1 e1 hb => by
      refine s_ret ev_c fun H2 e2 => ?_
      have q2 := q H2 (e1.trans e2)
      unfold areEntriesV at q2
      rw [hb, Bool.false_and] at q2
      exact q2
    rcases hm with rfl | ⟨i, rfl⟩
    · refine q_when (et_or hlist fun hl => et_and (et_test (ev_notN (ev_var rfl))) (b := false) fun h => absurd h (by decide)) (fun hb H1 e1 => no H1 e1 ?_) (fun hb H1 e1 => done H1 e1 ?_ rfl)
      · cases hk : isSeqK k with
        | false => rfl
        | true => rw [hk] at hb; exact absurd hb (by decide)
      · cases hk : isSeqK k with
        | true => rfl
        | false => rw [hk] at hb; exact absurd hb (by decide)
    · refine q_when (et_or hlist fun hl => et_and (et_test (ev_notN (ev_var rfl))) (fun _ => et_test (ev_op (ev_lenS (ev_var rfl) (L.seq ?_)) (ev_var rfl) rv_I0))) (fun hb H1 e1 => no H1 e1 ?_) (fun hb H1 e1 => ?_)
      · cases hk : isSeqK k with
        | true => rfl
        | false => rw [hk] at hl; exact absurd hl (by decide)
      · cases hk : isSeqK k with
        | false => rfl
        | true =>
          rw [hk] at hb
          show (true && decide ((xs.length : Int) ≤ i)) = false
          have h2 : decide (i < (xs.length : Int)) = true := hb
          have h3 := of_decide_eq_true h2
          rw [decide_eq_false (by omega)] <;> rfl
      · cases hk : isSeqK k with
        | false => rw [hk] at hb; simp at hb
        | true =>
          rw [hk] at hb
          have h2 : decide (i < (xs.length : Int)) = false := hb
          have h3 := of_decide_eq_false h2
          exact done H1 e1 hk (decide_eq_true (by omega))
theorem ok_is_goal {f : Addr} {fd : FuncData} (F : FunD K "is_goal" "is_goal" (defArgs s_is_goal) (defBody s_is_goal) (defScope s_is_goal) [] [] f fd) (T : Txt K mg) (C_is_integer : C8.Cal P w K mg base 1 "is_integer" spIsInt []) (C_is_word : C8.Cal P w K mg base 1 "is_word" spIsWord []) (C_are_entries : C8.Cal P w K mg base 3 "are_entries" (spAreEntries K) []) : FnOk P w K mg base C8.CX0 4 f fd P_is_goal (spIsGoal K) := by
  refine F.ok sc_is_goal (fun vs H Q E h => ?_) (fun cdv A outer s H vs Q E hr h => ?_)
  · obtain ⟨_, _, _, _, _, rfl, _⟩ := h
    rfl
  · obtain ⟨v, p, m, hh, b, rfl, G, hm, hhm, q⟩ := h
    refine ⟨_, PSs.nox (pss_cons (ps_if (PW.pt (pw_or (pt_not (pt_val (pe_callB (call_isiK' (K := K) rfl) (by rfl) T.b_isinstance (by decide +kernel) (pa_cons (pv 0) (pa_cons (pe_bltn (v := .ty "tuple") (by rfl) T.b_tuple boot_tuple rfl) pa_nil))))) (pw_or (pt_cmpR op_ne (pe_callB (call_len_seqK (K := K) rfl) (by rfl) T.b_len boot_len (pa_cons (pv 0) pa_nil)) pe_int (nomark _)) (pw_or1 (pt_not (pt_val (C8.pe_c C_is_word hr (by decide) rfl (pa_cons (pe_ix (ix_tupK (K := K) rfl) (pv 0) pe_int (fun _ _ => rfl)) pa_nil)))))))) (pss_one (ps_ret pe_bl)) pss_nil)
      (pss_cons (ps_if (pt_not (pt_val (C8.pe_c C_are_entries hr (by decide) rfl (pa_cons (pe_ix (ix_tupK (K := K) rfl) (pv 0) pe_int (fun _ _ => rfl)) (pa_cons (pv 2) (pa_cons (pv 3) pa_nil)))))) (pss_one (ps_ret pe_bl)) pss_nil)
      (pss_one (ps_ret (pe_callB (cr_allK (K := K) rfl rfl) (by rfl) T.b_all (by decide +kernel) (pa_cons (pe_lc (own := [("entry", 4)])  rfl sc_is_goal.nd (pi_seqK (K := K) rfl (pe_ix (ix_tupK (K := K) rfl) (pv 0) pe_int (fun _ _ => rfl))) (blkOk_by (own := [("entry", 4)]) (N := N_is_goal) (sc := defScope s_is_goal) (by decide +kernel)) (fun _ _ _ _ _ => (pg_name (i := 4) sc_is_goal.nd rfl (by first | exact Or.inl rfl | exact Or.inr rfl))) (fun _ _ _ _ _ => (pts_one (pt_val (C8.pe_c C_is_integer hr (by decide) rfl (pa_cons (pv 4) pa_nil))))) (fun _ _ _ _ _ => (pe_cmpR (op_in_seqK (K := K) rfl) (pv 4) (pv 1) (by rfl)))) pa_nil)))))), ?_⟩
    cases G with
    | @kind _ k hk ht =>
      refine q_when (b := true) (et_or (a := true) (b := true) (et_is (et_not (et_B (ev_isi (ev_var rfl) hk))) (by rw [ht]; rfl)) (fun z => absurd z (by decide))) (fun _ H1 e1 => ?_) (fun z => absurd z (by decide))
      exact s_ret ev_c fun H2 e2 => q H2 (e1.trans e2)
    | @size a xs ha hn =>
      have hk : kindV H (.ref a) = some "tuple" := by unfold kindV; simp only; rw [ha]
      refine q_when (b := true) (et_or (a := false) (b := true) (et_is (et_not (et_B (ev_isi (ev_var rfl) hk))) (by decide)) (fun _ => et_or (a := true) (b := true) (et_is (et_test (ev_op (ev_lenS (ev_var rfl) ⟨a, rfl, .inr (st_of ha)⟩) ev_c (rv_ne rfl))) ?_) (fun z => absurd z (by decide)))) (fun _ H1 e1 => ?_) (fun z => absurd z (by decide))
      · rw [decide_eq_false (fun q => hn (by have := V.int.inj q; omega))] <;> rfl
      · exact s_ret ev_c fun H2 e2 => q H2 (e1.trans e2)
    | @two a u y ku ky ys ps ha hku hsu L hp hflat =>
      have hk : kindV H (.ref a) = some "tuple" := by unfold kindV; simp only; rw [ha]
      refine q_when (et_or (a := false) (et_is (et_not (et_B (ev_isi (ev_var rfl) hk))) (by decide)) (fun _ => et_or (a := false) (et_is (et_test (ev_op (ev_lenS (ev_var rfl) ⟨a, rfl, .inr (st_of ha)⟩) ev_c (rv_ne rfl))) (by show (!decide (V.int ((2 : Nat) : Int) = V.int 2)) = false; decide)) (fun _ => et_not (et_B (ev_call (ea_cons (ev_ixT (ev_var rfl) ev_c (st_of ha) (by rfl)) ea_nil) (sp_is_word hku hsu)))))) (fun hb H1 e1 => ?_) (fun hb H1 e1 => ?_)
      · refine s_ret ev_c fun H2 e2 => ?_
        have q2 := q H2 (e1.trans e2)
        have hw : isWordV u = false := by
          cases h : isWordV u with
          | false => rfl
          | true => rw [h] at hb; cases hb
        rw [hw, Bool.false_and, Bool.false_and] at q2
        exact q2
      · have hw : isWordV u = true := by
          cases h : isWordV u with
          | true => rfl
          | false => rw [h] at hb; cases hb
        have L1 := L.mono e1
        have ha1 := e1 _ _ ha
        refine q_when (et_not (et_B (ev_call (ea_cons (ev_ixT (v := y) (ev_var rfl) ev_c (st_of ha1) (by rfl)) (ea_cons (ev_var rfl) (ea_cons (ev_var rfl) ea_nil))) (fun H2 e2 Q q E => ⟨y, m, hh, ky, ys, rfl, L1.mono e2, hm, hhm, q⟩)))) (fun hb2 H2 e2 => ?_) (fun hb2 H2 e2 => ?_)
        · refine s_ret ev_c fun H3 e3 => ?_
          have q2 := q H3 ((e1.trans e2).trans e3)
          have hw2 : areEntriesV ky ys m hh = false := by
            cases h : areEntriesV ky ys m hh with
            | false => rfl
            | true => rw [h] at hb2; cases hb2
          rw [hw2, Bool.and_false, Bool.false_and] at q2
          exact q2
        · have hw2 : areEntriesV ky ys m hh = true := by
            cases h : areEntriesV ky ys m hh with
            | true => rfl
            | false => rw [h] at hb2; cases hb2
          have hseq : isSeqK ky = true := by
            unfold areEntriesV at hw2
            rw [Bool.and_eq_true, Bool.and_eq_true] at hw2
            exact hw2.1.1
          have L2' := L1.mono e2
          refine s_ret (ev_allM (l := ys.filter isIntV) (p := fun e => inV e ps) (ivl_seqBF (ev_ixT (ev_var rfl) ev_c (st_of (e2 _ _ ha1)) (by rfl)) (L2'.seq hseq) (by have := L.len; omega) (fun x => rfl) (fun x H3 e3 hx => ?_) (fun x H3 e3 hx hb => ?_))) fun H3 e3 => ?_
          · obtain ⟨k', hk'⟩ := L2'.items x hx
            exact et_B (ev_call (ea_cons (ev_var rfl) ea_nil) (sp_int (kind_mono e3 hk')))
          · obtain ⟨pa, rfl, hp'⟩ := hp.mono ((e1.trans e2).trans e3)
            have hx : flatV x = true := by
              cases x with
              | int i => rfl
              | _ => cases hb
            exact ev_op (ev_var rfl) (ev_var rfl) fun H4 e4 Q q => ⟨pa, ps, rfl, hp'.imp (ex_l e4) (ex_t e4), hx, hflat, q H4 (Ex.refl H4)⟩
          · have q2 := q H3 ((e1.trans e2).trans e3)
            rw [hw, hw2, Bool.true_and, Bool.true_and] at q2
            exact q2
end
end Sw
namespace Sw
open PySem L2 Evl
/-! == and != by an own __eq__ -/
section
variable {M : Model} {prog : Program} {w : World} {A : Around} {E : Value → Shared → Prop} {s : Shared} {K : PySem.W.Frag} {x C : Addr} {ox : Obj} {od : Option Obj} {f : Addr} {y : Value}
theorem ifBound_ne {args : List Value} {Q : Option Value → Shared → Prop} (X : K.In s.heap) (I : PySem.W.InstAt s.heap x ox C od) (hs : PySem.W.findIn K (.ref C) "__ne__" = some (some (.builtin "object.__ne__")))
    (h : wpAny M A (call (.builtin "object.__ne__") (.ref x :: args)) (fun v => Q (some v)) E s) : wpAny M A (callSpecialIfBound? (.ref x) "__ne__" args) Q E s := by
  simp only [callSpecialIfBound?, bindSpecialIfBound?]
  refine wpAny_holding (wpAny_bind (wpAny_bind (wpAny_bind (I.type.here ((PySem.W.looks_findIn X hs).here ?_)))))
  refine wpAny_bind (wpAny_askSetting (wpAny_ite ?_))
  have fin : wpAny M A (call (.builtin "object.__ne__") ([.ref x] ++ args) >>= fun v => pure (some v)) Q E s := wpAny_bind (wpAny_mono h (fun v s' h' => wpAny_pure h') fun _ _ h' => h')
  split
  · exact wpAny_bind (wpAny_of_eq (F.cmp_object.ne.bind _) (wpAny_pure (by exact fin)))
  · exact wpAny_tryCatch (wpAny_bind (wpAny_of_eq (F.cmp_object.ne.bind _) (wpAny_pure (by exact fin))))
theorem entry_ne {Q : Fin → Shared → Prop} (X : K.In s.heap) (I : PySem.W.InstAt s.heap x ox C od) (he : PySem.W.findIn K (.ref C) "__eq__" = some (some (.ref f))) (hf : PySem.W.isFn K (.ref f) = true) (hu : A.units < cLine)
    (h : wpAny M A (call (.ref f) [.ref x, y]) (fun v s' => ∃ b, v = .bool b ∧ Q (.done (.ret (.bool (!b)))) s') E s) : wpAny M A (Builtin.«object.__ne__» ⟨[.ref x, y], []⟩) Q E s := by
  unfold Builtin.«object.__ne__»
  repeat (first
    | with_reducible refine wpAny_cRoomFor hu ?_
    | (refine wpAny_bind (m := callSpecialIfBound? (.ref x) (Str.ofString "__eq__") [y])
        (PySem.W.ifBound_K X I he hf (wpAny_mono h (fun r s' hr => by
          obtain ⟨b, rfl, hq⟩ := hr
          repeat (first | exact hq | exact wpAny_pure hq | exact wpAny_truthy_bool hq | (refine wpAny_bind (m := truthy (.bool _)) (wpAny_truthy_bool ?_)) | wp_step)) fun _ _ e => e)))
    | wp_step)
end
/-- what a class with an own == has -/
structure EqOwn (K : PySem.W.Frag) (C f : Addr) : Prop where
  eq : PySem.W.findIn K (.ref C) "__eq__" = some (some (.ref f))
  fn : PySem.W.isFn K (.ref f) = true
  ne : PySem.W.findIn K (.ref C) "__ne__" = some (some (.builtin "object.__ne__"))
  mro : PySem.W.mroIn K C (.type "object") = some true
section
variable {X : Cx} {n : Nat} {C f : Addr} {fd : FuncData} {ps : List Str} {sp : Sp} {E : XK} {CX : CXT}
theorem run_eqF {A : Around} {pins : List (Addr × Obj)} {s : Shared} {σ : L2.St} {H : Hp} {a b : Addr} {R : Bool → Hp → Prop} (F : FnOk X.prog X.w X.K X.mg X.base CX n f fd ps sp) (hb : Binds X.K fd ps []) (hx : Passes CX X E) (sb : Sub X n A) (I : Inv X pins σ H s)
    (h : sp [.ref a, .ref b] H (fun v H' => ∃ r, v = .bl r ∧ R r H') E) : wpAny (model X.prog X.w) A (call (.ref f) [.ref a, .ref b]) (fun v s' => ∃ r H', v = .bool r ∧ Inv X pins σ H' s' ∧ R r H') X.xe s := by
  have e0 : Env0 X.prog X.w X.K X.mg X.base A X.stack s H := by
    have e := I.env0
    exact ⟨by rw [sb.fr]; exact e.frames, e.mod, e.bs, e.bsz, e.funs, e.frf, e.hok, e.bare⟩
  have hl := F.len _ _ _ _ h
  have r2 : Vals [V.ref a, V.ref b] [Value.ref a, Value.ref b] := .cons rfl (.cons rfl .nil)
  refine wpAny_call (codeAny_mono (F.run A X.stack s H ⟨[.ref a, .ref b], []⟩ [.ref a, .ref b] [.ref a, .ref b] _ E sb.room e0 (by
    have := hb s [.ref a, .ref b] I.kIn (by simpa using hl)
    simpa using this) r2 h) fun r s' hq => ?_)
  cases r with
  | error e => exact hx pins σ H s e s' I hq
  | ok fl =>
    cases fl with
    | ret w =>
      obtain ⟨z, H', I', rz, r, ez, q⟩ := I.after hq
      subst ez
      cases rz
      exact ⟨r, H', rfl, I', q⟩
    | next => exact False.elim hq
    | brk => exact False.elim hq
    | cont => exact False.elim hq
def rOwnC (C : Addr) (sp : Sp) (E : XK) (neg : Bool) : R2 := fun x y H Q => ∃ a b dx dy fs gs, x = .ref a ∧ y = .ref b ∧ H a = some (.ins C dx fs) ∧ H b = some (.ins C dy gs) ∧ sp [.ref a, .ref b] H (fun v H' => ∃ r, v = .bl r ∧ Q (.bl (if neg then !r else r)) H') E
theorem op_eqOwn (F : FnOk X.prog X.w X.K X.mg X.base CX n f fd ps sp) (hb : Binds X.K fd ps []) (hx : Passes CX X E) (o : EqOwn X.K C f) (hr : Room n X.A) : OpR X (compareOp .Eq) (rOwnC C sp E false) := by
  intro pins s σ H x y v u Q I rx ry h
  obtain ⟨a, b, dx, dy, fs, gs, rfl, rfl, ha, hb', h⟩ := h
  cases rx
  cases ry
  obtain ⟨mA, J, _⟩ := ins_get I.hok ha
  obtain ⟨mB, J', _⟩ := ins_get I.hok hb'
  obtain ⟨od, J, _⟩ := J.look
  obtain ⟨od', J', _⟩ := J'.look
  obtain ⟨m, hF⟩ := I.fr
  show wpAny (model X.prog X.w) X.A (richCompare .Eq _ _) (EP X pins σ Q) X.xe s
  refine PySem.W.cmp_K (op := .Eq) (tb := .ref C) hr.units0 hF I.ok.mod.kin J J'.type (by simp [PySem.W.notFirst]) o.eq o.fn ?_
  refine wpAny_mono (run_eqF F hb hx ⟨hr, rfl⟩ I h) (fun v s' z => ?_) fun _ _ e => e
  obtain ⟨r, H', rfl, I', q⟩ := z
  exact ⟨.bl r, H', I', rfl, q⟩
theorem op_neOwn (F : FnOk X.prog X.w X.K X.mg X.base CX n f fd ps sp) (hb : Binds X.K fd ps []) (hx : Passes CX X E) (o : EqOwn X.K C f) (hr : Room (n + 1) X.A) : OpR X (compareOp .NotEq) (rOwnC C sp E true) := by
  intro pins s σ H x y v u Q I rx ry h
  obtain ⟨a, b, dx, dy, fs, gs, rfl, rfl, ha, hb', h⟩ := h
  cases rx
  cases ry
  obtain ⟨mA, J, _⟩ := ins_get I.hok ha
  obtain ⟨mB, J', _⟩ := ins_get I.hok hb'
  obtain ⟨od, J, _⟩ := J.look
  obtain ⟨od', J', _⟩ := J'.look
  obtain ⟨m, hF⟩ := I.fr
  have X0 := I.ok.mod.kin.keeps hF.keep
  have sb : Sub X (n + 1) X.A := ⟨hr, rfl⟩
  have one : wpAny (model X.prog X.w) X.A (tryCompare (.ref a) "__ne__" (.ref b)) (fun r s' => ∃ c, r = some (.bool (!c)) ∧ ∃ H', Inv X pins σ H' s' ∧ Q (.bl (!c)) H') X.xe s := by
    unfold tryCompare
    refine wpAny_bind (ifBound_ne X0 J o.ne ?_)
    refine wpAny_call (codeAny_call_builtin PySem.F.cmp_object.ne.plain PySem.F.cmpEntry_ne (PySem.W.check_slot PySem.F.cmpKind_ne PySem.F.cmpSplit_ne (J.type.andThen (PySem.W.looks_mroIn X0 o.mro)) (PySem.F.cmpArgs_ne _ _) ?_))
    refine entry_ne (A := X.A.in1) X0 J o.eq o.fn sb.in1.room.units0 ?_
    refine wpAny_mono (run_eqF F hb hx sb.in1 I h) (fun v s' z => ?_) fun _ _ e => e
    obtain ⟨r, H', rfl, I', q⟩ := z
    exact ⟨r, rfl, wpAny_pure ⟨r, rfl, H', I', q⟩⟩
  show wpAny (model X.prog X.w) X.A (richCompare .NotEq _ _) (EP X pins σ Q) X.xe s
  unfold richCompare
  simp only [oneThing_ref]
  refine wpAny_holding (wpAny_bind (wpAny_cRoomFor hr.units0 ?_))
  rw [cmpInfo_NotEq]
  dsimp only
  refine wpAny_bind (J.type.here (wpAny_bind (J'.type.here ?_)))
  rw [show (Value.ref C != Value.ref C) = false from by simp]
  simp only [Bool.false_eq_true, if_false]
  refine wpAny_bind (wpAny_pure ?_)
  simp only [Bool.false_eq_true, if_false]
  refine wpAny_bind (wpAny_mono one (fun v s' hv => ?_) fun _ _ e => e)
  obtain ⟨c, rfl, H', I', q⟩ := hv
  exact wpAny_pure ⟨.bl (!c), H', I', rfl, q⟩
end
/-! repr of a truth -/
def rReprB : List V → Hp → VK → Prop := fun xs H Q => ∃ b, xs = [.bl b] ∧ Q (.str (if b then "True" else "False")) H
theorem call_reprB {X : Cx} : CallR X (.builtin "repr") rReprB := by
  intro pins s σ H xs us Q I r h
  obtain ⟨b, rfl, q⟩ := h
  obtain ⟨u, rfl, ru⟩ := vals1 r
  cases ru
  exact PySem.P.repr_of_bool ⟨.str _, H, I.tok _, ⟨_, rfl⟩, q⟩
/-! an instance called -/
def tCallI (C : Addr) (sp : Sp) (E : XK) (tf : TE) (t : TA) : TE := fun σ H Q => tf σ H fun y H1 => ∃ a, y = V.ref a ∧ t σ H1 fun vs H2 => ((∃ dx vs, SlX.Slt H2 a C dx vs) ∨ ∃ dx fs, H2 a = some (.ins C dx fs)) ∧ sp (V.ref a :: vs) H2 Q E
structure CalI (P : Program) (w : World) (K : PySem.W.Frag) (mg : Str → Option Value) (base : Heap) (k : Nat) (C : Addr) (sp : Sp) : Prop where
  ex : ∃ (g : Addr) (fd : FuncData) (ps : List Str), StX.CallO K C g ∧ FnOk P w K mg base C8.CX0 k g fd ps sp ∧ Binds K fd ps []
theorem pe_callI {X : Cx} {k j : Nat} {C : Addr} {sp : Sp} {fe e : Expr} {es : List Expr} {pos : Pos} {tf : TE} {t : TA} (c : CalI X.prog X.w X.K X.mg X.base k C sp) (hr : Room j X.A) (hk : k ≤ j) (hf : PE X fe tf) (ha : PA X (e :: es) t)
    (ht : eval (.Call fe (e :: es) [] pos) X.env = (do callWith pos (← eval fe X.env) [] (backTo pos (starEach (e :: es) X.env)) (backToKw pos (keywordEach [] X.env))) := by rfl)
    (he : starEach (e :: es) X.env = (false, eval e X.env) :: starEach es X.env := by rfl) (hpl : (backTo pos (starEach es X.env)).any (·.1) = false := by rfl) : PE X (.Call fe (e :: es) [] pos) (tCallI C sp C8.E0 tf t) := by
  obtain ⟨g, fd, ps, c1, c2, c3⟩ := c.ex
  exact StX.pe_callO (E := C8.E0) hf c1 ((FnOk.raw c2 c3 .nil).imp (sp' := sp) fun vs H Q E h => by rw [List.append_nil]; exact h) (hr.mono hk) C8.pass0 ha ht he hpl
/-- a class with an own ==, by what that promises -/
structure OwnE (P : Program) (w : World) (K : PySem.W.Frag) (mg : Str → Option Value) (base : Heap) (k : Nat) (C : Addr) (sp : Sp) : Prop where
  ex : ∃ (f : Addr) (fd : FuncData) (ps : List Str), EqOwn K C f ∧ FnOk P w K mg base C8.CX0 k f fd ps sp ∧ Binds K fd ps []
theorem op_eqO {X : Cx} {k j : Nat} {C : Addr} {sp : Sp} (c : OwnE X.prog X.w X.K X.mg X.base k C sp) (hr : Room j X.A) (hk : k ≤ j) : OpR X (compareOp .Eq) (rOwnC C sp C8.E0 false) := by
  obtain ⟨f, fd, ps, c1, c2, c3⟩ := c.ex
  exact op_eqOwn c2 c3 C8.pass0 c1 (hr.mono hk)
theorem op_neO {X : Cx} {k j : Nat} {C : Addr} {sp : Sp} (c : OwnE X.prog X.w X.K X.mg X.base k C sp) (hr : Room j X.A) (hk : k + 1 ≤ j) : OpR X (compareOp .NotEq) (rOwnC C sp C8.E0 true) := by
  obtain ⟨f, fd, ps, c1, c2, c3⟩ := c.ex
  exact op_neOwn c2 c3 C8.pass0 c1 (hr.mono hk)
end Sw
namespace Sw
open PySem L2 Evl
/-! Rule -/
abbrev s_Rule_init : Stmt := inClass (top 30) 4
abbrev N_Rule_init : List Str := ["self", "state", "pattern", "goal", "is_exact"]
abbrev P_Rule_init : List Str := ["self", "state", "pattern", "goal", "is_exact"]
theorem sc_Rule_init : FnScope N_Rule_init P_Rule_init (defScope s_Rule_init) := ⟨rfl, rfl, rfl, by decide +kernel, rfl, by decide +kernel, by decide +kernel⟩
abbrev s_Rule_known_in : Stmt := inClass (top 30) 11
abbrev N_Rule_known_in : List Str := ["self", "state", "path"]
abbrev P_Rule_known_in : List Str := ["self", "state", "path"]
theorem sc_Rule_known_in : FnScope N_Rule_known_in P_Rule_known_in (defScope s_Rule_known_in) := ⟨rfl, rfl, rfl, by decide +kernel, rfl, by decide +kernel, by decide +kernel⟩
abbrev s_Rule_fits : Stmt := inClass (top 30) 12
abbrev N_Rule_fits : List Str := ["self", "address"]
abbrev P_Rule_fits : List Str := ["self", "address"]
theorem sc_Rule_fits : FnScope N_Rule_fits P_Rule_fits (defScope s_Rule_fits) := ⟨rfl, rfl, rfl, by decide +kernel, rfl, by decide +kernel, by decide +kernel⟩
abbrev s_Rule_call : Stmt := inClass (top 30) 15
abbrev N_Rule_call : List Str := ["self", "address", "known", "path"]
abbrev P_Rule_call : List Str := ["self", "address"]
theorem sc_Rule_call : FnScope N_Rule_call P_Rule_call (defScope s_Rule_call) := ⟨rfl, rfl, rfl, by decide +kernel, rfl, by decide +kernel, by decide +kernel⟩
abbrev s_Address_eq : Stmt := inClass (top 15) 10
abbrev N_Address_eq : List Str := ["self", "other"]
abbrev P_Address_eq : List Str := ["self", "other"]
theorem sc_Address_eq : FnScope N_Address_eq P_Address_eq (defScope s_Address_eq) := ⟨rfl, rfl, rfl, by decide +kernel, rfl, by decide +kernel, by decide +kernel⟩
abbrev Goal := Option (Str × List En)
def EntsV (H : Hp) (y : V) (es : List En) : Prop := (∃ a, y = .ref a ∧ H a = some (.lst (es.map En.v))) ∨ (∃ a, y = .ref a ∧ H a = some (.tup (es.map En.v)))
inductive GoalV (H : Hp) : V → Goal → Prop
  | no : GoalV H .non none
  | yes {a : Addr} {y : V} {z : Str} {bs : List En} : H a = some (.tup [.str z, y]) → EntsV H y bs → GoalV H (.ref a) (some (z, bs))
def entOk : En → Bool
  | .h i => decide (1 ≤ i) && decide (i ≤ 2)
  | .w z => isWord z
structure RuleOk (st : Str) (es : List En) (g : Goal) : Prop where
  st : isWord st = true
  len : es.length ≤ 2
  ents : es.all entOk = true
  goal : ∀ z bs, g = some (z, bs) → isWord z = true ∧ bs.length ≤ 4 ∧ bs.all entOk = true ∧ ∀ i, En.h i ∈ bs → En.h i ∈ es
def goalD : Goal → PyData
  | none => .none
  | some (z, bs) => .tuple [.str z, .tuple (entsD bs)]
def rF (st : Str) (p g : V) (e : Bool) : List (Str × V) := [("own_state", .str st), ("own_pattern", p), ("own_goal", g), ("own_exact", .bl e)]
abbrev rKs : List Str := ["own_state", "own_pattern", "own_goal", "own_exact"]
theorem rF_put1 (st : Str) : putF "own_state" (.str st) [] = [(("own_state" : Str), V.str st)] := rfl
theorem rF_put2 (st : Str) (p : V) : putF "own_pattern" p [(("own_state" : Str), V.str st)] = ([("own_state", .str st), ("own_pattern", p)] : List (Str × V)) := putF_end ["own_state"] rfl (by decide +kernel)
theorem rF_put3 (st : Str) (p g : V) : putF "own_goal" g ([("own_state", .str st), ("own_pattern", p)] : List (Str × V)) = ([("own_state", .str st), ("own_pattern", p), ("own_goal", g)] : List (Str × V)) := putF_end ["own_state", "own_pattern"] rfl (by decide +kernel)
theorem rF_put4 (st : Str) (p g : V) (e : Bool) : putF "own_exact" (.bl e) ([("own_state", .str st), ("own_pattern", p), ("own_goal", g)] : List (Str × V)) = rF st p g e := putF_end ["own_state", "own_pattern", "own_goal"] rfl (by decide +kernel)
theorem rF_state (st : Str) (p g : V) (e : Bool) : (rF st p g e).lookup ("own_state" : Str) = some (.str st) := lk rKs 0 rfl rfl (by decide +kernel)
theorem rF_pattern (st : Str) (p g : V) (e : Bool) : (rF st p g e).lookup ("own_pattern" : Str) = some p := lk rKs 1 rfl rfl (by decide +kernel)
theorem rF_goal (st : Str) (p g : V) (e : Bool) : (rF st p g e).lookup ("own_goal" : Str) = some g := lk rKs 2 rfl rfl (by decide +kernel)
theorem rF_exact (st : Str) (p g : V) (e : Bool) : (rF st p g e).lookup ("own_exact" : Str) = some (.bl e) := lk rKs 3 rfl rfl (by decide +kernel)
def RuleAt (K : PySem.W.Frag) (H : Hp) (x : Addr) (st : Str) (es : List En) (g : Goal) (e : Bool) : Prop := ∃ dx p q, H x = some (.ins (He.ga K "Rule") dx (rF st p q e)) ∧ Im K H p (.tuple (entsD es)) ∧ Im K H q (goalD g)
theorem RuleAt.mono {K : PySem.W.Frag} {H H' : Hp} {x : Addr} {st : Str} {es : List En} {g : Goal} {e : Bool} (ex : Ex H H') (h : RuleAt K H x st es g e) : RuleAt K H' x st es g e := by
  obtain ⟨dx, p, q, h1, h2, h3⟩ := h
  exact ⟨dx, p, q, ex _ _ h1, Im.mono (Et.of ex) h2, Im.mono (Et.of ex) h3⟩
def spRule (K : PySem.W.Frag) : Sp := fun vs H Q _ => ∃ x dx st y g es go e, vs = [.ref x, .str st, y, g, .bl e] ∧ H x = some (.ins (He.ga K "Rule") dx []) ∧ RuleOk st es go ∧ EntsV H y es ∧ GoalV H g go ∧
  ∀ H', But x H H' → RuleAt K H' x st es go e → Q .non H'
theorem EntsV.but {x C dx : Addr} {fs : List (Str × V)} {H H1 : Hp} {y : V} {es : List En} (b : But x H H1) (hx : H x = some (.ins C dx fs)) (h : EntsV H y es) : EntsV H1 y es := by
  rcases h with ⟨a, rfl, ha⟩ | ⟨a, rfl, ha⟩
  · exact .inl ⟨a, rfl, b a _ (ne_of ha hx fun q => nomatch q) ha⟩
  · exact .inr ⟨a, rfl, b a _ (ne_of ha hx fun q => nomatch q) ha⟩
theorem EntsV.mono {H H1 : Hp} {y : V} {es : List En} (e : Ex H H1) (h : EntsV H y es) : EntsV H1 y es := h.imp (fun ⟨a, h1, h2⟩ => ⟨a, h1, e _ _ h2⟩) fun ⟨a, h1, h2⟩ => ⟨a, h1, e _ _ h2⟩
theorem GoalV.mono {H H1 : Hp} {y : V} {g : Goal} (e : Ex H H1) (h : GoalV H y g) : GoalV H1 y g := by
  cases h with
  | no => exact .no
  | yes h1 h2 => exact .yes (e _ _ h1) (h2.mono e)
theorem GoalV.but {x C dx : Addr} {fs : List (Str × V)} {H H1 : Hp} {y : V} {g : Goal} (b : But x H H1) (hx : H x = some (.ins C dx fs)) (h : GoalV H y g) : GoalV H1 y g := by
  cases h with
  | no => exact .no
  | yes h1 h2 => exact .yes (b _ _ (ne_of h1 hx fun q => nomatch q) h1) (h2.but b hx)
theorem entOk_short {e : En} (h : entOk e = true) : shortV e.v := by
  cases e with
  | h i => exact trivial
  | w z =>
    have := isWord_short h
    exact show z.length ≤ 30000 by omega
theorem ents_looked {K : PySem.W.Frag} {H : Hp} {y : V} {es : List En} (h : EntsV H y es) (hl : es.length ≤ 10000) (hw : es.all entOk = true) : ∃ k, Looked K H y k (es.map En.v) ∧ isSeqK k = true := by
  have items : ∀ x ∈ es.map En.v, (∃ k', kindV H x = some k') ∧ shortV x := fun x hx => by
    obtain ⟨e, he, rfl⟩ := List.mem_map.mp hx
    have hs := entOk_short (List.all_eq_true.mp hw e he)
    cases e with
    | h i => exact ⟨⟨_, rfl⟩, hs⟩
    | w z => exact ⟨⟨_, rfl⟩, hs⟩
  rcases h with ⟨a, rfl, ha⟩ | ⟨a, rfl, ha⟩
  · exact ⟨"list", ⟨by unfold kindV; simp only; rw [ha], fun _ => ⟨a, rfl, .inl (sq_of ha)⟩, by rw [List.length_map]; omega, fun x hx => (items x hx).1, fun x hx => (items x hx).2⟩, by decide⟩
  · exact ⟨"tuple", ⟨by unfold kindV; simp only; rw [ha], fun _ => ⟨a, rfl, .inr (st_of ha)⟩, by rw [List.length_map]; omega, fun x hx => (items x hx).1, fun x hx => (items x hx).2⟩, by decide⟩
theorem ents_yes {k : String} {es : List En} {n : Int} (hk : isSeqK k = true) (hl : (es.length : Int) ≤ n) (hw : es.all entOk = true) : areEntriesV k (es.map En.v) (.int n) (.int 2) = true := by
  unfold areEntriesV
  rw [hk, Bool.true_and, Bool.and_eq_true]
  constructor
  · show decide (((es.map En.v).length : Int) ≤ n) = true
    rw [List.length_map]
    exact decide_eq_true (by omega)
  · rw [List.all_map, List.all_eq_true]
    intro e he
    have := List.all_eq_true.mp hw e he
    cases e with
    | h i => exact this
    | w z => exact this
theorem inV_ent {i : Int} : ∀ {es : List En}, En.h i ∈ es → inV (.int i) (es.map En.v) = true := fun {es} h => by
  show ((es.map En.v).any fun y => eqV y (.int i)) = true
  rw [List.any_map, List.any_eq_true]
  exact ⟨_, h, beq_self_eq_true i⟩
theorem goal_in {es bs : List En} (h : ∀ i, En.h i ∈ bs → En.h i ∈ es) : (((bs.map En.v).filter isIntV).all fun e => inV e (es.map En.v)) = true := by
  rw [List.all_eq_true]
  intro v hv
  obtain ⟨h1, h2⟩ := List.mem_filter.mp hv
  obtain ⟨e, he, rfl⟩ := List.mem_map.mp h1
  cases e with
  | h i => exact inV_ent (h i he)
  | w z => cases h2
theorem ents_flat (es : List En) : (es.map En.v).all flatV = true := by
  rw [List.all_map, List.all_eq_true]
  intro e _
  cases e <;> rfl
theorem EntsV.seq {K : PySem.W.Frag} {H : Hp} {y : V} {es : List En} (h : EntsV H y es) : SeqV K H y (es.map En.v) := by
  rcases h with ⟨a, rfl, ha⟩ | ⟨a, rfl, ha⟩
  · exact ⟨a, rfl, .inl (sq_of ha)⟩
  · exact ⟨a, rfl, .inr (st_of ha)⟩
theorem ImAll.ents {K : PySem.W.Frag} {H : Hp} : ∀ es : List En, ImAll K H (es.map En.v) (entsD es)
  | [] => .nil
  | .h i :: es => .cons (.int i) (ImAll.ents es)
  | .w z :: es => .cons (.str z) (ImAll.ents es)
theorem EntsV.tup {K : PySem.W.Frag} {H : Hp} {y : V} {es : List En} (h : EntsV H y es) : (∃ a, y = .ref a ∧ H a = some (.lst (es.map En.v))) ∨ ∃ a, y = .ref a ∧ TupAt K H a (es.map En.v) := h.imp id fun ⟨a, h1, h2⟩ => ⟨a, h1, h2⟩
section
variable {P : Program} {w : World} {K : PySem.W.Frag} {mg : Str → Option Value} {base : Heap}
theorem ok_Rule_init {f : Addr} {fd : FuncData} {dv : V} {kws : List (Str × V)} (F : FunD K "__init__" "Rule.__init__" (defArgs s_Rule_init) (defBody s_Rule_init) (defScope s_Rule_init) [dv] kws f fd) (T : Txt K mg) (C_is_word : C8.Cal P w K mg base 1 "is_word" spIsWord [])
    (C_are_entries : C8.Cal P w K mg base 3 "are_entries" (spAreEntries K) []) (C_is_goal : C8.Cal P w K mg base 4 "is_goal" (spIsGoal K) []) : FnOk P w K mg base C8.CX0 5 f fd P_Rule_init (spRule K) := by
  refine F.ok sc_Rule_init (fun vs H Q E h => ?_) (fun cdv A outer s H vs Q E hr h => ?_)
  · obtain ⟨_, _, _, _, _, _, _, _, rfl, _⟩ := h
    rfl
  · obtain ⟨x, dx, st, y, g, es, go, e, rfl, hx, ok, hy, hg, q⟩ := h
    refine ⟨_, PSs.nox (pss_cons (ps_if (pt_not (pt_val (C8.pe_c C_is_word hr (by decide) rfl (pa_cons (pv 1) pa_nil)))) (pss_one ps_never) pss_nil)
      (pss_cons (ps_if (pt_not (pt_val (C8.pe_c C_are_entries hr (by decide) rfl (pa_cons (pv 2) (pa_cons (pe_conK (K := K) rfl (pv 0) rfl) (pa_cons (pe_conK (K := K) rfl (pv 0) rfl) pa_nil)))))) (pss_one ps_never) pss_nil)
      (pss_cons (ps_if (PW.pt (pw_and (pt_cmpR op_notN (pv 3) pe_non (nomark _)) (pw_and1 (pt_not (pt_val (C8.pe_c C_is_goal hr (by decide) rfl (pa_cons (pv 3) (pa_cons (pv 2) (pa_cons (pe_conK (K := K) rfl (pv 0) rfl) (pa_cons (pe_conK (K := K) rfl (pv 0) rfl) pa_nil)))))))))) (pss_one ps_never) pss_nil)
      (pss_cons (ps_if (pt_not (pt_val (pe_callB (call_isiK' (K := K) rfl) (by rfl) T.b_isinstance (by decide +kernel) (pa_cons (pv 4) (pa_cons (pe_bltn (v := .ty "bool") (by rfl) T.b_bool boot_bool rfl) pa_nil))))) (pss_one ps_never) pss_nil)
      (pss_cons (ps_fldK (K := K) rfl (pv 0) (pv 1) rfl)
      (pss_cons (ps_fldK (K := K) rfl (pv 0) (pe_callTy (call_tuple_ofK (K := K) rfl) (by rfl) T.b_tuple boot_tuple (pa_cons (pv 2) pa_nil)) rfl)
      (pss_cons (ps_fldK (K := K) rfl (pv 0) (pe_ifExp (pt_cmpR op_isN (pv 3) pe_non (nomark _)) pe_non (pe_tup (pa_cons (pe_ix (ix_tupK (K := K) rfl) (pv 3) pe_int (fun _ _ => rfl)) (pa_cons (pe_callTy (call_tuple_ofK (K := K) rfl) (by rfl) T.b_tuple boot_tuple (pa_cons (pe_ix (ix_tupK (K := K) rfl) (pv 3) pe_int (fun _ _ => rfl)) pa_nil)) pa_nil)))) rfl)
      (pss_one (ps_fldK (K := K) rfl (pv 0) (pv 4) rfl))))))))), ?_⟩
    have hst8 := isWord_short ok.st
    obtain ⟨uP, kP⟩ := T.k_Rule_MOST_PATTERN
    obtain ⟨uB, kB⟩ := T.k_Rule_MOST_BEGINNING
    obtain ⟨uH, kH⟩ := T.k_Rule_HOLES
    have con : ∀ {σ : L2.St} {H1 : Hp} {f : Str} {i : Int} {u : Value}, σ[0]? = some (some (.ref x)) → Ex H H1 → Con K (He.ga K "Rule") f (.int i) u → Ev (tCon K (tVar 0) f) σ H1 (.int i) := fun hσ e1 c =>
      ev_con (ev_var hσ) (e1 _ _ hx) T.c_Rule c rfl
    obtain ⟨ky, L, hky⟩ := ents_looked (K := K) hy (by have := ok.len; omega) ok.ents
    refine q_when (b := false) (et_is (et_not (et_B (ev_call (ea_cons (ev_var rfl) ea_nil) (sp_is_word (v := .str st) (k := "str") rfl (show st.length ≤ 30000 by omega))))) (by show (!isWord st) = false; rw [ok.st]; rfl)) (fun z => nomatch z) (fun _ H1 e1 => ?_)
    refine q_when (b := false) (et_is (et_not (et_B (ev_call (ea_cons (ev_var rfl) (ea_cons (con rfl e1 kP) (ea_cons (con rfl e1 kH) ea_nil))) (fun H2 e2 Q q E => ⟨y, .int 2, .int 2, ky, _, rfl, (L.mono e1).mono e2, .inr ⟨_, rfl⟩, .inr ⟨_, rfl⟩, q⟩)))) (by show (!_) = false; rw [ents_yes (n := 2) hky (by have := ok.len; omega) ok.ents]; rfl)) (fun z => nomatch z) (fun _ H2 e2 => ?_)
    have e02 := e1.trans e2
    have hgoal : EvT (tAnd (tTest (tOp (fun x y H Q => y = .non ∧ Q (.bl (!decide (x = .non))) H) (tVar 3) (tC .non))) (tNot (tB (tCall (spIsGoal K) [] C8.E0 (tCons (tVar 3) (tCons (tVar 2) (tCons (tCon K (tVar 0) "MOST_BEGINNING") (tCons (tCon K (tVar 0) "HOLES") tNil)))))))) (L2.start N_Rule_init [.ref x, .str st, y, g, .bl e]) H2 false := by
      cases hg with
      | no => exact et_and (a := false) (b := false) (et_is (et_test (ev_notN (v := .non) (ev_var rfl))) (by rfl)) fun h => nomatch h
      | @yes a y2 z bs h1 h2 =>
        obtain ⟨w1, w2, w3, w4⟩ := ok.goal z bs rfl
        have hz8 := isWord_short w1
        obtain ⟨kb, Lb, hkb⟩ := ents_looked (K := K) h2 (by omega) w3
        refine et_and (a := true) (b := false) (et_is (et_test (ev_notN (v := .ref a) (ev_var rfl))) (by rfl)) fun _ => et_is (et_not (et_B (ev_call (ea_cons (ev_var rfl) (ea_cons (ev_var rfl) (ea_cons (con rfl e02 kB) (ea_cons (con rfl e02 kH) ea_nil)))) (fun H3 e3 Q q E => ⟨.ref a, y, .int 4, .int 2, _, rfl, .two (ku := "str") ((e02.trans e3) _ _ h1) rfl (show z.length ≤ 30000 by omega) (Lb.mono (e02.trans e3)) (hy.mono (e02.trans e3)).seq (ents_flat es), .inr ⟨_, rfl⟩, .inr ⟨_, rfl⟩, q⟩)))) ?_
        show (!(isWord z && areEntriesV kb (bs.map En.v) (.int 4) (.int 2) && _)) = false
        rw [w1, ents_yes (n := 4) hkb (by omega) w3, goal_in w4]
        rfl
    refine q_when hgoal (fun z => nomatch z) (fun _ H3 e3 => ?_)
    have e03 := e02.trans e3
    refine q_when (b := false) (et_is (et_not (et_B (ev_isi (k := "bool") (ev_var (v := .bl e) rfl) rfl))) (by decide)) (fun z => nomatch z) (fun _ H4 e4 => ?_)
    have e04 := e03.trans e4
    refine q_fld (ev_var rfl) rfl (e04 _ _ hx) T.c_Rule T.n_Rule_state (by show 0 < 1000; decide) fun H5 e5 => ?_
    rw [rF_put1]
    have b5 : But x H (L2.upd H5 x (.ins (He.ga K "Rule") dx [("own_state", .str st)])) := (But.of (e04.trans e5)).upd
    refine q_fldI (d := .tuple (entsD es)) (iv_tuple (ev_var rfl) (ImAll.ents es) (hy.but b5 hx).tup) rfl upd_same T.c_Rule T.n_Rule_pattern (by show 1 < 1000; decide) fun p H6 e6 hp6 => ?_
    rw [rF_put2]
    have x6 := e6 _ _ upd_same
    have hp7 : Im K (L2.upd H6 x (.ins (He.ga K "Rule") dx [("own_state", .str st), ("own_pattern", p)])) p (.tuple (entsD es)) := Im.mono (et_ins x6) hp6
    have b6 := (b5.ex e6).upd (o := .ins (He.ga K "Rule") dx [("own_state", .str st), ("own_pattern", p)])
    have hg6 := hg.but b6 hx
    have hgv : Iv K (tIf (tTest (tOp (fun x y H Q => y = .non ∧ Q (.bl (decide (x = .non))) H) (tVar 3) (tC .non))) (tC .non) (tTup (tCons (tOp (rIxT K) (tVar 3) (tC (.int 0))) (tCons (tCB (rTupleQ K) (tCons (tOp (rIxT K) (tVar 3) (tC (.int 1))) tNil)) tNil)))) (L2.start N_Rule_init [.ref x, .str st, y, g, .bl e]) (L2.upd H6 x (.ins (He.ga K "Rule") dx [("own_state", .str st), ("own_pattern", p)])) (goalD go) := by
      cases hg6 with
      | no => exact iv_ifx (b := true) (et_is (et_test (ev_isN (v := .non) (ev_var rfl))) (by rfl)) (fun _ => iv_ev ev_c .non) (fun z => nomatch z)
      | @yes a y2 z bs h1 h2 =>
        refine iv_ifx (b := false) (et_is (et_test (ev_isN (v := .ref a) (ev_var rfl))) (by rfl)) (fun z => nomatch z) (fun _ => ?_)
        exact iv_tup (iva_cons (iv_ev (ev_ixT (v := .str z) (ev_var rfl) ev_c (st_of h1) (by rfl)) (.str _)) (iva_cons (iv_tuple (ev_ixT (v := y2) (ev_var rfl) ev_c (st_of h1) (by rfl)) (ImAll.ents bs) h2.tup) iva_nil)) (by show 2 ≤ 100000; decide)
    refine q_fldI (d := goalD go) hgv rfl upd_same T.c_Rule T.n_Rule_goal (by show 2 < 1000; decide) fun gv H7 e7 hg7 => ?_
    rw [rF_put3]
    have x7 := e7 _ _ upd_same
    have b7 := (b6.ex e7).upd (o := .ins (He.ga K "Rule") dx [("own_state", .str st), ("own_pattern", p), ("own_goal", gv)])
    refine s_fld (ev_var rfl) rfl upd_same T.c_Rule T.n_Rule_exact (by show 3 < 1000; decide) fun H8 e8 => ?_
    rw [rF_put4]
    have x8 := e8 _ _ upd_same
    exact q _ (b7.ex e8).upd ⟨dx, p, gv, upd_same, Im.mono (et_ins x8) (Im.mono (Et.of e8) (Im.mono (et_ins x7) (Im.mono (Et.of e7) hp7))), Im.mono (et_ins x8) (Im.mono (Et.of e8) (Im.mono (et_ins x7) hg7))⟩
end
end Sw
namespace Sw
open PySem L2 Evl
/-! == of data -/
def ShD (n : Nat) (d : PyData) : Prop := d.canLay0 = true ∧ d.depth ≤ n
theorem ShD.shaped {n : Nat} {d : PyData} (h : ShD n d) (hn : n ≤ 64) : SeqAt.shaped d = true := by
  unfold SeqAt.shaped
  rw [h.1, Bool.true_and]
  exact decide_eq_true (Nat.le_trans h.2 hn)
theorem ShD.all {n : Nat} : ∀ {ds : List PyData}, (∀ d ∈ ds, ShD n d) → PyData.canLayAll0 ds = true ∧ PyData.depthAll ds ≤ n
  | [], _ => ⟨rfl, Nat.zero_le _⟩
  | d :: ds, h => by
    have h1 := h d List.mem_cons_self
    have h2 := ShD.all (ds := ds) fun x hx => h x (List.mem_cons_of_mem _ hx)
    refine ⟨?_, ?_⟩
    · show (d.canLay0 && PyData.canLayAll0 ds) = true
      rw [h1.1, h2.1]; rfl
    · show max d.depth (PyData.depthAll ds) ≤ n
      exact Nat.max_le.mpr ⟨h1.2, h2.2⟩
theorem ShD.tup {n : Nat} {ds : List PyData} (h : ∀ d ∈ ds, ShD n d) : ShD (n + 1) (.tuple ds) := ⟨(ShD.all h).1, Nat.succ_le_succ (ShD.all h).2⟩
theorem ShD.lst {n : Nat} {ds : List PyData} (h : ∀ d ∈ ds, ShD n d) : ShD (n + 1) (.list ds) := ⟨(ShD.all h).1, Nat.succ_le_succ (ShD.all h).2⟩
theorem ShD.int (n : Nat) (i : Int) : ShD n (.int i) := ⟨rfl, Nat.zero_le _⟩
theorem ShD.non (n : Nat) : ShD n .none := ⟨rfl, Nat.zero_le _⟩
theorem ShD.bl (n : Nat) (b : Bool) : ShD n (.bool b) := ⟨rfl, Nat.zero_le _⟩
theorem ShD.str {n : Nat} {z : Str} (h : PyData.strOk z = true) : ShD n (.str z) := ⟨h, Nat.zero_le _⟩
theorem letters_ok : letters.all (fun c => decide (c < 128)) = true := by decide +kernel
theorem word_ok {z : Str} (h : isWord z = true) : PyData.strOk z = true := by
  unfold isWord at h
  rw [Bool.and_eq_true] at h
  have h2 : ∀ c ∈ z.cps.toList, c < 128 := fun c hc => of_decide_eq_true (List.all_eq_true.mp letters_ok c (of_decide_eq_true (List.all_eq_true.mp h.2 c hc)))
  unfold PyData.strOk
  rw [← Array.all_toList, List.all_eq_true]
  exact fun c hc => decide_eq_true (by have := h2 c hc; omega)
mutual
def exD : PyData → Bool
  | .none => true
  | .int _ => true
  | .str _ => true
  | .tuple ds => exA ds
  | .list ds => exA ds
  | _ => false
def exA : List PyData → Bool
  | [] => true
  | d :: ds => exD d && exA ds
end
mutual
theorem eqv_ex : ∀ {d e : PyData}, exD d = true → exD e = true → PyData.eqv d e = true → d = e
  | .none, e, _, he, h => by cases e <;> first | rfl | cases h
  | .int i, e, _, he, h => by
    cases e with
    | int j => exact congrArg PyData.int (eq_of_beq (show (i == j) = true from h))
    | bool b => cases he
    | _ => cases h
  | .str x, e, _, he, h => by
    cases e with
    | str y => exact congrArg PyData.str (eq_of_beq (show (x == y) = true from h))
    | _ => cases h
  | .tuple ds, e, hd, he, h => by
    cases e with
    | tuple es => exact congrArg PyData.tuple (eqv_exA hd he h)
    | _ => cases h
  | .list ds, e, hd, he, h => by
    cases e with
    | list es => exact congrArg PyData.list (eqv_exA hd he h)
    | _ => cases h
  | .bool b, e, hd, _, _ => by cases hd
  | .dict _, e, hd, _, _ => by cases hd
theorem eqv_exA : ∀ {ds es : List PyData}, exA ds = true → exA es = true → PyData.eqvAll ds es = true → ds = es
  | [], [], _, _, _ => rfl
  | [], _ :: _, _, _, h => by cases h
  | _ :: _, [], _, _, h => by cases h
  | d :: ds, e :: es, hd, he, h => by
    obtain ⟨h1, h2⟩ := Bool.and_eq_true_iff.mp (show (d.eqv e && PyData.eqvAll ds es) = true from h)
    obtain ⟨d1, d2⟩ := Bool.and_eq_true_iff.mp (show (exD d && exA ds) = true from hd)
    obtain ⟨e1, e2⟩ := Bool.and_eq_true_iff.mp (show (exD e && exA es) = true from he)
    rw [eqv_ex d1 e1 h1, eqv_exA d2 e2 h2]
end
mutual
theorem eqv_same : ∀ {d : PyData}, exD d = true → PyData.eqv d d = true
  | .none, _ => rfl
  | .int i, _ => beq_self_eq_true i
  | .str x, _ => beq_self_eq_true x
  | .tuple ds, h => eqv_sameA (ds := ds) h
  | .list ds, h => eqv_sameA (ds := ds) h
  | .bool b, h => by cases h
  | .dict _, h => by cases h
theorem eqv_sameA : ∀ {ds : List PyData}, exA ds = true → PyData.eqvAll ds ds = true
  | [], _ => rfl
  | d :: ds, h => by
    obtain ⟨d1, d2⟩ := Bool.and_eq_true_iff.mp (show (exD d && exA ds) = true from h)
    show (d.eqv d && PyData.eqvAll ds ds) = true
    rw [eqv_same d1, eqv_sameA d2]; rfl
end
theorem exA_all {ds : List PyData} (h : ∀ d ∈ ds, exD d = true) : exA ds = true := by
  induction ds with
  | nil => rfl
  | cons d ds ih =>
    show (exD d && exA ds) = true
    rw [h d List.mem_cons_self, ih fun x hx => h x (List.mem_cons_of_mem _ hx)]; rfl
theorem strs_ex (ws : List Str) : exD (.tuple (strsD ws)) = true := exA_all fun d hd => by
  obtain ⟨z, _, rfl⟩ := List.mem_map.mp hd
  rfl
theorem words_sh {ws : List Str} (h : isWords ws = true) (n : Nat) : ShD (n + 1) (.tuple (strsD ws)) := ShD.tup fun d hd => by
  obtain ⟨z, hz, rfl⟩ := List.mem_map.mp hd
  exact ShD.str (word_ok (List.all_eq_true.mp h z hz))
theorem strsD_inj {ws us : List Str} (h : strsD ws = strsD us) : ws = us := by
  induction ws generalizing us with
  | nil => cases us with
    | nil => rfl
    | cons _ _ => cases h
  | cons a ws ih => cases us with
    | nil => cases h
    | cons b us =>
      injection h with h1 h2
      injection h1 with h1
      rw [h1, ih h2]
end Sw
namespace Sw
open PySem L2 Evl
section
variable {K : PySem.W.Frag} {σ : L2.St} {H : Hp} {ta tb te : TE}
theorem call_ea {sp : Sp} {dvs vs : List V} {E : XK} {ta : TA} {Q : VK} (h : EvA ta σ H vs) (hs : ∀ H1, Ex H H1 → sp (vs ++ dvs) H1 Q E) : tCall sp dvs E ta σ H Q := h H (Ex.refl H) _ fun H1 e => hs H1 e
/-- tuple + tuple -/
theorem iv_cat {ds es : List PyData} (h1 : Iv K ta σ H (.tuple ds)) (h2 : Iv K tb σ H (.tuple es)) (hl : ds.length + es.length ≤ 100000) : Iv K (tOp (rCatA K) ta tb) σ H (.tuple (ds ++ es)) := fun H1 e1 Q q =>
  h1 H1 e1 _ fun v H2 e2 hv => h2 H2 (e1.trans e2) _ fun u H3 e3 hu => by
    cases Im.mono (Et.of e3) hv with
    | @tup a xs _ ha hxs =>
      cases hu with
      | @tup b ys _ hb hys =>
        refine ⟨a, b, xs, ys, rfl, rfl, ha.sq, hb.sq, sz_of (by rw [hxs.length, hys.length]; exact hl), fun hx => ?_, fun hx hy => ?_, fun hx hy p hp => ?_⟩
        · subst hx
          cases hxs
          exact q _ _ (e2.trans e3) (.tup hb hys)
        · subst hy
          cases hys
          rw [List.append_nil] at q
          exact q _ _ (e2.trans e3) (.tup ha hxs)
        · exact q _ _ ((e2.trans e3).trans (Ex.new hp)) (.tup upd_same (ImAll.mono (Et.of (Ex.new hp)) (ImAll.app hys hxs)))
theorem cut_from {xs : List V} {n : Nat} : cutV xs (some (n : Int)) none = xs.drop n := by
  unfold cutV
  rw [HT.sIx_nat, HT.sIx_none]
  by_cases h : n ≤ xs.length
  · rw [Nat.min_eq_left h, List.take_of_length_le (by rw [List.length_drop]; omega)]
  · rw [Nat.min_eq_right (by omega), List.drop_of_length_le (Nat.le_refl _), List.drop_of_length_le (by omega), List.take_nil]
theorem cut_to {xs : List V} {n : Nat} : cutV xs none (some (n : Int)) = xs.take n := by
  unfold cutV
  rw [HT.sIx_nat, HT.sIx_none, List.drop_zero, Nat.sub_zero]
  by_cases h : n ≤ xs.length
  · rw [Nat.min_eq_left h]
  · rw [Nat.min_eq_right (by omega), List.take_of_length_le (Nat.le_refl _), List.take_of_length_le (by omega)]
theorem cut_mid {xs : List V} {n m : Nat} : cutV xs (some (n : Int)) (some (m : Int)) = (xs.drop n).take (m - n) := by
  unfold cutV
  rw [HT.sIx_nat, HT.sIx_nat]
  by_cases h : n ≤ xs.length
  · rw [Nat.min_eq_left h]
    by_cases h2 : m ≤ xs.length
    · rw [Nat.min_eq_left h2]
    · rw [Nat.min_eq_right (by omega), List.take_of_length_le (by rw [List.length_drop]; omega), List.take_of_length_le (by rw [List.length_drop]; omega)]
  · rw [Nat.min_eq_right (a := n) (b := xs.length) (by omega), List.drop_of_length_le (Nat.le_refl _), List.drop_of_length_le (by omega), List.take_nil, List.take_nil]
/-- t[n:] -/
theorem iv_from {ds : List PyData} {n : Nat} (h : Iv K ta σ H (.tuple ds)) (hn : Ev tb σ H (.int n)) : Iv K (tSl (rSlA K) ta (tPart tb) tNoPart) σ H (.tuple (ds.drop n)) := fun H1 e1 Q q =>
  h H1 e1 _ fun v H2 e2 hv => hn H2 (e1.trans e2) _ fun H3 e3 => ⟨n, rfl, by
    cases Im.mono (Et.of e3) hv with
    | @tup a xs _ ha hxs =>
      refine ⟨a, xs, rfl, ha.sq, fun hw => ?_, fun _ p hp => ?_⟩
      · rw [HT.sIx_nat] at hw
        have hd : ds.drop n = ds := by
          have hl := hxs.length
          by_cases h0 : n = 0
          · subst h0; rfl
          · have : ds.length = 0 := by omega
            rw [List.length_eq_zero_iff.mp this]; exact List.drop_nil
        rw [hd] at q
        exact q _ _ (e2.trans e3) (.tup ha hxs)
      · rw [cut_from]
        exact q _ _ ((e2.trans e3).trans (Ex.new hp)) (.tup upd_same (ImAll.mono (Et.of (Ex.new hp)) (ImAll.drop n hxs)))⟩
end
/-- Address(z, y) -/
theorem make_addr {K : PySem.W.Frag} {σ : L2.St} {H : Hp} {t : TA} {Q : VK} {z : Str} {ws : List Str} (ha : ∀ Q' : List V → Hp → Prop, (∀ y H1, Ex H H1 → WordsV K H1 y ws → Q' [.str z, y] H1) → t σ H Q') (hz : isWord z = true) (hw : isWords ws = true) (hl : ws.length ≤ 10000)
    (q : ∀ x H2, H x = none → Ex H H2 → AddrAt K H2 x z ws → Q (.ref x) H2) : tMake (He.ga K "Address") (spAddr K) [] C8.E0 t σ H Q := ha _ fun y H1 e1 hy x dx hx hdx hne => by
  have e2 : Ex H1 (L2.upd (L2.upd H1 dx (.own x)) x (.ins (He.ga K "Address") dx [])) := (Ex.new hdx).trans (Ex.new (by rw [upd_ne (Ne.symm hne)]; exact hx))
  refine ⟨x, dx, z, y, ws, rfl, upd_same, hz, hw, hl, hy.imp (fun ⟨a, h1, h2⟩ => ⟨a, h1, e2 _ _ h2⟩) (fun ⟨a, h1, h2⟩ => ⟨a, h1, e2 _ _ h2⟩), fun H' b h => ⟨rfl, q x H' (fresh_back e1 hx) (e1.trans fun c o hc => b c o (fun e => by rw [e, hx] at hc; cases hc) (e2 _ _ hc)) h⟩⟩
/-! what a rule knows, what it sends to -/
def known (st : Str) (es : List En) (e : Bool) (s : Str) (ws : List Str) : Option (List (Int × Str)) := if s ≠ st ∨ (e = true ∧ ws.length ≠ es.length) then none else bnd es ws
def spKnown (K : PySem.W.Frag) : Sp := fun vs H Q _ => ∃ x st es g e s y ws, vs = [.ref x, .str s, y] ∧ RuleAt K H x st es g e ∧ es.length ≤ 10000 ∧ Im K H y (.tuple (strsD ws)) ∧
  (known st es e s ws = none → ∀ H', Ex H H' → Q .non H') ∧ ∀ acc, known st es e s ws = some acc → ∀ a H', H a = none → Ex H H' → H' a = some (.dK (toK acc)) → Q (.ref a) H'
def spFits (K : PySem.W.Frag) : Sp := fun vs H Q _ => ∃ x st es g e a s ws, vs = [.ref x, .ref a] ∧ RuleAt K H x st es g e ∧ es.length ≤ 10000 ∧ AddrAt K H a s ws ∧ ∀ H', Ex H H' → Q (.bl (known st es e s ws).isSome) H'
def spSend (K : PySem.W.Frag) : Sp := fun vs H Q _ => ∃ x st es g e a s ws, vs = [.ref x, .ref a] ∧ RuleAt K H x st es g e ∧ RuleOk st es g ∧ AddrAt K H a s ws ∧ isWords ws = true ∧ ws.length ≤ 9000 ∧
  (known st es e s ws = none → ∀ H', Ex H H' → Q .non H') ∧ (∀ acc, known st es e s ws = some acc → g = none → ∀ H', Ex H H' → Q (.ref a) H') ∧
  ∀ acc z bs, known st es e s ws = some acc → g = some (z, bs) → ∀ b H', H b = none → Ex H H' → AddrAt K H' b z (fillE bs acc ++ ws.drop es.length) → Q (.ref b) H'
def spAEq (K : PySem.W.Frag) : Sp := fun vs H Q _ => ∃ a b s ws s' ws', vs = [.ref a, .ref b] ∧ AddrAt K H a s ws ∧ AddrAt K H b s' ws' ∧ isWord s = true ∧ isWords ws = true ∧ isWord s' = true ∧ isWords ws' = true ∧ ∀ H', Ex H H' → Q (.bl (decide (s = s' ∧ ws = ws'))) H'
theorem bndF_keep : ∀ (es : List En) (ws : List Str) (acc r : List (Int × Str)), bndF es ws acc = some r → ∀ i z, acc.lookup i = some z → r.lookup i = some z
  | [], _, acc, r, h, i, z, hz => by
    have : acc = r := Option.some.inj h
    rw [← this]; exact hz
  | _ :: _, [], _, _, h, _, _, _ => by cases h
  | .h j :: es, y :: ws, acc, r, h, i, z, hz => by
    unfold bndF at h
    split at h
    · exact bndF_keep es ws _ r h i z (by rw [List.lookup_append, hz]; rfl)
    · split at h
      · exact bndF_keep es ws _ r h i z hz
      · cases h
  | .w x :: es, y :: ws, acc, r, h, i, z, hz => by
    unfold bndF at h
    split at h
    · exact bndF_keep es ws _ r h i z hz
    · cases h
theorem bndF_holes : ∀ (es : List En) (ws : List Str) (acc r : List (Int × Str)), bndF es ws acc = some r → ∀ i, En.h i ∈ es → ∃ z, r.lookup i = some z
  | [], _, _, _, _, _, h => by cases h
  | _ :: _, [], _, _, h, _, _ => by cases h
  | .h j :: es, y :: ws, acc, r, h, i, hi => by
    unfold bndF at h
    rcases List.mem_cons.mp hi with e | hi
    · injection e with e
      subst e
      split at h
      · rename_i hn
        exact ⟨y, bndF_keep es ws _ r h i y (by rw [List.lookup_append, hn]; show List.lookup i [(i, y)] = some y; rw [List.lookup_cons, beq_self_eq_true])⟩
      · rename_i z hz
        split at h
        · exact ⟨z, bndF_keep es ws _ r h i z hz⟩
        · cases h
    · split at h
      · exact bndF_holes es ws _ r h i hi
      · split at h
        · exact bndF_holes es ws _ r h i hi
        · cases h
  | .w x :: es, y :: ws, acc, r, h, i, hi => by
    unfold bndF at h
    rcases List.mem_cons.mp hi with e | hi
    · cases e
    · split at h
      · exact bndF_holes es ws _ r h i hi
      · cases h
theorem bndF_words : ∀ (es : List En) (ws : List Str) (acc r : List (Int × Str)), bndF es ws acc = some r → isWords ws = true → (∀ i z, acc.lookup i = some z → isWord z = true) → ∀ i z, r.lookup i = some z → isWord z = true
  | [], _, acc, r, h, _, ha => by
    have : acc = r := Option.some.inj h
    rw [← this]; exact ha
  | _ :: _, [], _, _, h, _, _ => by cases h
  | .h j :: es, y :: ws, acc, r, h, hw, ha => by
    unfold bndF at h
    obtain ⟨hy, hw'⟩ := Bool.and_eq_true_iff.mp (show (isWord y && isWords ws) = true from hw)
    split at h
    · refine bndF_words es ws _ r h hw' fun i z hz => ?_
      rw [List.lookup_append] at hz
      cases hl : acc.lookup i with
      | some z' =>
        rw [hl] at hz
        have : z' = z := Option.some.inj hz
        rw [← this]
        exact ha i z' hl
      | none =>
        rw [hl] at hz
        have hz' : List.lookup i [(j, y)] = some z := hz
        rw [List.lookup_cons] at hz'
        split at hz'
        · have : y = z := Option.some.inj hz'
          rw [← this]; exact hy
        · cases hz'
    · split at h
      · exact bndF_words es ws _ r h hw' ha
      · cases h
  | .w x :: es, y :: ws, acc, r, h, hw, ha => by
    unfold bndF at h
    obtain ⟨hy, hw'⟩ := Bool.and_eq_true_iff.mp (show (isWord y && isWords ws) = true from hw)
    split at h
    · exact bndF_words es ws _ r h hw' ha
    · cases h
theorem known_bnd {st : Str} {es : List En} {e : Bool} {s : Str} {ws : List Str} {acc : List (Int × Str)} (h : known st es e s ws = some acc) : bnd es ws = some acc := by
  unfold known at h
  split at h
  · cases h
  · exact h
theorem fill_words {st : Str} {es bs : List En} {g : Goal} {ws : List Str} {acc : List (Int × Str)} {z : Str} (ok : RuleOk st es g) (hg : g = some (z, bs)) (hw : isWords ws = true) (h : bnd es ws = some acc) : isWords (fillE bs acc ++ ws.drop es.length) = true := by
  obtain ⟨w1, w2, w3, w4⟩ := ok.goal z bs hg
  unfold isWords
  rw [List.all_append, Bool.and_eq_true]
  constructor
  · unfold fillE
    rw [List.all_map, List.all_eq_true]
    intro e he
    cases e with
    | h i =>
      obtain ⟨y, hy⟩ := bndF_holes es ws [] acc h i (w4 i he)
      show isWord ((acc.lookup i).getD default) = true
      rw [hy]
      exact bndF_words es ws [] acc h hw (fun i z hz => by cases hz) i y hy
    | w y => exact List.all_eq_true.mp w3 (.w y) he
  · rw [List.all_eq_true]
    exact fun y hy => List.all_eq_true.mp hw y (List.mem_of_mem_drop hy)
section
variable {P : Program} {w : World} {K : PySem.W.Frag} {mg : Str → Option Value} {base : Heap}
theorem ok_Rule_known_in {f : Addr} {fd : FuncData} (F : FunD K "known_in" "Rule.known_in" (defArgs s_Rule_known_in) (defBody s_Rule_known_in) (defScope s_Rule_known_in) [] [] f fd) (T : Txt K mg) (C_bound : C8.Cal P w K mg base 2 "bound" (spBound K) []) : FnOk P w K mg base C8.CX0 3 f fd P_Rule_known_in (spKnown K) := by
  refine F.ok sc_Rule_known_in (fun vs H Q E h => ?_) (fun cdv A outer s H vs Q E hr h => ?_)
  · obtain ⟨_, _, _, _, _, _, _, _, rfl, _⟩ := h
    rfl
  · obtain ⟨x, st, es, g, e, s, y, ws, rfl, ⟨dx, p, gv, hx, hp, hg⟩, hl, hy, qn, qs⟩ := h
    refine ⟨_, PSs.nox (pss_cons (ps_if (PW.pt (pw_or (pt_cmpR op_ne (pv 1) (pe_fldK (K := K) rfl (pv 0) rfl) (nomark _)) (pw_or1 (PW.pt (pw_and (pt_val (pe_fldK (K := K) rfl (pv 0) rfl)) (pw_and1 (pt_cmpR op_ne (pe_callB (call_len_seqK (K := K) rfl) (by rfl) T.b_len boot_len (pa_cons (pv 2) pa_nil)) (pe_callB (call_len_seqK (K := K) rfl) (by rfl) T.b_len boot_len (pa_cons (pe_fldK (K := K) rfl (pv 0) rfl) pa_nil)) (nomark _)))))))) (pss_one (ps_ret pe_non)) pss_nil)
      (pss_one (ps_ret (C8.pe_c C_bound hr (by decide) rfl (pa_cons (pe_fldK (K := K) rfl (pv 0) rfl) (pa_cons (pv 2) pa_nil)))))), ?_⟩
    obtain ⟨xs, hxs, hxl, _⟩ := hy.seq
    obtain ⟨ps, hps, hpl, _⟩ := hp.seq
    have e1 : (strsD ws).length = ws.length := List.length_map ..
    have e2 : (entsD es).length = es.length := List.length_map ..
    have fst : ∀ {σ : L2.St} {H1 : Hp}, σ[0]? = some (some (.ref x)) → Ex H H1 → Ev (tFld K (tVar 0) "own_state") σ H1 (.str st) := fun hσ ee => ev_fld (ev_var hσ) (ee _ _ hx) T.c_Rule T.n_Rule_state (rF_state _ _ _ _)
    have fpt : ∀ {σ : L2.St} {H1 : Hp}, σ[0]? = some (some (.ref x)) → Ex H H1 → Ev (tFld K (tVar 0) "own_pattern") σ H1 p := fun hσ ee => ev_fld (ev_var hσ) (ee _ _ hx) T.c_Rule T.n_Rule_pattern (rF_pattern _ _ _ _)
    have fex : ∀ {σ : L2.St} {H1 : Hp}, σ[0]? = some (some (.ref x)) → Ex H H1 → Ev (tFld K (tVar 0) "own_exact") σ H1 (.bl e) := fun hσ ee => ev_fld (ev_var hσ) (ee _ _ hx) T.c_Rule T.n_Rule_exact (rF_exact _ _ _ _)
    refine q_when (b := decide (s ≠ st ∨ (e = true ∧ ws.length ≠ es.length))) (et_is (et_or (a := !decide (V.str s = V.str st)) (b := e && !decide (V.int (xs.length : Int) = V.int (ps.length : Int))) (et_test (ev_op (ev_var rfl) (fst rfl (Ex.refl H)) (rv_ne rfl))) (fun _ => et_and (et_B (fex rfl (Ex.refl H))) (fun _ => et_test (ev_op (ev_lenS (ev_var rfl) hxs) (ev_lenS (fpt rfl (Ex.refl H)) hps) (rv_ne rfl))))) ?_) (fun hb H1 e1' => ?_) (fun hb H1 e1' => ?_)
    · rw [hxl, hpl, e1, e2]
      rw [Bool.eq_iff_iff]
      simp only [Bool.or_eq_true, Bool.and_eq_true, Bool.not_eq_true', decide_eq_false_iff_not, decide_eq_true_eq, V.str.injEq, V.int.injEq, ne_eq, Int.natCast_inj]
    · exact s_ret ev_c fun H2 e2' => qn (by unfold known; exact if_pos (of_decide_eq_true hb)) H2 (e1'.trans e2')
    · have hk : known st es e s ws = bnd es ws := by unfold known; exact if_neg (of_decide_eq_false hb)
      rw [hk] at qn qs
      show tCall _ _ _ _ _ H1 _
      refine call_ea (ea_cons (fpt rfl e1') (ea_cons (ev_var rfl) ea_nil)) fun H2 e2' => ⟨p, y, es, ws, rfl, Im.mono (Et.of (e1'.trans e2')) hp, Im.mono (Et.of (e1'.trans e2')) hy, hl, fun h H3 e3 => qn h H3 ((e1'.trans e2').trans e3), fun acc h a H3 ha e3 hd => qs acc h a H3 (fresh_back (e1'.trans e2') ha) ((e1'.trans e2').trans e3) hd⟩
end
section
variable {K : PySem.W.Frag} {σ : L2.St} {H : Hp} {ta : TE} {t : TA} {x : Addr} {st s : Str} {es : List En} {g : Goal} {e : Bool} {ws : List Str} {Q : VK}
theorem rF_noname (st : Str) (p g : V) (e : Bool) (m : Str) (hm : decide (m ∈ rKs) = false) : (rF st p g e).lookup m = none := lkn rKs rfl hm
theorem meth_known (h : Ev ta σ H (.ref x)) (hx : RuleAt K H x st es g e) (hl : es.length ≤ 10000) (ha : IvA K t σ H [.str s, .tuple (strsD ws)]) (qn : known st es e s ws = none → ∀ H', Ex H H' → Q .non H')
    (qs : ∀ acc, known st es e s ws = some acc → ∀ a H', H a = none → Ex H H' → H' a = some (.dK (toK acc)) → Q (.ref a) H') : tMeth (He.ga K "Rule") "known_in" (spKnown K) [] C8.E0 ta t σ H Q :=
  h H (Ex.refl H) _ fun H1 e1 => by
    obtain ⟨dx, p, q, h1, _⟩ := hx.mono e1
    refine ⟨x, dx, _, rfl, h1, rF_noname _ _ _ _ _ (by decide +kernel), ha H1 e1 _ fun vs H2 e2 hvs => ?_⟩
    cases hvs with
    | cons v1 r =>
      cases r with
      | cons v2 r =>
        cases r
        cases v1
        exact ⟨x, st, es, g, e, s, _, ws, rfl, (hx.mono e1).mono e2, hl, v2, fun h H3 e3 => qn h H3 ((e1.trans e2).trans e3), fun acc h a H3 ha e3 hd => qs acc h a H3 (fresh_back (e1.trans e2) ha) ((e1.trans e2).trans e3) hd⟩
end
section
variable {P : Program} {w : World} {K : PySem.W.Frag} {mg : Str → Option Value} {base : Heap}
theorem ok_Rule_fits {f : Addr} {fd : FuncData} (F : FunD K "fits" "Rule.fits" (defArgs s_Rule_fits) (defBody s_Rule_fits) (defScope s_Rule_fits) [] [] f fd) (T : Txt K mg) (M_Rule_known_in : C8.Met P w K mg base 3 (He.ga K "Rule") "known_in" (spKnown K) []) (M_Address_state : Prp P w K mg base 1 (He.ga K "Address") "state" (spAState K)) (M_Address_path : Prp P w K mg base 1 (He.ga K "Address") "path" (spAPath K)) : FnOk P w K mg base C8.CX0 4 f fd P_Rule_fits (spFits K) := by
  refine F.ok sc_Rule_fits (fun vs H Q E h => ?_) (fun cdv A outer s H vs Q E hr h => ?_)
  · obtain ⟨_, _, _, _, _, _, _, _, rfl, _⟩ := h
    rfl
  · obtain ⟨x, st, es, g, e, a, s, ws, rfl, hx, hl, ha, q⟩ := h
    refine ⟨_, PSs.nox (pss_one (ps_ret (pe_cmpR op_notN (C8.pe_mt M_Rule_known_in hr (by decide) (pv 0) (pa_cons (pe_pr M_Address_state hr (by decide) (pv 1) rfl) (pa_cons (pe_pr M_Address_path hr (by decide) (pv 1) rfl) pa_nil))) pe_non (nomark _)))), ?_⟩
    show tMeth _ _ _ _ _ _ _ _ H _
    refine meth_known (ev_var rfl) hx hl (iva_cons (iv_ev (ev_astate (ev_var rfl) ha) (.str _)) (iva_cons (iv_apath (ev_var rfl) ha) iva_nil)) (fun hk H1 e1 => ?_) (fun acc hk b H1 hb e1 hd => ?_)
    · have q1 := q H1 e1
      rw [hk] at q1
      exact ⟨rfl, q1⟩
    · have q1 := q H1 e1
      rw [hk] at q1
      exact ⟨rfl, q1⟩
theorem ok_Rule_call {f : Addr} {fd : FuncData} (F : FunD K "__call__" "Rule.__call__" (defArgs s_Rule_call) (defBody s_Rule_call) (defScope s_Rule_call) [] [] f fd) (T : Txt K mg) (M_Rule_known_in : C8.Met P w K mg base 3 (He.ga K "Rule") "known_in" (spKnown K) []) (M_Address_state : Prp P w K mg base 1 (He.ga K "Address") "state" (spAState K)) (M_Address_path : Prp P w K mg base 1 (He.ga K "Address") "path" (spAPath K))
    (C_filled : C8.Cal P w K mg base 2 "filled" (spFilled K) []) (M_Address : C8.Mak P w K mg base 3 "Address" (He.ga K "Address") (spAddr K) []) : FnOk P w K mg base C8.CX0 5 f fd P_Rule_call (spSend K) := by
  refine F.ok sc_Rule_call (fun vs H Q E h => ?_) (fun cdv A outer s H vs Q E hr h => ?_)
  · obtain ⟨_, _, _, _, _, _, _, _, rfl, _⟩ := h
    rfl
  · obtain ⟨x, st, es, g, e, a, s, ws, rfl, hx, ok, ha, hw, hl, qn, qs, qg⟩ := h
    refine ⟨_, PSs.nox (pss_cons (ps_set (i := 2) sc_Rule_call.nd rfl (by first | exact Or.inl rfl | exact Or.inr rfl) (C8.pe_mt M_Rule_known_in hr (by decide) (pv 0) (pa_cons (pe_pr M_Address_state hr (by decide) (pv 1) rfl) (pa_cons (pe_pr M_Address_path hr (by decide) (pv 1) rfl) pa_nil))))
      (pss_cons (ps_if (PW.pt (pw_or (pt_cmpR op_isN (pv 2) pe_non (nomark _)) (pw_or1 (pt_cmpR op_isN (pe_fldK (K := K) rfl (pv 0) rfl) pe_non (nomark _))))) (pss_one (ps_ret (pe_ifExp (pt_cmpR op_isN (pv 2) pe_non (nomark _)) pe_non (pv 1)))) pss_nil)
      (pss_cons (ps_set (i := 3) sc_Rule_call.nd rfl (by first | exact Or.inl rfl | exact Or.inr rfl) (pe_op (op_catK (K := K) rfl) (C8.pe_c C_filled hr (by decide) rfl (pa_cons (pe_ix (ix_tupK (K := K) rfl) (pe_fldK (K := K) rfl (pv 0) rfl) pe_int (fun _ _ => rfl)) (pa_cons (pv 2) pa_nil))) (pe_slice (sl_tupK (K := K) rfl) (pe_pr M_Address_path hr (by decide) (pv 1) rfl) (po_some (pe_callB (call_len_seqK (K := K) rfl) (by rfl) T.b_len boot_len (pa_cons (pe_fldK (K := K) rfl (pv 0) rfl) pa_nil))) po_none)))
      (pss_one (ps_ret (C8.pe_mk M_Address hr (by decide) rfl (pa_cons (pe_ix (ix_tupK (K := K) rfl) (pe_fldK (K := K) rfl (pv 0) rfl) pe_int (fun _ _ => rfl)) (pa_cons (pv 3) pa_nil)))))))), ?_⟩
    have fgo : ∀ {σ : L2.St} {H1 : Hp}, σ[0]? = some (some (.ref x)) → Ex H H1 → ∃ gv, Ev (tFld K (tVar 0) "own_goal") σ H1 gv ∧ Im K H1 gv (goalD g) := fun hσ ee => by
      obtain ⟨dx, p, gv, hx1, _, hg⟩ := hx.mono ee
      exact ⟨gv, ev_fld (ev_var hσ) hx1 T.c_Rule T.n_Rule_goal (rF_goal _ _ _ _), hg⟩
    have fpt : ∀ {σ : L2.St} {H1 : Hp}, σ[0]? = some (some (.ref x)) → Ex H H1 → ∃ p, Ev (tFld K (tVar 0) "own_pattern") σ H1 p ∧ Im K H1 p (.tuple (entsD es)) := fun hσ ee => by
      obtain ⟨dx, p, gv, hx1, hp, _⟩ := hx.mono ee
      exact ⟨p, ev_fld (ev_var hσ) hx1 T.c_Rule T.n_Rule_pattern (rF_pattern _ _ _ _), hp⟩
    show tMeth _ _ _ _ _ _ _ _ H _
    refine meth_known (ev_var rfl) hx (by have := ok.len; omega) (iva_cons (iv_ev (ev_astate (ev_var rfl) ha) (.str _)) (iva_cons (iv_apath (ev_var rfl) ha) iva_nil)) (fun hk H1 e1 => ?_) (fun acc hk b H1 hb e1 hd => ?_)
    · refine q_when (b := true) (et_or (a := true) (b := true) (et_is (et_test (ev_isN (v := .non) (ev_var rfl))) (by rfl)) (fun z => nomatch z)) (fun _ H2 e2 => ?_) (fun z => nomatch z)
      exact s_ret (ev_if (b := true) (et_is (et_test (ev_isN (v := .non) (ev_var rfl))) (by rfl)) (fun _ => ev_c) (fun z => nomatch z)) fun H3 e3 => qn hk H3 ((e1.trans e2).trans e3)
    · obtain ⟨gv, fg, hgv⟩ := fgo (σ := L2.start N_Rule_call [.ref x, .ref a, .ref b]) rfl e1
      refine q_when (b := decide (gv = .non)) (et_or (a := false) (et_is (et_test (ev_isN (v := .ref b) (ev_var rfl))) (by rfl)) (fun _ => et_test (ev_isN fg))) (fun hb2 H2 e2 => ?_) (fun hb2 H2 e2 => ?_)
      · have hgv0 := of_decide_eq_true hb2
        subst hgv0
        have hg0 : g = none := by
          cases g with
          | none => rfl
          | some p => cases hgv
        exact s_ret (ev_if (b := false) (et_is (et_test (ev_isN (v := .ref b) (ev_var rfl))) (by rfl)) (fun z => nomatch z) (fun _ => ev_var rfl)) fun H3 e3 => qs acc hk hg0 H3 ((e1.trans e2).trans e3)
      · cases g with
        | none => cases hgv; exact absurd rfl (of_decide_eq_false hb2)
        | some zb =>
          obtain ⟨z, bs⟩ := zb
          obtain ⟨w1, w2, w3, w4⟩ := ok.goal z bs rfl
          have hbk := known_bnd hk
          obtain ⟨gv2, fg2, hgv2⟩ := fgo (σ := L2.start N_Rule_call [.ref x, .ref a, .ref b]) rfl (e1.trans e2)
          obtain ⟨p, fp, hp⟩ := fpt (σ := L2.start N_Rule_call [.ref x, .ref a, .ref b]) rfl (e1.trans e2)
          obtain ⟨ps, hps, hpl, _⟩ := hp.seq
          have el : (entsD es).length = es.length := List.length_map ..
          cases hgv2 with
          | @tup ga gs _ hga hgs =>
            cases hgs with
            | @cons v1 _ _ _ hv1 r =>
              cases r with
              | @cons v2 _ _ _ hv2 r =>
                cases r
                cases hv1
                have hd2 := e2 _ _ hd
                have hfill : Iv K (tCall (spFilled K) [] C8.E0 (tCons (tOp (rIxT K) (tFld K (tVar 0) "own_goal") (tC (.int 1))) (tCons (tVar 2) tNil))) (L2.start N_Rule_call [.ref x, .ref a, .ref b]) H2 (.tuple (strsD (fillE bs acc))) := fun H3 e3 Q q =>
                  (ev_ixT (v := v2) fg2 ev_c hga.sq (by rfl)) H3 e3 _ fun H4 e4 => ⟨_, rfl, v2, b, bs, acc, rfl, Im.mono (Et.of (e3.trans e4)) hv2, (e3.trans e4) _ _ hd2, by omega, fun i hi => bndF_holes es ws [] acc hbk i (w4 i hi), fun v H5 e5 hv => q v H5 (e4.trans e5) hv⟩
                have hpath : Iv K (tOp (rCatA K) (tCall (spFilled K) [] C8.E0 (tCons (tOp (rIxT K) (tFld K (tVar 0) "own_goal") (tC (.int 1))) (tCons (tVar 2) tNil))) (tSl (rSlA K) (tProp (He.ga K "Address") (spAPath K) [] C8.E0 (tVar 1)) (tPart (tCB (rLenQ K) (tCons (tFld K (tVar 0) "own_pattern") tNil))) tNoPart)) (L2.start N_Rule_call [.ref x, .ref a, .ref b]) H2 (.tuple (strsD (fillE bs acc ++ ws.drop es.length))) := by
                  have hc := iv_cat hfill (iv_from (n := es.length) (iv_apath (ev_var (i := 1) rfl) (ha.mono (e1.trans e2))) (by
                    have := ev_lenS fp hps
                    rw [hpl, el] at this
                    exact this)) (by
                      unfold strsD fillE
                      rw [List.length_map, List.length_map, List.length_drop, List.length_map]
                      omega)
                  have es' : strsD (fillE bs acc ++ ws.drop es.length) = strsD (fillE bs acc) ++ (strsD ws).drop es.length := by
                    unfold strsD
                    rw [List.map_append, List.map_drop]
                  rw [es']
                  exact hc
                refine hpath H2 (Ex.refl H2) _ fun v H3 e3 hv => ?_
                obtain ⟨gv3, fg3, hgv3⟩ := fgo (σ := L2.start N_Rule_call [.ref x, .ref a, .ref b, v]) rfl ((e1.trans e2).trans e3)
                cases hgv3 with
                | @tup ga3 gs3 _ hga3 hgs3 =>
                  cases hgs3 with
                  | @cons u1 _ _ _ hu1 r3 =>
                    cases hu1
                    cases r3 with
                    | cons r31 r32 =>
                    cases r32
                    obtain ⟨va, rfl, hva⟩ := hv.words
                    refine make_addr (t := tCons (tOp (rIxT K) (tFld K (tVar 0) "own_goal") (tC (.int 0))) (tCons (tVar 3) tNil)) (σ := L2.start N_Rule_call [.ref x, .ref a, .ref b, .ref va]) (H := H3) (Q := Q) (ws := fillE bs acc ++ ws.drop es.length) (z := z) ?_ w1 (fill_words ok rfl hw hbk) (by
                      unfold fillE
                      rw [List.length_append, List.length_map, List.length_drop]
                      omega) fun y H4 hy e4 hay => qg acc z bs hk rfl y H4 (fresh_back ((e1.trans e2).trans e3) hy) (((e1.trans e2).trans e3).trans e4) hay
                    intro Q' k
                    refine (ev_ixT (v := .str z) (i := 0) fg3 ev_c hga3.sq (by rfl)) H3 (Ex.refl H3) _ fun H4 e4 => ?_
                    exact ⟨_, rfl, k _ H4 e4 (.inr ⟨va, rfl, e4 _ _ hva⟩)⟩
theorem order_ex (st : Str) (ws : List Str) : exD (orderD st ws) = true := by
  show (true && (true && (exD (.tuple (strsD ws)) && true))) = true
  rw [strs_ex]; rfl
theorem order_sh {st : Str} {ws : List Str} (h1 : isWord st = true) (h2 : isWords ws = true) : SeqAt.shaped (orderD st ws) = true := by
  refine (ShD.tup (n := 1) fun d hd => ?_).shaped (by decide)
  rcases List.mem_cons.mp hd with rfl | hd
  · exact ShD.int _ _
  · rcases List.mem_cons.mp hd with rfl | hd
    · exact ShD.str (word_ok h1)
    · rcases List.mem_cons.mp hd with rfl | hd
      · exact words_sh h2 0
      · cases hd
theorem order_eq (s s' : Str) (ws ws' : List Str) : PyData.eqv (orderD s ws) (orderD s' ws') = decide (s = s' ∧ ws = ws') := by
  rw [Bool.eq_iff_iff, decide_eq_true_eq]
  constructor
  · intro h
    have e := eqv_ex (order_ex s ws) (order_ex s' ws') h
    injection e with e
    injection e with _ e
    injection e with e1 e
    injection e with e2 _
    injection e1 with e1
    injection e2 with e2
    exact ⟨e1, strsD_inj e2⟩
  · rintro ⟨rfl, rfl⟩
    exact eqv_same (order_ex s ws)
theorem ok_Address_eq {f : Addr} {fd : FuncData} (F : FunD K "__eq__" "Address.__eq__" (defArgs s_Address_eq) (defBody s_Address_eq) (defScope s_Address_eq) [] [] f fd) (T : Txt K mg) : FnOk P w K mg base C8.CX0 1 f fd P_Address_eq (spAEq K) := by
  refine F.ok sc_Address_eq (fun vs H Q E h => ?_) (fun cdv A outer s H vs Q E hr h => ?_)
  · obtain ⟨_, _, _, _, _, _, rfl, _⟩ := h
    rfl
  · obtain ⟨a, b, s, ws, s', ws', rfl, ⟨dx, p, o, hx, hp, ho⟩, ⟨dx', p', o', hx', hp', ho'⟩, w1, w2, w3, w4, q⟩ := h
    refine ⟨_, PSs.nox (pss_one (ps_ret (pe_and (pe_callB (C8.call_isC T.i_Address) (by rfl) T.b_isinstance (by decide +kernel) (pa_cons (pv 1) (pa_cons (C8.pe_gc rfl T.g_Address) pa_nil))) (pe_one (pe_cmpR (op_eqDK (K := K) rfl hr.units) (pe_fldK (K := K) rfl (pv 0) rfl) (pe_fldK (K := K) rfl (pv 1) rfl) (nomark _)))))), ?_⟩
    refine s_ret (ev_andV (a := true) (b := decide (s = s' ∧ ws = ws')) (ev_cb (ea_cons (ev_var rfl) (ea_cons ev_c ea_nil)) fun H1 e1 Q q => ⟨b, dx', _, rfl, e1 _ _ hx', q H1 (Ex.refl H1)⟩) fun _ => ev_op (x := o) (y := o') (ev_fld (ev_var rfl) hx T.c_Address T.n_Address_order (aF_order _ _ _)) (ev_fld (ev_var rfl) hx' T.c_Address T.n_Address_order (aF_order _ _ _)) fun H1 e1 Q q => ?_) fun H1 e1 => q H1 e1
    refine ⟨orderD s ws, orderD s' ws', (Im.mono (Et.of e1) ho).dp, (Im.mono (Et.of e1) ho').dp, order_sh w1 w2, order_sh w3 w4, ?_⟩
    rw [order_eq]
    exact q H1 (Ex.refl H1)
end
end Sw
namespace Sw
open PySem L2 Evl
abbrev s__law_pen : Stmt := top 32
abbrev N__law_pen : List Str := ["_law_script"]
abbrev P__law_pen : List Str := ["_law_script"]
theorem sc__law_pen : FnScope N__law_pen P__law_pen (defScope s__law_pen) := ⟨rfl, rfl, rfl, by decide +kernel, rfl, by decide +kernel, by decide +kernel⟩
abbrev s__law_draw : Stmt := top 33
abbrev N__law_draw : List Str := ["_law_pen_here", "_law_many", "_law_digit", "_law_spot", "_law_cell", "_law_mixed"]
abbrev P__law_draw : List Str := ["_law_pen_here", "_law_many"]
theorem sc__law_draw : FnScope N__law_draw P__law_draw (defScope s__law_draw) := ⟨rfl, rfl, rfl, by decide +kernel, rfl, by decide +kernel, by decide +kernel⟩
abbrev s__law_pick : Stmt := top 34
abbrev N__law_pick : List Str := ["_law_pen_here", "_law_items"]
abbrev P__law_pick : List Str := ["_law_pen_here", "_law_items"]
theorem sc__law_pick : FnScope N__law_pick P__law_pick (defScope s__law_pick) := ⟨rfl, rfl, rfl, by decide +kernel, rfl, by decide +kernel, by decide +kernel⟩
abbrev s__law_is_integer : Stmt := top 36
abbrev N__law_is_integer : List Str := ["_law_value"]
abbrev P__law_is_integer : List Str := ["_law_value"]
theorem sc__law_is_integer : FnScope N__law_is_integer P__law_is_integer (defScope s__law_is_integer) := ⟨rfl, rfl, rfl, by decide +kernel, rfl, by decide +kernel, by decide +kernel⟩
def penK (c : V) (s r : Int) : List (Key × V) := [(.inr "cells", c), (.inr "spot", .int s), (.inr "rest", .int r)]
/-- the pen at p, at most n cells begun -/
def PenAt (H : Hp) (p c : Addr) (n : Nat) : Prop := ∃ (s r : Int) (zs : List Int), H p = some (.dK (penK (.ref c) s r)) ∧ H c = some (.lst (zs.map V.int)) ∧ 0 ≤ s ∧ s ≤ n ∧ zs.length ≤ 63
theorem PenAt.more {H : Hp} {p c : Addr} {n m : Nat} (h : PenAt H p c n) (hn : n ≤ m) : PenAt H p c m := by
  obtain ⟨s, r, zs, h1, h2, h3, h4, h5⟩ := h
  exact ⟨s, r, zs, h1, h2, h3, by omega, h5⟩
theorem PenAt.mono {H H' : Hp} {p c : Addr} {n : Nat} (e : Ex H H') (h : PenAt H p c n) : PenAt H' p c n := by
  obtain ⟨s, r, zs, h1, h2, h3, h4, h5⟩ := h
  exact ⟨s, r, zs, e _ _ h1, e _ _ h2, h3, h4, h5⟩
theorem penK_cells (c : V) (s r : Int) : valV (penK c s r) (.inr "cells") = some c := by unfold penK; rw [valV_pos rfl]
abbrev kCells : Key := .inr "cells"
abbrev kSpot : Key := .inr "spot"
abbrev kRest : Key := .inr "rest"
theorem kne1 : ¬ kCells = kSpot := by decide +kernel
theorem kne2 : ¬ kCells = kRest := by decide +kernel
theorem kne3 : ¬ kSpot = kRest := by decide +kernel
theorem penK_spot (c : V) (s r : Int) : valV (penK c s r) (.inr "spot") = some (.int s) := by
  unfold penK
  rw [valV_neg kne1, valV_pos rfl]
theorem penK_rest (c : V) (s r : Int) : valV (penK c s r) (.inr "rest") = some (.int r) := by
  unfold penK
  rw [valV_neg kne2, valV_neg kne3, valV_pos rfl]
theorem penK_putS (c : V) (s r t : Int) : putK (penK c s r) (.inr "spot") (.int t) = penK c t r := by
  unfold putK
  rw [valV_any, penK_spot]
  show (if true = true then _ else _) = _
  rw [if_pos rfl]
  unfold penK
  rw [List.map_cons, List.map_cons, List.map_cons, List.map_nil, if_neg kne1, if_pos rfl, if_neg fun e => kne3 e.symm]
theorem penK_putR (c : V) (s r t : Int) : putK (penK c s r) (.inr "rest") (.int t) = penK c s t := by
  unfold putK
  rw [valV_any, penK_rest]
  show (if true = true then _ else _) = _
  rw [if_pos rfl]
  unfold penK
  rw [List.map_cons, List.map_cons, List.map_cons, List.map_nil, if_neg kne2, if_neg kne3, if_pos rfl]
theorem pen_merge (c : V) : mergeK [] [(kCells, c), (kSpot, .int 0), (kRest, .int 0)] = penK c 0 0 := by
  show putK (putK (putK [] kCells c) kSpot (.int 0)) kRest (.int 0) = _
  have e1 : putK [] kCells c = [(kCells, c)] := rfl
  have e2 : putK [(kCells, c)] kSpot (.int 0) = [(kCells, c), (kSpot, .int 0)] := by
    unfold putK
    rw [valV_any, valV_neg kne1]
    rfl
  have e3 : putK [(kCells, c), (kSpot, .int 0)] kRest (.int 0) = penK c 0 0 := by
    unfold putK
    rw [valV_any, valV_neg kne2, valV_neg kne3]
    rfl
  rw [e1, e2, e3]
def spPen (K : PySem.W.Frag) : Sp := fun vs H Q _ => ∃ (a : Addr) (zs : List Int), vs = [.ref a] ∧ SqL K H a (zs.map V.int) ∧ ∀ p c H', H p = none → Ex H H' → PenAt H' p c 0 → Q (.ref p) H'
def spDraw : Sp := fun vs H Q _ => ∃ p c n m, vs = [.ref p, .int m] ∧ PenAt H p c n ∧ n ≤ 1000000000 ∧ 0 < m ∧ m < 1000000000 ∧ ∀ r H', 0 ≤ r → r < m → But p H H' → PenAt H' p c (n + 1) → Q (.int r) H'
def spPick (K : PySem.W.Frag) : Sp := fun vs H Q _ => ∃ p c n v, vs = [.ref p, v] ∧ PenAt H p c n ∧ n ≤ 1000000000 ∧
  ((∃ z, v = .str z ∧ 0 < z.length ∧ z.length ≤ 10000 ∧ ∀ x H', x ∈ z.cps.toList → But p H H' → PenAt H' p c (n + 1) → Q (.str ⟨#[x]⟩) H') ∨
   (∃ a xs, v = .ref a ∧ H a = some (.lst xs) ∧ 0 < xs.length ∧ xs.length ≤ 10000 ∧ ∀ x H', x ∈ xs → But p H H' → PenAt H' p c (n + 1) → Q x H'))
def rLenU (K : PySem.W.Frag) : List V → Hp → VK → Prop := fun xs H Q => rLenQ K xs H Q ∨ rLenZ xs H Q
theorem call_lenU {X : Cx} {K : PySem.W.Frag} (hK : X.K = K) : CallR X (.builtin "len") (rLenU K) := by
  intro pins s σ H xs us Q I r h
  rcases h with h | h
  · exact call_len_seqK hK pins s σ H xs us Q I r h
  · exact call_len_strK pins s σ H xs us Q I r h
section
variable {σ : L2.St} {H : Hp} {ta tb te : TE}
theorem ev_int1 {i : Int} (h : Ev te σ H (.int i)) : Ev (tCB (fun xs H Q => (∃ i, xs = [.int i] ∧ Q (.int i) H) ∨ ∃ k, xs = [.bl k] ∧ Q (.int (if k then 1 else 0)) H) (tCons te tNil)) σ H (.int i) :=
  ev_cb (ea_cons h ea_nil) fun H1 _ _ q => .inl ⟨i, rfl, q H1 (Ex.refl H1)⟩
theorem ev_dgetS {a : Addr} {kvs : List (Key × V)} {k : Str} {v : V} (h1 : Ev ta σ H (.ref a)) (hd : H a = some (.dK kvs)) (hv : valV kvs (.inr k) = some v) : Ev (tDGet ta (tC (.str k))) σ H v := ev_dget (k := .inr k) h1 ev_c hd hv
/-- d[k] = v -/
theorem q_dput {D : Ends} {tz : TS} {tv td ty : TE} {a : Addr} {kvs : List (Key × V)} {k : Key} {v : V} (h : Ev tv σ H v) (h1 : Ev td σ H (.ref a)) (h2 : Ev ty σ H (kV k)) (hd : H a = some (.dK kvs)) (hl : kvs.length < 1000) (q : ∀ H1, Ex H H1 → tz D σ (L2.upd H1 a (.dK (putK kvs k v)))) : tSeq (sDPut td ty tv) tz D σ H :=
  h H (Ex.refl H) _ fun H1 e1 => h1 H1 e1 _ fun H2 e2 => h2 H2 (e1.trans e2) _ fun H3 e3 => ⟨a, _, rfl, DPut.k (((e1.trans e2).trans e3) _ _ hd) (sz_lt (by omega)), q H3 ((e1.trans e2).trans e3)⟩
end
theorem dp_ints {K : PySem.W.Frag} {H : Hp} : ∀ zs : List Int, DpAll K H (zs.map V.int) (zs.map PyData.int)
  | [] => .nil
  | z :: zs => .cons (.int z) (dp_ints zs)
theorem ints_sh (zs : List Int) : SeqAt.shaped (.list (zs.map PyData.int)) = true := (ShD.lst (n := 0) fun d hd => by
  obtain ⟨z, _, rfl⟩ := List.mem_map.mp hd
  exact ShD.int _ _).shaped (by decide)
theorem at_mem {α : Type} {xs : List α} {i : Int} (h0 : 0 ≤ i) (h1 : i < xs.length) : ∃ x, atI xs i = some x ∧ x ∈ xs := by
  have hn : i.toNat < xs.length := by omega
  refine ⟨xs[i.toNat], ?_, List.getElem_mem hn⟩
  unfold atI ixN
  rw [if_pos h0, if_pos h1]
  show xs[i.toNat]? = _
  rw [List.getElem?_eq_getElem hn]
theorem at_ints {zs : List Int} {i : Int} (h0 : 0 ≤ i) (h1 : i < zs.length) : ∃ z, atI (zs.map V.int) i = some (.int z) := by
  have hn : i.toNat < zs.length := by omega
  refine ⟨zs[i.toNat], ?_⟩
  unfold atI ixN
  rw [if_pos h0, if_pos (by rw [List.length_map]; exact h1)]
  show (zs.map V.int)[i.toNat]? = _
  rw [List.getElem?_map, List.getElem?_eq_getElem hn]; rfl
section
variable {P : Program} {w : World} {K : PySem.W.Frag} {mg : Str → Option Value} {base : Heap}
theorem ok__law_is_integer {f : Addr} {fd : FuncData} (F : FunD K "_law_is_integer" "_law_is_integer" (defArgs s__law_is_integer) (defBody s__law_is_integer) (defScope s__law_is_integer) [] [] f fd) (T : Txt K mg) : FnOk P w K mg base C8.CX0 1 f fd P__law_is_integer spIsInt := by
  refine F.ok sc__law_is_integer (fun vs H Q E h => ?_) (fun cdv A outer s H vs Q E hr h => ?_)
  · obtain ⟨v, k, rfl, _⟩ := h
    rfl
  · obtain ⟨v, k, rfl, hk, q⟩ := h
    refine ⟨_, PSs.nox (pss_one (ps_ret (pe_and (pe_callB (call_isiK' (K := K) rfl) (by rfl) T.b_isinstance (by decide +kernel) (pa_cons (pv 0) (pa_cons (pe_bltn (v := .ty "int") (by rfl) T.b_int boot_int rfl) pa_nil))) (pe_one (pe_not (pe_callB (call_isiK' (K := K) rfl) (by rfl) T.b_isinstance (by decide +kernel) (pa_cons (pv 0) (pa_cons (pe_bltn (v := .ty "bool") (by rfl) T.b_bool boot_bool rfl) pa_nil)))))))), ?_⟩
    refine s_ret (ev_andV (ev_isi (ev_var rfl) hk) fun _ => ev_notV (ev_isi (ev_var rfl) hk)) fun H1 e1 => ?_
    have q1 := q H1 e1
    rw [← intK k (kind_mem hk)] at q1
    exact q1
theorem ok__law_pen {f : Addr} {fd : FuncData} (F : FunD K "_law_pen" "_law_pen" (defArgs s__law_pen) (defBody s__law_pen) (defScope s__law_pen) [] [] f fd) (T : Txt K mg) : FnOk P w K mg base C8.CX0 1 f fd P__law_pen (spPen K) := by
  refine F.ok sc__law_pen (fun vs H Q E h => ?_) (fun cdv A outer s H vs Q E hr h => ?_)
  · obtain ⟨_, _, rfl, _⟩ := h
    rfl
  · obtain ⟨a, zs, rfl, ha, q⟩ := h
    refine ⟨_, PSs.nox (pss_one (ps_ret (pe_disp (pps_cons pe_str (pe_callTy (call_list_ofK (K := K) rfl) (by rfl) T.b_list boot_list (pa_cons (pe_slice (sl_listK (K := K) rfl) (pv 0) po_none (po_some pe_int)) pa_nil)) (pps_cons pe_str pe_int (pps_cons pe_str pe_int pps_nil))) (by rfl) (by rfl) (fun z => by cases z) (by decide)))), ?_⟩
    intro p hp
    have ha' : SqL K (L2.upd H p (.dK [])) a (zs.map V.int) := ex_l (Ex.new hp) ha
    have h1 : EvL (tSl (rSlL K) (tVar 0) tNoPart (tPart (tC (.int 63)))) (L2.start N__law_pen [.ref a]) (L2.upd H p (.dK [])) (cutV (zs.map V.int) none (some ((63 : Nat) : Int))) := el_sl (ev_var rfl) eo_none (eo_some ev_c) ha'
    refine h1 _ (Ex.refl _) _ fun l H1 hl e1 h1l => ⟨l, _, rfl, .inl (sq_of h1l), fun c hc => ?_⟩
    rw [cut_to, ← List.map_take]
    have p1 : H1 p = some (.dK []) := e1 _ _ upd_same
    have hcp : c ≠ p := fun e => by rw [e, p1] at hc; cases hc
    refine ⟨by rw [upd_ne (Ne.symm hcp)]; exact p1, [(kCells, .ref c), (kSpot, .int 0), (kRest, .int 0)], rfl, by show 3 ≤ 15; decide, ?_⟩
    rw [pen_merge]
    refine q p c _ hp ?_ ⟨0, 0, zs.take 63, upd_same, by rw [upd_ne hcp]; exact upd_same, Int.le_refl _, Int.le_refl _, by rw [List.length_take]; omega⟩
    intro b o hb
    have hbp : b ≠ p := fun e => by rw [e, hp] at hb; cases hb
    have hb1 : H1 b = some o := e1 _ _ (by rw [upd_ne hbp]; exact hb)
    rw [upd_ne hbp, upd_ne (fun e => by rw [e, hc] at hb1; cases hb1)]
    exact hb1
theorem ok__law_draw {f : Addr} {fd : FuncData} (F : FunD K "_law_draw" "_law_draw" (defArgs s__law_draw) (defBody s__law_draw) (defScope s__law_draw) [] [] f fd) (T : Txt K mg) : FnOk P w K mg base C8.CX0 1 f fd P__law_draw spDraw := by
  refine F.ok sc__law_draw (fun vs H Q E h => ?_) (fun cdv A outer s H vs Q E hr h => ?_)
  · obtain ⟨_, _, _, _, rfl, _⟩ := h
    rfl
  · obtain ⟨p, c, n, m, rfl, ⟨s, r, zs, hp, hc, hs0, hs1, hz⟩, hn, hm0, hm1, q⟩ := h
    refine ⟨_, PSs.nox (pss_cons (ps_if (pt_cmpR op_ge (pe_dget (hu_of hr) (pv 0) pe_str (fun _ _ => rfl)) (pv 1) (nomark _)) (pss_cons (ps_set (i := 2) sc__law_draw.nd rfl (by first | exact Or.inl rfl | exact Or.inr rfl) (pe_op op_mod (pe_callTy call_int1 (by rfl) T.b_int boot_int (pa_cons (pe_dget (hu_of hr) (pv 0) pe_str (fun _ _ => rfl)) pa_nil)) (pv 1)))
      (pss_cons (ps_dput (hu_of hr) (pv 0) pe_str (pe_op op_fdiv (pe_dget (hu_of hr) (pv 0) pe_str (fun _ _ => rfl)) (pv 1)) rfl)
      (pss_one (ps_ret (pv 2))))) pss_nil)
      (pss_cons (ps_set (i := 3) sc__law_draw.nd rfl (by first | exact Or.inl rfl | exact Or.inr rfl) (pe_dget (hu_of hr) (pv 0) pe_str (fun _ _ => rfl)))
      (pss_cons (ps_dput (hu_of hr) (pv 0) pe_str (pe_op op_add (pv 3) pe_int) rfl)
      (pss_cons (ps_set (i := 4) sc__law_draw.nd rfl (by first | exact Or.inl rfl | exact Or.inr rfl) (pe_op op_add (pe_op op_mul pe_int (pv 3)) pe_int))
      (C8.pss_cut (ps_if (pt_cmpR (op_neDK (K := K) rfl hr.units) (pe_dget (hu_of hr) (pv 0) pe_str (fun _ _ => rfl)) (pe_lst pa_nil) (nomark _)) (pss_one (ps_set (i := 4) sc__law_draw.nd rfl (by first | exact Or.inl rfl | exact Or.inr rfl) (pe_ix (ix_listK (K := K) rfl) (pe_dget (hu_of hr) (pv 0) pe_str (fun _ _ => rfl)) (pe_op op_mod (pe_callTy call_int1 (by rfl) T.b_int boot_int (pa_cons (pv 3) pa_nil)) (pe_callB (call_len_seqK (K := K) rfl) (by rfl) T.b_len boot_len (pa_cons (pe_dget (hu_of hr) (pv 0) pe_str (fun _ _ => rfl)) pa_nil))) (fun _ _ => rfl)))) pss_nil)
      (pss_cons (ps_if (PW.pt (pw_and (pt_cmpR op_lt (pv 3) (pe_callB (call_len_seqK (K := K) rfl) (by rfl) T.b_len boot_len (pa_cons (pe_dget (hu_of hr) (pv 0) pe_str (fun _ _ => rfl)) pa_nil)) (nomark _)) (pw_and1 (pt_cmpR op_ge (pv 4) (pe_op op_pow pe_int pe_int) (nomark _))))) (pss_cons (ps_dput (hu_of hr) (pv 0) pe_str (pe_op op_fdiv (pe_op op_sub (pv 4) (pe_op op_pow pe_int pe_int)) (pv 1)) rfl)
      (pss_one (ps_ret (pe_op op_mod (pe_callTy call_int1 (by rfl) T.b_int boot_int (pa_cons (pe_op op_sub (pv 4) (pe_op op_pow pe_int pe_int)) pa_nil)) (pv 1))))) pss_nil)
      (pss_cons (ps_set (i := 5) sc__law_draw.nd rfl (by first | exact Or.inl rfl | exact Or.inr rfl) (pe_op op_mul (pe_op op_mod (pe_callTy call_int1 (by rfl) T.b_int boot_int (pa_cons (pv 4) pa_nil)) pe_int) pe_int))
      (pss_cons (ps_set (i := 5) sc__law_draw.nd rfl (by first | exact Or.inl rfl | exact Or.inr rfl) (pe_op op_mod (pe_callTy call_int1 (by rfl) T.b_int boot_int (pa_cons (pe_op op_add (pe_op op_add (pe_op op_add (pv 5) (pe_op op_mul (pe_op op_mul pe_int (pv 3)) (pv 3))) (pe_op op_mul pe_int (pv 3))) pe_int) pa_nil)) pe_int))
      (pss_cons (ps_set (i := 5) sc__law_draw.nd rfl (by first | exact Or.inl rfl | exact Or.inr rfl) (pe_op op_mod (pe_callTy call_int1 (by rfl) T.b_int boot_int (pa_cons (pe_op op_mul (pv 5) (pe_op op_add (pv 5) pe_int)) pa_nil)) pe_int))
      (pss_one (ps_ret (pe_op op_mod (pe_callTy call_int1 (by rfl) T.b_int boot_int (pa_cons (pe_op op_fdiv (pe_op op_mod (pe_callTy call_int1 (by rfl) T.b_int boot_int (pa_cons (pe_op op_add (pe_op op_mul (pv 5) (pv 5)) (pe_op op_mul pe_int (pv 5))) pa_nil)) pe_int) pe_int) pa_nil)) (pv 1))))))))))))), ?_⟩
    have hcp : c ≠ p := fun e => by rw [e, hp] at hc; cases hc
    have lz : (zs.map V.int).length = zs.length := List.length_map ..
    refine q_when (et_test (ev_op (ev_dgetS (ev_var rfl) hp (penK_rest _ _ _)) (ev_var rfl) rv_I0)) (fun hb H1 e1 => ?_) (fun hb H1 e1 => ?_)
    · refine q_asg (ev_op (ev_int1 (ev_dgetS (ev_var rfl) (e1 _ _ hp) (penK_rest _ _ _))) (ev_var rfl) (rv_I hm0)) fun H2 e2 => ?_
      refine q_dput (k := kRest) (ev_op (ev_dgetS (ev_var rfl) ((e1.trans e2) _ _ hp) (penK_rest _ _ _)) (ev_var rfl) (rv_I ⟨hm0, by omega⟩)) (ev_var rfl) ev_c ((e1.trans e2) _ _ hp) (by show 3 < 1000; decide) fun H3 e3 => ?_
      rw [penK_putR]
      refine s_ret (ev_var rfl) fun H4 e4 => ?_
      have e03 := (e1.trans e2).trans e3
      exact q _ _ (Int.emod_nonneg _ (by omega)) (Int.emod_lt_of_pos _ hm0) ((But.of e03).upd.ex e4) ⟨s, r / m, zs, e4 _ _ upd_same, e4 _ _ (by rw [upd_ne hcp]; exact e03 _ _ hc), hs0, by omega, hz⟩
    · refine q_asg (ev_dgetS (ev_var rfl) (e1 _ _ hp) (penK_spot _ _ _)) fun H2 e2 => ?_
      refine q_dput (k := kSpot) (ev_op (ev_var rfl) ev_c rv_I0) (ev_var rfl) ev_c ((e1.trans e2) _ _ hp) (by show 3 < 1000; decide) fun H3 e3 => ?_
      rw [penK_putS]
      have e03 := (e1.trans e2).trans e3
      have b3 : But p H (L2.upd H3 p (.dK (penK (.ref c) (s + 1) r))) := (But.of e03).upd
      have p3 : (L2.upd H3 p (.dK (penK (.ref c) (s + 1) r))) p = some (.dK (penK (.ref c) (s + 1) r)) := upd_same
      have c3 : (L2.upd H3 p (.dK (penK (.ref c) (s + 1) r))) c = some (.lst (zs.map V.int)) := by rw [upd_ne hcp]; exact e03 _ _ hc
      revert p3 c3 b3
      generalize L2.upd H3 p (.dK (penK (.ref c) (s + 1) r)) = H4
      intro b4 p4 c4
      refine q_asg (ev_op (ev_op ev_c (ev_var rfl) (rv_I (.inl ⟨by decide, by decide⟩))) ev_c rv_I0) fun H5 e5 => ?_
      have hcells : ∀ {σ : L2.St} {H' : Hp}, σ[0]? = some (some (.ref p)) → Ex H4 H' → Ev (tDGet (tVar 0) (tC (.str "cells"))) σ H' (.ref c) := fun hσ e => ev_dgetS (ev_var hσ) (e _ _ p4) (penK_cells _ _ _)
      refine q_cut (M := fun σ' H' => ∃ (z : Int) (u : Option V), σ' = [some (.ref p), some (.int m), u, some (.int s), some (.int z), none] ∧ Ex H4 H') ?_ ?_
      · refine s_when (et_test (ev_opL (hcells rfl e5) (el_lst ea_nil (by decide)) fun l H6 hl e6 => fun H7 e7 Q q => ⟨.list (zs.map PyData.int), .list [], .lst (sq_of (((e5.trans e6).trans e7) _ _ c4)) (dp_ints zs), .lst (sq_of (e7 _ _ hl)) .nil, ints_sh zs, by decide, q H7 (Ex.refl H7)⟩)) (fun hb2 H6 e6 => ?_) (fun hb2 H6 e6 => ⟨_, _, rfl, e5.trans e6⟩)
        have hne : zs ≠ [] := fun e => by rw [e] at hb2; exact absurd hb2 (by decide)
        have hpos : 0 < zs.length := List.length_pos_iff.mpr hne
        have hix : 0 ≤ s % (zs.length : Int) ∧ s % (zs.length : Int) < zs.length := ⟨Int.emod_nonneg _ (by omega), Int.emod_lt_of_pos _ (by omega)⟩
        obtain ⟨z, hz'⟩ : ∃ z, atI (zs.map V.int) (s % (zs.length : Int)) = some (.int z) := at_ints hix.1 hix.2
        have e06 := e5.trans e6
        have hl : Ev (tCB (rLenQ K) (tCons (tDGet (tVar 0) (tC (.str "cells"))) tNil)) (L2.start N__law_draw [.ref p, .int m] |>.set 3 (some (.int s)) |>.set 4 (some (.int (61 * s + 37)))) H6 (.int (zs.length : Int)) := by
          have := ev_lenS (K := K) (hcells (σ := L2.start N__law_draw [.ref p, .int m] |>.set 3 (some (.int s)) |>.set 4 (some (.int (61 * s + 37)))) rfl e06) ⟨c, rfl, .inl (sq_of (e06 _ _ c4))⟩
          rw [lz] at this
          exact this
        refine s_asg (ev_op (hcells rfl e06) (ev_op (ev_int1 (ev_var rfl)) hl (rv_I (by omega))) (rv_ixL (sq_of (e06 _ _ c4)) hz')) fun H7 e7 => ⟨z, _, rfl, e06.trans e7⟩
      · rintro σ' H6 ⟨z, u, rfl, e6⟩
        have hl : Ev (tCB (rLenQ K) (tCons (tDGet (tVar 0) (tC (.str "cells"))) tNil)) [some (.ref p), some (.int m), u, some (.int s), some (.int z), none] H6 (.int (zs.length : Int)) := by
          have := ev_lenS (K := K) (hcells (σ := [some (.ref p), some (.int m), u, some (.int s), some (.int z), none]) rfl e6) ⟨c, rfl, .inl (sq_of (e6 _ _ c4))⟩
          rw [lz] at this
          exact this
        refine q_when (et_and (et_test (ev_op (ev_var rfl) hl rv_I0)) (fun _ => et_test (ev_op (ev_var rfl) (ev_op ev_c ev_c (rv_I (by unfold CPow; decide))) rv_I0))) (fun hb2 H7 e7 => ?_) (fun hb2 H7 e7 => ?_)
        · have e07 := e6.trans e7
          refine q_dput (k := kRest) (ev_op (ev_op (ev_var rfl) (ev_op ev_c ev_c (rv_I (by unfold CPow; decide))) rv_I0) (ev_var rfl) (rv_I ⟨hm0, by omega⟩)) (ev_var rfl) ev_c (e07 _ _ p4) (by show 3 < 1000; decide) fun H8 e8 => ?_
          rw [penK_putR]
          refine s_ret (ev_op (ev_int1 (ev_op (ev_var rfl) (ev_op ev_c ev_c (rv_I (by unfold CPow; decide))) rv_I0)) (ev_var rfl) (rv_I hm0)) fun H9 e9 => ?_
          have e08 := e07.trans e8
          exact q _ _ (Int.emod_nonneg _ (by omega)) (Int.emod_lt_of_pos _ hm0) ((b4.ex e08).upd.ex e9) ⟨s + 1, _, zs, e9 _ _ upd_same, e9 _ _ (by rw [upd_ne hcp]; exact e08 _ _ c4), by omega, by omega, hz⟩
        · have e07 := e6.trans e7
          have big : ∀ i : Int, 0 ≤ i → i < 10000000000 → (-(2 ^ 64) < i ∧ i < 2 ^ 64) := fun i h1 h2 => ⟨by omega, by omega⟩
          have m1 := Int.emod_nonneg z (b := 2147483423) (by decide)
          have m2 := Int.emod_lt_of_pos z (b := 2147483423) (by decide)
          refine q_asg (ev_op (ev_op (ev_int1 (ev_var rfl)) ev_c (rv_I (by decide))) ev_c (rv_I (.inl (big _ m1 (by omega))))) fun H8 e8 => ?_
          refine q_asg (ev_op (ev_int1 (ev_op (ev_op (ev_op (ev_var rfl) (ev_op (ev_op ev_c (ev_var rfl) (rv_I (.inl ⟨by decide, by decide⟩))) (ev_var rfl) (rv_I (.inr (big _ hs0 (by omega))))) rv_I0) (ev_op ev_c (ev_var rfl) (rv_I (.inl ⟨by decide, by decide⟩))) rv_I0) ev_c rv_I0)) ev_c (rv_I (by decide))) fun H9 e9 => ?_
          generalize hx : (z % 2147483423 * 40009 + 52361 * s * s + 97 * s + 29) % 2147483477 = x
          have x1 : 0 ≤ x := by rw [← hx]; exact Int.emod_nonneg _ (by decide)
          have x2 : x < 2147483477 := by rw [← hx]; exact Int.emod_lt_of_pos _ (by decide)
          refine q_asg (ev_op (ev_int1 (ev_op (ev_var rfl) (ev_op (ev_var rfl) ev_c rv_I0) (rv_I (.inl (big _ x1 (by omega)))))) ev_c (rv_I (by decide))) fun H10 e10 => ?_
          generalize hy : (x * (x + 70001)) % 2147483489 = y
          have y1 : 0 ≤ y := by rw [← hy]; exact Int.emod_nonneg _ (by decide)
          have y2 : y < 2147483489 := by rw [← hy]; exact Int.emod_lt_of_pos _ (by decide)
          refine s_ret (ev_op (ev_int1 (ev_op (ev_op (ev_int1 (ev_op (ev_op (ev_var rfl) (ev_var rfl) (rv_I (.inl (big _ y1 (by omega))))) (ev_op ev_c (ev_var rfl) (rv_I (.inl ⟨by decide, by decide⟩))) rv_I0)) ev_c (rv_I (by decide))) ev_c (rv_I ⟨by decide, by decide⟩))) (ev_var rfl) (rv_I hm0)) fun H11 e11 => ?_
          have e011 := (((e07.trans e8).trans e9).trans e10).trans e11
          exact q _ _ (Int.emod_nonneg _ (by omega)) (Int.emod_lt_of_pos _ hm0) (b4.ex e011) ⟨s + 1, r, zs, e011 _ _ p4, e011 _ _ c4, by omega, by omega, hz⟩
theorem ok__law_pick {f : Addr} {fd : FuncData} (F : FunD K "_law_pick" "_law_pick" (defArgs s__law_pick) (defBody s__law_pick) (defScope s__law_pick) [] [] f fd) (T : Txt K mg) (C__law_draw : C8.Cal P w K mg base 1 "_law_draw" spDraw []) : FnOk P w K mg base C8.CX0 2 f fd P__law_pick (spPick K) := by
  refine F.ok sc__law_pick (fun vs H Q E h => ?_) (fun cdv A outer s H vs Q E hr h => ?_)
  · obtain ⟨_, _, _, _, rfl, _⟩ := h
    rfl
  · obtain ⟨p, cc, n, v, rfl, hp, hn, h⟩ := h
    refine ⟨_, PSs.nox (pss_one (ps_ret (pe_ix (ix_seqK (K := K) rfl) (pv 1) (C8.pe_c C__law_draw hr (by decide) rfl (pa_cons (pv 0) (pa_cons (pe_callB (call_lenU (K := K) rfl) (by rfl) T.b_len (by decide +kernel) (pa_cons (pv 1) pa_nil)) pa_nil))) (fun _ _ => rfl)))), ?_⟩
    rcases h with ⟨z, rfl, hz0, hz1, q⟩ | ⟨a, xs, rfl, ha, hx0, hx1, q⟩
    · refine ⟨_, rfl, call_ea (ea_cons (ev_var rfl) (ea_cons (ev_cb (ea_cons (ev_var rfl) ea_nil) fun H1 _ _ k => .inr ⟨z, rfl, sz_of (by omega), k H1 (Ex.refl H1)⟩) ea_nil)) fun H1 e1 => ⟨p, cc, n, z.length, rfl, hp.mono e1, hn, by omega, by omega, fun r H' r0 r1 b hp' => ?_⟩⟩
      obtain ⟨c, hc, hm⟩ := at_mem (xs := z.cps.toList) r0 (by rw [Array.length_toList]; exact r1)
      exact .inr (.inr ⟨z, r, c, rfl, rfl, sz_of (by omega), hc, q c H' hm (fun x o h1 h2 => b x o h1 (e1 _ _ h2)) hp'⟩)
    · refine ⟨_, rfl, call_ea (ea_cons (ev_var rfl) (ea_cons (ev_cb (ea_cons (ev_var rfl) ea_nil) fun H1 e1 _ k => .inl ⟨a, xs, rfl, .inl (sq_of (e1 _ _ ha)), k H1 (Ex.refl H1)⟩) ea_nil)) fun H1 e1 => ⟨p, cc, n, xs.length, rfl, hp.mono e1, hn, by omega, by omega, fun r H' r0 r1 b hp' => ?_⟩⟩
      obtain ⟨c, hc, hm⟩ := at_mem (xs := xs) r0 r1
      have hap : a ≠ p := fun e => by
        obtain ⟨_, _, _, h1, _⟩ := hp
        rw [e, h1] at ha
        cases ha
      exact .inl ⟨a, xs, r, c, rfl, rfl, sq_of (b a _ hap (e1 _ _ ha)), hc, q c H' hm (fun x o h1 h2 => b x o h1 (e1 _ _ h2)) hp'⟩
end
end Sw
namespace Sw
open PySem L2 Evl
abbrev s__law_words : Stmt := top 35
abbrev N__law_words : List Str := ["_law_pen_here", "_law_many", "_law_letters", "_law_stem", "_law_k", "_law_at", "_law_front", "_law_step", "_law_tail", "_law_found", "_law_word"]
abbrev P__law_words : List Str := ["_law_pen_here", "_law_many"]
theorem sc__law_words : FnScope N__law_words P__law_words (defScope s__law_words) := ⟨rfl, rfl, rfl, by decide +kernel, rfl, by decide +kernel, by decide +kernel⟩
theorem But.trans {p : Addr} {H H1 H2 : Hp} (a : But p H H1) (b : But p H1 H2) : But p H H2 := fun x o h1 h2 => b x o h1 (a x o h1 h2)
theorem But.refl {p : Addr} (H : Hp) : But p H H := fun _ _ _ h => h
theorem PenAt.ne_p {H : Hp} {p c a : Addr} {n : Nat} {o : HO} (h : PenAt H p c n) (ha : H a = some o) (ho : ∀ kvs, o ≠ .dK kvs) : a ≠ p := fun e => by
  obtain ⟨_, _, _, h1, _⟩ := h
  rw [e, h1] at ha
  exact ho _ (Option.some.inj ha).symm
theorem But.et {p c : Addr} {H H1 : Hp} {n : Nat} (b : But p H H1) (hp : PenAt H p c n) : Et H H1 := fun a xs ha => b a _ (hp.ne_p ha fun _ q => nomatch q) ha
theorem But.lst {p c : Addr} {H H1 : Hp} {n : Nat} {a : Addr} {xs : List V} (b : But p H H1) (hp : PenAt H p c n) (ha : H a = some (.lst xs)) : H1 a = some (.lst xs) := b a _ (hp.ne_p ha fun _ q => nomatch q) ha
theorem But.back {p c : Addr} {H H1 : Hp} {m : Nat} {a : Addr} (b : But p H H1) (hp : PenAt H1 p c m) (ha : H1 a = none) : H a = none := by
  cases h : H a with
  | none => rfl
  | some o =>
    have e : a ≠ p := fun e => by
      obtain ⟨_, _, _, h1, _⟩ := hp
      rw [e, h1] at ha
      cases ha
    rw [b a o e h] at ha
    cases ha
/-- a store to a list that is not the pen's -/
theorem PenAt.upd {H H0 : Hp} {p c D : Addr} {o : HO} {n m : Nat} (h0 : PenAt H0 p c m) (hD : H0 D = none) (h : PenAt H p c n) : PenAt (L2.upd H D o) p c n := by
  obtain ⟨_, _, _, a1, a2, _⟩ := h0
  obtain ⟨s, r, zs, h1, h2, h3, h4, h5⟩ := h
  exact ⟨s, r, zs, by rw [upd_ne (fun e => by rw [e, hD] at a1; cases a1)]; exact h1, by rw [upd_ne (fun e => by rw [e, hD] at a2; cases a2)]; exact h2, h3, h4, h5⟩
theorem But.mut {H H1 : Hp} {p D : Addr} {o : HO} (b : But p H H1) (hD : H D = none) : But p H (L2.upd H1 D o) := fun a u h1 h2 => by
  rw [upd_ne (fun e => by rw [e, hD] at h2; cases h2)]
  exact b a u h1 h2
/-- [e for k in range(..)], the pen used on the way -/
theorem lcPen {p c : Addr} {j n1 M cost : Nat} {vs : List Nat} {ta : TA} {te : TE} {σ : L2.St} {H : Hp} {Q : VK} (φ : Hp → V → Prop) (hφ : ∀ H H' v, Et H H' → φ H v → φ H' v) (hM : M ≤ 1000)
    (hta : ∀ R : List V → Hp → Prop, (∀ (r : Nat) H1, r ≤ M → But p H H1 → PenAt H1 p c n1 → R [.int r] H1) → ta σ H R)
    (hw : ∀ x, wipe ((wipe σ vs).set j (some x)) vs = wipe σ vs)
    (he : ∀ (i n : Nat) H1, But p H H1 → PenAt H1 p c n → n ≤ n1 + i * cost → i < M → ∀ Q' : VK, (∀ v H2, But p H1 H2 → PenAt H2 p c (n + cost) → φ H2 v → Q' v H2) → te ((wipe σ vs).set j (some (.int (i : Int)))) H1 Q')
    (k : ∀ D acc H2, H D = none → But p H H2 → PenAt H2 p c (n1 + M * cost) → H2 D = some (.lst acc) → acc.length ≤ M → (∀ v ∈ acc, φ H2 v) → Q (.ref D) H2) : tLc (iRng1 ta) (gName j) tYes te vs σ H Q := by
  refine hta _ fun r H1 hr b1 p1 => ⟨r, rfl, by omega, by omega, fun D hD => ?_⟩
  have hrN : (r : Int).toNat = r := Int.toNat_natCast r
  rw [hrN]
  refine lc_it (walk_range (lo := 0) (n := r)) (Qd := fun H => Q (.ref D) H) (fun i H' => But p H H' ∧ PenAt H' p c (n1 + i * cost) ∧ ∃ acc, H' D = some (.lst acc) ∧ acc.length = i ∧ ∀ v ∈ acc, φ H' v) ⟨b1.ex (Ex.new hD), (p1.mono (Ex.new hD)).more (by omega), [], upd_same, rfl, fun v h => by cases h⟩ (fun _ _ _ _ => trivial) ?_ ?_
  · rintro i x H2 H3 hi ⟨b2, p2, acc, ha, hl, hv⟩ hy
    obtain ⟨rfl, rfl⟩ := hy
    have e0 : (0 : Int) + (i : Int) = (i : Int) := Int.zero_add _
    show gName j (V.int ((0 : Int) + (i : Int))) _ _ _
    rw [e0]
    refine ⟨hw _, ?_⟩
    unfold tYes
    dsimp only
    rw [if_pos rfl]
    refine he i _ _ b2 p2 (Nat.le_refl _) (by omega) _ fun v H4 b4 p4 hv4 => ?_
    have hD0 : H D = none := b1.back p1 hD
    have hDp : D ≠ p := p2.ne_p ha fun _ q => nomatch q
    have ha4 := b4 D _ hDp ha
    refine ⟨acc, ha4, sz_lt (by omega), (b2.trans b4).mut hD0, ?_, acc ++ [v], upd_same, by rw [List.length_append, hl]; rfl, fun u hu => ?_⟩
    · have := PenAt.upd (o := .lst (acc ++ [v])) p1 hD p4
      exact this.more (by rw [Nat.add_mul]; omega)
    · have et : Et H4 (L2.upd H4 D (.lst (acc ++ [v]))) := (Et.refl H4).lst ha4
      rcases List.mem_append.mp hu with h | h
      · exact hφ _ _ _ et (hφ _ _ _ (b4.et p2) (hv u h))
      · rcases List.mem_cons.mp h with rfl | h
        · exact hφ _ _ _ et hv4
        · cases h
  · rintro H2 ⟨b2, p2, acc, ha, hl, hv⟩
    exact k D acc H2 (b1.back p1 hD) b2 (p2.more (by have := Nat.mul_le_mul_right cost hr; omega)) ha (by omega) hv
/-! texts of letters -/
def Lets (z : Str) : Prop := ∀ c ∈ z.cps.toList, c ∈ letters
theorem Lets.app {x y : Str} (h1 : Lets x) (h2 : Lets y) : Lets (x ++ y) := fun c hc => by
  rw [PySem.W.KT.app_list] at hc
  exact (List.mem_append.mp hc).elim (h1 c) (h2 c)
theorem Lets.cut {z : Str} {lo hi : Option Int} (h : Lets z) : Lets (cutS z lo hi) := fun c hc => by
  unfold cutS at hc
  exact h c (List.mem_of_mem_drop (List.mem_of_mem_take hc))
theorem Lets.word {z : Str} (h : Lets z) (h1 : 1 ≤ z.length) (h2 : z.length ≤ 8) : isWord z = true := by
  unfold isWord
  rw [decide_eq_true h1, decide_eq_true h2, Bool.true_and, Bool.true_and, List.all_eq_true]
  exact fun c hc => decide_eq_true (h c hc)
theorem cut_len {z : Str} {n : Nat} (hn : n ≤ z.length) : (cutS z none (some (n : Int))).length + (cutS z (some (n : Int)) none).length = z.length := by
  have e : z.cps.toList.length = z.length := Array.length_toList
  unfold cutS
  rw [HT.sIx_nat, HT.sIx_nat, HT.sIx_none, HT.sIx_none, Nat.min_eq_left hn]
  show ((z.cps.toList.drop 0).take (n - 0)).toArray.size + ((z.cps.toList.drop n).take (z.length - n)).toArray.size = z.length
  rw [List.size_toArray, List.size_toArray, List.length_take, List.length_take, List.length_drop, List.length_drop, e]
  omega
def spWords : Sp := fun vs H Q _ => ∃ p c n m, vs = [.ref p, .int m] ∧ PenAt H p c n ∧ n ≤ 100000000 ∧ 0 ≤ m ∧ m ≤ 20 ∧ ∀ a ws H', H a = none → But p H H' → PenAt H' p c (n + 11) → H' a = some (.lst (ws.map V.str)) → (ws.length : Int) = m → isWords ws = true → Q (.ref a) H'
section
variable {K : PySem.W.Frag} {σ : L2.St} {H : Hp} {p c : Addr} {n : Nat} {t0 tl : TE} {ta : TA} {Q : VK}
theorem draw_c {m : Int} (ha : EvA ta σ H [.ref p, .int m]) (hp : PenAt H p c n) (hn : n ≤ 1000000000) (h0 : 0 < m) (h1 : m < 1000000000) (k : ∀ r H', 0 ≤ r → r < m → But p H H' → PenAt H' p c (n + 1) → Q (.int r) H') : tCall spDraw [] C8.E0 ta σ H Q :=
  call_ea ha fun H1 e => ⟨p, c, n, m, rfl, hp.mono e, hn, h0, h1, fun r H' a b d e' => k r H' a b (fun x o h1 h2 => d x o h1 (e _ _ h2)) e'⟩
theorem pick_L {xs : List V} (h0 : Ev t0 σ H (.ref p)) (hl : EvL tl σ H xs) (hp : PenAt H p c n) (hn : n ≤ 1000000000) (x0 : 0 < xs.length) (x1 : xs.length ≤ 10000) (k : ∀ x H', x ∈ xs → But p H H' → PenAt H' p c (n + 1) → Q x H') : tCall (spPick K) [] C8.E0 (tCons t0 (tCons tl tNil)) σ H Q :=
  h0 H (Ex.refl H) _ fun H1 e1 => hl H1 e1 _ fun a H2 _ e2 ha => ⟨p, c, n, .ref a, rfl, hp.mono (e1.trans e2), hn, .inr ⟨a, xs, rfl, ha, x0, x1, fun x H' hx b hp' => k x H' hx (fun y o h1 h2 => b y o h1 ((e1.trans e2) _ _ h2)) hp'⟩⟩
theorem pick_V {xs : List V} {a : Addr} (ha : EvA ta σ H [.ref p, .ref a]) (hl : H a = some (.lst xs)) (hp : PenAt H p c n) (hn : n ≤ 1000000000) (x0 : 0 < xs.length) (x1 : xs.length ≤ 10000) (k : ∀ x H', x ∈ xs → But p H H' → PenAt H' p c (n + 1) → Q x H') : tCall (spPick K) [] C8.E0 ta σ H Q :=
  call_ea ha fun H1 e1 => ⟨p, c, n, .ref a, rfl, hp.mono e1, hn, .inr ⟨a, xs, rfl, e1 _ _ hl, x0, x1, fun x H' hx b hp' => k x H' hx (fun y o h1 h2 => b y o h1 (e1 _ _ h2)) hp'⟩⟩
theorem pick_S {z : Str} (ha : EvA ta σ H [.ref p, .str z]) (hp : PenAt H p c n) (hn : n ≤ 1000000000) (x0 : 0 < z.length) (x1 : z.length ≤ 10000) (k : ∀ x H', x ∈ z.cps.toList → But p H H' → PenAt H' p c (n + 1) → Q (.str ⟨#[x]⟩) H') : tCall (spPick K) [] C8.E0 ta σ H Q :=
  call_ea ha fun H1 e1 => ⟨p, c, n, .str z, rfl, hp.mono e1, hn, .inl ⟨z, rfl, x0, x1, fun x H' hx b hp' => k x H' hx (fun y o h1 h2 => b y o h1 (e1 _ _ h2)) hp'⟩⟩
end
theorem ones_of : ∀ {acc : List V}, (∀ v ∈ acc, ∃ x, v = .str ⟨#[x]⟩ ∧ x ∈ letters) → ∃ ys : List Str, acc = ys.map V.str ∧ ∀ y ∈ ys, y.length = 1 ∧ Lets y
  | [], _ => ⟨[], rfl, fun y h => by cases h⟩
  | v :: acc, h => by
    obtain ⟨x, rfl, hx⟩ := h v List.mem_cons_self
    obtain ⟨ys, rfl, hy⟩ := ones_of (acc := acc) fun u hu => h u (List.mem_cons_of_mem _ hu)
    refine ⟨⟨#[x]⟩ :: ys, rfl, fun y hy' => ?_⟩
    rcases List.mem_cons.mp hy' with rfl | hy'
    · exact ⟨rfl, fun c hc => by rcases List.mem_cons.mp hc with rfl | hc; exact hx; cases hc⟩
    · exact hy y hy'
theorem join_lets {ys : List Str} (h : ∀ y ∈ ys, y.length = 1 ∧ Lets y) : (PySem.Txt.join (Str.ofString "") ys).length = ys.length ∧ Lets (PySem.Txt.join (Str.ofString "") ys) := by
  refine ⟨PySem.W.KT.join_ones ys fun y hy => (h y hy).1, fun c hc => ?_⟩
  have e : PySem.Txt.join (Str.ofString "") ys = Str.join (Str.ofString "") ys := StrLaws.glued_eq_join _ _
  rw [e, PyProof.Rows.mem_join] at hc
  rcases hc with ⟨t, ht, hc⟩ | ⟨_, hc⟩
  · exact (h t ht).2 c hc
  · cases hc
theorem sum_ones : ∀ {ys : List Str}, (∀ y ∈ ys, y.length = 1 ∧ Lets y) → (ys.map (·.length)).sum = ys.length
  | [], _ => rfl
  | y :: ys, h => by
    rw [List.map_cons, List.sum_cons, sum_ones fun z hz => h z (List.mem_cons_of_mem _ hz), (h y List.mem_cons_self).1, List.length_cons]
    omega
abbrev abc : Str := "abcdefghijklmnopqrstuvwxyz"
section
variable {P : Program} {w : World} {K : PySem.W.Frag} {mg : Str → Option Value} {base : Heap}
theorem ok__law_words {f : Addr} {fd : FuncData} (F : FunD K "_law_words" "_law_words" (defArgs s__law_words) (defBody s__law_words) (defScope s__law_words) [] [] f fd) (T : Txt K mg) (C__law_draw : C8.Cal P w K mg base 1 "_law_draw" spDraw []) (C__law_pick : C8.Cal P w K mg base 2 "_law_pick" (spPick K) []) : FnOk P w K mg base C8.CX0 3 f fd P__law_words spWords := by
  refine F.ok sc__law_words (fun vs H Q E h => ?_) (fun cdv A outer s H vs Q E hr h => ?_)
  · obtain ⟨_, _, _, _, rfl, _⟩ := h
    rfl
  · obtain ⟨p, c, n, m, rfl, hp, hn, hm0, hm1, q⟩ := h
    refine ⟨_, PSs.nox (pss_cons (ps_set (i := 2) sc__law_words.nd rfl (by first | exact Or.inl rfl | exact Or.inr rfl) pe_str)
      (pss_cons (ps_set (i := 3) sc__law_words.nd rfl (by first | exact Or.inl rfl | exact Or.inr rfl) (pe_join pe_str (pe_lc (own := [("_law_k", 4)]) (tt := tYes) rfl sc__law_words.nd (pi_range1 (by rfl) T.b_range (pa_cons (C8.pe_c C__law_draw hr (by decide) rfl (pa_cons (pv 0) (pa_cons pe_int pa_nil))) pa_nil)) (blkOk_by (own := [("_law_k", 4)]) (N := N__law_words) (sc := defScope s__law_words) (by decide +kernel)) (fun _ _ _ _ _ => (pg_name (i := 4) sc__law_words.nd rfl (by first | exact Or.inl rfl | exact Or.inr rfl))) (fun _ _ _ _ _ => pts_nil) (fun _ _ _ _ _ => (C8.pe_c C__law_pick hr (by decide) rfl (pa_cons (pv 0) (pa_cons (pv 2) pa_nil)))))))
      (pss_cons (ps_par (i := 5) (j := 6) (by rfl) sc__law_words.nd rfl rfl (by decide) rfl rfl (pa_cons (C8.pe_c C__law_draw hr (by decide) rfl (pa_cons (pv 0) (pa_cons (pe_op op_add (pe_callB call_len_strK (by rfl) T.b_len boot_len (pa_cons (pv 3) pa_nil)) pe_int) pa_nil))) (pa_cons (C8.pe_c C__law_draw hr (by decide) rfl (pa_cons (pv 0) (pa_cons pe_int pa_nil))) pa_nil)) (by rfl))
      (pss_cons (ps_par (i := 7) (j := 8) (by rfl) sc__law_words.nd rfl rfl (by decide) rfl rfl (pa_cons (C8.pe_c C__law_pick hr (by decide) rfl (pa_cons (pv 0) (pa_cons (pe_lst (pa_cons pe_int (pa_cons pe_int (pa_cons pe_int (pa_cons pe_int (pa_cons pe_int (pa_cons pe_int (pa_cons pe_int (pa_cons pe_int pa_nil))))))))) pa_nil))) (pa_cons (C8.pe_c C__law_pick hr (by decide) rfl (pa_cons (pv 0) (pa_cons (pe_lst (pa_cons pe_str (pa_cons pe_str (pa_cons pe_str (pa_cons pe_str pa_nil))))) pa_nil))) pa_nil)) (by rfl))
      (pss_cons (ps_set (i := 9) sc__law_words.nd rfl (by first | exact Or.inl rfl | exact Or.inr rfl) (pe_lst pa_nil))
      (pss_cons (ps_for PassesOwn.never rfl (pi_range1 (by rfl) T.b_range (pa_cons (pv 1) pa_nil)) (pg_name (i := 4) sc__law_words.nd rfl (by first | exact Or.inl rfl | exact Or.inr rfl))
      (pss_cons (ps_set (i := 10) sc__law_words.nd rfl (by first | exact Or.inl rfl | exact Or.inr rfl) (pe_op op_add_str (pe_op op_add_str (pe_slice sl_str (pv 3) po_none (po_some (pv 5))) (pe_ix ix_str (pv 2) (pe_op op_mod (pe_callTy call_int1 (by rfl) T.b_int boot_int (pa_cons (pe_op op_add (pv 6) (pe_op op_mul (pv 7) (pv 4))) pa_nil)) pe_int) (fun _ _ => rfl))) (pe_slice sl_str (pv 3) (po_some (pv 5)) po_none)))
      (pss_one (ps_expr (pe_bm PySem.F.plainAttrs_list PySem.F.slot_list_append PySem.F.type_list_append mt_append (pv 9) (pa_cons (pe_ifExp (pt_cmpR op_eq (pe_op op_mod (pe_callTy call_int1 (by rfl) T.b_int boot_int (pa_cons (pv 4) pa_nil)) pe_int) pe_int (nomark _)) (pe_op op_add_str (pv 10) (pv 8)) (pv 10)) pa_nil))))))
      (pss_one (ps_ret (pv 9))))))))), ?_⟩
    refine q_asg ev_c fun H0 e0 => ?_
    refine ⟨⟨_, rfl⟩, lcPen (p := p) (c := c) (M := 5) (cost := 1) (n1 := n + 1) (fun _ v => ∃ x, v = .str ⟨#[x]⟩ ∧ x ∈ letters) (fun _ _ _ _ h => h) (by decide) (fun R k => ?_) (fun _ => rfl) (fun i n' H1 b1 p1 hn' hi Q' k => ?_) (fun D acc H1 hD b1 p1 ha hl hv => ?_)⟩
    · refine draw_c (p := p) (c := c) (ea_cons (ev_var rfl) (ea_cons ev_c ea_nil)) (hp.mono e0) (by omega) (by decide) (by decide) fun r H1 r0 r1 b1 p1 => ?_
      have := k r.toNat H1 (by omega) b1 p1
      rw [Int.toNat_of_nonneg r0] at this
      exact this
    · exact pick_S (z := abc) (ea_cons (ev_var rfl) (ea_cons (ev_var rfl) ea_nil)) p1 (by omega) (by decide) (by decide) fun x H2 hx b2 p2 => k _ H2 b2 p2 ⟨x, rfl, hx⟩
    · obtain ⟨ys, rfl, hy⟩ := ones_of hv
      obtain ⟨jl, jt⟩ := join_lets hy
      rw [List.length_map] at hl
      refine ⟨_, D, ys, rfl, rfl, .inl (sq_of ha), by rw [sum_ones hy]; show ys.length + ys.length * 0 ≤ _; omega, ?_⟩
      generalize PySem.Txt.join (Str.ofString "") ys = stem at jl jt
      have hst : stem.length ≤ 5 := by omega
      have b01 : But p H H1 := fun x o h1 h2 => b1 x o h1 (e0 _ _ h2)
      refine draw_c (p := p) (c := c) (m := stem.length + 1) (ea_cons (ev_var rfl) (ea_cons (ev_op (ev_cb (ea_cons (ev_var rfl) ea_nil) fun H1 _ _ q => ⟨stem, rfl, sz_of (by omega), q H1 (Ex.refl H1)⟩) ev_c rv_I0) ea_nil)) p1 (by omega) (by omega) (by omega) fun at_ H2 a0 a1 b2 p2 => ?_
      refine draw_c (p := p) (c := c) (m := 26) (ea_cons (ev_var rfl) (ea_cons ev_c ea_nil)) p2 (by omega) (by decide) (by decide) fun fr H3 f0 f1 b3 p3 => ⟨_, _, rfl, ?_⟩
      refine pick_L (p := p) (c := c) (xs := [.int 1, .int 3, .int 5, .int 7, .int 9, .int 11, .int 15, .int 17]) (ev_var rfl) (el_lst (ea_cons ev_c (ea_cons ev_c (ea_cons ev_c (ea_cons ev_c (ea_cons ev_c (ea_cons ev_c (ea_cons ev_c (ea_cons ev_c ea_nil)))))))) (by decide)) p3 (by omega) (by decide) (by decide) fun sv H4 hsv b4 p4 => ?_
      refine pick_L (p := p) (c := c) (xs := [.str "", .str "", .str "w", .str "ww"]) (ev_var rfl) (el_lst (ea_cons ev_c (ea_cons ev_c (ea_cons ev_c (ea_cons ev_c ea_nil)))) (by decide)) p4 (by omega) (by decide) (by decide) fun tv H5 htv b5 p5 => ⟨_, _, rfl, ?_⟩
      obtain ⟨st, rfl, s0, s1⟩ : ∃ st : Int, sv = .int st ∧ 0 ≤ st ∧ st ≤ 17 := by
        rcases List.mem_cons.mp hsv with rfl | hsv
        · exact ⟨1, rfl, by decide, by decide⟩
        rcases List.mem_cons.mp hsv with rfl | hsv
        · exact ⟨3, rfl, by decide, by decide⟩
        rcases List.mem_cons.mp hsv with rfl | hsv
        · exact ⟨5, rfl, by decide, by decide⟩
        rcases List.mem_cons.mp hsv with rfl | hsv
        · exact ⟨7, rfl, by decide, by decide⟩
        rcases List.mem_cons.mp hsv with rfl | hsv
        · exact ⟨9, rfl, by decide, by decide⟩
        rcases List.mem_cons.mp hsv with rfl | hsv
        · exact ⟨11, rfl, by decide, by decide⟩
        rcases List.mem_cons.mp hsv with rfl | hsv
        · exact ⟨15, rfl, by decide, by decide⟩
        rcases List.mem_cons.mp hsv with rfl | hsv
        · exact ⟨17, rfl, by decide, by decide⟩
        cases hsv
      obtain ⟨tail, rfl, t0, t1⟩ : ∃ z : Str, tv = .str z ∧ z.length ≤ 2 ∧ Lets z := by
        rcases List.mem_cons.mp htv with rfl | htv
        · exact ⟨_, rfl, by decide, fun c h => by cases h⟩
        rcases List.mem_cons.mp htv with rfl | htv
        · exact ⟨_, rfl, by decide, fun c h => by cases h⟩
        rcases List.mem_cons.mp htv with rfl | htv
        · exact ⟨_, rfl, by decide, by unfold Lets; decide +kernel⟩
        rcases List.mem_cons.mp htv with rfl | htv
        · exact ⟨_, rfl, by decide, by unfold Lets; decide +kernel⟩
        cases htv
      have b05 := (((b01.trans b2).trans b3).trans b4).trans b5
      refine q_asgL (el_lst ea_nil (by decide)) fun a H6 h6 e6 h6a => ?_
      have haH : H a = none := b05.back p5 h6
      have atn : (at_.toNat : Int) = at_ := Int.toNat_of_nonneg a0
      refine q_forR1 (n := m) (ea_cons (ev_var rfl) ea_nil) ⟨hm0, by omega⟩ (fun i σ' H' => ∃ ws k u, σ' = [some (.ref p), some (.int m), some (.str abc), some (.str stem), k, some (.int at_), some (.int fr), some (.int st), some (.str tail), some (.ref a), u] ∧ But p H H' ∧ PenAt H' p c (n + 11) ∧ H' a = some (.lst (ws.map V.str)) ∧ ws.length = i ∧ isWords ws = true) (fun H7 e7 => ⟨[], _, _, rfl, b05.ex (e6.trans e7), (p5.mono (e6.trans e7)).more (by omega), e7 _ _ h6a, rfl, rfl⟩) ?_ ?_
      · rintro i σ' H7 hi ⟨ws, k, u, rfl, b7, p7, h7, hl7, hw7⟩
        have ix0 : 0 ≤ (fr + st * (i : Int)) % 26 := Int.emod_nonneg _ (by decide)
        have ix1 : (fr + st * (i : Int)) % 26 < 26 := Int.emod_lt_of_pos _ (by decide)
        obtain ⟨ch, hch, hcm⟩ := at_mem (xs := abc.cps.toList) ix0 ix1
        have cutl := cut_len (z := stem) (n := at_.toNat) (by omega)
        rw [atn] at cutl
        have lets1 : Lets ⟨#[ch]⟩ := fun c h => by
          rcases List.mem_cons.mp h with rfl | h
          · exact hcm
          · cases h
        have sl : ∀ {σ : L2.St} {H : Hp} {lo hi : TO} {a b : Option Int}, σ[3]? = some (some (.str stem)) → EvO lo σ H a → EvO hi σ H b → Ev (tSl rSlS (tVar 3) lo hi) σ H (.str (cutS stem a b)) := fun hσ h1 h2 H1 e1 Q q => ⟨_, hσ, h1 H1 e1 _ fun H2 e2 => h2 H2 (e1.trans e2) _ fun H3 e3 => ⟨stem, rfl, sz_of (by omega), q H3 (e2.trans e3)⟩⟩
        have add : ∀ {σ : L2.St} {H : Hp} {ta tb : TE} {x y : Str}, Ev ta σ H (.str x) → Ev tb σ H (.str y) → x.length + y.length ≤ 100000 → Ev (tOp (fun x y H Q => ∃ i j, x = .str i ∧ y = .str j ∧ i.length + j.length ≤ sizeLine ∧ Q (.str (i ++ j)) H) ta tb) σ H (.str (x ++ y)) := fun h1 h2 hl => ev_op h1 h2 fun H1 _ _ q => ⟨_, _, rfl, rfl, sz_of hl, q H1 (Ex.refl H1)⟩
        have l1 : (cutS stem none (some at_) ++ (⟨#[ch]⟩ : Str)).length = (cutS stem none (some at_)).length + 1 := by rw [PySem.Str.length_append]; rfl
        have l2 : (cutS stem none (some at_) ++ (⟨#[ch]⟩ : Str) ++ cutS stem (some at_) none).length = stem.length + 1 := by rw [PySem.Str.length_append, l1]; omega
        have lt2 : Lets (cutS stem none (some at_) ++ (⟨#[ch]⟩ : Str) ++ cutS stem (some at_) none) := (jt.cut.app lets1).app jt.cut
        refine q_asg (add (add (sl rfl eo_none (eo_some (ev_var rfl))) (ev_op (ev_var rfl) (ev_op (ev_int1 (ev_op (ev_var rfl) (ev_op (ev_var rfl) (ev_var rfl) (rv_I (.inl ⟨by omega, by omega⟩))) rv_I0)) ev_c (rv_I (by decide))) (rv_ixS (by decide) hch)) (by show _ + 1 ≤ 100000; omega)) (sl rfl (eo_some (ev_var rfl)) eo_none) (by rw [l1]; omega)) fun H8 e8 => ?_
        generalize cutS stem none (some at_) ++ (⟨#[ch]⟩ : Str) ++ cutS stem (some at_) none = word at l2 lt2
        have done : ∀ z : Str, isWord z = true → ∀ H9, Ex H8 H9 → ∃ ws' k' u', ([some (.ref p), some (.int m), some (.str abc), some (.str stem), some (.int (i : Int)), some (.int at_), some (.int fr), some (.int st), some (.str tail), some (.ref a), some (.str word)] : L2.St) = [some (.ref p), some (.int m), some (.str abc), some (.str stem), k', some (.int at_), some (.int fr), some (.int st), some (.str tail), some (.ref a), u'] ∧ But p H (L2.upd H9 a (.lst (ws.map V.str ++ [.str z]))) ∧ PenAt (L2.upd H9 a (.lst (ws.map V.str ++ [.str z]))) p c (n + 11) ∧ (L2.upd H9 a (.lst (ws.map V.str ++ [.str z]))) a = some (.lst (ws'.map V.str)) ∧ ws'.length = i + 1 ∧ isWords ws' = true := fun z hz H9 e9 => by
          refine ⟨ws ++ [z], _, _, rfl, (b7.ex (e8.trans e9)).mut haH, PenAt.upd p5 h6 (p7.mono (e8.trans e9)), ?_, ?_, ?_⟩
          · rw [upd_same, List.map_append] <;> rfl
          · rw [List.length_append, hl7]; rfl
          · unfold isWords at hw7 ⊢
            rw [List.all_append, hw7, Bool.true_and]
            show (isWord z && true) = true
            rw [hz]; rfl
        have h8 := e8 _ _ h7
        have hlen : (ws.map V.str).length < 100000 := by rw [List.length_map]; omega
        have htest : EvT (tTest (tOp rEq (tOp (rI (fun _ j => 0 < j) fun i j => .int (i % j)) (tCB (fun xs H Q => (∃ i, xs = [.int i] ∧ Q (.int i) H) ∨ ∃ k, xs = [.bl k] ∧ Q (.int (if k then 1 else 0)) H) (tCons (tVar 4) tNil)) (tC (.int 3))) (tC (.int 1)))) ([some (.ref p), some (.int m), some (.str abc), some (.str stem), some (.int (i : Int)), some (.int at_), some (.int fr), some (.int st), some (.str tail), some (.ref a), some (.str word)] : L2.St) H8 (decide (V.int ((i : Int) % 3) = V.int 1)) := et_test (ev_op (ev_op (ev_int1 (ev_var rfl)) ev_c (rv_I (by decide))) ev_c (rv_eq rfl))
        cases hb : decide (V.int ((i : Int) % 3) = V.int 1) with
        | true =>
          rw [hb] at htest
          exact s_app h8 (ev_var rfl) (ev_if htest (fun _ => add (ev_var rfl) (ev_var rfl) (by omega)) (fun z => nomatch z)) hlen fun H9 e9 => done _ ((lt2.app t1).word (by rw [PySem.Str.length_append]; omega) (by rw [PySem.Str.length_append]; omega)) H9 e9
        | false =>
          rw [hb] at htest
          exact s_app h8 (ev_var rfl) (ev_if htest (fun z => nomatch z) (fun _ => ev_var rfl)) hlen fun H9 e9 => done _ (lt2.word (by omega) (by omega)) H9 e9
      · rintro σ' H7 ⟨ws, k, u, rfl, b7, p7, h7, hl7, hw7⟩
        exact s_ret (ev_var rfl) fun H8 e8 => q a ws H8 haH (b7.ex e8) (p7.mono e8) (e8 _ _ h7) (by omega) hw7
end
end Sw
namespace Sw
open PySem L2 Evl
abbrev s__law_entry : Stmt := top 37
abbrev N__law_entry : List Str := ["_law_pen_here", "_law_words_here", "_law_lot"]
abbrev P__law_entry : List Str := ["_law_pen_here", "_law_words_here"]
theorem sc__law_entry : FnScope N__law_entry P__law_entry (defScope s__law_entry) := ⟨rfl, rfl, rfl, by decide +kernel, rfl, by decide +kernel, by decide +kernel⟩
abbrev s__law_rule : Stmt := top 38
abbrev N__law_rule : List Str := ["_law_pen_here", "_law_states", "_law_words_here", "_law_state", "_law_other", "_law_word", "_law_pattern", "_law_k", "_law_sort", "_law_exact", "_law_some", "_law_entry_here", "_law_beginning"]
abbrev P__law_rule : List Str := ["_law_pen_here", "_law_states", "_law_words_here"]
theorem sc__law_rule : FnScope N__law_rule P__law_rule (defScope s__law_rule) := ⟨rfl, rfl, rfl, by decide +kernel, rfl, by decide +kernel, by decide +kernel⟩
abbrev s__law_made_rule : Stmt := top 39
abbrev N__law_made_rule : List Str := ["_law_one", "_law_state", "_law_pattern", "_law_goal", "_law_exact", "_law_begin"]
abbrev P__law_made_rule : List Str := ["_law_one"]
theorem sc__law_made_rule : FnScope N__law_made_rule P__law_made_rule (defScope s__law_made_rule) := ⟨rfl, rfl, rfl, by decide +kernel, rfl, by decide +kernel, by decide +kernel⟩
theorem ImAll.mem {K : PySem.W.Frag} {H : Hp} : ∀ {vs : List V} {ds : List PyData} {x : V}, ImAll K H vs ds → x ∈ vs → ∃ d, d ∈ ds ∧ Im K H x d
  | _, _, _, .nil, h => by cases h
  | _, _, x, .cons a r, h => by
    rcases List.mem_cons.mp h with rfl | h
    · exact ⟨_, List.mem_cons_self, a⟩
    · obtain ⟨d, h1, h2⟩ := ImAll.mem r h
      exact ⟨d, List.mem_cons_of_mem _ h1, h2⟩
section
variable {K : PySem.W.Frag} {σ : L2.St} {H : Hp} {p c : Addr} {n : Nat} {t0 tl : TE} {ta : TA} {Q : VK}
theorem pick_I {ds : List PyData} (h0 : Ev t0 σ H (.ref p)) (hl : IvL K tl σ H ds) (hp : PenAt H p c n) (hn : n ≤ 1000000000) (x0 : 0 < ds.length) (x1 : ds.length ≤ 10000) (k : ∀ x d H', d ∈ ds → Im K H' x d → But p H H' → PenAt H' p c (n + 1) → Q x H') : tCall (spPick K) [] C8.E0 (tCons t0 (tCons tl tNil)) σ H Q :=
  h0 H (Ex.refl H) _ fun H1 e1 => hl H1 e1 _ fun a vs H2 _ e2 ha hd => ⟨p, c, n, .ref a, rfl, hp.mono (e1.trans e2), hn, .inr ⟨a, vs, rfl, ha, by rw [hd.length]; exact x0, by rw [hd.length]; exact x1, fun x H' hx b hp' => by
    obtain ⟨d, h1, h2⟩ := hd.mem hx
    exact k x d H' h1 (Im.mono (b.et (hp.mono (e1.trans e2))) h2) (fun y o h1 h2 => b y o h1 ((e1.trans e2) _ _ h2)) hp'⟩⟩
end
theorem hin1 : ∀ i, En.h i ∈ ([.h 1] : List En) → En.h i ∈ ([.h 1, .h 2] : List En) := fun i hi => by simp at hi ⊢; omega
theorem hin2 : ∀ i, En.h i ∈ ([.h 2] : List En) → En.h i ∈ ([.h 1, .h 2] : List En) := fun i hi => by simp at hi ⊢; omega
theorem hin3 : ∀ i, En.h i ∈ ([.h 2, .h 1] : List En) → En.h i ∈ ([.h 1, .h 2] : List En) := fun i hi => by simp at hi ⊢; omega
theorem hin4 {z : Str} : ∀ i, En.h i ∈ ([.h 2, .w z] : List En) → En.h i ∈ ([.h 1, .h 2] : List En) := fun i hi => by simp at hi ⊢; omega
theorem hin5 : ∀ i, En.h i ∈ ([.h 1] : List En) → En.h i ∈ ([.h 1, .h 1] : List En) := fun i hi => by simp at hi ⊢; omega
theorem hin6 {z : Str} : ∀ i, En.h i ∈ ([.w z] : List En) → En.h i ∈ ([.h 1, .h 1] : List En) := fun i hi => by simp at hi
theorem q_setT {σ : L2.St} {H : Hp} {te : TE} {i : Nat} {D : Ends} {tz : TS} (h : te σ H fun v H1 => tz D (σ.set i (some v)) H1) : tSeq (tAsg te (gName i)) tz D σ H := h
theorem cb1 {σ : L2.St} {H : Hp} {te : TE} {r : List V → Hp → VK → Prop} {Q : VK} (h : te σ H fun v H1 => r [v] H1 Q) : tCB r (tCons te tNil) σ H Q := h
def ruleD (st : Str) (es : List En) (g : Goal) (e : Bool) : PyData := .tuple [.str st, .tuple (entsD es), goalD g, .bool e]
def ListV (H : Hp) (a : Addr) (ws : List Str) : Prop := H a = some (.lst (ws.map V.str)) ∧ isWords ws = true ∧ 0 < ws.length ∧ ws.length ≤ 100
theorem ListV.but {H H' : Hp} {p c a : Addr} {n : Nat} {ws : List Str} (b : But p H H') (hp : PenAt H p c n) (h : ListV H a ws) : ListV H' a ws := ⟨b.lst hp h.1, h.2⟩
theorem ListV.mono {H H' : Hp} {a : Addr} {ws : List Str} (e : Ex H H') (h : ListV H a ws) : ListV H' a ws := ⟨e _ _ h.1, h.2⟩
theorem ListV.mem {H : Hp} {a : Addr} {ws : List Str} (h : ListV H a ws) {x : V} (hx : x ∈ ws.map V.str) : ∃ z, x = .str z ∧ isWord z = true := by
  obtain ⟨z, hz, rfl⟩ := List.mem_map.mp hx
  exact ⟨z, rfl, List.all_eq_true.mp h.2.1 z hz⟩
def spEntry : Sp := fun vs H Q _ => ∃ p c n a ws, vs = [.ref p, .ref a] ∧ PenAt H p c n ∧ n ≤ 200000000 ∧ ListV H a ws ∧ ∀ e H', entOk e = true → But p H H' → PenAt H' p c (n + 2) → Q e.v H'
def spLRule (K : PySem.W.Frag) : Sp := fun vs H Q _ => ∃ p c n a b us ws, vs = [.ref p, .ref a, .ref b] ∧ PenAt H p c n ∧ n ≤ 100000000 ∧ ListV H a us ∧ ListV H b ws ∧
  ∀ v st es g e H', RuleOk st es g → Im K H' v (ruleD st es g e) → But p H H' → PenAt H' p c (n + 20) → Q v H'
def spMade (K : PySem.W.Frag) : Sp := fun vs H Q _ => ∃ v st es g e, vs = [v] ∧ Im K H v (ruleD st es g e) ∧ RuleOk st es g ∧ ∀ x H', H x = none → Ex H H' → RuleAt K H' x st es g e → Q (.ref x) H'
theorem ents_of {φ : En → Prop} : ∀ {acc : List V}, (∀ v ∈ acc, ∃ e, v = En.v e ∧ φ e) → ∃ es : List En, acc = es.map En.v ∧ ∀ e ∈ es, φ e
  | [], _ => ⟨[], rfl, fun y h => by cases h⟩
  | v :: acc, h => by
    obtain ⟨x, rfl, hx⟩ := h v List.mem_cons_self
    obtain ⟨ys, rfl, hy⟩ := ents_of (acc := acc) fun u hu => h u (List.mem_cons_of_mem _ hu)
    refine ⟨x :: ys, rfl, fun y hy' => ?_⟩
    rcases List.mem_cons.mp hy' with rfl | hy'
    · exact hx
    · exact hy y hy'
section
variable {P : Program} {w : World} {K : PySem.W.Frag} {mg : Str → Option Value} {base : Heap}
theorem ok__law_entry {f : Addr} {fd : FuncData} (F : FunD K "_law_entry" "_law_entry" (defArgs s__law_entry) (defBody s__law_entry) (defScope s__law_entry) [] [] f fd) (T : Txt K mg) (C__law_draw : C8.Cal P w K mg base 1 "_law_draw" spDraw []) (C__law_pick : C8.Cal P w K mg base 2 "_law_pick" (spPick K) []) : FnOk P w K mg base C8.CX0 3 f fd P__law_entry spEntry := by
  refine F.ok sc__law_entry (fun vs H Q E h => ?_) (fun cdv A outer s H vs Q E hr h => ?_)
  · obtain ⟨_, _, _, _, _, rfl, _⟩ := h
    rfl
  · obtain ⟨p, c, n, a, ws, rfl, hp, hn, ha, q⟩ := h
    refine ⟨_, PSs.nox (pss_cons (ps_set (i := 2) sc__law_entry.nd rfl (by first | exact Or.inl rfl | exact Or.inr rfl) (C8.pe_c C__law_draw hr (by decide) rfl (pa_cons (pv 0) (pa_cons pe_int pa_nil))))
      (pss_one (ps_ret (pe_ifExp (pt_cmpR op_lt (pv 2) pe_int (nomark _)) (pe_ix (ix_listK (K := K) rfl) (pe_lst (pa_cons pe_int (pa_cons pe_int (pa_cons pe_int pa_nil)))) (pv 2) (fun _ _ => rfl)) (C8.pe_c C__law_pick hr (by decide) rfl (pa_cons (pv 0) (pa_cons (pv 1) pa_nil))))))), ?_⟩
    refine draw_c (p := p) (c := c) (m := 5) (ea_cons (ev_var rfl) (ea_cons ev_c ea_nil)) hp (by omega) (by decide) (by decide) fun lot H1 l0 l1 b1 p1 => ?_
    have ha1 := ha.but b1 hp
    have ht : EvT (tTest (tOp (rI0 fun i j => .bl (decide (i < j))) (tVar 2) (tC (.int 3)))) (L2.start N__law_entry [.ref p, .ref a, .int lot]) H1 (decide (lot < 3)) := et_test (ev_op (ev_var rfl) ev_c rv_I0)
    refine ht H1 (Ex.refl H1) _ fun H2 e2 => ?_
    have b2 := b1.ex e2
    have p2 := p1.mono e2
    have ha2 := ha1.mono e2
    cases hb : decide (lot < 3) with
    | true =>
      have hlt := of_decide_eq_true hb
      refine iteT ?_
      refine (el_lst (vs := [.int 1, .int 1, .int 2]) (ea_cons ev_c (ea_cons ev_c (ea_cons ev_c ea_nil))) (by decide)) H2 (Ex.refl H2) _ fun l H3 hl e3 h3 => ⟨_, rfl, ?_⟩
      obtain ⟨x, hx, hm⟩ := at_mem (xs := [V.int 1, .int 1, .int 2]) l0 hlt
      refine ⟨l, _, lot, x, rfl, rfl, sq_of h3, hx, ?_⟩
      rcases List.mem_cons.mp hm with rfl | hm
      · exact q (.h 1) H3 (by decide) (b2.ex e3) ((p2.mono e3).more (by omega))
      rcases List.mem_cons.mp hm with rfl | hm
      · exact q (.h 1) H3 (by decide) (b2.ex e3) ((p2.mono e3).more (by omega))
      rcases List.mem_cons.mp hm with rfl | hm
      · exact q (.h 2) H3 (by decide) (b2.ex e3) ((p2.mono e3).more (by omega))
      cases hm
    | false =>
      refine iteF ?_
      refine pick_V (p := p) (c := c) (ea_cons (ev_var rfl) (ea_cons (ev_var rfl) ea_nil)) ha2.1 p2 (by omega) (by rw [List.length_map]; exact ha.2.2.1) (by rw [List.length_map]; have := ha.2.2.2; omega) fun x H3 hx b3 p3 => ?_
      obtain ⟨z, rfl, hz⟩ := ha2.mem hx
      exact q (.w z) H3 hz (b2.trans b3) (p3.more (by omega))
theorem ok__law_rule {f : Addr} {fd : FuncData} (F : FunD K "_law_rule" "_law_rule" (defArgs s__law_rule) (defBody s__law_rule) (defScope s__law_rule) [] [] f fd) (T : Txt K mg) (C__law_draw : C8.Cal P w K mg base 1 "_law_draw" spDraw []) (C__law_pick : C8.Cal P w K mg base 2 "_law_pick" (spPick K) []) (C__law_entry : C8.Cal P w K mg base 3 "_law_entry" spEntry []) (C__law_is_integer : C8.Cal P w K mg base 1 "_law_is_integer" spIsInt []) : FnOk P w K mg base C8.CX0 4 f fd P__law_rule (spLRule K) := by
  refine F.ok sc__law_rule (fun vs H Q E h => ?_) (fun cdv A outer s H vs Q E hr h => ?_)
  · obtain ⟨_, _, _, _, _, _, _, rfl, _⟩ := h
    rfl
  · obtain ⟨p, c, n, a, b, us, ws, rfl, hp, hn, ha, hb, q⟩ := h
    refine ⟨_, PSs.nox (pss_cons (ps_par3 (i := 3) (j := 4) (l := 5) (by rfl) sc__law_rule.nd rfl rfl rfl (by decide) (by decide) (by decide) rfl rfl rfl (pa_cons (C8.pe_c C__law_pick hr (by decide) rfl (pa_cons (pv 0) (pa_cons (pv 1) pa_nil))) (pa_cons (C8.pe_c C__law_pick hr (by decide) rfl (pa_cons (pv 0) (pa_cons (pv 1) pa_nil))) (pa_cons (C8.pe_c C__law_pick hr (by decide) rfl (pa_cons (pv 0) (pa_cons (pv 2) pa_nil))) pa_nil))) (by rfl))
      (pss_cons (ps_set (i := 6) sc__law_rule.nd rfl (by first | exact Or.inl rfl | exact Or.inr rfl) (pe_callTy (call_tuple_ofK (K := K) rfl) (by rfl) T.b_tuple boot_tuple (pa_cons (pe_lc (own := [("_law_k", 7)]) (tt := tYes) rfl sc__law_rule.nd (pi_range1 (by rfl) T.b_range (pa_cons (C8.pe_c C__law_pick hr (by decide) rfl (pa_cons (pv 0) (pa_cons (pe_lst (pa_cons pe_int (pa_cons pe_int (pa_cons pe_int (pa_cons pe_int (pa_cons pe_int (pa_cons pe_int pa_nil))))))) pa_nil))) pa_nil)) (blkOk_by (own := [("_law_k", 7)]) (N := N__law_rule) (sc := defScope s__law_rule) (by decide +kernel)) (fun _ _ _ _ _ => (pg_name (i := 7) sc__law_rule.nd rfl (by first | exact Or.inl rfl | exact Or.inr rfl))) (fun _ _ _ _ _ => pts_nil) (fun _ _ _ _ _ => (C8.pe_c C__law_entry hr (by decide) rfl (pa_cons (pv 0) (pa_cons (pv 2) pa_nil))))) pa_nil)))
      (pss_cons (ps_par (i := 8) (j := 9) (by rfl) sc__law_rule.nd rfl rfl (by decide) rfl rfl (pa_cons (C8.pe_c C__law_draw hr (by decide) rfl (pa_cons (pv 0) (pa_cons pe_int pa_nil))) (pa_cons (pe_cmpR op_eq (C8.pe_c C__law_draw hr (by decide) rfl (pa_cons (pv 0) (pa_cons pe_int pa_nil))) pe_int (nomark _)) pa_nil)) (by rfl))
      (pss_cons (ps_if (pt_cmpR op_eq (pv 8) pe_int (nomark _)) (pss_one (ps_ret (pe_tup (pa_cons (pv 3) (pa_cons (pv 6) (pa_cons pe_non (pa_cons (pv 9) pa_nil))))))) pss_nil)
      (pss_cons (ps_if (pt_cmpR op_eq (pv 8) pe_int (nomark _)) (pss_one (ps_ret (pe_tup (pa_cons (pv 3) (pa_cons (pe_tup (pa_cons (pv 5) pa_nil)) (pa_cons (pe_tup (pa_cons (pv 4) (pa_cons (pe_tup pa_nil) pa_nil))) (pa_cons pe_bl pa_nil))))))) pss_nil)
      (pss_cons (ps_if (pt_cmpR op_eq (pv 8) pe_int (nomark _)) (pss_one (ps_ret (pe_tup (pa_cons (pv 3) (pa_cons (pe_tup (pa_cons pe_int (pa_cons pe_int pa_nil))) (pa_cons (pe_tup (pa_cons (pv 4) (pa_cons (C8.pe_c C__law_pick hr (by decide) rfl (pa_cons (pv 0) (pa_cons (pe_lst (pa_cons (pe_tup (pa_cons pe_int pa_nil)) (pa_cons (pe_tup (pa_cons pe_int pa_nil)) (pa_cons (pe_tup (pa_cons pe_int (pa_cons pe_int pa_nil))) (pa_cons (pe_tup (pa_cons pe_int (pa_cons (pv 5) pa_nil))) pa_nil))))) pa_nil))) pa_nil))) (pa_cons pe_bl pa_nil))))))) pss_nil)
      (pss_cons (ps_if (pt_cmpR op_eq (pv 8) pe_int (nomark _)) (pss_one (ps_ret (pe_tup (pa_cons (pv 3) (pa_cons (pe_tup (pa_cons pe_int (pa_cons pe_int pa_nil))) (pa_cons (C8.pe_c C__law_pick hr (by decide) rfl (pa_cons (pv 0) (pa_cons (pe_lst (pa_cons pe_non (pa_cons (pe_tup (pa_cons (pv 4) (pa_cons (pe_tup (pa_cons pe_int pa_nil)) pa_nil))) (pa_cons (pe_tup (pa_cons (pv 4) (pa_cons (pe_tup (pa_cons (pv 5) pa_nil)) pa_nil))) pa_nil)))) pa_nil))) (pa_cons pe_bl pa_nil))))))) pss_nil)
      (pss_cons (ps_set (i := 10) sc__law_rule.nd rfl (by first | exact Or.inl rfl | exact Or.inr rfl) (pe_op op_cat (pe_callTy (call_list_ofK (K := K) rfl) (by rfl) T.b_list boot_list (pa_cons (pv 2) pa_nil)) (pe_lc (own := [("_law_entry_here", 11)])  rfl sc__law_rule.nd (pi_tupK (K := K) rfl (pv 6)) (blkOk_by (own := [("_law_entry_here", 11)]) (N := N__law_rule) (sc := defScope s__law_rule) (by decide +kernel)) (fun _ _ _ _ _ => (pg_name (i := 11) sc__law_rule.nd rfl (by first | exact Or.inl rfl | exact Or.inr rfl))) (fun _ _ _ _ _ => (pts_one (pt_val (C8.pe_c C__law_is_integer hr (by decide) rfl (pa_cons (pv 11) pa_nil))))) (fun _ _ _ _ _ => (pv 11)))))
      (pss_cons (ps_set (i := 12) sc__law_rule.nd rfl (by first | exact Or.inl rfl | exact Or.inr rfl) (pe_callTy (call_tuple_ofK (K := K) rfl) (by rfl) T.b_tuple boot_tuple (pa_cons (pe_lc (own := [("_law_k", 7)]) (tt := tYes) rfl sc__law_rule.nd (pi_range1 (by rfl) T.b_range (pa_cons (C8.pe_c C__law_pick hr (by decide) rfl (pa_cons (pv 0) (pa_cons (pe_lst (pa_cons pe_int (pa_cons pe_int (pa_cons pe_int (pa_cons pe_int (pa_cons pe_int (pa_cons pe_int (pa_cons pe_int pa_nil)))))))) pa_nil))) pa_nil)) (blkOk_by (own := [("_law_k", 7)]) (N := N__law_rule) (sc := defScope s__law_rule) (by decide +kernel)) (fun _ _ _ _ _ => (pg_name (i := 7) sc__law_rule.nd rfl (by first | exact Or.inl rfl | exact Or.inr rfl))) (fun _ _ _ _ _ => pts_nil) (fun _ _ _ _ _ => (C8.pe_c C__law_pick hr (by decide) rfl (pa_cons (pv 0) (pa_cons (pv 10) pa_nil))))) pa_nil)))
      (pss_one (ps_ret (pe_tup (pa_cons (pv 3) (pa_cons (pv 6) (pa_cons (pe_tup (pa_cons (pv 4) (pa_cons (pv 12) pa_nil))) (pa_cons (pv 9) pa_nil)))))))))))))))), ?_⟩
    have la : 0 < (us.map V.str).length ∧ (us.map V.str).length ≤ 10000 := by rw [List.length_map]; have := ha.2.2; omega
    have lb : 0 < (ws.map V.str).length ∧ (ws.map V.str).length ≤ 10000 := by rw [List.length_map]; have := hb.2.2; omega
    refine pick_V (p := p) (c := c) (ea_cons (ev_var rfl) (ea_cons (ev_var rfl) ea_nil)) ha.1 hp (by omega) la.1 la.2 fun x H1 hx b1 p1 => ?_
    obtain ⟨st, rfl, hst⟩ := ha.mem hx
    refine pick_V (p := p) (c := c) (ea_cons (ev_var rfl) (ea_cons (ev_var rfl) ea_nil)) (ha.but b1 hp).1 p1 (by omega) la.1 la.2 fun x H2 hx b2 p2 => ?_
    obtain ⟨ot, rfl, hot⟩ := ha.mem hx
    have b02 := b1.trans b2
    refine pick_V (p := p) (c := c) (ea_cons (ev_var rfl) (ea_cons (ev_var rfl) ea_nil)) (hb.but b02 hp).1 p2 (by omega) lb.1 lb.2 fun x H3 hx b3 p3 => ⟨_, _, _, rfl, ?_⟩
    obtain ⟨wd, rfl, hwd⟩ := hb.mem hx
    have b03 := b02.trans b3
    have hb3 := hb.but b03 hp
    dsimp only
    refine q_setT (cb1 ?_)
    refine lcPen (p := p) (c := c) (M := 2) (cost := 2) (n1 := n + 4) (fun _ v => ∃ e, v = En.v e ∧ entOk e = true) (fun _ _ _ _ h => h) (by decide) ?_ ?_ ?_ ?_
    · intro R k
      refine pick_L (p := p) (c := c) (xs := [.int 0, .int 1, .int 1, .int 2, .int 2, .int 2]) (ev_var rfl) (el_lst (ea_cons ev_c (ea_cons ev_c (ea_cons ev_c (ea_cons ev_c (ea_cons ev_c (ea_cons ev_c ea_nil)))))) (by decide)) p3 (by omega) (by decide) (by decide) fun x H4 hx b4 p4 => ?_
      rcases List.mem_cons.mp hx with rfl | hx
      · exact k 0 H4 (by decide) b4 p4
      rcases List.mem_cons.mp hx with rfl | hx
      · exact k 1 H4 (by decide) b4 p4
      rcases List.mem_cons.mp hx with rfl | hx
      · exact k 1 H4 (by decide) b4 p4
      rcases List.mem_cons.mp hx with rfl | hx
      · exact k 2 H4 (by decide) b4 p4
      rcases List.mem_cons.mp hx with rfl | hx
      · exact k 2 H4 (by decide) b4 p4
      rcases List.mem_cons.mp hx with rfl | hx
      · exact k 2 H4 (by decide) b4 p4
      cases hx
    · exact fun _ => rfl
    · intro i n' H4 b4 p4 hn' hi Q' k
      refine call_ea (ea_cons (ev_var rfl) (ea_cons (ev_var rfl) ea_nil)) fun H5 e5 => ⟨p, c, n', b, ws, rfl, p4.mono e5, by omega, (hb3.but b4 p3).mono e5, fun e H6 he b6 p6 => k _ H6 (fun y o h1 h2 => b6 y o h1 (e5 _ _ h2)) p6 ⟨e, rfl, he⟩⟩
    intro D acc H4 hD b4 p4 hacc hl hv
    obtain ⟨es, rfl, hes⟩ := ents_of hv
    rw [List.length_map] at hl
    refine ⟨D, _, rfl, .inl ⟨sq_of hacc, fun pt hpt => ?_⟩⟩
    have hpat : Im K (L2.upd H4 pt (.tup (es.map En.v))) (.ref pt) (.tuple (entsD es)) := .tup upd_same (ImAll.ents es)
    have b04 : But p H (L2.upd H4 pt (.tup (es.map En.v))) := (b03.trans b4).ex (Ex.new hpt)
    have p04 := p4.mono (Ex.new (o := .tup (es.map En.v)) hpt)
    revert hpat b04 p04
    generalize L2.upd H4 pt (.tup (es.map En.v)) = H5
    intro hpat b5 p5
    have hesA : es.all entOk = true := List.all_eq_true.mpr hes
    refine draw_c (p := p) (c := c) (m := 9) (ea_cons (ev_var rfl) (ea_cons ev_c ea_nil)) p5 (by omega) (by decide) (by decide) fun so H6 s0 s1 b6 p6 => ?_
    refine draw_c (p := p) (c := c) (m := 5) (ea_cons (ev_var rfl) (ea_cons ev_c ea_nil)) p6 (by omega) (by decide) (by decide) fun xx H7 x0 x1 b7 p7 => ⟨rfl, _, _, rfl, ?_⟩
    have b07 := (b5.trans b6).trans b7
    have hpat7 := Im.mono (b7.et p6) (Im.mono (b6.et p5) hpat)
    have hb7 := hb.but b07 hp
    generalize decide (V.int xx = V.int 0) = ex
    have eqt : ∀ {H : Hp} {i : Int}, EvT (tTest (tOp rEq (tVar 8) (tC (.int i)))) ([some (.ref p), some (.ref a), some (.ref b), some (.str st), some (.str ot), some (.str wd), some (.ref pt), none, some (.int so), some (.bl ex), none, none, none] : L2.St) H (decide (V.int so = V.int i)) := et_test (ev_op (ev_var rfl) ev_c (rv_eq rfl))
    refine q_when eqt (fun _ H8 e8 => ?_) (fun _ H8 e8 => ?_)
    · refine s_retI (K := K) (d := ruleD st es none ex) (iv_tup (iva_cons (iv_var rfl (.str st)) (iva_cons (iv_var rfl (Im.mono (Et.of e8) hpat7)) (iva_cons (iv_ev ev_c .non) (iva_cons (iv_var rfl (.bl ex)) iva_nil)))) (by show 4 ≤ 100000; decide)) fun v H9 e9 hv => ?_
      exact q v st es none ex H9 ⟨hst, hl, hesA, fun z bs h => by cases h⟩ hv (b07.ex (e8.trans e9)) ((p7.mono (e8.trans e9)).more (by omega))
    have b08 := b07.ex e8
    have p8 := p7.mono e8
    refine q_when eqt (fun _ H9 e9 => ?_) (fun _ H9 e9 => ?_)
    · refine s_retI (K := K) (d := ruleD st [.w wd] (some (ot, [])) false) (iv_tup (iva_cons (iv_var rfl (.str st)) (iva_cons (iv_tup (iva_cons (iv_var rfl (.str wd)) iva_nil) (by show 1 ≤ 100000; decide)) (iva_cons (iv_tup (iva_cons (iv_var rfl (.str ot)) (iva_cons (iv_tup iva_nil (by show 0 ≤ 100000; decide)) iva_nil)) (by show 2 ≤ 100000; decide)) (iva_cons (iv_ev ev_c (.bl false)) iva_nil)))) (by show 4 ≤ 100000; decide)) fun v H10 e10 hv => ?_
      exact q v st _ _ false H10 ⟨hst, by show 1 ≤ 2; decide, by show (isWord wd && true) = true; rw [hwd]; rfl, fun z bs h => by cases h; exact ⟨hot, by decide, rfl, fun i hi => by cases hi⟩⟩ hv (b08.ex (e9.trans e10)) ((p8.mono (e9.trans e10)).more (by omega))
    have b09 := b08.ex e9
    have p9 := p8.mono e9
    refine q_when eqt (fun _ H10 e10 => ?_) (fun _ H10 e10 => ?_)
    · have b010 := b09.ex e10
      have p10 := p9.mono e10
      refine ⟨_, rfl, ?_⟩
      refine (iv_tup (K := K) (ds := [.int 1, .int 2]) (iva_cons (iv_ev ev_c (.int 1)) (iva_cons (iv_ev ev_c (.int 2)) iva_nil)) (by show 2 ≤ 100000; decide)) H10 (Ex.refl H10) _ fun v1 H11 e11 hv1 => ⟨_, rfl, ?_⟩
      have p11 := p10.mono e11
      refine pick_I (p := p) (c := c) (ds := [.tuple (entsD [.h 1]), .tuple (entsD [.h 2]), .tuple (entsD [.h 2, .h 1]), .tuple (entsD [.h 2, .w wd])]) (ev_var rfl) (ivl_lst (iva_cons (iv_tup (iva_cons (iv_ev ev_c (.int 1)) iva_nil) (by show 1 ≤ 100000; decide)) (iva_cons (iv_tup (iva_cons (iv_ev ev_c (.int 2)) iva_nil) (by show 1 ≤ 100000; decide)) (iva_cons (iv_tup (iva_cons (iv_ev ev_c (.int 2)) (iva_cons (iv_ev ev_c (.int 1)) iva_nil)) (by show 2 ≤ 100000; decide)) (iva_cons (iv_tup (iva_cons (iv_ev ev_c (.int 2)) (iva_cons (iv_var rfl (.str wd)) iva_nil)) (by show 2 ≤ 100000; decide)) iva_nil)))) (by show 4 ≤ 100000; decide)) p11 (by omega) (by show 0 < 4; decide) (by show 4 ≤ 10000; decide) fun x d H12 hd hx b12 p12 => ?_
      refine ⟨sz_of (by show 2 ≤ 100000; decide), fun q1 hq1 => ⟨sz_of (by show 4 ≤ 100000; decide), fun q2 hq2 => ?_⟩⟩
      obtain ⟨bs, rfl, l4, ok4, in4⟩ : ∃ bs, d = .tuple (entsD bs) ∧ bs.length ≤ 4 ∧ bs.all entOk = true ∧ ∀ i, En.h i ∈ bs → En.h i ∈ ([.h 1, .h 2] : List En) := by
        rcases List.mem_cons.mp hd with rfl | hd
        · exact ⟨_, rfl, by decide, rfl, hin1⟩
        rcases List.mem_cons.mp hd with rfl | hd
        · exact ⟨_, rfl, by decide, rfl, hin2⟩
        rcases List.mem_cons.mp hd with rfl | hd
        · exact ⟨_, rfl, by decide, rfl, hin3⟩
        rcases List.mem_cons.mp hd with rfl | hd
        · exact ⟨_, rfl, by show 2 ≤ 4; decide, by show (true && (isWord wd && true)) = true; rw [hwd]; rfl, hin4⟩
        cases hd
      refine q (.ref q2) st [.h 1, .h 2] (some (ot, bs)) false _ ⟨hst, by decide, rfl, fun z bs' h => by cases h; exact ⟨hot, l4, ok4, in4⟩⟩ ?_ (((b010.ex e11).trans b12).ex ((Ex.new hq1).trans (Ex.new hq2))) ((p12.mono ((Ex.new hq1).trans (Ex.new hq2))).more (by omega))
      exact .tup upd_same (.cons (.str st) (.cons (Im.mono (Et.of ((Ex.new hq1).trans (Ex.new hq2))) (Im.mono (b12.et p11) hv1)) (.cons (Im.mono (Et.of (Ex.new hq2)) (.tup upd_same (.cons (.str ot) (.cons (Im.mono (Et.of (Ex.new hq1)) hx) .nil)))) (.cons (.bl false) .nil))))
    have b010 := b09.ex e10
    have p10 := p9.mono e10
    refine q_when eqt (fun _ H11 e11 => ?_) (fun _ H11 e11 => ?_)
    · have b011 := b010.ex e11
      have p11 := p10.mono e11
      refine ⟨_, rfl, ?_⟩
      refine (iv_tup (K := K) (ds := [.int 1, .int 1]) (iva_cons (iv_ev ev_c (.int 1)) (iva_cons (iv_ev ev_c (.int 1)) iva_nil)) (by show 2 ≤ 100000; decide)) H11 (Ex.refl H11) _ fun v1 H12 e12 hv1 => ?_
      have p12 := p11.mono e12
      refine pick_I (p := p) (c := c) (ds := [.none, .tuple [.str ot, .tuple (entsD [.h 1])], .tuple [.str ot, .tuple (entsD [.w wd])]]) (ev_var rfl) (ivl_lst (iva_cons (iv_ev ev_c .non) (iva_cons (iv_tup (iva_cons (iv_var rfl (.str ot)) (iva_cons (iv_tup (iva_cons (iv_ev ev_c (.int 1)) iva_nil) (by show 1 ≤ 100000; decide)) iva_nil)) (by show 2 ≤ 100000; decide)) (iva_cons (iv_tup (iva_cons (iv_var rfl (.str ot)) (iva_cons (iv_tup (iva_cons (iv_var rfl (.str wd)) iva_nil) (by show 1 ≤ 100000; decide)) iva_nil)) (by show 2 ≤ 100000; decide)) iva_nil))) (by show 3 ≤ 100000; decide)) p12 (by omega) (by show 0 < 3; decide) (by show 3 ≤ 10000; decide) fun x d H13 hd hx b13 p13 => ?_
      refine ⟨sz_of (by show 4 ≤ 100000; decide), fun q2 hq2 => ?_⟩
      obtain ⟨g, rfl, hg⟩ : ∃ g, d = goalD g ∧ ∀ z bs, g = some (z, bs) → isWord z = true ∧ bs.length ≤ 4 ∧ bs.all entOk = true ∧ ∀ i, En.h i ∈ bs → En.h i ∈ ([.h 1, .h 1] : List En) := by
        rcases List.mem_cons.mp hd with rfl | hd
        · exact ⟨none, rfl, fun z bs h => by cases h⟩
        rcases List.mem_cons.mp hd with rfl | hd
        · exact ⟨some (ot, [.h 1]), rfl, fun z bs h => by cases h; exact ⟨hot, by decide, rfl, hin5⟩⟩
        rcases List.mem_cons.mp hd with rfl | hd
        · exact ⟨some (ot, [.w wd]), rfl, fun z bs h => by cases h; exact ⟨hot, by show 1 ≤ 4; decide, by show (isWord wd && true) = true; rw [hwd]; rfl, hin6⟩⟩
        cases hd
      refine q (.ref q2) st [.h 1, .h 1] g false _ ⟨hst, by decide, rfl, hg⟩ ?_ (((b011.ex e12).trans b13).ex (Ex.new hq2)) ((p13.mono (Ex.new hq2)).more (by omega))
      exact .tup upd_same (.cons (.str st) (.cons (Im.mono (Et.of (Ex.new hq2)) (Im.mono (b13.et p12) hv1)) (.cons (Im.mono (Et.of (Ex.new hq2)) hx) (.cons (.bl false) .nil))))
    have b011 := b010.ex e11
    have p11 := p10.mono e11
    have hb11 := hb.but b011 hp
    have hpat11 := Im.mono (Et.of (((e8.trans e9).trans e10).trans e11)) hpat7
    refine q_setT ⟨_, rfl, ⟨b, _, rfl, .inl (sq_of hb11.1), fun l1 hl1 => ?_⟩⟩
    have hsome : IvL K (tLc (iTup K (tVar 6)) (gName 11) (tB (tCall spIsInt [] C8.E0 (tCons (tVar 11) tNil))) (tVar 11) (List.map (fun x => x.2) [(("_law_entry_here" : Str), 11)])) ([some (.ref p), some (.ref a), some (.ref b), some (.str st), some (.str ot), some (.str wd), some (.ref pt), none, some (.int so), some (.bl ex), none, none, none] : L2.St) (L2.upd H11 l1 (.lst (ws.map V.str))) ((entsD es).filter (fun d => match d with | .int _ => true | _ => false) |>.map id) := by
      cases Im.mono (Et.of (Ex.new (o := .lst (ws.map V.str)) hl1)) hpat11 with
      | @tup _ xs _ hta hall =>
        refine ivl_tupF (ev_var rfl) hta.sq hall (by unfold entsD; rw [List.length_map]; omega) (fun x => rfl) (fun x d H12 e12 hd hx => ?_) (fun x d H12 e12 hd hx hpd => iv_var rfl hx)
        obtain ⟨e, he, rfl⟩ := List.mem_map.mp hd
        cases e with
        | h i => cases hx; exact et_B (ev_call (ea_cons (ev_var rfl) ea_nil) (sp_is_int (e := .h i)))
        | w z => cases hx; exact et_B (ev_call (ea_cons (ev_var rfl) ea_nil) (sp_is_int (e := .w z)))
    refine hsome _ (Ex.refl _) _ fun l2 vs H12 hl2 e12 h12 hvs => ?_
    have hl1a : H12 l1 = some (.lst (ws.map V.str)) := e12 _ _ upd_same
    have hvsE : ∀ v ∈ vs, ∃ e, v = En.v e ∧ entOk e = true ∧ ∀ i, e = .h i → En.h i ∈ es := fun v hv => by
      obtain ⟨d, hd, hvd⟩ := hvs.mem hv
      rw [List.map_id] at hd
      obtain ⟨hd1, hd2⟩ := List.mem_filter.mp hd
      obtain ⟨e, he, rfl⟩ := List.mem_map.mp hd1
      refine ⟨e, ?_, hes e he, fun i hi => hi ▸ he⟩
      cases e with
      | h i => cases hvd; rfl
      | w z => cases hvd; rfl
    have hvsl : vs.length ≤ 2 := by
      rw [hvs.length, List.length_map]
      refine Nat.le_trans (List.length_filter_le _ _) ?_
      unfold entsD
      rw [List.length_map]
      exact hl
    refine ⟨l1, l2, _, vs, rfl, rfl, hl1a, h12, sz_of (by have := hb.2.2; rw [List.length_map]; omega), fun l3 hl3 => ?_⟩
    have e13 : Ex H11 (L2.upd H12 l3 (.lst (ws.map V.str ++ vs))) := ((Ex.new hl1).trans e12).trans (Ex.new hl3)
    have h13 : (L2.upd H12 l3 (.lst (ws.map V.str ++ vs))) l3 = some (.lst (ws.map V.str ++ vs)) := upd_same
    revert e13 h13
    generalize L2.upd H12 l3 (.lst (ws.map V.str ++ vs)) = H13
    intro e13 h13
    have b013 := b011.ex e13
    have p13 := p11.mono e13
    have hsomeE : ∀ v ∈ ws.map V.str ++ vs, ∃ e, v = En.v e ∧ entOk e = true ∧ ∀ i, e = .h i → En.h i ∈ es := fun v hv => by
      rcases List.mem_append.mp hv with hv | hv
      · obtain ⟨z, rfl, hz⟩ := hb.mem hv
        exact ⟨.w z, rfl, hz, fun i h => by cases h⟩
      · exact hvsE v hv
    have lsome : 0 < (ws.map V.str ++ vs).length ∧ (ws.map V.str ++ vs).length ≤ 10000 := by
      rw [List.length_append, List.length_map]
      have := hb.2.2
      omega
    refine q_setT (cb1 ?_)
    refine lcPen (p := p) (c := c) (M := 4) (cost := 1) (n1 := n + 11) (fun _ v => ∃ e, v = En.v e ∧ entOk e = true ∧ ∀ i, e = .h i → En.h i ∈ es) (fun _ _ _ _ h => h) (by decide) ?_ ?_ ?_ ?_
    · intro R k
      refine pick_L (p := p) (c := c) (xs := [.int 0, .int 1, .int 1, .int 2, .int 2, .int 3, .int 4]) (ev_var rfl) (el_lst (ea_cons ev_c (ea_cons ev_c (ea_cons ev_c (ea_cons ev_c (ea_cons ev_c (ea_cons ev_c (ea_cons ev_c ea_nil))))))) (by decide)) p13 (by omega) (by decide) (by decide) fun x H14 hx b14 p14 => ?_
      rcases List.mem_cons.mp hx with rfl | hx
      · exact k 0 H14 (by decide) b14 p14
      rcases List.mem_cons.mp hx with rfl | hx
      · exact k 1 H14 (by decide) b14 p14
      rcases List.mem_cons.mp hx with rfl | hx
      · exact k 1 H14 (by decide) b14 p14
      rcases List.mem_cons.mp hx with rfl | hx
      · exact k 2 H14 (by decide) b14 p14
      rcases List.mem_cons.mp hx with rfl | hx
      · exact k 2 H14 (by decide) b14 p14
      rcases List.mem_cons.mp hx with rfl | hx
      · exact k 3 H14 (by decide) b14 p14
      rcases List.mem_cons.mp hx with rfl | hx
      · exact k 4 H14 (by decide) b14 p14
      cases hx
    · exact fun _ => rfl
    · intro i n' H14 b14 p14 hn' hi Q' k
      exact pick_V (p := p) (c := c) (ea_cons (ev_var rfl) (ea_cons (ev_var rfl) ea_nil)) (b14.lst p13 h13) p14 (by omega) lsome.1 lsome.2 fun x H15 hx b15 p15 => k x H15 b15 p15 (hsomeE x hx)
    intro D2 acc H14 hD2 b14 p14 hacc hl2 hv
    obtain ⟨bs, rfl, hbs⟩ := ents_of hv
    rw [List.length_map] at hl2
    refine ⟨D2, _, rfl, .inl ⟨sq_of hacc, fun pb hpb => ?_⟩⟩
    have e15 : Ex H14 (L2.upd H14 pb (.tup (bs.map En.v))) := Ex.new hpb
    have hbeg : Im K (L2.upd H14 pb (.tup (bs.map En.v))) (.ref pb) (.tuple (entsD bs)) := .tup upd_same (ImAll.ents bs)
    have hpat15 := Im.mono (Et.of e15) (Im.mono (b14.et p13) (Im.mono (Et.of e13) hpat11))
    refine s_retI (K := K) (d := ruleD st es (some (ot, bs)) ex) (iv_tup (iva_cons (iv_var rfl (.str st)) (iva_cons (iv_var rfl hpat15) (iva_cons (iv_tup (iva_cons (iv_var rfl (.str ot)) (iva_cons (iv_var rfl hbeg) iva_nil)) (by show 2 ≤ 100000; decide)) (iva_cons (iv_var rfl (.bl ex)) iva_nil)))) (by show 4 ≤ 100000; decide)) fun v H16 e16 hv => ?_
    exact q v st es _ ex H16 ⟨hst, hl, hesA, fun z bs' h => by cases h; exact ⟨hot, hl2, List.all_eq_true.mpr fun e he => (hbs e he).1, fun i hi => (hbs _ hi).2 i rfl⟩⟩ hv ((b013.trans b14).ex (e15.trans e16)) ((p14.mono (e15.trans e16)).more (by omega))
end
end Sw
namespace Sw
open PySem L2 Evl
abbrev s__law_holes : Stmt := top 40
abbrev N__law_holes : List Str := ["_law_pattern", "_law_path", "_law_found", "_law_k", "_law_entry_here"]
abbrev P__law_holes : List Str := ["_law_pattern", "_law_path"]
theorem sc__law_holes : FnScope N__law_holes P__law_holes (defScope s__law_holes) := ⟨rfl, rfl, rfl, by decide +kernel, rfl, by decide +kernel, by decide +kernel⟩
abbrev s__law_fit : Stmt := top 41
abbrev N__law_fit : List Str := ["_law_one", "_law_state", "_law_path"]
abbrev P__law_fit : List Str := ["_law_one", "_law_state", "_law_path"]
theorem sc__law_fit : FnScope N__law_fit P__law_fit (defScope s__law_fit) := ⟨rfl, rfl, rfl, by decide +kernel, rfl, by decide +kernel, by decide +kernel⟩
abbrev s__law_due : Stmt := top 43
abbrev N__law_due : List Str := ["_law_one", "_law_state", "_law_path", "_law_known", "_law_begin", "_law_entry_here"]
abbrev P__law_due : List Str := ["_law_one", "_law_state", "_law_path"]
theorem sc__law_due : FnScope N__law_due P__law_due (defScope s__law_due) := ⟨rfl, rfl, rfl, by decide +kernel, rfl, by decide +kernel, by decide +kernel⟩
/-! a class made with a keyword-only argument -/
structure MakK (P : Program) (w : World) (K : PySem.W.Frag) (mg : Str → Option Value) (base : Heap) (k : Nat) (x : Str) (C : Addr) (sp : Sp) (n : Nat) (ks : List Str) (gV : List V → List V → List V) : Prop where
  ex : ∃ (f : Addr) (fd : FuncData) (ps : List Str) (g : List Value → List Value → List Value), Mk K C f ∧ FnOk P w K mg base C8.CX0 k f fd ps sp ∧ mg x = some (.ref C) ∧ KBn K fd ps (n + 1) ks g gV
theorem pe_mkK {X : Cx} {k j n : Nat} {C : Addr} {x : Str} {sp : Sp} {ks : List Str} {gV : List V → List V → List V} {p pos : Pos} {e : Expr} {es : List Expr} {kws : List Keyword} {t tk : TA} (c : MakK X.prog X.w X.K X.mg X.base k x C sp n ks gV) (hr : Room j X.A) (hk : k + 1 ≤ j) (hg : Gl X x) (ha : PA X (e :: es) t) (hkw : PK X kws tk)
    (hall : (backToKw pos (keywordEach kws X.env)).all (·.1.isSome) = true := by rfl) (hks : (backToKw pos (keywordEach kws X.env)).filterMap (·.1) = ks := by rfl) (hdb : (x == ("__debug__" : Str)) = false := by decide)
    (he : starEach (e :: es) X.env = (false, eval e X.env) :: starEach es X.env := by rfl) (hpl : ((backTo pos (starEach (e :: es) X.env)).any (·.1) || (backToKw pos (keywordEach kws X.env)).any (·.1.isNone)) = false := by rfl) :
    PE X (.Call (.Name x p) (e :: es) kws pos) (tMakeK C n ks.length sp gV C8.E0 t tk) := by
  obtain ⟨f, fd, ps, g, M, F, hm, hb⟩ := c.ex
  exact pe_makeK M F (hr.mono hk) hg hm hb C8.pass0 ha hkw hall hks hdb he hpl
def gApp : List V → List V → List V := fun vs zs => vs ++ zs
/-- Rule(.., is_exact=..) -/
theorem make_rule {K : PySem.W.Frag} {σ : L2.St} {H : Hp} {t tk : TA} {Q : VK} {st : Str} {es : List En} {go : Goal} {e : Bool} (ok : RuleOk st es go)
    (ha : ∀ Q' : List V → Hp → Prop, (∀ y g H1, Ex H H1 → EntsV H1 y es → GoalV H1 g go → Q' [.str st, y, g] H1) → t σ H Q') (hk : ∀ H1 (Q' : List V → Hp → Prop), Ex H H1 → (∀ H2, Ex H1 H2 → Q' [.bl e] H2) → tk σ H1 Q')
    (q : ∀ x H2, H x = none → Ex H H2 → RuleAt K H2 x st es go e → Q (.ref x) H2) : tMakeK (He.ga K "Rule") 3 1 (spRule K) gApp C8.E0 t tk σ H Q := ha _ fun y g H1 e1 hy hg => hk H1 _ e1 fun H2 e2 => ⟨rfl, rfl, fun x dx hx hdx hne => by
  have e3 : Ex H2 (L2.upd (L2.upd H2 dx (.own x)) x (.ins (He.ga K "Rule") dx [])) := (Ex.new hdx).trans (Ex.new (by rw [upd_ne (Ne.symm hne)]; exact hx))
  refine ⟨x, dx, st, y, g, es, go, e, rfl, upd_same, ok, hy.mono (e2.trans e3), hg.mono (e2.trans e3), fun H' b h => ⟨rfl, q x H' (fresh_back (e1.trans e2) hx) ((e1.trans e2).trans fun c o hc => b c o (fun e => by rw [e, hx] at hc; cases hc) (e3 _ _ hc)) h⟩⟩⟩
section
variable {P : Program} {w : World} {K : PySem.W.Frag} {mg : Str → Option Value} {base : Heap}
theorem ok__law_made_rule {f : Addr} {fd : FuncData} (F : FunD K "_law_made_rule" "_law_made_rule" (defArgs s__law_made_rule) (defBody s__law_made_rule) (defScope s__law_made_rule) [] [] f fd) (T : Txt K mg) (MK_Rule : MakK P w K mg base 5 "Rule" (He.ga K "Rule") (spRule K) 3 ["is_exact"] gApp) : FnOk P w K mg base C8.CX0 7 f fd P__law_made_rule (spMade K) := by
  refine F.ok sc__law_made_rule (fun vs H Q E h => ?_) (fun cdv A outer s H vs Q E hr h => ?_)
  · obtain ⟨_, _, _, _, _, rfl, _⟩ := h
    rfl
  · obtain ⟨v, st, es, g, e, rfl, hv, ok, q⟩ := h
    refine ⟨_, PSs.nox (pss_cons (ps_asg (pv 0) (pg_tupK (K := K) (n := 4) rfl rfl (pgs_cons (pg_name (i := 1) sc__law_made_rule.nd rfl (by first | exact Or.inl rfl | exact Or.inr rfl)) (pgs_cons (pg_name (i := 2) sc__law_made_rule.nd rfl (by first | exact Or.inl rfl | exact Or.inr rfl)) (pgs_cons (pg_name (i := 3) sc__law_made_rule.nd rfl (by first | exact Or.inl rfl | exact Or.inr rfl)) (pgs_cons (pg_name (i := 4) sc__law_made_rule.nd rfl (by first | exact Or.inl rfl | exact Or.inr rfl)) pgs_nil))))))
      (pss_cons (ps_set (i := 5) sc__law_made_rule.nd rfl (by first | exact Or.inl rfl | exact Or.inr rfl) (pe_ifExp (pt_cmpR op_isN (pv 3) pe_non (nomark _)) pe_non (pe_tup (pa_cons (pe_ix (ix_tupK (K := K) rfl) (pv 3) pe_int (fun _ _ => rfl)) (pa_cons (pe_callTy (call_list_ofK (K := K) rfl) (by rfl) T.b_list boot_list (pa_cons (pe_ix (ix_tupK (K := K) rfl) (pv 3) pe_int (fun _ _ => rfl)) pa_nil)) pa_nil)))))
      (pss_one (ps_ret (pe_mkK MK_Rule hr (by decide) rfl (pa_cons (pv 1) (pa_cons (pe_callTy (call_list_ofK (K := K) rfl) (by rfl) T.b_list boot_list (pa_cons (pv 2) pa_nil)) (pa_cons (pv 5) pa_nil))) (pk_cons (pv 4) pk_nil)))))), ?_⟩
    cases hv with
    | @tup a xs _ ha hall =>
      cases hall with
      | @cons v1 r1 _ _ h1 hall =>
        cases hall with
        | @cons v2 r2 _ _ h2 hall =>
          cases hall with
          | @cons v3 r3 _ _ h3 hall =>
            cases hall with
            | @cons v4 r4 _ _ h4 hall =>
              cases hall
              cases h1
              cases h4
              refine ⟨_, rfl, a, _, rfl, ha.sq, rfl, _, _, rfl, _, _, rfl, _, _, rfl, _, _, rfl, rfl, ?_⟩
              have hbeg : ∀ Q : VK, (∀ gv H1, Ex H H1 → GoalV H1 gv g → Q gv H1) → (tIf (tTest (tOp (fun x y H Q => y = .non ∧ Q (.bl (decide (x = .non))) H) (tVar 3) (tC .non))) (tC .non) (tTup (tCons (tOp (rIxT K) (tVar 3) (tC (.int 0))) (tCons (tCB (rListQ K) (tCons (tOp (rIxT K) (tVar 3) (tC (.int 1))) tNil)) tNil)))) (L2.start N__law_made_rule [.ref a, .str st, v2, v3, .bl e]) H Q := fun Q k => by
                cases g with
                | none =>
                  cases h3
                  exact ⟨.non, rfl, rfl, true, rfl, iteT (k _ H (Ex.refl H) .no)⟩
                | some zb =>
                  obtain ⟨z, bs⟩ := zb
                  cases h3 with
                  | @tup b ys _ hb hys =>
                    cases hys with
                    | @cons u1 s1 _ _ k1 hys =>
                      cases hys with
                      | @cons u2 s2 _ _ k2 hys =>
                        cases hys
                        cases k1
                        obtain ⟨pb, rfl, hpb⟩ := k2.ents
                        refine ⟨.ref b, rfl, rfl, false, rfl, iteF ?_⟩
                        refine ⟨_, rfl, b, _, 0, .str z, rfl, rfl, hb.sq, rfl, _, rfl, b, _, 1, .ref pb, rfl, rfl, hb.sq, rfl, pb, _, rfl, .inr hpb.sq, fun l hl => ⟨sz_of (by show 2 ≤ 100000; decide), fun tp htp => ?_⟩⟩
                        exact k _ _ ((Ex.new hl).trans (Ex.new htp)) (.yes upd_same (.inl ⟨l, rfl, (Ex.new htp) _ _ upd_same⟩))
              refine hbeg _ fun gv H1 e1 hgv => ?_
              obtain ⟨pa, rfl, hpa⟩ := h2.ents
              refine make_rule (σ := L2.start N__law_made_rule [.ref a, .str st, .ref pa, v3, .bl e, gv]) (t := tCons (tVar 1) (tCons (tCB (rListQ K) (tCons (tVar 2) tNil)) (tCons (tVar 5) tNil))) (tk := tCons (tVar 4) tNil) ok ?_ ?_ fun x H2 hx e2 hr => q x H2 (fresh_back e1 hx) (e1.trans e2) hr
              · intro Q' k
                exact ⟨_, rfl, _, rfl, pa, _, rfl, .inr (ex_t e1 hpa.sq), fun l hl => ⟨_, rfl, k _ _ _ (Ex.new hl) (.inl ⟨l, rfl, upd_same⟩) (hgv.mono (Ex.new hl))⟩⟩
              · intro H2 Q' e2 k
                exact ⟨_, rfl, k H2 (Ex.refl H2)⟩
end
end Sw
namespace Sw
open PySem L2 Evl
section
variable {K : PySem.W.Frag} {σ : L2.St} {H : Hp} {ta tb te : TE}
theorem ev_dget2 {a : Addr} {kvs : List (Key × V)} {k : Key} {v z : V} (h1 : Ev ta σ H (.ref a)) (h2 : Ev tb σ H (kV k)) (h3 : Ev te σ H z) (hd : H a = some (.dK kvs)) (hv : (valV kvs k).getD z = v) : Ev (tDGet2 ta tb te) σ H v := fun H1 e1 Q q =>
  h1 H1 e1 _ fun H2 e2 => ⟨a, rfl, .inl ⟨kvs, .inl ((e1.trans e2) _ _ hd)⟩, h2 H2 (e1.trans e2) _ fun H3 e3 => h3 H3 ((e1.trans e2).trans e3) _ fun H4 e4 => ⟨_, DGet.k ((((e1.trans e2).trans e3).trans e4) _ _ hd), by rw [hv]; exact q H4 ((e2.trans e3).trans e4)⟩⟩
end
def Cns (acc : List (Int × Str)) : Prop := ∀ q ∈ acc, acc.lookup q.1 = some q.2
theorem Cns.snoc {acc : List (Int × Str)} {i : Int} {z : Str} (h : Cns acc) (hn : acc.lookup i = none) : Cns (acc ++ [(i, z)]) := fun q hq => by
  rw [List.lookup_append]
  rcases List.mem_append.mp hq with hq | hq
  · rw [h q hq]; rfl
  · rcases List.mem_cons.mp hq with rfl | hq
    · rw [hn]
      show List.lookup i [(i, z)] = some z
      rw [List.lookup_cons, beq_self_eq_true]
    · cases hq
theorem toK_same {i : Int} {z : Str} {acc : List (Int × Str)} (hc : Cns acc) (h : acc.lookup i = some z) : putK (toK acc) (Sum.inl i) (V.str z) = toK acc := by
  unfold putK
  rw [valV_any, toK_val, h]
  show (if true = true then _ else _) = _
  rw [if_pos rfl]
  unfold toK
  rw [List.map_map]
  refine List.map_congr_left fun q hq => ?_
  show (if (Sum.inl q.1 : Key) = Sum.inl i then _ else _) = _
  by_cases e : q.1 = i
  · have h2 := hc q hq
    rw [e, h] at h2
    rw [if_pos (congrArg Sum.inl e), Option.some.inj h2]
  · rw [if_neg fun e' => e (Sum.inl.inj e')]
theorem at_nat {α : Type} {xs : List α} {i : Nat} {x : α} (h : xs[i]? = some x) : atI xs (i : Int) = some x := by
  have hi := (List.getElem?_eq_some_iff.mp h).1
  unfold atI ixN
  rw [if_pos (by omega), if_pos (by omega)]
  exact h
section
variable {P : Program} {w : World} {K : PySem.W.Frag} {mg : Str → Option Value} {base : Heap}
theorem ok__law_holes {f : Addr} {fd : FuncData} (F : FunD K "_law_holes" "_law_holes" (defArgs s__law_holes) (defBody s__law_holes) (defScope s__law_holes) [] [] f fd) (T : Txt K mg) (C__law_is_integer : C8.Cal P w K mg base 1 "_law_is_integer" spIsInt []) : FnOk P w K mg base C8.CX0 2 f fd P__law_holes (spBound K) := by
  refine F.ok sc__law_holes (fun vs H Q E h => ?_) (fun cdv A outer s H vs Q E hr h => ?_)
  · obtain ⟨_, _, _, _, rfl, _⟩ := h
    rfl
  · obtain ⟨y1, y2, es, ws, rfl, h1, h2, hl, qn, qs⟩ := h
    refine ⟨_, PSs.nox (pss_cons (ps_set (i := 2) sc__law_holes.nd rfl (by first | exact Or.inl rfl | exact Or.inr rfl) pe_dnewK)
      (pss_cons (ps_if (pt_cmpR op_lt (pe_callB (call_len_seqK (K := K) rfl) (by rfl) T.b_len boot_len (pa_cons (pv 1) pa_nil)) (pe_callB (call_len_seqK (K := K) rfl) (by rfl) T.b_len boot_len (pa_cons (pv 0) pa_nil)) (nomark _)) (pss_one (ps_ret pe_non)) pss_nil)
      (pss_cons (ps_for PassesOwn.never rfl (pi_range1 (by rfl) T.b_range (pa_cons (pe_callB (call_len_seqK (K := K) rfl) (by rfl) T.b_len boot_len (pa_cons (pv 0) pa_nil)) pa_nil)) (pg_name (i := 3) sc__law_holes.nd rfl (by first | exact Or.inl rfl | exact Or.inr rfl))
      (pss_cons (ps_set (i := 4) sc__law_holes.nd rfl (by first | exact Or.inl rfl | exact Or.inr rfl) (pe_ix (ix_tupK (K := K) rfl) (pv 0) (pv 3) (fun _ _ => rfl)))
      (pss_cons (ps_if (PW.pt (pw_and (pt_val (C8.pe_c C__law_is_integer hr (by decide) rfl (pa_cons (pv 4) pa_nil))) (pw_and1 (pt_cmpR op_ne (pe_dget2 (hu_of hr) (pv 2) (pv 4) (pe_ix (ix_tupK (K := K) rfl) (pv 1) (pv 3) (fun _ _ => rfl)) ⟨by rfl, by rfl, by rfl, by rfl⟩) (pe_ix (ix_tupK (K := K) rfl) (pv 1) (pv 3) (fun _ _ => rfl)) (nomark _))))) (pss_one (ps_ret pe_non)) pss_nil)
      (pss_cons (ps_if (PW.pt (pw_and (pt_not (pt_val (C8.pe_c C__law_is_integer hr (by decide) rfl (pa_cons (pv 4) pa_nil)))) (pw_and1 (pt_cmpR op_ne (pv 4) (pe_ix (ix_tupK (K := K) rfl) (pv 1) (pv 3) (fun _ _ => rfl)) (nomark _))))) (pss_one (ps_ret pe_non)) pss_nil)
      (pss_one (ps_if (pt_val (C8.pe_c C__law_is_integer hr (by decide) rfl (pa_cons (pv 4) pa_nil))) (pss_one (ps_dput (hu_of hr) (pv 2) (pv 4) (pe_ix (ix_tupK (K := K) rfl) (pv 1) (pv 3) (fun _ _ => rfl)) rfl)) pss_nil))))))
      (pss_one (ps_ret (pv 2)))))), ?_⟩
    obtain ⟨a, rfl, ha⟩ := h1.ents
    obtain ⟨b, rfl, hb⟩ := h2.words
    have la : (es.map En.v).length = es.length := List.length_map _
    have lb : (ws.map V.str).length = ws.length := List.length_map _
    intro d hd
    have e0 : Ex H (L2.upd H d (.dK [])) := Ex.new hd
    have ha0 := ex_t e0 ha.sq
    have hb0 := ex_t e0 hb.sq
    refine q_when (et_test (ev_op (ev_lenS (ev_var rfl) ⟨b, rfl, .inr hb0⟩) (ev_lenS (ev_var rfl) ⟨a, rfl, .inr ha0⟩) rv_I0)) (fun hlt H1 e1 => ?_) (fun hlt H1 e1 => ?_)
    · have hlt' := of_decide_eq_true hlt
      rw [la, lb] at hlt'
      exact qn (bndF_short es ws [] (by omega)) H1 (e0.trans e1)
    · have hge := of_decide_eq_false hlt
      rw [la, lb] at hge
      have hlen : EvA (tCons (tCB (rLenQ K) (tCons (tVar 0) tNil)) tNil) (L2.start N__law_holes [.ref a, .ref b, .ref d]) H1 [.int (es.length : Int)] := by
        have := ev_lenS (K := K) (ev_var (i := 0) (σ := L2.start N__law_holes [.ref a, .ref b, .ref d]) rfl) ⟨a, rfl, .inr (ex_t e1 ha0)⟩
        rw [la] at this
        exact ea_cons this ea_nil
      refine q_forR1 (n := (es.length : Int)) hlen ⟨by omega, by omega⟩ (fun i σ' H' => ∃ acc v3 v4, σ' = [some (.ref a), some (.ref b), some (.ref d), v3, v4] ∧ Ex H H' ∧ H' d = some (.dK (toK acc)) ∧ acc.length ≤ i ∧ Cns acc ∧ bndF (es.drop i) (ws.drop i) acc = bnd es ws) (fun H2 e2 => ⟨[], none, none, rfl, (e0.trans e1).trans e2, (e1.trans e2) _ _ upd_same, Nat.le_refl _, fun q hq => (by cases hq), rfl⟩) ?_ ?_
      · rintro i σ' H' hi ⟨acc, v3, v4, rfl, e', hd', hacc, hcns, hbn⟩
        have hi1 : i < es.length := by omega
        have hi2 : i < ws.length := by omega
        generalize hen : es[i] = en
        generalize hz : ws[i] = z
        have de : es.drop i = en :: es.drop (i + 1) := by rw [List.drop_eq_getElem_cons hi1, hen]
        have dw : ws.drop i = z :: ws.drop (i + 1) := by rw [List.drop_eq_getElem_cons hi2, hz]
        rw [de, dw] at hbn
        have xat : atI (es.map En.v) (i : Int) = some en.v := at_nat (by rw [List.getElem?_map, List.getElem?_eq_getElem hi1, hen]; rfl)
        have wat : atI (ws.map V.str) (i : Int) = some (.str z) := at_nat (by rw [List.getElem?_map, List.getElem?_eq_getElem hi2, hz]; rfl)
        refine q_asg (ev_ixT (ev_var rfl) (ev_var rfl) (ex_t e' ha.sq) xat) fun H2 e2 => ?_
        have e02 := e'.trans e2
        have pz : ∀ {σ : L2.St} {H1 : Hp}, σ[1]? = some (some (.ref b)) → σ[3]? = some (some (.int (i : Int))) → Ex H H1 → Ev (tOp (rIxT K) (tVar 1) (tVar 3)) σ H1 (.str z) := fun s1 s3 e => ev_ixT (ev_var s1) (ev_var s3) (ex_t e hb.sq) wat
        cases en with
        | h j =>
          have isi : ∀ {H1 : Hp} {σ : L2.St}, σ[4]? = some (some (.int j)) → EvT (tB (tCall spIsInt [] C8.E0 (tCons (tVar 4) tNil))) σ H1 true := fun s4 => et_B (ev_call (ea_cons (ev_var s4) ea_nil) (sp_is_int (e := .h j)))
          have hbn2 : (match acc.lookup j with | none => bndF (es.drop (i + 1)) (ws.drop (i + 1)) (acc ++ [(j, z)]) | some y => if y = z then bndF (es.drop (i + 1)) (ws.drop (i + 1)) acc else none) = bnd es ws := hbn
          have get : Ev (tDGet2 (tVar 2) (tVar 4) (tOp (rIxT K) (tVar 1) (tVar 3))) [some (.ref a), some (.ref b), some (.ref d), some (.int (i : Int)), some (.int j)] H2 (.str ((acc.lookup j).getD z)) := ev_dget2 (k := Sum.inl j) (ev_var rfl) (ev_var rfl) (pz rfl rfl e02) (e2 _ _ hd') (by rw [toK_val]; cases acc.lookup j <;> rfl)
          refine q_when (et_and (a := true) (isi rfl) fun _ => et_test (ev_op get (pz rfl rfl e02) (rv_ne rfl))) (fun hb H3 e3 => ?_) (fun hb H3 e3 => ?_)
          · refine qn ?_ H3 (e02.trans e3)
            rw [← hbn2]
            cases hlk : acc.lookup j with
            | none => rw [hlk] at hb; simp at hb
            | some y =>
              rw [hlk] at hb
              by_cases hyz : y = z
              · subst hyz; simp at hb
              · show (if y = z then _ else _) = _
                rw [if_neg hyz]
          · refine q_when (b := false) (et_and (a := false) (b := false) (et_is (et_not (isi rfl)) rfl) (fun h => nomatch h)) (fun h => nomatch h) (fun _ H4 e4 => ?_)
            have e04 := (e02.trans e3).trans e4
            refine s_when (b := true) (isi rfl) (fun _ H5 e5 => ?_) (fun h => nomatch h)
            have e05 := e04.trans e5
            have hd5 : H5 d = some (.dK (toK acc)) := (((e2.trans e3).trans e4).trans e5) _ _ hd'
            refine pz rfl rfl e05 H5 (Ex.refl H5) _ fun H6 e6 => ⟨_, rfl, _, rfl, d, _, rfl, DPut.k (k := Sum.inl j) (e6 _ _ hd5) (by unfold toK; rw [List.length_map]; exact sz_lt (by omega)), ?_⟩
            cases hlk : acc.lookup j with
            | none =>
              rw [toK_put hlk]
              rw [hlk] at hbn2
              exact ⟨acc ++ [(j, z)], _, _, rfl, Ex.mut (e05.trans e6) hd, upd_same, by rw [List.length_append]; exact Nat.succ_le_succ hacc, hcns.snoc hlk, hbn2⟩
            | some y =>
              rw [hlk] at hb hbn2
              have hyz : y = z := by
                by_cases h : y = z
                · exact h
                · have : (!decide (V.str y = V.str z)) = true := by rw [decide_eq_false fun q => h (V.str.inj q)]; rfl
                  rw [show (some y).getD z = y from rfl] at hb
                  rw [this] at hb
                  cases hb
              subst hyz
              rw [toK_same hcns hlk]
              refine ⟨acc, _, _, rfl, Ex.mut (e05.trans e6) hd, upd_same, by omega, hcns, ?_⟩
              rw [← hbn2]
              show _ = if y = y then _ else _
              rw [if_pos rfl]
        | w x =>
          have isi : ∀ {H1 : Hp} {σ : L2.St}, σ[4]? = some (some (.str x)) → EvT (tB (tCall spIsInt [] C8.E0 (tCons (tVar 4) tNil))) σ H1 false := fun s4 => et_B (ev_call (ea_cons (ev_var s4) ea_nil) (sp_is_int (e := .w x)))
          have hbn2 : (if x = z then bndF (es.drop (i + 1)) (ws.drop (i + 1)) acc else none) = bnd es ws := hbn
          refine q_when (b := false) (et_and (a := false) (b := false) (isi rfl) (fun h => nomatch h)) (fun h => nomatch h) (fun _ H3 e3 => ?_)
          have e03 := e02.trans e3
          refine q_when (et_and (a := true) (et_is (et_not (isi rfl)) rfl) (fun _ => et_test (ev_op (ev_var rfl) (pz rfl rfl e03) (rv_ne rfl)))) (fun hb H4 e4 => ?_) (fun hb H4 e4 => ?_)
          · refine qn ?_ H4 (e03.trans e4)
            rw [← hbn2]
            have hb' : (!decide (V.str x = V.str z)) = true := hb
            by_cases hyz : x = z
            · subst hyz; simp at hb'
            · exact if_neg hyz
          · refine s_when (b := false) (isi rfl) (fun h => nomatch h) (fun _ H5 e5 => ?_)
            have hyz : x = z := by
              by_cases h : x = z
              · exact h
              · have hb' : (!decide (V.str x = V.str z)) = false := hb
                have : (!decide (V.str x = V.str z)) = true := by rw [decide_eq_false fun q => h (V.str.inj q)]; rfl
                rw [this] at hb'
                cases hb'
            rw [if_pos hyz] at hbn2
            exact ⟨acc, _, _, rfl, (e03.trans e4).trans e5, ((((e2.trans e3).trans e4).trans e5)) _ _ hd', by omega, hcns, hbn2⟩
      · rintro σ' H' ⟨acc, v3, v4, rfl, e', hd', _, _, hbn⟩
        rw [Int.toNat_natCast, List.drop_length] at hbn
        exact ⟨_, rfl, qs acc hbn.symm d H' hd e' hd'⟩
/-! fit, due -/
def spFit (K : PySem.W.Frag) : Sp := fun vs H Q _ => ∃ v st es g e s y ws, vs = [v, .str s, y] ∧ Im K H v (ruleD st es g e) ∧ es.length ≤ 10000 ∧ Im K H y (.tuple (strsD ws)) ∧
  (known st es e s ws = none → ∀ H', Ex H H' → Q .non H') ∧ ∀ acc, known st es e s ws = some acc → ∀ a H', H a = none → Ex H H' → H' a = some (.dK (toK acc)) → Q (.ref a) H'
def dueD (st : Str) (es : List En) (g : Goal) (e : Bool) (s : Str) (ws : List Str) : PyData := match known st es e s ws, g with
  | none, _ => .none
  | some _, none => .tuple [.str s, .tuple (strsD ws)]
  | some acc, some (z, bs) => .tuple [.str z, .tuple (strsD (fillE bs acc ++ ws.drop es.length))]
def spDue (K : PySem.W.Frag) : Sp := fun vs H Q _ => ∃ v st es g e s y ws, vs = [v, .str s, y] ∧ Im K H v (ruleD st es g e) ∧ RuleOk st es g ∧ Im K H y (.tuple (strsD ws)) ∧ ws.length ≤ 9000 ∧ ∀ u H', Ex H H' → Im K H' u (dueD st es g e s ws) → Q u H'
/-- the four parts of a plain rule -/
theorem rule_parts {K : PySem.W.Frag} {H : Hp} {v : V} {st : Str} {es : List En} {g : Goal} {e : Bool} (h : Im K H v (ruleD st es g e)) : ∃ a pv gv, v = .ref a ∧ H a = some (.tup [.str st, pv, gv, .bl e]) ∧ Im K H pv (.tuple (entsD es)) ∧ Im K H gv (goalD g) := by
  cases h with
  | @tup a xs _ ha hall =>
    cases hall with
    | @cons v1 r1 _ _ h1 hall =>
      cases hall with
      | @cons v2 r2 _ _ h2 hall =>
        cases hall with
        | @cons v3 r3 _ _ h3 hall =>
          cases hall with
          | @cons v4 r4 _ _ h4 hall =>
            cases hall
            cases h1
            cases h4
            exact ⟨a, v2, v3, rfl, ha, h2, h3⟩
theorem goal_parts {K : PySem.W.Frag} {H : Hp} {v : V} {z : Str} {bs : List En} (h : Im K H v (goalD (some (z, bs)))) : ∃ a bv, v = .ref a ∧ H a = some (.tup [.str z, bv]) ∧ Im K H bv (.tuple (entsD bs)) := by
  cases h with
  | @tup a xs _ ha hall =>
    cases hall with
    | @cons v1 r1 _ _ h1 hall =>
      cases hall with
      | @cons v2 r2 _ _ h2 hall =>
        cases hall
        cases h1
        exact ⟨a, v2, rfl, ha, h2⟩
theorem ok__law_fit {f : Addr} {fd : FuncData} (F : FunD K "_law_fit" "_law_fit" (defArgs s__law_fit) (defBody s__law_fit) (defScope s__law_fit) [] [] f fd) (T : Txt K mg) (C__law_holes : C8.Cal P w K mg base 2 "_law_holes" (spBound K) []) : FnOk P w K mg base C8.CX0 3 f fd P__law_fit (spFit K) := by
  refine F.ok sc__law_fit (fun vs H Q E h => ?_) (fun cdv A outer s H vs Q E hr h => ?_)
  · obtain ⟨_, _, _, _, _, _, _, _, rfl, _⟩ := h
    rfl
  · obtain ⟨v, st, es, g, e, s, y, ws, rfl, hv, hl, hy, qn, qs⟩ := h
    refine ⟨_, PSs.nox (pss_cons (ps_if (PW.pt (pw_or (pt_cmpR op_ne (pe_ix (ix_tupK (K := K) rfl) (pv 0) pe_int (fun _ _ => rfl)) (pv 1) (nomark _)) (pw_or1 (PW.pt (pw_and (pt_val (pe_ix (ix_tupK (K := K) rfl) (pv 0) pe_int (fun _ _ => rfl))) (pw_and1 (pt_cmpR op_ne (pe_callB (call_len_seqK (K := K) rfl) (by rfl) T.b_len boot_len (pa_cons (pv 2) pa_nil)) (pe_callB (call_len_seqK (K := K) rfl) (by rfl) T.b_len boot_len (pa_cons (pe_ix (ix_tupK (K := K) rfl) (pv 0) pe_int (fun _ _ => rfl)) pa_nil)) (nomark _)))))))) (pss_one (ps_ret pe_non)) pss_nil)
      (pss_one (ps_ret (C8.pe_c C__law_holes hr (by decide) rfl (pa_cons (pe_ix (ix_tupK (K := K) rfl) (pv 0) pe_int (fun _ _ => rfl)) (pa_cons (pv 2) pa_nil)))))), ?_⟩
    obtain ⟨a, p, gv, rfl, ha, hp, hg⟩ := rule_parts hv
    obtain ⟨xs, hxs, hxl, _⟩ := hy.seq
    obtain ⟨ps, hps, hpl, _⟩ := hp.seq
    have e1 : (strsD ws).length = ws.length := List.length_map ..
    have e2 : (entsD es).length = es.length := List.length_map ..
    have ix : ∀ {σ : L2.St} {H1 : Hp} {i : Int} {u : V}, σ[0]? = some (some (.ref a)) → Ex H H1 → atI [.str st, p, gv, .bl e] i = some u → Ev (tOp (rIxT K) (tVar 0) (tC (.int i))) σ H1 u := fun hσ ee hu => ev_ixT (ev_var hσ) ev_c (st_of (ee _ _ ha)) hu
    refine q_when (b := decide (s ≠ st ∨ (e = true ∧ ws.length ≠ es.length))) (et_is (et_or (a := !decide (V.str st = V.str s)) (b := e && !decide (V.int (xs.length : Int) = V.int (ps.length : Int))) (et_test (ev_op (ix (i := 0) (u := .str st) rfl (Ex.refl H) rfl) (ev_var rfl) (rv_ne rfl))) (fun _ => et_and (et_B (ix (i := 3) (u := .bl e) rfl (Ex.refl H) rfl)) (fun _ => et_test (ev_op (ev_lenS (ev_var rfl) hxs) (ev_lenS (ix (i := 1) (u := p) rfl (Ex.refl H) rfl) hps) (rv_ne rfl))))) ?_) (fun hb H1 e1' => ?_) (fun hb H1 e1' => ?_)
    · rw [hxl, hpl, e1, e2]
      rw [Bool.eq_iff_iff]
      simp only [Bool.or_eq_true, Bool.and_eq_true, Bool.not_eq_true', decide_eq_false_iff_not, decide_eq_true_eq, V.str.injEq, V.int.injEq, ne_eq, Int.natCast_inj]
      constructor
      · rintro (h | h)
        · exact .inl fun q => h q.symm
        · exact .inr h
      · rintro (h | h)
        · exact .inl fun q => h q.symm
        · exact .inr h
    · exact s_ret ev_c fun H2 e2' => qn (by unfold known; exact if_pos (of_decide_eq_true hb)) H2 (e1'.trans e2')
    · have hk : known st es e s ws = bnd es ws := by unfold known; exact if_neg (of_decide_eq_false hb)
      rw [hk] at qn qs
      show tCall _ _ _ _ _ H1 _
      refine call_ea (ea_cons (ix (i := 1) (u := p) rfl e1' rfl) (ea_cons (ev_var rfl) ea_nil)) fun H2 e2' => ⟨p, y, es, ws, rfl, Im.mono (Et.of (e1'.trans e2')) hp, Im.mono (Et.of (e1'.trans e2')) hy, hl, fun h H3 e3 => qn h H3 ((e1'.trans e2').trans e3), fun acc h a H3 ha e3 hd => qs acc h a H3 (fresh_back (e1'.trans e2') ha) ((e1'.trans e2').trans e3) hd⟩
theorem ok__law_due {f : Addr} {fd : FuncData} (F : FunD K "_law_due" "_law_due" (defArgs s__law_due) (defBody s__law_due) (defScope s__law_due) [] [] f fd) (T : Txt K mg) (C__law_fit : C8.Cal P w K mg base 3 "_law_fit" (spFit K) []) (C__law_is_integer : C8.Cal P w K mg base 1 "_law_is_integer" spIsInt []) : FnOk P w K mg base C8.CX0 4 f fd P__law_due (spDue K) := by
  refine F.ok sc__law_due (fun vs H Q E h => ?_) (fun cdv A outer s H vs Q E hr h => ?_)
  · obtain ⟨_, _, _, _, _, _, _, _, rfl, _⟩ := h
    rfl
  · obtain ⟨v, st, es, g, e, s, y, ws, rfl, hv, ok, hy, hl, q⟩ := h
    refine ⟨_, PSs.nox (pss_cons (ps_set (i := 3) sc__law_due.nd rfl (by first | exact Or.inl rfl | exact Or.inr rfl) (C8.pe_c C__law_fit hr (by decide) rfl (pa_cons (pv 0) (pa_cons (pv 1) (pa_cons (pv 2) pa_nil)))))
      (pss_cons (ps_if (PW.pt (pw_or (pt_cmpR op_isN (pv 3) pe_non (nomark _)) (pw_or1 (pt_cmpR op_isN (pe_ix (ix_tupK (K := K) rfl) (pv 0) pe_int (fun _ _ => rfl)) pe_non (nomark _))))) (pss_one (ps_ret (pe_ifExp (pt_cmpR op_isN (pv 3) pe_non (nomark _)) pe_non (pe_tup (pa_cons (pv 1) (pa_cons (pv 2) pa_nil)))))) pss_nil)
      (pss_cons (ps_set (i := 4) sc__law_due.nd rfl (by first | exact Or.inl rfl | exact Or.inr rfl) (pe_callTy (call_tuple_ofK (K := K) rfl) (by rfl) T.b_tuple boot_tuple (pa_cons (pe_lc (own := [("_law_entry_here", 5)]) (tt := tYes) rfl sc__law_due.nd (pi_tupK (K := K) rfl (pe_ix (ix_tupK (K := K) rfl) (pe_ix (ix_tupK (K := K) rfl) (pv 0) pe_int (fun _ _ => rfl)) pe_int (fun _ _ => rfl))) (blkOk_by (own := [("_law_entry_here", 5)]) (N := N__law_due) (sc := defScope s__law_due) (by decide +kernel)) (fun _ _ _ _ _ => (pg_name (i := 5) sc__law_due.nd rfl (by first | exact Or.inl rfl | exact Or.inr rfl))) (fun _ _ _ _ _ => pts_nil) (fun _ _ _ _ _ => (pe_ifExp (pt_val (C8.pe_c C__law_is_integer hr (by decide) rfl (pa_cons (pv 5) pa_nil))) (pe_dget (hu_of hr) (pv 3) (pv 5) (fun _ _ => rfl)) (pv 5)))) pa_nil)))
      (pss_one (ps_ret (pe_tup (pa_cons (pe_ix (ix_tupK (K := K) rfl) (pe_ix (ix_tupK (K := K) rfl) (pv 0) pe_int (fun _ _ => rfl)) pe_int (fun _ _ => rfl)) (pa_cons (pe_op (op_catK (K := K) rfl) (pv 4) (pe_slice (sl_tupK (K := K) rfl) (pv 2) (po_some (pe_callB (call_len_seqK (K := K) rfl) (by rfl) T.b_len boot_len (pa_cons (pe_ix (ix_tupK (K := K) rfl) (pv 0) pe_int (fun _ _ => rfl)) pa_nil))) po_none)) pa_nil)))))))), ?_⟩
    obtain ⟨a, p, gv, rfl, ha, hp, hg⟩ := rule_parts hv
    have ix : ∀ {σ : L2.St} {H1 : Hp} {i : Int} {u : V}, σ[0]? = some (some (.ref a)) → Ex H H1 → atI [.str st, p, gv, .bl e] i = some u → Ev (tOp (rIxT K) (tVar 0) (tC (.int i))) σ H1 u := fun hσ ee hu => ev_ixT (ev_var hσ) ev_c (st_of (ee _ _ ha)) hu
    refine call_ea (ea_cons (ev_var rfl) (ea_cons (ev_var rfl) (ea_cons (ev_var rfl) ea_nil))) fun H1 e1 => ⟨.ref a, st, es, g, e, s, y, ws, rfl, Im.mono (Et.of e1) hv, by have := ok.len; omega, Im.mono (Et.of e1) hy, fun hk H2 e2 => ?_, fun acc hk d H2 hd0 e2 hd => ?_⟩
    · have ed : dueD st es g e s ws = .none := by unfold dueD; rw [hk]
      refine q_when (b := true) (et_or (a := true) (b := true) (et_is (et_test (ev_isN (v := .non) (ev_var rfl))) (by rfl)) (fun z => nomatch z)) (fun _ H3 e3 => ?_) (fun z => nomatch z)
      refine s_ret (ev_if (b := true) (et_is (et_test (ev_isN (v := .non) (ev_var rfl))) (by rfl)) (fun _ => ev_c) (fun z => nomatch z)) fun H4 e4 => q _ H4 (((e1.trans e2).trans e3).trans e4) ?_
      rw [ed]
      exact .non
    · have e02 := e1.trans e2
      refine q_when (b := decide (gv = .non)) (et_or (a := false) (et_is (et_test (ev_isN (v := .ref d) (ev_var rfl))) (by rfl)) (fun _ => et_test (ev_isN (ix (i := 2) (u := gv) rfl e02 rfl)))) (fun hb2 H3 e3 => ?_) (fun hb2 H3 e3 => ?_)
      · have hgv0 := of_decide_eq_true hb2
        subst hgv0
        have hg0 : g = none := by
          cases g with
          | none => rfl
          | some p => cases hg
        subst hg0
        have ed : dueD st es none e s ws = .tuple [.str s, .tuple (strsD ws)] := by unfold dueD; rw [hk]
        refine s_retI (K := K) (d := .tuple [.str s, .tuple (strsD ws)]) (iv_ifx (b := false) (et_is (et_test (ev_isN (v := .ref d) (ev_var rfl))) (by rfl)) (fun z => nomatch z) (fun _ => iv_tup (iva_cons (iv_var rfl (.str s)) (iva_cons (iv_var rfl (Im.mono (Et.of (e02.trans e3)) hy)) iva_nil)) (by show 2 ≤ 100000; decide))) fun u H4 e4 hu => q u H4 ((e02.trans e3).trans e4) (by rw [ed]; exact hu)
      · cases g with
        | none => cases hg; exact absurd rfl (of_decide_eq_false hb2)
        | some zb =>
          obtain ⟨z, bs⟩ := zb
          obtain ⟨w1, w2, w3, w4⟩ := ok.goal z bs rfl
          have hbk := known_bnd hk
          have ed : dueD st es (some (z, bs)) e s ws = .tuple [.str z, .tuple (strsD (fillE bs acc ++ ws.drop es.length))] := by unfold dueD; rw [hk]
          obtain ⟨ga, bv, rfl, hga, hbv⟩ := goal_parts hg
          have e03 := e02.trans e3
          have gix : ∀ {σ : L2.St} {H1 : Hp} {i : Int} {u : V}, σ[0]? = some (some (.ref a)) → Ex H H1 → atI [.str z, bv] i = some u → Ev (tOp (rIxT K) (tOp (rIxT K) (tVar 0) (tC (.int 2))) (tC (.int i))) σ H1 u := fun hσ ee hu => ev_ixT (ix (i := 2) (u := .ref ga) hσ ee rfl) ev_c (st_of (ee _ _ hga)) hu
          obtain ⟨b, rfl, hb⟩ := hbv.ents
          have hd3 := e3 _ _ hd
          have edf : strsD (fillE bs acc) = (entsD bs).map fun d => match d with | .int i => .str ((acc.lookup i).getD default) | d => d := by
            unfold strsD fillE entsD
            rw [List.map_map, List.map_map]
            refine List.map_congr_left fun e _ => ?_
            cases e <;> rfl
          have hfill : Iv K (tCB (rTupleQ K) (tCons (tLc (iTup K (tOp (rIxT K) (tOp (rIxT K) (tVar 0) (tC (.int 2))) (tC (.int 1)))) (gName 5) tYes (tIf (tB (tCall spIsInt [] C8.E0 (tCons (tVar 5) tNil))) (tDGet (tVar 3) (tVar 5)) (tVar 5)) (List.map (fun x => x.2) [(("_law_entry_here" : Str), 5)])) tNil)) (L2.start N__law_due [.ref a, .str s, y, .ref d]) H3 (.tuple (strsD (fillE bs acc))) := by
            rw [edf]
            refine iv_tupleL (ivl_tupM (gix (i := 1) (u := .ref b) rfl e03 rfl) (ex_t e03 hb.sq) (ImAll.ents bs) (by unfold entsD; rw [List.length_map]; omega) (fun x => rfl) fun x d' H4 e4 hd' hx => ?_)
            obtain ⟨e, he, rfl⟩ := List.mem_map.mp hd'
            cases e with
            | h i =>
              cases hx
              obtain ⟨y, hy⟩ := bndF_holes es ws [] acc hbk i (w4 i he)
              refine iv_ifx (b := true) (et_B (ev_call (ea_cons (ev_var rfl) ea_nil) (sp_is_int (e := .h i)))) (fun _ => ?_) (fun q => nomatch q)
              show Iv K _ _ _ (.str ((acc.lookup i).getD default))
              rw [hy]
              exact iv_ev (ev_dget (a := d) (kvs := toK acc) (k := Sum.inl i) (ev_var rfl) (ev_var rfl) (e4 _ _ hd3) (by rw [toK_val, hy]; rfl)) (.str _)
            | w z =>
              cases hx
              exact iv_ifx (b := false) (et_B (ev_call (ea_cons (ev_var rfl) ea_nil) (sp_is_int (e := .w z)))) (fun q => nomatch q) (fun _ => iv_var rfl (.str z))
          refine hfill H3 (Ex.refl H3) _ fun v4 H4 e4 hv4 => ?_
          have e04 := e03.trans e4
          have hp4 := Im.mono (Et.of e04) hp
          obtain ⟨ps, hps, hpl, _⟩ := hp4.seq
          have el : (entsD es).length = es.length := List.length_map ..
          have es' : strsD (fillE bs acc ++ ws.drop es.length) = strsD (fillE bs acc) ++ (strsD ws).drop es.length := by
            unfold strsD
            rw [List.map_append, List.map_drop]
          refine s_retI (K := K) (σ := L2.start N__law_due [.ref a, .str s, y, .ref d, v4]) (d := .tuple [.str z, .tuple (strsD (fillE bs acc) ++ (strsD ws).drop es.length)]) (iv_tup (iva_cons (iv_ev (gix (i := 0) (u := .str z) rfl e04 rfl) (.str z)) (iva_cons (iv_cat (iv_var rfl hv4) (iv_from (n := es.length) (iv_var rfl (Im.mono (Et.of e04) hy)) (by
            have := ev_lenS (ix (σ := L2.start N__law_due [.ref a, .str s, y, .ref d, v4]) (i := 1) (u := p) rfl e04 rfl) hps
            rw [hpl, el] at this
            exact this)) (by
              unfold strsD fillE
              rw [List.length_map, List.length_map, List.length_drop, List.length_map]
              omega)) iva_nil)) (by show 2 ≤ 100000; decide)) fun u H5 e5 hu => q u H5 (e04.trans e5) (by rw [ed, es']; exact hu)
end
end Sw
namespace Sw
open PySem L2 Evl
abbrev s__law_paths : Stmt := top 42
abbrev N__law_paths : List Str := ["_law_words_here", "_law_most", "_law_found", "_law_last", "_law_k", "_law_longer", "_law_path", "_law_word"]
abbrev P__law_paths : List Str := ["_law_words_here", "_law_most"]
theorem sc__law_paths : FnScope N__law_paths P__law_paths (defScope s__law_paths) := ⟨rfl, rfl, rfl, by decide +kernel, rfl, by decide +kernel, by decide +kernel⟩
def PathsV (K : PySem.W.Frag) (H : Hp) (xs : List V) (n : Nat) : Prop := ∀ v ∈ xs, ∃ ws, Im K H v (.tuple (strsD ws)) ∧ isWords ws = true ∧ ws.length ≤ n
theorem PathsV.mono {K : PySem.W.Frag} {H H' : Hp} {xs : List V} {n m : Nat} (e : Et H H') (hn : n ≤ m) (h : PathsV K H xs n) : PathsV K H' xs m := fun v hv => by
  obtain ⟨ws, h1, h2, h3⟩ := h v hv
  exact ⟨ws, Im.mono e h1, h2, Nat.le_trans h3 hn⟩
theorem PathsV.app {K : PySem.W.Frag} {H : Hp} {xs ys : List V} {n : Nat} (h1 : PathsV K H xs n) (h2 : PathsV K H ys n) : PathsV K H (xs ++ ys) n := fun v hv => (List.mem_append.mp hv).elim (h1 v) (h2 v)
def spPaths (K : PySem.W.Frag) : Sp := fun vs H Q _ => ∃ a us m, vs = [.ref a, .int m] ∧ H a = some (.lst (us.map V.str)) ∧ isWords us = true ∧ us.length ≤ 4 ∧ 0 ≤ m ∧ m ≤ 3 ∧ ∀ l xs H', H l = none → Ex H H' → H' l = some (.lst xs) → PathsV K H' xs 3 → Q (.ref l) H'
theorem el_listQ {K : PySem.W.Frag} {σ : L2.St} {H : Hp} {ta : TE} {p : Addr} {xs : List V} (ha : Ev ta σ H (.ref p)) (h : SqL K H p xs) : EvL (tCB (rListQ K) (tCons ta tNil)) σ H xs := fun H1 e Q q =>
  ha H1 e _ fun H2 e2 => ⟨p, xs, rfl, Or.inl (ex_l (e.trans e2) h), fun l hl => q l _ (fresh_back e2 hl) (e2.trans (Ex.new hl)) upd_same⟩
theorem But.etL {p : Addr} {H H1 : Hp} {xs : List V} (b : But p H H1) (hp : H p = some (.lst xs)) : Et H H1 := fun a ys ha => b a _ (fun e => by rw [e, hp] at ha; cases ha) ha
theorem But.exN {p : Addr} {H H1 H2 : Hp} (e : Ex H H1) (hp : H p = none) (b : But p H1 H2) : Ex H H2 := fun a o h => b a o (fun q => by rw [q, hp] at h; cases h) (e _ _ h)
theorem q_par {σ : L2.St} {H : Hp} {ta tb : TE} {i j : Nat} {D : Ends} {tz : TS} (h : ta σ H fun v H1 => tb σ H1 fun w H2 => ∃ v' w', [v, w] = [v', w'] ∧ tz D ((σ.set i (some v')).set j (some w')) H2) : tSeq (tPar i j (tCons ta (tCons tb tNil))) tz D σ H := h
section
variable {P : Program} {w : World} {K : PySem.W.Frag} {mg : Str → Option Value} {base : Heap}
theorem ok__law_paths {f : Addr} {fd : FuncData} (F : FunD K "_law_paths" "_law_paths" (defArgs s__law_paths) (defBody s__law_paths) (defScope s__law_paths) [] [] f fd) (T : Txt K mg) : FnOk P w K mg base C8.CX0 1 f fd P__law_paths (spPaths K) := by
  refine F.ok sc__law_paths (fun vs H Q E h => ?_) (fun cdv A outer s H vs Q E hr h => ?_)
  · obtain ⟨_, _, _, rfl, _⟩ := h
    rfl
  · obtain ⟨a, us, m, rfl, ha, hus, hul, hm0, hm1, q⟩ := h
    refine ⟨_, PSs.nox (pss_cons (ps_par (i := 2) (j := 3) (by rfl) sc__law_paths.nd rfl rfl (by decide) rfl rfl (pa_cons (pe_lst (pa_cons (pe_tup pa_nil) pa_nil)) (pa_cons (pe_lst (pa_cons (pe_tup pa_nil) pa_nil)) pa_nil)) (by rfl))
      (pss_cons (ps_for PassesOwn.never rfl (pi_range1 (by rfl) T.b_range (pa_cons (pv 1) pa_nil)) (pg_name (i := 4) sc__law_paths.nd rfl (by first | exact Or.inl rfl | exact Or.inr rfl))
      (pss_cons (ps_set (i := 5) sc__law_paths.nd rfl (by first | exact Or.inl rfl | exact Or.inr rfl) (pe_lst pa_nil))
      (pss_cons (ps_for PassesOwn.never rfl (pi_listK (K := K) rfl (pe_callTy (call_list_ofK (K := K) rfl) (by rfl) T.b_list boot_list (pa_cons (pv 3) pa_nil))) (pg_name (i := 6) sc__law_paths.nd rfl (by first | exact Or.inl rfl | exact Or.inr rfl))
      (pss_one (ps_expr (pe_bm PySem.F.plainAttrs_list PySem.F.slot_list_extend PySem.F.type_list_extend mt_extend (pv 5) (pa_cons (pe_lc (own := [("_law_word", 7)]) (tt := tYes) rfl sc__law_paths.nd (pi_listK (K := K) rfl (pv 0)) (blkOk_by (own := [("_law_word", 7)]) (N := N__law_paths) (sc := defScope s__law_paths) (by decide +kernel)) (fun _ _ _ _ _ => (pg_name (i := 7) sc__law_paths.nd rfl (by first | exact Or.inl rfl | exact Or.inr rfl))) (fun _ _ _ _ _ => pts_nil) (fun _ _ _ _ _ => (pe_op (op_catK (K := K) rfl) (pv 6) (pe_tup (pa_cons (pv 7) pa_nil))))) pa_nil)))))
      (pss_one (ps_par (i := 2) (j := 3) (by rfl) sc__law_paths.nd rfl rfl (by decide) rfl rfl (pa_cons (pe_op op_cat (pv 2) (pv 5)) (pa_cons (pv 5) pa_nil)) (by rfl))))))
      (pss_one (ps_ret (pv 2))))), ?_⟩
    have h1 : ∀ {σ : L2.St} {H : Hp}, IvL K (tLst (tCons (tTup tNil) tNil)) σ H [.tuple (strsD [])] := ivl_lst (iva_cons (iv_tup iva_nil (by show 0 ≤ 100000; decide)) iva_nil) (by show 1 ≤ 100000; decide)
    refine q_par (h1 H (Ex.refl H) _ fun fa xs H1 hfa e1 h1f h1i => h1 H1 (Ex.refl H1) _ fun la ys H2 hla e2 h2l h2i => ?_)
    refine ⟨_, _, rfl, ?_⟩
    have p1 : PathsV K H1 xs 0 := fun v hv => by
      obtain ⟨d, hd, hvd⟩ := h1i.mem hv
      rcases List.mem_cons.mp hd with rfl | hd
      · exact ⟨[], hvd, rfl, Nat.le_refl _⟩
      · cases hd
    have p2 : PathsV K H2 ys 0 := fun v hv => by
      obtain ⟨d, hd, hvd⟩ := h2i.mem hv
      rcases List.mem_cons.mp hd with rfl | hd
      · exact ⟨[], hvd, rfl, Nat.le_refl _⟩
      · cases hd
    refine q_forR1 (n := m) (ea_cons (ev_var rfl) ea_nil) ⟨hm0, by omega⟩ (fun i σ' H' => ∃ (fa la : Addr) (xs ys : List V) (v4 v5 v6 v7 : Option V), σ' = [some (.ref a), some (.int m), some (.ref fa), some (.ref la), v4, v5, v6, v7] ∧ H fa = none ∧ Ex H H' ∧ H' fa = some (.lst xs) ∧ H' la = some (.lst ys) ∧ xs.length ≤ 2 * 4 ^ i ∧ ys.length ≤ 4 ^ i ∧ PathsV K H' xs i ∧ PathsV K H' ys i) (fun H3 e3 => ⟨fa, la, xs, ys, _, _, _, _, rfl, hfa, (e1.trans e2).trans e3, (e2.trans e3) _ _ h1f, e3 _ _ h2l, by rw [h1i.length]; decide, by rw [h2i.length]; decide, p1.mono (Et.of (e2.trans e3)) (Nat.le_refl _), p2.mono (Et.of e3) (Nat.le_refl _)⟩) ?_ ?_
    · rintro i σ' H3 hi ⟨fa, la, xs, ys, v4, v5, v6, v7, rfl, hfa, e3, h3f, h3l, lx, ly, px, py⟩
      have hi3 : i ≤ 2 := by omega
      have l4 : 4 ^ i ≤ 4 ^ 2 := Nat.pow_le_pow_right (by decide) hi3
      refine q_asgL (el_lst ea_nil (by decide)) fun lg H4 hlg e4 h4 => ?_
      refine q_forNL (K := K) (el_listQ (ev_var rfl) (sq_of (e4 _ _ h3l))) (fun pp j σ' H' => ∃ (zs : List V) (v6 v7 : Option V), σ' = [some (.ref a), some (.int m), some (.ref fa), some (.ref la), some (.int (i : Int)), some (.ref lg), v6, v7] ∧ But lg H4 H' ∧ H' pp = some (.lst ys) ∧ pp ≠ lg ∧ H' lg = some (.lst zs) ∧ zs.length ≤ 4 * j ∧ PathsV K H' zs (i + 1)) ?_ ?_ ?_ ?_
      · intro pp H5 hpp e5 h5
        have hne : pp ≠ lg := fun e => by rw [e, h4] at hpp; cases hpp
        exact ⟨[], _, _, rfl, But.of e5, h5, hne, e5 _ _ h4, Nat.le_refl _, fun v hv => by cases hv⟩
      · rintro pp j σ' H5 hj ⟨zs, v6, v7, rfl, b5, h5, _⟩
        exact sq_of h5
      · rintro pp j x σ' H5 hx ⟨zs, v6, v7, rfl, b5, h5, hne, h5l, lz, pz⟩
        have hjl : j < ys.length := (List.getElem?_eq_some_iff.mp hx).1
        have et5 : Et H4 H5 := b5.etL h4
        obtain ⟨ws, hxi, hxw, hxl⟩ := (py.mono ((Et.of e4).trans et5) (Nat.le_refl _)) x (List.mem_of_getElem? hx)
        have halg : a ≠ lg := fun e => by rw [e] at ha; have := e3 _ _ ha; rw [hlg] at this; cases this
        have ha5 : H5 a = some (.lst (us.map V.str)) := b5 a _ halg (e4 _ _ (e3 _ _ ha))
        have hcomp : IvL K (tLc (iList K (tVar 0)) (gName 7) tYes (tOp (rCatA K) (tVar 6) (tTup (tCons (tVar 7) tNil))) (List.map (fun x => x.2) [(("_law_word" : Str), 7)])) [some (.ref a), some (.int m), some (.ref fa), some (.ref la), some (.int (i : Int)), some (.ref lg), some x, v7] H5 ((strsD us).map fun d => .tuple (strsD ws ++ [d])) := by
          refine ivl_listM (ev_var rfl) (sq_of ha5) (ImAll.strs us) (by rw [strsD, List.length_map]; omega) (fun _ => rfl) fun u d H6 e6 hd hu => ?_
          exact iv_cat (iv_var rfl (Im.mono (Et.of e6) hxi)) (iv_tup (iva_cons (iv_var rfl hu) iva_nil) (by show 1 ≤ 100000; decide)) (by rw [strsD, List.length_map]; show ws.length + 1 ≤ 100000; omega)
        refine ⟨_, rfl, .inl ⟨rfl, zs, sq_of h5l⟩, hcomp H5 (Ex.refl H5) _ fun lc vs H6 hlc e6 h6 h6i => ?_⟩
        have hvl : vs.length ≤ 4 := by rw [h6i.length, List.length_map, strsD, List.length_map]; exact hul
        refine ⟨lg, lc, zs, vs, rfl, rfl, e6 _ _ h5l, h6, sz_of (by omega), ?_⟩
        have et6 : Et H6 (L2.upd H6 lg (.lst (zs ++ vs))) := (Et.refl H6).lst (e6 _ _ h5l)
        refine ⟨zs ++ vs, _, _, rfl, (b5.ex e6).upd, by rw [upd_ne hne]; exact e6 _ _ h5, hne, upd_same, by rw [List.length_append]; omega, (pz.mono ((Et.of e6).trans et6) (Nat.le_refl _)).app fun v hv => ?_⟩
        obtain ⟨d, hd, hvd⟩ := h6i.mem hv
        obtain ⟨d0, hd0, rfl⟩ := List.mem_map.mp hd
        obtain ⟨z, hz, rfl⟩ := List.mem_map.mp hd0
        refine ⟨ws ++ [z], ?_, ?_, by rw [List.length_append]; exact Nat.succ_le_succ hxl⟩
        · have es : strsD (ws ++ [z]) = strsD ws ++ [.str z] := by unfold strsD; rw [List.map_append]; rfl
          rw [es]
          exact Im.mono et6 hvd
        · unfold isWords at hxw ⊢
          rw [List.all_append, hxw, Bool.true_and]
          show (isWord z && true) = true
          rw [List.all_eq_true.mp hus z hz]; rfl
      · rintro pp σ' H5 ⟨zs, v6, v7, rfl, b5, h5, hne, h5l, lz, pz⟩
        have et5 : Et H4 H5 := b5.etL h4
        have hfl : fa ≠ lg := fun e => by rw [e, hlg] at h3f; cases h3f
        have h5f : H5 fa = some (.lst xs) := b5 fa _ hfl (e4 _ _ h3f)
        have ep : 4 ^ (i + 1) = 4 * 4 ^ i := by rw [Nat.pow_succ]; omega
        refine ⟨_, rfl, _, rfl, fa, lg, xs, zs, rfl, rfl, h5f, h5l, sz_of (by omega), fun nf hnf => ⟨_, rfl, _, _, rfl, ?_⟩⟩
        have e06 : Ex H (L2.upd H5 nf (.lst (xs ++ zs))) := fun b o h => by
          have hb3 := e3 b o h
          have hbl : b ≠ lg := fun e => by rw [e, hlg] at hb3; cases hb3
          exact (Ex.new hnf) _ _ (b5 b o hbl (e4 _ _ hb3))
        refine ⟨nf, lg, xs ++ zs, zs, _, _, _, _, rfl, ?_, e06, upd_same, (Ex.new hnf) _ _ h5l, by rw [List.length_append, ep]; omega, by rw [ep]; omega, ?_, ?_⟩
        · cases h : H nf with
          | none => rfl
          | some o =>
            have hb3 := e3 nf o h
            have hbl : nf ≠ lg := fun e => by rw [e, hlg] at hb3; cases hb3
            rw [b5 nf o hbl (e4 _ _ hb3)] at hnf
            cases hnf
        · exact (px.mono (((Et.of e4).trans et5).trans (Et.of (Ex.new hnf))) (Nat.le_succ _)).app (pz.mono (Et.of (Ex.new hnf)) (Nat.le_refl _))
        · exact pz.mono (Et.of (Ex.new hnf)) (Nat.le_refl _)
    · rintro σ' H3 ⟨fa, la, xs, ys, v4, v5, v6, v7, rfl, hfa, e3, h3f, h3l, lx, ly, px, py⟩
      exact s_ret (ev_var rfl) fun H4 e4 => q fa xs H4 hfa (e3.trans e4) (e4 _ _ h3f) (px.mono (Et.of e4) (by omega))
end
end Sw
namespace Sw
open PySem L2 Evl
abbrev s_law : Stmt := top 44
abbrev N_law : List Str := ["_law_script", "_law_pen_here", "_law_turn", "_law_words_here", "_law_plain", "_law_one", "_law_path", "_law_state", "_law_address", "_law_due_here", "_law_told"]
abbrev P_law : List Str := ["_law_script"]
theorem sc_law : FnScope N_law P_law (defScope s_law) := ⟨rfl, rfl, rfl, by decide +kernel, rfl, by decide +kernel, by decide +kernel⟩
def spLaw (K : PySem.W.Frag) : Sp := fun vs H Q _ => ∃ (a : Addr) (zs : List Int), vs = [.ref a] ∧ SqL K H a (zs.map V.int) ∧ ∀ H', Q (.bl true) H'
theorem due_none {st : Str} {es : List En} {g : Goal} {e : Bool} {s : Str} {ws : List Str} (h : known st es e s ws = none) : dueD st es g e s ws = .none := by unfold dueD; rw [h]
theorem due_stay {st : Str} {es : List En} {e : Bool} {s : Str} {ws : List Str} {acc : List (Int × Str)} (h : known st es e s ws = some acc) : dueD st es none e s ws = .tuple [.str s, .tuple (strsD ws)] := by unfold dueD; rw [h]
theorem due_send {st : Str} {es bs : List En} {z : Str} {e : Bool} {s : Str} {ws : List Str} {acc : List (Int × Str)} (h : known st es e s ws = some acc) : dueD st es (some (z, bs)) e s ws = .tuple [.str z, .tuple (strsD (fillE bs acc ++ ws.drop es.length))] := by unfold dueD; rw [h]
theorem pair_ex (z : Str) (ws : List Str) : exD (.tuple [.str z, .tuple (strsD ws)]) = true := by
  show (true && (exD (.tuple (strsD ws)) && true)) = true
  rw [strs_ex]; rfl
theorem pair_sh {z : Str} {ws : List Str} (h1 : isWord z = true) (h2 : isWords ws = true) : SeqAt.shaped (.tuple [.str z, .tuple (strsD ws)]) = true := by
  refine (ShD.tup (n := 1) fun d hd => ?_).shaped (by decide)
  rcases List.mem_cons.mp hd with rfl | hd
  · exact ShD.str (word_ok h1)
  · rcases List.mem_cons.mp hd with rfl | hd
    · exact words_sh h2 0
    · cases hd
section
variable {K : PySem.W.Frag} {σ : L2.St} {H : Hp} {ta tb te : TE}
/-- != of the same data -/
theorem et_same {d : PyData} {ta tb : TE} (h1 : Iv K ta σ H d) (h2 : Iv K tb σ H d) (hx : exD d = true) (hs : SeqAt.shaped d = true) : EvT (tTest (tOp (rNeD K) ta tb)) σ H false := fun H1 e1 Q q =>
  h1 H1 e1 _ fun v H2 e2 hv => h2 H2 (e1.trans e2) _ fun u H3 e3 hu => ⟨d, d, (Im.mono (Et.of e3) hv).dp, hu.dp, hs, hs, _, rfl, by
    rw [eqv_same hx]
    exact q H3 (e2.trans e3)⟩
end
section
variable {K : PySem.W.Frag} {σ : L2.St} {H : Hp}
theorem call_vLL {sp : Sp} {E : XK} {t0 t1 t2 : TE} {x : V} {xs ys : List V} {Q : VK} (h0 : Ev t0 σ H x) (h1 : EvL t1 σ H xs) (h2 : EvL t2 σ H ys) (k : ∀ l1 l2 H1, Ex H H1 → H1 l1 = some (.lst xs) → H1 l2 = some (.lst ys) → sp [x, .ref l1, .ref l2] H1 Q E) : tCall sp [] E (tCons t0 (tCons t1 (tCons t2 tNil))) σ H Q :=
  h0 H (Ex.refl H) _ fun H1 e1 => h1 H1 e1 _ fun l1 H2 _ e2 a1 => h2 H2 (e1.trans e2) _ fun l2 H3 _ e3 a2 => k l1 l2 H3 ((e1.trans e2).trans e3) (e3 _ _ a1) a2
theorem s_forC {tl : TE} {tu : TS} {D : Ends} {j : Nat} (R : Addr → List V → Hp → Prop) (h : ∀ Q : VK, (∀ l xs H1, H1 l = some (.lst xs) → R l xs H1 → Q (.ref l) H1) → tl σ H Q)
    (k : ∀ l xs H1, H1 l = some (.lst xs) → R l xs H1 → ∃ Pv : Nat → L2.St → Hp → Prop, Pv 0 σ H1 ∧ (∀ i σ' H', Pv i σ' H' → SqL K H' l xs) ∧ (∀ i x σ' H', xs[i]? = some x → Pv i σ' H' → tu { D with nx := Pv (i + 1), ct := Pv (i + 1), bk := D.nx } (σ'.set j (some x)) H') ∧ ∀ σ' H', Pv xs.length σ' H' → D.nx σ' H') : tFor (iList K tl) (gName j) tu D σ H :=
  h _ fun l xs H1 hl hr => by
    obtain ⟨Pv, h0, h1, h2, h3⟩ := k l xs H1 hl hr
    exact ⟨l, rfl, ⟨xs, sq_of hl⟩, for_list Pv h0 (fun i σ H _ p => h1 i σ H p) (fun i x σ H hx p => h2 i x σ H hx p) h3⟩
theorem ev_reprB {te : TE} {b : Bool} (h : Ev te σ H (.bl b)) : Ev (tCB rReprB (tCons te tNil)) σ H (.str (if b then "True" else "False")) := ev_cb (ea_cons h ea_nil) fun H1 _ _ q => ⟨b, rfl, q H1 (Ex.refl H1)⟩
theorem ev_fits {ta tb : TE} {x a : Addr} {st s : Str} {es : List En} {g : Goal} {e : Bool} {ws : List Str} (h : Ev ta σ H (.ref x)) (h2 : Ev tb σ H (.ref a)) (hx : RuleAt K H x st es g e) (hl : es.length ≤ 10000) (ha : AddrAt K H a s ws) : Ev (tMeth (He.ga K "Rule") "fits" (spFits K) [] C8.E0 ta (tCons tb tNil)) σ H (.bl (known st es e s ws).isSome) := fun H1 e1 Q q =>
  h H1 e1 _ fun H2 e2 => by
    obtain ⟨dx, p, g', h1, _⟩ := hx.mono (e1.trans e2)
    refine ⟨x, dx, _, rfl, h1, rF_noname _ _ _ _ _ (by decide +kernel), h2 H2 (e1.trans e2) _ fun H3 e3 => ⟨x, st, es, g, e, a, s, ws, rfl, hx.mono ((e1.trans e2).trans e3), hl, ha.mono ((e1.trans e2).trans e3), fun H4 e4 => q H4 ((e2.trans e3).trans e4)⟩⟩
/-- what calling the rule told -/
inductive Told (K : PySem.W.Frag) (H : Hp) (ax : Addr) (g : Goal) : V → PyData → Prop
  | no : Told K H ax g .non .none
  | addr {b : Addr} {z : Str} {ws : List Str} : AddrAt K H b z ws → isWord z = true → isWords ws = true → (g = none → b = ax) → Told K H ax g (.ref b) (.tuple [.str z, .tuple (strsD ws)])
theorem Told.mono {H' : Hp} {ax : Addr} {g : Goal} {v : V} {d : PyData} (e : Ex H H') (h : Told K H ax g v d) : Told K H' ax g v d := by
  cases h with
  | no => exact .no
  | addr a b c d => exact .addr (a.mono e) b c d
theorem Told.ex {ax : Addr} {g : Goal} {v : V} {d : PyData} (h : Told K H ax g v d) : exD d = true := by
  cases h with
  | no => rfl
  | addr a b c d => exact pair_ex _ _
theorem Told.sh {ax : Addr} {g : Goal} {v : V} {d : PyData} (h : Told K H ax g v d) : SeqAt.shaped d = true := by
  cases h with
  | no => decide
  | addr a b c d => exact pair_sh b c
theorem Told.isN {ax : Addr} {g : Goal} {v : V} {d : PyData} {u : V} (h : Told K H ax g v d) (hu : Im K H u d) : decide (u = .non) = decide (v = .non) := by
  cases h with
  | no => cases hu; rfl
  | addr a b c d => cases hu; rfl
end
theorem sel_true {b c : Bool} (h : b = c) : (!decide (V.str (if b then "True" else "False") = V.str (if c then "True" else "False"))) = false := by
  subst h
  rw [decide_eq_true rfl]; rfl
section
variable {P : Program} {w : World} {K : PySem.W.Frag} {mg : Str → Option Value} {base : Heap}
theorem ok_law {f : Addr} {fd : FuncData} (F : FunD K "law" "law" (defArgs s_law) (defBody s_law) (defScope s_law) [] [] f fd) (T : Txt K mg) (C__law_pen : C8.Cal P w K mg base 1 "_law_pen" (spPen K) []) (C__law_words : C8.Cal P w K mg base 3 "_law_words" spWords []) (C__law_rule : C8.Cal P w K mg base 4 "_law_rule" (spLRule K) []) (C__law_made_rule : C8.Cal P w K mg base 7 "_law_made_rule" (spMade K) [])
    (C__law_paths : C8.Cal P w K mg base 1 "_law_paths" (spPaths K) []) (C__law_due : C8.Cal P w K mg base 4 "_law_due" (spDue K) []) (M_Address : C8.Mak P w K mg base 3 "Address" (He.ga K "Address") (spAddr K) []) (I_Rule : CalI P w K mg base 5 (He.ga K "Rule") (spSend K)) (M_Rule_fits : C8.Met P w K mg base 4 (He.ga K "Rule") "fits" (spFits K) [])
    (M_Address_state : Prp P w K mg base 1 (He.ga K "Address") "state" (spAState K)) (M_Address_path : Prp P w K mg base 1 (He.ga K "Address") "path" (spAPath K)) (O_Address : OwnE P w K mg base 1 (He.ga K "Address") (spAEq K)) : FnOk P w K mg base C8.CX0 8 f fd P_law (spLaw K) := by
  refine F.ok sc_law (fun vs H Q E h => ?_) (fun cdv A outer s H vs Q E hr h => ?_)
  · obtain ⟨_, _, rfl, _⟩ := h
    rfl
  · obtain ⟨a, zs, rfl, ha, q⟩ := h
    refine ⟨_, PSs.nox (pss_cons (ps_set (i := 1) sc_law.nd rfl (by first | exact Or.inl rfl | exact Or.inr rfl) (C8.pe_c C__law_pen hr (by decide) rfl (pa_cons (pv 0) pa_nil)))
      (pss_cons (ps_for PassesOwn.never rfl (pi_range1 (by rfl) T.b_range (pa_cons (pe_op op_add pe_int (pe_callB (call_min2 rfl) (by rfl) T.b_min (by decide +kernel) (pa_cons pe_int (pa_cons (pe_callB (call_len_seqK (K := K) rfl) (by rfl) T.b_len boot_len (pa_cons (pv 0) pa_nil)) pa_nil)))) pa_nil)) (pg_name (i := 2) sc_law.nd rfl (by first | exact Or.inl rfl | exact Or.inr rfl))
      (pss_cons (ps_set (i := 3) sc_law.nd rfl (by first | exact Or.inl rfl | exact Or.inr rfl) (C8.pe_c C__law_words hr (by decide) rfl (pa_cons (pv 1) (pa_cons pe_int pa_nil))))
      (pss_cons (ps_set (i := 4) sc_law.nd rfl (by first | exact Or.inl rfl | exact Or.inr rfl) (C8.pe_c C__law_rule hr (by decide) rfl (pa_cons (pv 1) (pa_cons (pe_slice (sl_listK (K := K) rfl) (pv 3) po_none (po_some pe_int)) (pa_cons (pe_slice (sl_listK (K := K) rfl) (pv 3) (po_some pe_int) (po_some pe_int)) pa_nil)))))
      (pss_cons (ps_set (i := 5) sc_law.nd rfl (by first | exact Or.inl rfl | exact Or.inr rfl) (C8.pe_c C__law_made_rule hr (by decide) rfl (pa_cons (pv 4) pa_nil)))
      (pss_one (ps_for PassesOwn.never rfl (pi_listK (K := K) rfl (C8.pe_c C__law_paths hr (by decide) rfl (pa_cons (pe_slice (sl_listK (K := K) rfl) (pv 3) (po_some pe_int) (po_some pe_int)) (pa_cons pe_int pa_nil)))) (pg_name (i := 6) sc_law.nd rfl (by first | exact Or.inl rfl | exact Or.inr rfl))
      (pss_one (ps_for PassesOwn.never rfl (pi_listK (K := K) rfl (pe_slice (sl_listK (K := K) rfl) (pv 3) po_none (po_some pe_int))) (pg_name (i := 7) sc_law.nd rfl (by first | exact Or.inl rfl | exact Or.inr rfl))
      (pss_cons (ps_par (i := 8) (j := 9) (by rfl) sc_law.nd rfl rfl (by decide) rfl rfl (pa_cons (C8.pe_mk M_Address hr (by decide) rfl (pa_cons (pv 7) (pa_cons (pe_callTy (call_list_ofK (K := K) rfl) (by rfl) T.b_list boot_list (pa_cons (pv 6) pa_nil)) pa_nil))) (pa_cons (C8.pe_c C__law_due hr (by decide) rfl (pa_cons (pv 4) (pa_cons (pv 7) (pa_cons (pv 6) pa_nil)))) pa_nil)) (by rfl))
      (C8.pss_cut (ps_set (i := 10) sc_law.nd rfl (by first | exact Or.inl rfl | exact Or.inr rfl) (pe_callI I_Rule hr (by decide) (pv 5) (pa_cons (pv 8) pa_nil)))
      (pss_cons (ps_if (pt_cmpR op_ne (pe_callB call_reprB (by rfl) T.b_repr (by decide +kernel) (pa_cons (C8.pe_mt M_Rule_fits hr (by decide) (pv 5) (pa_cons (pv 8) pa_nil)) pa_nil)) (pe_callB call_reprB (by rfl) T.b_repr (by decide +kernel) (pa_cons (pe_cmpR op_notN (pv 9) pe_non (nomark _)) pa_nil)) (nomark _)) (pss_one (ps_ret pe_bl)) pss_nil)
      (pss_cons (ps_if (PW.pt (pw_or (pt_cmpR (op_neDK (K := K) rfl hr.units) (pe_ifExp (pt_cmpR op_isN (pv 10) pe_non (nomark _)) pe_non (pe_tup (pa_cons (pe_pr M_Address_state hr (by decide) (pv 10) rfl) (pa_cons (pe_pr M_Address_path hr (by decide) (pv 10) rfl) pa_nil)))) (pv 9) (nomark _)) (pw_or1 (pt_cmpR (op_neDK (K := K) rfl hr.units) (pe_pr M_Address_path hr (by decide) (pv 8) rfl) (pv 6) (nomark _))))) (pss_one (ps_ret pe_bl)) pss_nil)
      (pss_one (ps_if (PW.pt (pw_and (pt_cmpR op_isN (pe_ix (ix_tupK (K := K) rfl) (pv 4) pe_int (fun _ _ => rfl)) pe_non (nomark _)) (pw_and (pt_cmpR op_notN (pv 10) pe_non (nomark _)) (pw_and1 (pt_cmpR (op_neO O_Address hr (by decide)) (pv 10) (pv 8) (nomark _)))))) (pss_one (ps_ret pe_bl)) pss_nil))))))))))))))
      (pss_one (ps_ret pe_bl)))), ?_⟩
    refine call_ea (ea_cons (ev_var rfl) ea_nil) fun H1 e1 => ⟨a, zs, rfl, ex_l e1 ha, fun p c H2 hp e2 hpen => ?_⟩
    have ha2 := ex_l (e1.trans e2) ha
    have hrange : ∃ n : Int, (0 ≤ n ∧ n ≤ 100000) ∧ n ≤ 8 ∧ EvA (tCons (tOp (rI0 fun i j => .int (i + j)) (tC (.int 4)) (tCB (fun xs H Q => ∃ i j, xs = [.int i, .int j] ∧ Q (.int (if j < i then j else i)) H) (tCons (tC (.int 4)) (tCons (tCB (rLenQ K) (tCons (tVar 0) tNil)) tNil)))) tNil) (L2.start N_law [.ref a, .ref p]) H2 [.int n] := by
      refine ⟨4 + (if ((zs.map V.int).length : Int) < 4 then ((zs.map V.int).length : Int) else 4), ?_, ?_, ea_cons (ev_op ev_c (ev_cb (ea_cons ev_c (ea_cons (ev_lenS (ev_var rfl) ⟨a, rfl, .inl ha2⟩) ea_nil)) fun H1 _ _ q => ⟨4, _, rfl, q H1 (Ex.refl H1)⟩) rv_I0) ea_nil⟩
      · split <;> omega
      · split <;> omega
    obtain ⟨n, hn, hn8, hev⟩ := hrange
    refine q_forR1 (n := n) hev hn (fun i σ' H' => ∃ (v2 v3 v4 v5 v6 v7 v8 v9 v10 : Option V), σ' = [some (.ref a), some (.ref p), v2, v3, v4, v5, v6, v7, v8, v9, v10] ∧ PenAt H' p c (i * 31)) (fun H3 e3 => ⟨_, _, _, _, _, _, _, _, _, rfl, hpen.mono e3⟩) ?_ ?_
    · rintro i σ' H3 hi ⟨v2, v3, v4, v5, v6, v7, v8, v9, v10, rfl, p3⟩
      refine call_ea (ea_cons (ev_var rfl) (ea_cons ev_c ea_nil)) fun H4 e4 => ⟨p, c, i * 31, 7, rfl, p3.mono e4, by omega, by decide, by decide, fun wa ws H5 hwa b5 p5 h5 hl5 hw5 => ?_⟩
      have hl7 : ws.length = 7 := by omega
      have c1 : cutV (ws.map V.str) none (some ((2 : Nat) : Int)) = (ws.take 2).map V.str := by rw [cut_to, List.map_take]
      have c2 : cutV (ws.map V.str) (some ((2 : Nat) : Int)) (some ((4 : Nat) : Int)) = ((ws.drop 2).take 2).map V.str := by rw [cut_mid, List.map_take, List.map_drop]
      have c3 : cutV (ws.map V.str) (some ((2 : Nat) : Int)) (some ((6 : Nat) : Int)) = ((ws.drop 2).take 4).map V.str := by rw [cut_mid, List.map_take, List.map_drop]
      have w1 : isWords (ws.take 2) = true := List.all_eq_true.mpr fun z hz => List.all_eq_true.mp hw5 z (List.mem_of_mem_take hz)
      have w2 : isWords ((ws.drop 2).take 2) = true := List.all_eq_true.mpr fun z hz => List.all_eq_true.mp hw5 z (List.mem_of_mem_drop (List.mem_of_mem_take hz))
      have w3 : isWords ((ws.drop 2).take 4) = true := List.all_eq_true.mpr fun z hz => List.all_eq_true.mp hw5 z (List.mem_of_mem_drop (List.mem_of_mem_take hz))
      have sl : ∀ {σ : L2.St} {H' : Hp} {lo hi : TO} {x y : Option Int}, σ[3]? = some (some (.ref wa)) → H' wa = some (.lst (ws.map V.str)) → EvO lo σ H' x → EvO hi σ H' y → EvL (tSl (rSlL K) (tVar 3) lo hi) σ H' (cutV (ws.map V.str) x y) := fun hσ hw h1 h2 => el_sl (ev_var hσ) h1 h2 (sq_of hw)
      refine q_setT (call_vLL (ev_var rfl) (sl rfl h5 eo_none (eo_some ev_c)) (sl rfl h5 (eo_some ev_c) (eo_some ev_c)) fun l1 l2 H6 e6 h6a h6b => ?_)
      have h6a' : H6 l1 = some (.lst ((ws.take 2).map V.str)) := by rw [← c1]; exact h6a
      have h6b' : H6 l2 = some (.lst (((ws.drop 2).take 2).map V.str)) := by rw [← c2]; exact h6b
      refine ⟨p, c, i * 31 + 11, l1, l2, ws.take 2, (ws.drop 2).take 2, rfl, p5.mono e6, by omega, ⟨h6a', w1, by rw [List.length_take]; omega, by rw [List.length_take]; omega⟩, ⟨h6b', w2, by rw [List.length_take, List.length_drop]; omega, by rw [List.length_take]; omega⟩, fun v st es g e H7 ok hv b7 p7 => ?_⟩
      have h7 : H7 wa = some (.lst (ws.map V.str)) := b7.lst (p5.mono e6) (e6 _ _ h5)
      refine q_setT (call_ea (ea_cons (ev_var rfl) ea_nil) fun H8 e8 => ⟨v, st, es, g, e, rfl, Im.mono (Et.of e8) hv, ok, fun x H9 hx e9 hR => ?_⟩)
      have e79 := e8.trans e9
      have p9 := p7.mono e79
      refine s_forC (K := K) (fun l xs H1 => Ex H9 H1 ∧ PathsV K H1 xs 3) (fun Q k => ?_) (fun l xs H10 hl hx10 => ?_)
      · refine (sl (σ := [some (.ref a), some (.ref p), some (.int (i : Int)), some (.ref wa), some v, some (.ref x), v6, v7, v8, v9, v10]) rfl (e79 _ _ h7) (eo_some ev_c) (eo_some ev_c)) H9 (Ex.refl H9) _ fun l3 H10 hl3 e10 h10 => ?_
        refine ⟨l3, (ws.drop 2).take 4, 3, rfl, by rw [← c3]; exact h10, w3, by rw [List.length_take]; omega, by decide, by decide, fun l xs H11 hl e11 h11 hpv => k l xs H11 h11 ⟨e10.trans e11, hpv⟩⟩
      · obtain ⟨e10, hpv⟩ := hx10
        refine ⟨fun j σ' H' => ∃ (v6 v7 v8 v9 v10 : Option V), σ' = [some (.ref a), some (.ref p), some (.int (i : Int)), some (.ref wa), some v, some (.ref x), v6, v7, v8, v9, v10] ∧ Ex H10 H', ⟨_, _, _, _, _, rfl, Ex.refl H10⟩, ?_, ?_, ?_⟩
        · rintro j σ' H' ⟨_, _, _, _, _, _, ee⟩
          exact sq_of (ee _ _ hl)
        · rintro j pv σ' H11 hpj ⟨v6, v7, v8, v9, v10, rfl, e11⟩
          obtain ⟨pw, hpi, hpw, hpl⟩ := hpv pv (List.mem_of_getElem? hpj)
          have e9_11 := e10.trans e11
          have e7_11 := e79.trans e9_11
          refine s_forNL (K := K) (sl rfl (e7_11 _ _ h7) eo_none (eo_some ev_c)) (fun pp j' σ' H' => ∃ (v7 v8 v9 v10 : Option V), σ' = [some (.ref a), some (.ref p), some (.int (i : Int)), some (.ref wa), some v, some (.ref x), some pv, v7, v8, v9, v10] ∧ Ex H11 H' ∧ H' pp = some (.lst (cutV (ws.map V.str) none (some 2)))) ?_ ?_ ?_ ?_
          · exact fun pp H12 hpp e12 h12 => ⟨_, _, _, _, rfl, e12, h12⟩
          · rintro pp j' σ' H12 hj' ⟨_, _, _, _, _, _, h12⟩
            exact sq_of h12
          · rintro pp j' sv σ' H12 hsj ⟨v7, v8, v9, v10, rfl, e12, h12⟩
            have hsm := List.mem_of_getElem? hsj
            rw [show cutV (ws.map V.str) none (some 2) = (ws.take 2).map V.str from c1] at hsm
            obtain ⟨s, hs, rfl⟩ := List.mem_map.mp hsm
            have hsw : isWord s = true := List.all_eq_true.mp w1 s hs
            have e7_12 := e7_11.trans e12
            have hpi12 := Im.mono (Et.of (e11.trans e12)) hpi
            obtain ⟨pa, rfl, hpa⟩ := hpi12.words
            refine q_par (make_addr (ws := pw) (z := s) ?_ hsw hpw (by omega) fun ax H13 hax e13 haddr => call_ea (ea_cons (ev_var rfl) (ea_cons (ev_var rfl) (ea_cons (ev_var rfl) ea_nil))) fun H14 e14 => ⟨v, st, es, g, e, s, .ref pa, pw, rfl, Im.mono (Et.of ((e7_12.trans e13).trans e14)) hv, ok, Im.mono (Et.of (e13.trans e14)) hpi12, by omega, fun u H15 e15 hu => ⟨_, _, rfl, ?_⟩⟩)
            · intro Q' k
              exact ⟨_, rfl, _, rfl, pa, _, rfl, .inr (st_of hpa), fun l hl => k _ _ (Ex.new hl) (.inl ⟨l, rfl, upd_same⟩)⟩
            · have e7_15 := ((e7_12.trans e13).trans e14).trans e15
              have hv15 := Im.mono (Et.of e7_15) hv
              have hR15 : RuleAt K H15 x st es g e := hR.mono ((((e9_11.trans e12).trans e13).trans e14).trans e15)
              have ha15 := haddr.mono (e14.trans e15)
              have hp15 := Im.mono (Et.of ((e13.trans e14).trans e15)) hpi12
              have el10 : es.length ≤ 10000 := by have := ok.len; omega
              refine q_cut (M := fun σ' H' => ∃ tv, σ' = [some (.ref a), some (.ref p), some (.int (i : Int)), some (.ref wa), some v, some (.ref x), some (.ref pa), some (.str s), some (.ref ax), some u, some tv] ∧ Ex H15 H' ∧ Told K H' ax g tv (dueD st es g e s pw)) ?_ ?_
              · obtain ⟨dr, fr1, fr2, hins, _⟩ := id hR15
                refine ⟨_, rfl, x, rfl, _, rfl, .inr ⟨_, _, hins⟩, x, st, es, g, e, ax, s, pw, rfl, hR15, ok, ha15, hpw, by omega, fun hk H16 e16 => ?_, fun acc hk hg H16 e16 => ?_, fun acc z bs hk hg b H16 hb e16 hab => ?_⟩
                · exact ⟨_, rfl, e16, by rw [due_none hk]; exact .no⟩
                · subst hg
                  exact ⟨_, rfl, e16, by rw [due_stay hk]; exact .addr (ha15.mono e16) hsw hpw fun _ => rfl⟩
                · subst hg
                  obtain ⟨g1, g2, g3, g4⟩ := ok.goal z bs rfl
                  exact ⟨_, rfl, e16, by rw [due_send hk]; exact .addr hab g1 (fill_words ok rfl hpw (known_bnd hk)) fun h => nomatch h⟩
              · rintro σ' H16 ⟨tv, rfl, e16, ht⟩
                have hu16 := Im.mono (Et.of e16) hu
                have hN := ht.isN hu16
                have hkn : (known st es e s pw).isSome = !decide (u = .non) := by
                  cases hk : known st es e s pw with
                  | none =>
                    rw [due_none hk] at hu
                    cases hu
                    rfl
                  | some acc =>
                    cases g with
                    | none =>
                      rw [due_stay hk] at hu
                      cases hu
                      rfl
                    | some zb =>
                      obtain ⟨z, bs⟩ := zb
                      rw [due_send hk] at hu
                      cases hu
                      rfl
                refine q_when (b := false) (et_is (et_test (ev_op (ev_reprB (ev_fits (ev_var rfl) (ev_var rfl) (hR15.mono e16) el10 (ha15.mono e16))) (ev_reprB (ev_notN (ev_var rfl))) (rv_ne rfl))) (sel_true hkn)) (fun h => nomatch h) (fun _ H17 e17 => ?_)
                have ht17 := ht.mono e17
                have e15_17 := e16.trans e17
                have hpair : Iv K (tIf (tTest (tOp (fun x y H Q => y = .non ∧ Q (.bl (decide (x = .non))) H) (tVar 10) (tC .non))) (tC .non) (tTup (tCons (tProp (He.ga K "Address") (spAState K) [] C8.E0 (tVar 10)) (tCons (tProp (He.ga K "Address") (spAPath K) [] C8.E0 (tVar 10)) tNil)))) [some (.ref a), some (.ref p), some (.int (i : Int)), some (.ref wa), some v, some (.ref x), some (.ref pa), some (.str s), some (.ref ax), some u, some tv] H17 (dueD st es g e s pw) := by
                  generalize hd : dueD st es g e s pw = dd
                  rw [hd] at ht17
                  cases ht17 with
                  | no => exact iv_ifx (b := true) (et_is (et_test (ev_isN (v := .non) (ev_var rfl))) (by rfl)) (fun _ => iv_ev ev_c .non) (fun z => nomatch z)
                  | @addr b z ws' hab _ _ _ =>
                    exact iv_ifx (b := false) (et_is (et_test (ev_isN (v := .ref b) (ev_var rfl))) (by rfl)) (fun z => nomatch z) (fun _ => iv_tup (iva_cons (iv_ev (ev_astate (ev_var rfl) hab) (.str _)) (iva_cons (iv_apath (ev_var rfl) hab) iva_nil)) (by show 2 ≤ 100000; decide))
                refine q_when (b := false) (et_or (a := false) (b := false) (et_same hpair (iv_var rfl (Im.mono (Et.of e17) hu16)) ht17.ex ht17.sh) (fun _ => et_same (iv_apath (ev_var rfl) (ha15.mono e15_17)) (iv_var rfl (Im.mono (Et.of e15_17) hp15)) (strs_ex pw) ((words_sh hpw 0).shaped (by decide)))) (fun h => nomatch h) (fun _ H18 e18 => ?_)
                have ht18 := ht17.mono e18
                have e15_18 := e15_17.trans e18
                obtain ⟨va, vp, gv, rfl, hva, _, hgv⟩ := rule_parts (Im.mono (Et.of e15_18) hv15)
                have gix := ev_ixT (K := K) (σ := [some (.ref a), some (.ref p), some (.int (i : Int)), some (.ref wa), some (.ref va), some (.ref x), some (.ref pa), some (.str s), some (.ref ax), some u, some tv]) (i := 2) (v := gv) (ev_var (i := 4) rfl) ev_c (st_of hva) rfl
                refine s_when (b := false) ?_ (fun h => nomatch h) (fun _ H19 e19 => ⟨_, _, _, _, rfl, ((((e12.trans e13).trans e14).trans e15).trans e15_18).trans e19, ((((e13.trans e14).trans e15).trans e15_18).trans e19) _ _ h12⟩)
                cases hdg : decide (gv = .non) with
                | false => exact et_and (a := false) (b := false) (et_is (et_test (ev_isN gix)) hdg) (fun h => nomatch h)
                | true =>
                  have hgn := of_decide_eq_true hdg
                  have hg0 : g = none := by
                    subst hgn
                    cases g with
                    | none => rfl
                    | some p => cases hgv
                  generalize hd : dueD st es g e s pw = dd
                  rw [hd] at ht18
                  cases ht18 with
                  | no => exact et_and (a := true) (b := false) (et_is (et_test (ev_isN gix)) hdg) (fun _ => et_and (a := false) (b := false) (et_is (et_test (ev_notN (v := .non) (ev_var rfl))) (by rfl)) (fun h => nomatch h))
                  | @addr b z ws' hab hz hws hb =>
                    have hb0 := hb hg0
                    subst hb0
                    refine et_and (a := true) (b := false) (et_is (et_test (ev_isN gix)) hdg) (fun _ => et_and (a := true) (b := false) (et_is (et_test (ev_notN (v := .ref b) (ev_var rfl))) (by rfl)) (fun _ => ?_))
                    refine et_is (b := !true) (et_test (ev_op (ev_var (v := .ref b) rfl) (ev_var (v := .ref b) rfl) fun H19 e19 Q q => ?_)) rfl
                    have hab19 := hab.mono e19
                    obtain ⟨d1, d2, d3, hins, _⟩ := id hab19
                    refine ⟨b, b, d1, d1, _, _, rfl, rfl, hins, hins, b, b, z, ws', z, ws', rfl, hab19, hab19, hz, hws, hz, hws, fun H20 e20 => ⟨_, rfl, ?_⟩⟩
                    rw [decide_eq_true ⟨rfl, rfl⟩]
                    exact q H20 e20
          · rintro pp σ' H12 ⟨v7, v8, v9, v10, rfl, e12, _⟩
            exact ⟨_, _, _, _, _, rfl, e11.trans e12⟩
        · rintro σ' H11 ⟨v6, v7, v8, v9, v10, rfl, e11⟩
          exact ⟨_, _, _, _, _, _, _, _, _, rfl, (p9.mono (e10.trans e11)).more (by omega)⟩
    · rintro σ' H3 ⟨v2, v3, v4, v5, v6, v7, v8, v9, v10, rfl, p3⟩
      exact s_ret ev_c fun H4 e4 => q H4
end
end Sw
namespace Sw
open PySem L2
/-! the head: getters of properties, a Bool more -/
def prA (K : PySem.W.Frag) (C f : Str) : Addr := match PySem.W.recIn K (He.ma K (He.ga K C) f) "property" with
  | some (.ref g :: _) => g
  | _ => 0
def fdAt (K : PySem.W.Frag) (a : Addr) : Option FuncData := match K.lookup a with
  | some ⟨_, _, .func fd, _⟩ => some fd
  | _ => none
theorem fdAt_ok {K : PySem.W.Frag} {a : Addr} {fd : FuncData} (h : fdAt K a = some fd) : ∃ oc od osl, K.lookup a = some ⟨oc, od, .func fd, osl⟩ := by
  unfold fdAt at h
  split at h
  · rename_i oc od fd' osl q
    exact ⟨oc, od, osl, by rw [q, Option.some.inj h]⟩
  · cases h
def sees (fd : FuncData) : Str × Str × Arguments × FuncBody × Scope × Addr × List (Str × Addr) × Addr := (fd.name, fd.qualname, fd.params, fd.body, fd.scope, fd.globals, fd.closure, fd.builtins)
structure Gt where
  cls : Str
  pr : Str
  st : Stmt
  qual : Str
def Gt.obs (K : PySem.W.Frag) (g : Gt) : He.FnW := (fdAt K (prA K g.cls g.pr)).map sees
def Gt.val (g : Gt) : He.FnW := some (g.pr, g.qual, defArgs g.st, .stmts (defBody g.st), defScope g.st, mainGlobals, [], builtinsNs)
def Gt.ok (K : PySem.W.Frag) (g : Gt) : Bool := He.eqO (PySem.W.findIn K (.ref (He.ga K g.cls)) g.pr) (some (some (.ref (He.ma K (He.ga K g.cls) g.pr)))) && (He.eqO (PySem.W.specialIn K (.ref (He.ma K (He.ga K g.cls) g.pr)) "__get__") (some (some (.builtin "property.__get__"))) &&
  (decide (PySem.W.takesIn K (.ref (He.ma K (He.ga K g.cls) g.pr)) = some true) && ((match PySem.W.recIn K (He.ma K (He.ga K g.cls) g.pr) "property" with | some (.ref _ :: _) => true | _ => false) &&
  (PySem.W.keepIn K (.ref (prA K g.cls g.pr)) && (fdAt K (prA K g.cls g.pr)).any fun fd => PySem.W.codeIn K fd.code g.qual && He.dflB K fd.defaults []))))
theorem Gt.propOf {K : PySem.W.Frag} {g : Gt} (c : g.ok K = true) : PropOf K (He.ga K g.cls) g.pr (He.ma K (He.ga K g.cls) g.pr) (prA K g.cls g.pr) := by
  obtain ⟨c1, c⟩ := He.ba c
  obtain ⟨c2, c⟩ := He.ba c
  obtain ⟨c3, c⟩ := He.ba c
  obtain ⟨c4, c⟩ := He.ba c
  refine ⟨He.eqO_ok c1, He.eqO_ok c2, of_decide_eq_true c3, ?_⟩
  unfold prA
  split at c4
  · rename_i a r q
    exact ⟨r, by rw [q]⟩
  · cases c4
theorem Gt.funD {K : PySem.W.Frag} {g : Gt} (e : g.obs K = g.val) (c : g.ok K = true) : ∃ fd, FunD K g.pr g.qual (defArgs g.st) (defBody g.st) (defScope g.st) [] [] (prA K g.cls g.pr) fd := by
  obtain ⟨_, c⟩ := He.ba c
  obtain ⟨_, c⟩ := He.ba c
  obtain ⟨_, c⟩ := He.ba c
  obtain ⟨_, c⟩ := He.ba c
  obtain ⟨kp, c⟩ := He.ba c
  unfold Gt.obs at e
  cases q : fdAt K (prA K g.cls g.pr) with
  | none => rw [q] at c; cases c
  | some fd =>
    rw [q] at c e
    obtain ⟨k1, k2⟩ := He.ba (show (PySem.W.codeIn K fd.code g.qual && He.dflB K fd.defaults []) = true from c)
    obtain ⟨oc, od, osl, lk⟩ := fdAt_ok q
    obtain ⟨a1, a2, a3, a4, a5, a6, a7, a8, a9, b1, b2, b3, b4, b5, b6⟩ := fd
    have e2 := Option.some.inj (show some (sees _) = Gt.val g from e)
    simp only [sees, Prod.mk.injEq] at e2
    obtain ⟨e1, e2, e3, e4, e5, e6, e7, e8⟩ := e2
    subst e1 e2 e3 e4 e5 e6 e7 e8
    exact ⟨_, ⟨oc, od, a8, a9, b1, b2, b3, b4, b5, osl, rfl, lk, k1, He.dflB_ok k2, .inl rfl⟩, kp⟩
structure SaysP (fa : List He.Fa) (fn : List He.DefD) (gs : List Gt) (ex : PySem.W.Frag → Bool) (K : PySem.W.Frag) : Prop where
  d : He.SaysD fa fn K
  more : ex K = true
  ok : gs.all (Gt.ok K) = true
  g : gs.map (Gt.obs K) = gs.map Gt.val
theorem SaysP.get {fa : List He.Fa} {fn : List He.DefD} {gs : List Gt} {ex : PySem.W.Frag → Bool} {K : PySem.W.Frag} (c : SaysP fa fn gs ex K) (i : Nat) {g : Gt} (h : gs[i]? = some g) : g.ok K = true ∧ g.obs K = g.val := by
  refine ⟨List.all_eq_true.mp c.ok g (List.mem_of_getElem? h), ?_⟩
  have e := congrArg (fun l => l[i]?) c.g
  simp only [List.getElem?_map, h] at e
  exact Option.some.inj e
abbrev AlP : Type := (He.AlD × Bool) × List He.FnW
def obsP (n : Nat) (fa : List He.Fa) (fn : List He.DefD) (gs : List Gt) (ex : PySem.W.Frag → Bool) (g : Addr → Option Obj) : AlP := ((He.obsD fa fn (He.frG g (He.asD g n)), ex (He.frG g (He.asD g n)) && gs.all (Gt.ok (He.frG g (He.asD g n)))), gs.map (Gt.obs (He.frG g (He.asD g n))))
def hookP (n : Nat) (fa : List He.Fa) (fn : List He.DefD) (gs : List Gt) (ex : PySem.W.Frag → Bool) : PySem.W.Hook where
  α := AlP
  obs := fun s => obsP n fa fn gs ex s.heap.get?
  val := fun _ => ((He.valD fn, true), gs.map Gt.val)
  says := fun _ h => ∃ K : PySem.W.Frag, K.In h ∧ SaysP fa fn gs ex K
  of := fun w h e => by
    have e1 : (He.obsD fa fn _, _) = (He.valD fn, true) := congrArg (fun z : AlP => z.1) e
    have e2 := congrArg (fun z : AlP => z.2) e
    obtain ⟨h1, h2⟩ := He.ba (congrArg (fun z : He.AlD × Bool => z.2) e1)
    exact ⟨_, He.frG_in, ⟨congrArg (fun z : He.AlD × Bool => z.1) e1, h1, h2, e2⟩⟩
  keeps := fun _ _ _ ⟨K, hK, c⟩ k => ⟨K, hK.keeps k, c⟩
theorem obsP_eq {n : Nat} {fa : List He.Fa} {fn : List He.DefD} {gs : List Gt} {ex : PySem.W.Frag → Bool} {g : Addr → Option Obj} {s : Shared} (h : ∀ a, g a = s.heap.get? a) : obsP n fa fn gs ex g = (hookP n fa fn gs ex).obs s := by
  rw [show g = s.heap.get? from funext h]
  rfl
/-! checks -/
def eqB (K : PySem.W.Frag) (C : Str) : Bool := He.eqO (PySem.W.findIn K (.ref (He.ga K C)) "__eq__") (some (some (.ref (He.ma K (He.ga K C) "__eq__")))) && (PySem.W.isFn K (.ref (He.ma K (He.ga K C) "__eq__")) &&
  (He.eqO (PySem.W.findIn K (.ref (He.ga K C)) "__ne__") (some (some (.builtin "object.__ne__"))) && decide (PySem.W.mroIn K (He.ga K C) (.type "object") = some true)))
theorem eqB_ok {K : PySem.W.Frag} {C : Str} (h : eqB K C = true) : EqOwn K (He.ga K C) (He.ma K (He.ga K C) "__eq__") := by
  obtain ⟨h1, h⟩ := He.ba h
  obtain ⟨h2, h⟩ := He.ba h
  obtain ⟨h3, h4⟩ := He.ba h
  exact ⟨He.eqO_ok h1, h2, He.eqO_ok h3, of_decide_eq_true h4⟩
def callB (K : PySem.W.Frag) (C : Str) : Bool := He.eqO (PySem.W.findIn K (.ref (He.ga K C)) "__call__") (some (some (.ref (He.ma K (He.ga K C) "__call__")))) && (PySem.W.isFn K (.ref (He.ma K (He.ga K C) "__call__")) && PySem.W.fnIn K (He.ma K (He.ga K C) "__call__"))
theorem callB_ok {K : PySem.W.Frag} {C : Str} (h : callB K C = true) : StX.CallO K (He.ga K C) (He.ma K (He.ga K C) "__call__") := by
  obtain ⟨h1, h⟩ := He.ba h
  obtain ⟨h2, h3⟩ := He.ba h
  exact ⟨He.eqO_ok h1, h2, h3⟩
def insB (K : PySem.W.Frag) (C : Str) : Bool := He.eqO (PySem.W.findIn K (.ref (He.ga K C)) "__class__") (some (some (.builtin "object.__class__"))) && (He.eqO (PySem.W.specialIn K (.builtin "object.__class__") "__get__") (some (some (.builtin "getset_descriptor.__get__"))) &&
  (decide (PySem.W.takesIn K (.builtin "object.__class__") = some true) && (decide (PySem.W.mroIn K (He.ga K C) (.type "object") = some true) && decide (PySem.W.kitOne K (.ref (He.ga K C)) (.ref (He.ga K C)) = some true))))
theorem insB_ok {K : PySem.W.Frag} {C : Str} (c : Cls K (He.ga K C)) (h : insB K C = true) : C8.InsC K (He.ga K C) := by
  obtain ⟨h1, h⟩ := He.ba h
  obtain ⟨h2, h⟩ := He.ba h
  obtain ⟨h3, h⟩ := He.ba h
  obtain ⟨h4, h5⟩ := He.ba h
  exact ⟨c, He.eqO_ok h1, He.eqO_ok h2, of_decide_eq_true h3, of_decide_eq_true h4, of_decide_eq_true h5⟩
end Sw
namespace Sw
open PySem PySem.Spec PyProof.Rows L2
def d_is_word : He.DefD := ⟨("is_word", none), "is_word", "is_word", defArgs s_is_word, defBody s_is_word, defScope s_is_word, [], []⟩
def d_is_integer : He.DefD := ⟨("is_integer", none), "is_integer", "is_integer", defArgs s_is_integer, defBody s_is_integer, defScope s_is_integer, [], []⟩
def d_is_list : He.DefD := ⟨("is_list", none), "is_list", "is_list", defArgs s_is_list, defBody s_is_list, defScope s_is_list, [], []⟩
def d_are_words : He.DefD := ⟨("are_words", none), "are_words", "are_words", defArgs s_are_words, defBody s_are_words, defScope s_are_words, [.non], []⟩
def d_Address_init : He.DefD := ⟨("Address", some "__init__"), "__init__", "Address.__init__", defArgs s_Address_init, defBody s_Address_init, defScope s_Address_init, [.adr (He.dflAt ("Address", some "__init__") 0)], []⟩
def d_bound : He.DefD := ⟨("bound", none), "bound", "bound", defArgs s_bound, defBody s_bound, defScope s_bound, [], []⟩
def d_filled : He.DefD := ⟨("filled", none), "filled", "filled", defArgs s_filled, defBody s_filled, defScope s_filled, [], []⟩
def d_is_entry : He.DefD := ⟨("is_entry", none), "is_entry", "is_entry", defArgs s_is_entry, defBody s_is_entry, defScope s_is_entry, [], []⟩
def d_are_entries : He.DefD := ⟨("are_entries", none), "are_entries", "are_entries", defArgs s_are_entries, defBody s_are_entries, defScope s_are_entries, [], []⟩
def d_is_goal : He.DefD := ⟨("is_goal", none), "is_goal", "is_goal", defArgs s_is_goal, defBody s_is_goal, defScope s_is_goal, [], []⟩
def d_Rule_init : He.DefD := ⟨("Rule", some "__init__"), "__init__", "Rule.__init__", defArgs s_Rule_init, defBody s_Rule_init, defScope s_Rule_init, [.non], [("is_exact", .bl false)]⟩
def d_Rule_known_in : He.DefD := ⟨("Rule", some "known_in"), "known_in", "Rule.known_in", defArgs s_Rule_known_in, defBody s_Rule_known_in, defScope s_Rule_known_in, [], []⟩
def d_Rule_fits : He.DefD := ⟨("Rule", some "fits"), "fits", "Rule.fits", defArgs s_Rule_fits, defBody s_Rule_fits, defScope s_Rule_fits, [], []⟩
def d_Rule_call : He.DefD := ⟨("Rule", some "__call__"), "__call__", "Rule.__call__", defArgs s_Rule_call, defBody s_Rule_call, defScope s_Rule_call, [], []⟩
def d_Address_eq : He.DefD := ⟨("Address", some "__eq__"), "__eq__", "Address.__eq__", defArgs s_Address_eq, defBody s_Address_eq, defScope s_Address_eq, [], []⟩
def d__law_is_integer : He.DefD := ⟨("_law_is_integer", none), "_law_is_integer", "_law_is_integer", defArgs s__law_is_integer, defBody s__law_is_integer, defScope s__law_is_integer, [], []⟩
def d__law_pen : He.DefD := ⟨("_law_pen", none), "_law_pen", "_law_pen", defArgs s__law_pen, defBody s__law_pen, defScope s__law_pen, [], []⟩
def d__law_draw : He.DefD := ⟨("_law_draw", none), "_law_draw", "_law_draw", defArgs s__law_draw, defBody s__law_draw, defScope s__law_draw, [], []⟩
def d__law_pick : He.DefD := ⟨("_law_pick", none), "_law_pick", "_law_pick", defArgs s__law_pick, defBody s__law_pick, defScope s__law_pick, [], []⟩
def d__law_words : He.DefD := ⟨("_law_words", none), "_law_words", "_law_words", defArgs s__law_words, defBody s__law_words, defScope s__law_words, [], []⟩
def d__law_entry : He.DefD := ⟨("_law_entry", none), "_law_entry", "_law_entry", defArgs s__law_entry, defBody s__law_entry, defScope s__law_entry, [], []⟩
def d__law_rule : He.DefD := ⟨("_law_rule", none), "_law_rule", "_law_rule", defArgs s__law_rule, defBody s__law_rule, defScope s__law_rule, [], []⟩
def d__law_made_rule : He.DefD := ⟨("_law_made_rule", none), "_law_made_rule", "_law_made_rule", defArgs s__law_made_rule, defBody s__law_made_rule, defScope s__law_made_rule, [], []⟩
def d__law_holes : He.DefD := ⟨("_law_holes", none), "_law_holes", "_law_holes", defArgs s__law_holes, defBody s__law_holes, defScope s__law_holes, [], []⟩
def d__law_fit : He.DefD := ⟨("_law_fit", none), "_law_fit", "_law_fit", defArgs s__law_fit, defBody s__law_fit, defScope s__law_fit, [], []⟩
def d__law_due : He.DefD := ⟨("_law_due", none), "_law_due", "_law_due", defArgs s__law_due, defBody s__law_due, defScope s__law_due, [], []⟩
def d__law_paths : He.DefD := ⟨("_law_paths", none), "_law_paths", "_law_paths", defArgs s__law_paths, defBody s__law_paths, defScope s__law_paths, [], []⟩
def d_law : He.DefD := ⟨("law", none), "law", "law", defArgs s_law, defBody s_law, defScope s_law, [], []⟩
def fnL : List He.DefD := [d_is_word, d_is_integer, d_is_list, d_are_words, d_Address_init, d_bound, d_filled, d_is_entry, d_are_entries, d_is_goal, d_Rule_init, d_Rule_known_in, d_Rule_fits, d_Rule_call, d_Address_eq, d__law_is_integer, d__law_pen, d__law_draw, d__law_pick, d__law_words, d__law_entry, d__law_rule, d__law_made_rule, d__law_holes, d__law_fit, d__law_due, d__law_paths, d_law]
def gtL : List Gt := [⟨"Address", "state", s_Address_state, "Address.state"⟩, ⟨"Address", "path", s_Address_path, "Address.path"⟩]
def faL : List He.Fa := [.glo "is_word", .glo "is_integer", .glo "is_list", .glo "are_words", .mkr "Address", .glo "Address", .cls "Address", .glo "bound", .glo "filled", .glo "is_entry", .glo "are_entries", .glo "is_goal", .mkr "Rule", .glo "Rule", .cls "Rule", .meth "Rule" "known_in", .meth "Rule" "fits", .glo "_law_is_integer", .glo "_law_pen", .glo "_law_draw", .glo "_law_pick", .glo "_law_words", .glo "_law_entry", .glo "_law_rule", .glo "_law_made_rule", .glo "_law_holes", .glo "_law_fit", .glo "_law_due", .glo "_law_paths", .free "isinstance", .free "len", .free "all", .free "str", .free "int", .free "bool", .free "list", .free "tuple", .free "range", .free "zip", .str "LETTERS" "abcdefghijklmnopqrstuvwxyz", .int "LONGEST_WORD" 8, .free "enumerate", .free "repr", .free "min", .noat "Address" "own_state", .noat "Address" "own_path", .noat "Address" "own_order", .noat "Rule" "own_state", .noat "Rule" "own_pattern", .noat "Rule" "own_goal", .noat "Rule" "own_exact", .glo "law"]
def exL (K : PySem.W.Frag) : List Bool := [callB K "Rule", eqB K "Address", insB K "Address", He.conB K "Rule" "MOST_PATTERN" (.int 2), He.conB K "Rule" "MOST_BEGINNING" (.int 4), He.conB K "Rule" "HOLES" (.int 2)]
abbrev R : PySem.W.OpenRow := PySem.W.OpenLaw.row PySem.Challenge.rw_sentonward_k06_whole_rules_fit
abbrev hkL : PySem.W.Hook := hookP 7 faL fnL gtL fun K => (exL K).all id
def obL (s : PySem.W.SharedT) : AlP := obsP 7 faL fnL gtL (fun K => (exL K).all id) (HandSHeadRun.getT s)
theorem obL_eq (s : PySem.W.SharedT) : obL s = hkL.obs s.abs := obsP_eq (HandSHeadRun.getT_eq s)
def looseL : List Str := (["InvalidAddress", "InvalidRule", "InvalidText", "OutOfRange", "LETTERS", "LONGEST_WORD", "is_word", "is_integer", "is_within", "is_list", "are_words", "ascending"] : List Str) ++ (["Address", "AddressReader", "OPEN", "MOST_DIGITS", "DIGITS", "bound", "filled", "is_entry", "are_entries", "is_goal", "entries_text", "entry_in"] : List Str) ++ (["entries_in", "rule_parts", "Rule", "_law_pen", "_law_draw", "_law_pick", "_law_words", "_law_is_integer", "_law_entry", "_law_rule", "_law_made_rule", "_law_holes"] : List Str) ++ (["_law_fit", "_law_paths", "_law_due"] : List Str)
theorem runL (w : World) : HandSHeadRun.RunEq R (PySem.W.view R.prog [44]) hkL obL 20000 looseL w := by
  intro os
  kernel_rfl
theorem factsL {P : Program} {w : World} {K : PySem.W.Frag} {h : Heap} {mg : Str → Option Value} {f : Addr} (X : K.In h) (G : h.Ns mainGlobals mg) (hfa : mg ("law" : Str) = some (.ref f)) (c : SaysP faL fnL gtL (fun K => (exL K).all id) K) :
    ∃ fd : FuncData, (∀ (s : Shared) (v : Value), BindsTo s fd ⟨[v], []⟩ [("_law_script", v)]) ∧ ∀ base : Heap, K.In base → base.Ns mainGlobals mg → FnOk P w K mg base C8.CX0 8 f fd P_law (spLaw K) := by
  have xx : ∀ (i : Nat) {b : Bool}, (exL K)[i]? = some b → b = true := fun i b hb => List.all_eq_true.mp c.more b (List.mem_of_getElem? hb)
  have T : Txt K mg := ⟨He.free_ok X G (c.d.fact 29 (f := .free "isinstance") rfl), He.free_ok X G (c.d.fact 30 (f := .free "len") rfl), He.free_ok X G (c.d.fact 31 (f := .free "all") rfl), He.free_ok X G (c.d.fact 32 (f := .free "str") rfl), He.free_ok X G (c.d.fact 33 (f := .free "int") rfl), He.free_ok X G (c.d.fact 34 (f := .free "bool") rfl), He.free_ok X G (c.d.fact 35 (f := .free "list") rfl), He.free_ok X G (c.d.fact 36 (f := .free "tuple") rfl), He.free_ok X G (c.d.fact 37 (f := .free "range") rfl), He.free_ok X G (c.d.fact 38 (f := .free "zip") rfl), (let ⟨_, h⟩ := He.str_ok X G (c.d.fact 39 (f := .str "LETTERS" "abcdefghijklmnopqrstuvwxyz") rfl); ⟨_, h, _, rfl⟩), (let ⟨_, h⟩ := He.int_ok X G (c.d.fact 40 (f := .int "LONGEST_WORD" 8) rfl); ⟨_, h, _, rfl⟩), He.free_ok X G (c.d.fact 41 (f := .free "enumerate") rfl), He.free_ok X G (c.d.fact 42 (f := .free "repr") rfl), He.free_ok X G (c.d.fact 43 (f := .free "min") rfl), He.cls_ok (c.d.fact 6 (f := .cls "Address") rfl), ⟨_, He.glo_ok X G (c.d.fact 5 (f := .glo "Address") rfl), rfl⟩, insB_ok (He.cls_ok (c.d.fact 6 (f := .cls "Address") rfl)) (xx 2 (by rfl)), He.noat_ok (c.d.fact 44 (f := .noat "Address" "own_state") rfl), He.noat_ok (c.d.fact 45 (f := .noat "Address" "own_path") rfl), He.noat_ok (c.d.fact 46 (f := .noat "Address" "own_order") rfl), He.cls_ok (c.d.fact 14 (f := .cls "Rule") rfl), He.noat_ok (c.d.fact 47 (f := .noat "Rule" "own_state") rfl), He.noat_ok (c.d.fact 48 (f := .noat "Rule" "own_pattern") rfl), He.noat_ok (c.d.fact 49 (f := .noat "Rule" "own_goal") rfl), He.noat_ok (c.d.fact 50 (f := .noat "Rule" "own_exact") rfl), He.conB_ok (v := .int 2) (xx 3 (by rfl)), He.conB_ok (v := .int 4) (xx 4 (by rfl)), He.conB_ok (v := .int 2) (xx 5 (by rfl))⟩
  have e := hfa.symm.trans (He.glo_ok X G (c.d.fact 51 (f := .glo "law") rfl))
  cases e
  obtain ⟨fd, F⟩ := c.d.def_ 27 (d := d_law) rfl
  have b := FunD.bindsA (ps := P_law) F fun _ _ _ _ _ _ us hl => match us, hl with | [_], _ => rfl
  refine ⟨fd, fun s v => b s [v] rfl, fun base _ _ => ?_⟩
  obtain ⟨fd_is_word, F_is_word⟩ := c.d.def_ 0 (d := d_is_word) rfl
  have G_is_word : FnOk P w K mg base C8.CX0 1 _ _ P_is_word spIsWord := ok_is_word F_is_word T 
  have C_is_word : C8.Cal P w K mg base 1 "is_word" spIsWord [] := by
    obtain ⟨ds, hv, hb⟩ := (⟨[], .nil, F_is_word.bindsN fun _ _ _ _ _ _ us hl => match us, hl with | [_], _ => rfl⟩ : ∃ ds, Vals _ ds ∧ Binds K fd_is_word P_is_word ds)
    exact ⟨⟨_, _, _, _, G_is_word, He.glo_ok X G (c.d.fact 0 (f := .glo "is_word") rfl), F_is_word.kp, hb, hv⟩⟩
  obtain ⟨fd_is_integer, F_is_integer⟩ := c.d.def_ 1 (d := d_is_integer) rfl
  have G_is_integer : FnOk P w K mg base C8.CX0 1 _ _ P_is_integer spIsInt := ok_is_integer F_is_integer T 
  have C_is_integer : C8.Cal P w K mg base 1 "is_integer" spIsInt [] := by
    obtain ⟨ds, hv, hb⟩ := (⟨[], .nil, F_is_integer.bindsN fun _ _ _ _ _ _ us hl => match us, hl with | [_], _ => rfl⟩ : ∃ ds, Vals _ ds ∧ Binds K fd_is_integer P_is_integer ds)
    exact ⟨⟨_, _, _, _, G_is_integer, He.glo_ok X G (c.d.fact 1 (f := .glo "is_integer") rfl), F_is_integer.kp, hb, hv⟩⟩
  obtain ⟨fd_is_list, F_is_list⟩ := c.d.def_ 2 (d := d_is_list) rfl
  have G_is_list : FnOk P w K mg base C8.CX0 1 _ _ P_is_list spIsList := ok_is_list F_is_list T 
  have C_is_list : C8.Cal P w K mg base 1 "is_list" spIsList [] := by
    obtain ⟨ds, hv, hb⟩ := (⟨[], .nil, F_is_list.bindsN fun _ _ _ _ _ _ us hl => match us, hl with | [_], _ => rfl⟩ : ∃ ds, Vals _ ds ∧ Binds K fd_is_list P_is_list ds)
    exact ⟨⟨_, _, _, _, G_is_list, He.glo_ok X G (c.d.fact 2 (f := .glo "is_list") rfl), F_is_list.kp, hb, hv⟩⟩
  obtain ⟨fd_are_words, F_are_words⟩ := c.d.def_ 3 (d := d_are_words) rfl
  have G_are_words : FnOk P w K mg base C8.CX0 2 _ _ P_are_words (spAreWords K) := ok_are_words F_are_words T C_is_word C_is_list
  have C_are_words : C8.Cal P w K mg base 2 "are_words" (spAreWords K) [.non] := by
    obtain ⟨ds, hv, hb⟩ := (F_are_words.binds1 (ps := P_are_words) 1 0 (List.cons_ne_nil _ _) rfl fun _ _ _ _ _ _ _ us its h1 h2 => match us, its, h1, h2 with | [_], [_], _, _ => ⟨_, rfl, rfl⟩ : ∃ ds, Vals _ ds ∧ Binds K fd_are_words P_are_words ds)
    exact ⟨⟨_, _, _, _, G_are_words, He.glo_ok X G (c.d.fact 3 (f := .glo "are_words") rfl), F_are_words.kp, hb, hv⟩⟩
  obtain ⟨fd_Address_init, F_Address_init⟩ := c.d.def_ 4 (d := d_Address_init) rfl
  have G_Address_init : FnOk P w K mg base C8.CX0 3 _ _ P_Address_init (spAddr K) := ok_Address_init F_Address_init T C_is_word C_are_words
  have M_Address : C8.Mak P w K mg base 3 "Address" (He.ga K "Address") (spAddr K) [] := by
    obtain ⟨ds, hv, hb⟩ := (F_Address_init.binds1 (ps := P_Address_init) 3 1 (List.cons_ne_nil _ _) rfl fun _ _ _ _ _ _ _ us its h1 h2 => match us, its, h1, h2 with | [_, _, _], [_], _, _ => ⟨_, rfl, rfl⟩ : ∃ ds, Vals _ ds ∧ Binds K fd_Address_init P_Address_init ds)
    exact ⟨⟨_, _, _, _, He.mkr_ok (c.d.fact 4 (f := .mkr "Address") rfl), G_Address_init, He.glo_ok X G (c.d.fact 5 (f := .glo "Address") rfl), hb, hv⟩⟩
  obtain ⟨fd_Address_state, F_Address_state⟩ := Gt.funD (c.get 0 rfl).2 (c.get 0 rfl).1
  have G_Address_state : FnOk P w K mg base C8.CX0 1 _ _ P_Address_state (spAState K) := ok_Address_state F_Address_state T 
  have M_Address_state : Prp P w K mg base 1 (He.ga K "Address") "state" (spAState K) := ⟨⟨_, _, _, _, He.cls_ok (c.d.fact 6 (f := .cls "Address") rfl), Gt.propOf (c.get 0 rfl).1, G_Address_state, F_Address_state.bindsN fun _ _ _ _ _ _ us hl => match us, hl with | [_], _ => rfl⟩⟩
  obtain ⟨fd_Address_path, F_Address_path⟩ := Gt.funD (c.get 1 rfl).2 (c.get 1 rfl).1
  have G_Address_path : FnOk P w K mg base C8.CX0 1 _ _ P_Address_path (spAPath K) := ok_Address_path F_Address_path T 
  have M_Address_path : Prp P w K mg base 1 (He.ga K "Address") "path" (spAPath K) := ⟨⟨_, _, _, _, He.cls_ok (c.d.fact 6 (f := .cls "Address") rfl), Gt.propOf (c.get 1 rfl).1, G_Address_path, F_Address_path.bindsN fun _ _ _ _ _ _ us hl => match us, hl with | [_], _ => rfl⟩⟩
  obtain ⟨fd_bound, F_bound⟩ := c.d.def_ 5 (d := d_bound) rfl
  have G_bound : FnOk P w K mg base C8.CX0 2 _ _ P_bound (spBound K) := ok_bound F_bound T C_is_integer
  have C_bound : C8.Cal P w K mg base 2 "bound" (spBound K) [] := by
    obtain ⟨ds, hv, hb⟩ := (⟨[], .nil, F_bound.bindsN fun _ _ _ _ _ _ us hl => match us, hl with | [_, _], _ => rfl⟩ : ∃ ds, Vals _ ds ∧ Binds K fd_bound P_bound ds)
    exact ⟨⟨_, _, _, _, G_bound, He.glo_ok X G (c.d.fact 7 (f := .glo "bound") rfl), F_bound.kp, hb, hv⟩⟩
  obtain ⟨fd_filled, F_filled⟩ := c.d.def_ 6 (d := d_filled) rfl
  have G_filled : FnOk P w K mg base C8.CX0 2 _ _ P_filled (spFilled K) := ok_filled F_filled T C_is_integer
  have C_filled : C8.Cal P w K mg base 2 "filled" (spFilled K) [] := by
    obtain ⟨ds, hv, hb⟩ := (⟨[], .nil, F_filled.bindsN fun _ _ _ _ _ _ us hl => match us, hl with | [_, _], _ => rfl⟩ : ∃ ds, Vals _ ds ∧ Binds K fd_filled P_filled ds)
    exact ⟨⟨_, _, _, _, G_filled, He.glo_ok X G (c.d.fact 8 (f := .glo "filled") rfl), F_filled.kp, hb, hv⟩⟩
  obtain ⟨fd_is_entry, F_is_entry⟩ := c.d.def_ 7 (d := d_is_entry) rfl
  have G_is_entry : FnOk P w K mg base C8.CX0 2 _ _ P_is_entry spIsEntry := ok_is_entry F_is_entry T C_is_integer C_is_word
  have C_is_entry : C8.Cal P w K mg base 2 "is_entry" spIsEntry [] := by
    obtain ⟨ds, hv, hb⟩ := (⟨[], .nil, F_is_entry.bindsN fun _ _ _ _ _ _ us hl => match us, hl with | [_, _], _ => rfl⟩ : ∃ ds, Vals _ ds ∧ Binds K fd_is_entry P_is_entry ds)
    exact ⟨⟨_, _, _, _, G_is_entry, He.glo_ok X G (c.d.fact 9 (f := .glo "is_entry") rfl), F_is_entry.kp, hb, hv⟩⟩
  obtain ⟨fd_are_entries, F_are_entries⟩ := c.d.def_ 8 (d := d_are_entries) rfl
  have G_are_entries : FnOk P w K mg base C8.CX0 3 _ _ P_are_entries (spAreEntries K) := ok_are_entries F_are_entries T C_is_entry C_is_list
  have C_are_entries : C8.Cal P w K mg base 3 "are_entries" (spAreEntries K) [] := by
    obtain ⟨ds, hv, hb⟩ := (⟨[], .nil, F_are_entries.bindsN fun _ _ _ _ _ _ us hl => match us, hl with | [_, _, _], _ => rfl⟩ : ∃ ds, Vals _ ds ∧ Binds K fd_are_entries P_are_entries ds)
    exact ⟨⟨_, _, _, _, G_are_entries, He.glo_ok X G (c.d.fact 10 (f := .glo "are_entries") rfl), F_are_entries.kp, hb, hv⟩⟩
  obtain ⟨fd_is_goal, F_is_goal⟩ := c.d.def_ 9 (d := d_is_goal) rfl
  have G_is_goal : FnOk P w K mg base C8.CX0 4 _ _ P_is_goal (spIsGoal K) := ok_is_goal F_is_goal T C_is_integer C_is_word C_are_entries
  have C_is_goal : C8.Cal P w K mg base 4 "is_goal" (spIsGoal K) [] := by
    obtain ⟨ds, hv, hb⟩ := (⟨[], .nil, F_is_goal.bindsN fun _ _ _ _ _ _ us hl => match us, hl with | [_, _, _, _], _ => rfl⟩ : ∃ ds, Vals _ ds ∧ Binds K fd_is_goal P_is_goal ds)
    exact ⟨⟨_, _, _, _, G_is_goal, He.glo_ok X G (c.d.fact 11 (f := .glo "is_goal") rfl), F_is_goal.kp, hb, hv⟩⟩
  obtain ⟨fd_Rule_init, F_Rule_init⟩ := c.d.def_ 10 (d := d_Rule_init) rfl
  have G_Rule_init : FnOk P w K mg base C8.CX0 5 _ _ P_Rule_init (spRule K) := ok_Rule_init F_Rule_init T C_is_word C_are_entries C_is_goal
  have MK_Rule : MakK P w K mg base 5 "Rule" (He.ga K "Rule") (spRule K) 3 ["is_exact"] gApp := by
    obtain ⟨its, hb⟩ := F_Rule_init.kbindsD (ps := P_Rule_init) 4 ["is_exact"] (fun vs _ zs => vs ++ zs) (List.cons_ne_nil _ _) (fun a _ b => a.append b) fun _ _ _ _ _ _ _ us its ws h1 h2 h3 => match us, its, ws, h1, h2, h3 with | [_, _, _, _], [_], [_], _, _, _ => ⟨_, rfl, rfl⟩
    exact ⟨⟨_, _, _, _, He.mkr_ok (c.d.fact 12 (f := .mkr "Rule") rfl), G_Rule_init, He.glo_ok X G (c.d.fact 13 (f := .glo "Rule") rfl), hb⟩⟩
  obtain ⟨fd_Rule_known_in, F_Rule_known_in⟩ := c.d.def_ 11 (d := d_Rule_known_in) rfl
  have G_Rule_known_in : FnOk P w K mg base C8.CX0 3 _ _ P_Rule_known_in (spKnown K) := ok_Rule_known_in F_Rule_known_in T C_bound
  have M_Rule_known_in : C8.Met P w K mg base 3 (He.ga K "Rule") "known_in" (spKnown K) [] := by
    obtain ⟨ds, hv, hb⟩ := (⟨[], .nil, F_Rule_known_in.bindsN fun _ _ _ _ _ _ us hl => match us, hl with | [_, _, _], _ => rfl⟩ : ∃ ds, Vals _ ds ∧ Binds K fd_Rule_known_in P_Rule_known_in ds)
    exact ⟨⟨_, _, _, _, He.cls_ok (c.d.fact 14 (f := .cls "Rule") rfl), He.meth_ok (c.d.fact 15 (f := .meth "Rule" "known_in") rfl), G_Rule_known_in, hb, hv⟩⟩
  obtain ⟨fd_Rule_fits, F_Rule_fits⟩ := c.d.def_ 12 (d := d_Rule_fits) rfl
  have G_Rule_fits : FnOk P w K mg base C8.CX0 4 _ _ P_Rule_fits (spFits K) := ok_Rule_fits F_Rule_fits T M_Rule_known_in M_Address_state M_Address_path
  have M_Rule_fits : C8.Met P w K mg base 4 (He.ga K "Rule") "fits" (spFits K) [] := by
    obtain ⟨ds, hv, hb⟩ := (⟨[], .nil, F_Rule_fits.bindsN fun _ _ _ _ _ _ us hl => match us, hl with | [_, _], _ => rfl⟩ : ∃ ds, Vals _ ds ∧ Binds K fd_Rule_fits P_Rule_fits ds)
    exact ⟨⟨_, _, _, _, He.cls_ok (c.d.fact 14 (f := .cls "Rule") rfl), He.meth_ok (c.d.fact 16 (f := .meth "Rule" "fits") rfl), G_Rule_fits, hb, hv⟩⟩
  obtain ⟨fd_Rule_call, F_Rule_call⟩ := c.d.def_ 13 (d := d_Rule_call) rfl
  have G_Rule_call : FnOk P w K mg base C8.CX0 5 _ _ P_Rule_call (spSend K) := ok_Rule_call F_Rule_call T M_Rule_known_in M_Address_state M_Address_path C_filled M_Address
  have I_Rule : CalI P w K mg base 5 (He.ga K "Rule") (spSend K) := ⟨⟨_, _, _, callB_ok (xx 0 (by rfl)), G_Rule_call, F_Rule_call.bindsN fun _ _ _ _ _ _ us hl => match us, hl with | [_, _], _ => rfl⟩⟩
  obtain ⟨fd_Address_eq, F_Address_eq⟩ := c.d.def_ 14 (d := d_Address_eq) rfl
  have G_Address_eq : FnOk P w K mg base C8.CX0 1 _ _ P_Address_eq (spAEq K) := ok_Address_eq F_Address_eq T 
  have O_Address : OwnE P w K mg base 1 (He.ga K "Address") (spAEq K) := ⟨⟨_, _, _, eqB_ok (xx 1 (by rfl)), G_Address_eq, F_Address_eq.bindsN fun _ _ _ _ _ _ us hl => match us, hl with | [_, _], _ => rfl⟩⟩
  obtain ⟨fd__law_is_integer, F__law_is_integer⟩ := c.d.def_ 15 (d := d__law_is_integer) rfl
  have G__law_is_integer : FnOk P w K mg base C8.CX0 1 _ _ P__law_is_integer spIsInt := ok__law_is_integer F__law_is_integer T 
  have C__law_is_integer : C8.Cal P w K mg base 1 "_law_is_integer" spIsInt [] := by
    obtain ⟨ds, hv, hb⟩ := (⟨[], .nil, F__law_is_integer.bindsN fun _ _ _ _ _ _ us hl => match us, hl with | [_], _ => rfl⟩ : ∃ ds, Vals _ ds ∧ Binds K fd__law_is_integer P__law_is_integer ds)
    exact ⟨⟨_, _, _, _, G__law_is_integer, He.glo_ok X G (c.d.fact 17 (f := .glo "_law_is_integer") rfl), F__law_is_integer.kp, hb, hv⟩⟩
  obtain ⟨fd__law_pen, F__law_pen⟩ := c.d.def_ 16 (d := d__law_pen) rfl
  have G__law_pen : FnOk P w K mg base C8.CX0 1 _ _ P__law_pen (spPen K) := ok__law_pen F__law_pen T 
  have C__law_pen : C8.Cal P w K mg base 1 "_law_pen" (spPen K) [] := by
    obtain ⟨ds, hv, hb⟩ := (⟨[], .nil, F__law_pen.bindsN fun _ _ _ _ _ _ us hl => match us, hl with | [_], _ => rfl⟩ : ∃ ds, Vals _ ds ∧ Binds K fd__law_pen P__law_pen ds)
    exact ⟨⟨_, _, _, _, G__law_pen, He.glo_ok X G (c.d.fact 18 (f := .glo "_law_pen") rfl), F__law_pen.kp, hb, hv⟩⟩
  obtain ⟨fd__law_draw, F__law_draw⟩ := c.d.def_ 17 (d := d__law_draw) rfl
  have G__law_draw : FnOk P w K mg base C8.CX0 1 _ _ P__law_draw spDraw := ok__law_draw F__law_draw T 
  have C__law_draw : C8.Cal P w K mg base 1 "_law_draw" spDraw [] := by
    obtain ⟨ds, hv, hb⟩ := (⟨[], .nil, F__law_draw.bindsN fun _ _ _ _ _ _ us hl => match us, hl with | [_, _], _ => rfl⟩ : ∃ ds, Vals _ ds ∧ Binds K fd__law_draw P__law_draw ds)
    exact ⟨⟨_, _, _, _, G__law_draw, He.glo_ok X G (c.d.fact 19 (f := .glo "_law_draw") rfl), F__law_draw.kp, hb, hv⟩⟩
  obtain ⟨fd__law_pick, F__law_pick⟩ := c.d.def_ 18 (d := d__law_pick) rfl
  have G__law_pick : FnOk P w K mg base C8.CX0 2 _ _ P__law_pick (spPick K) := ok__law_pick F__law_pick T C__law_draw
  have C__law_pick : C8.Cal P w K mg base 2 "_law_pick" (spPick K) [] := by
    obtain ⟨ds, hv, hb⟩ := (⟨[], .nil, F__law_pick.bindsN fun _ _ _ _ _ _ us hl => match us, hl with | [_, _], _ => rfl⟩ : ∃ ds, Vals _ ds ∧ Binds K fd__law_pick P__law_pick ds)
    exact ⟨⟨_, _, _, _, G__law_pick, He.glo_ok X G (c.d.fact 20 (f := .glo "_law_pick") rfl), F__law_pick.kp, hb, hv⟩⟩
  obtain ⟨fd__law_words, F__law_words⟩ := c.d.def_ 19 (d := d__law_words) rfl
  have G__law_words : FnOk P w K mg base C8.CX0 3 _ _ P__law_words spWords := ok__law_words F__law_words T C__law_draw C__law_pick
  have C__law_words : C8.Cal P w K mg base 3 "_law_words" spWords [] := by
    obtain ⟨ds, hv, hb⟩ := (⟨[], .nil, F__law_words.bindsN fun _ _ _ _ _ _ us hl => match us, hl with | [_, _], _ => rfl⟩ : ∃ ds, Vals _ ds ∧ Binds K fd__law_words P__law_words ds)
    exact ⟨⟨_, _, _, _, G__law_words, He.glo_ok X G (c.d.fact 21 (f := .glo "_law_words") rfl), F__law_words.kp, hb, hv⟩⟩
  obtain ⟨fd__law_entry, F__law_entry⟩ := c.d.def_ 20 (d := d__law_entry) rfl
  have G__law_entry : FnOk P w K mg base C8.CX0 3 _ _ P__law_entry spEntry := ok__law_entry F__law_entry T C__law_draw C__law_pick
  have C__law_entry : C8.Cal P w K mg base 3 "_law_entry" spEntry [] := by
    obtain ⟨ds, hv, hb⟩ := (⟨[], .nil, F__law_entry.bindsN fun _ _ _ _ _ _ us hl => match us, hl with | [_, _], _ => rfl⟩ : ∃ ds, Vals _ ds ∧ Binds K fd__law_entry P__law_entry ds)
    exact ⟨⟨_, _, _, _, G__law_entry, He.glo_ok X G (c.d.fact 22 (f := .glo "_law_entry") rfl), F__law_entry.kp, hb, hv⟩⟩
  obtain ⟨fd__law_rule, F__law_rule⟩ := c.d.def_ 21 (d := d__law_rule) rfl
  have G__law_rule : FnOk P w K mg base C8.CX0 4 _ _ P__law_rule (spLRule K) := ok__law_rule F__law_rule T C__law_draw C__law_pick C__law_entry C__law_is_integer
  have C__law_rule : C8.Cal P w K mg base 4 "_law_rule" (spLRule K) [] := by
    obtain ⟨ds, hv, hb⟩ := (⟨[], .nil, F__law_rule.bindsN fun _ _ _ _ _ _ us hl => match us, hl with | [_, _, _], _ => rfl⟩ : ∃ ds, Vals _ ds ∧ Binds K fd__law_rule P__law_rule ds)
    exact ⟨⟨_, _, _, _, G__law_rule, He.glo_ok X G (c.d.fact 23 (f := .glo "_law_rule") rfl), F__law_rule.kp, hb, hv⟩⟩
  obtain ⟨fd__law_made_rule, F__law_made_rule⟩ := c.d.def_ 22 (d := d__law_made_rule) rfl
  have G__law_made_rule : FnOk P w K mg base C8.CX0 7 _ _ P__law_made_rule (spMade K) := ok__law_made_rule F__law_made_rule T MK_Rule
  have C__law_made_rule : C8.Cal P w K mg base 7 "_law_made_rule" (spMade K) [] := by
    obtain ⟨ds, hv, hb⟩ := (⟨[], .nil, F__law_made_rule.bindsN fun _ _ _ _ _ _ us hl => match us, hl with | [_], _ => rfl⟩ : ∃ ds, Vals _ ds ∧ Binds K fd__law_made_rule P__law_made_rule ds)
    exact ⟨⟨_, _, _, _, G__law_made_rule, He.glo_ok X G (c.d.fact 24 (f := .glo "_law_made_rule") rfl), F__law_made_rule.kp, hb, hv⟩⟩
  obtain ⟨fd__law_holes, F__law_holes⟩ := c.d.def_ 23 (d := d__law_holes) rfl
  have G__law_holes : FnOk P w K mg base C8.CX0 2 _ _ P__law_holes (spBound K) := ok__law_holes F__law_holes T C__law_is_integer
  have C__law_holes : C8.Cal P w K mg base 2 "_law_holes" (spBound K) [] := by
    obtain ⟨ds, hv, hb⟩ := (⟨[], .nil, F__law_holes.bindsN fun _ _ _ _ _ _ us hl => match us, hl with | [_, _], _ => rfl⟩ : ∃ ds, Vals _ ds ∧ Binds K fd__law_holes P__law_holes ds)
    exact ⟨⟨_, _, _, _, G__law_holes, He.glo_ok X G (c.d.fact 25 (f := .glo "_law_holes") rfl), F__law_holes.kp, hb, hv⟩⟩
  obtain ⟨fd__law_fit, F__law_fit⟩ := c.d.def_ 24 (d := d__law_fit) rfl
  have G__law_fit : FnOk P w K mg base C8.CX0 3 _ _ P__law_fit (spFit K) := ok__law_fit F__law_fit T C__law_holes
  have C__law_fit : C8.Cal P w K mg base 3 "_law_fit" (spFit K) [] := by
    obtain ⟨ds, hv, hb⟩ := (⟨[], .nil, F__law_fit.bindsN fun _ _ _ _ _ _ us hl => match us, hl with | [_, _, _], _ => rfl⟩ : ∃ ds, Vals _ ds ∧ Binds K fd__law_fit P__law_fit ds)
    exact ⟨⟨_, _, _, _, G__law_fit, He.glo_ok X G (c.d.fact 26 (f := .glo "_law_fit") rfl), F__law_fit.kp, hb, hv⟩⟩
  obtain ⟨fd__law_due, F__law_due⟩ := c.d.def_ 25 (d := d__law_due) rfl
  have G__law_due : FnOk P w K mg base C8.CX0 4 _ _ P__law_due (spDue K) := ok__law_due F__law_due T C__law_fit C__law_is_integer
  have C__law_due : C8.Cal P w K mg base 4 "_law_due" (spDue K) [] := by
    obtain ⟨ds, hv, hb⟩ := (⟨[], .nil, F__law_due.bindsN fun _ _ _ _ _ _ us hl => match us, hl with | [_, _, _], _ => rfl⟩ : ∃ ds, Vals _ ds ∧ Binds K fd__law_due P__law_due ds)
    exact ⟨⟨_, _, _, _, G__law_due, He.glo_ok X G (c.d.fact 27 (f := .glo "_law_due") rfl), F__law_due.kp, hb, hv⟩⟩
  obtain ⟨fd__law_paths, F__law_paths⟩ := c.d.def_ 26 (d := d__law_paths) rfl
  have G__law_paths : FnOk P w K mg base C8.CX0 1 _ _ P__law_paths (spPaths K) := ok__law_paths F__law_paths T 
  have C__law_paths : C8.Cal P w K mg base 1 "_law_paths" (spPaths K) [] := by
    obtain ⟨ds, hv, hb⟩ := (⟨[], .nil, F__law_paths.bindsN fun _ _ _ _ _ _ us hl => match us, hl with | [_, _], _ => rfl⟩ : ∃ ds, Vals _ ds ∧ Binds K fd__law_paths P__law_paths ds)
    exact ⟨⟨_, _, _, _, G__law_paths, He.glo_ok X G (c.d.fact 28 (f := .glo "_law_paths") rfl), F__law_paths.kp, hb, hv⟩⟩
  exact ok_law F T C__law_pen C__law_words C__law_rule C__law_made_rule C__law_paths C__law_due M_Address I_Rule M_Rule_fits M_Address_state M_Address_path O_Address
end Sw
open PySem PySem.W PySem.Calls PyProof.Rows
theorem PySem.Challenge.cw_sentonward_k06_whole_rules_fit_holds : PySem.Challenge.rw_sentonward_k06_whole_rules_fit.Holds := by
  w_on; o_law
  refine HandSHeadRun.head_any (r := OpenLaw.row PySem.Challenge.rw_sentonward_k06_whole_rules_fit) (q := view (OpenLaw.row PySem.Challenge.rw_sentonward_k06_whole_rules_fit).prog [44]) (H := Sw.hkL) (ob := Sw.obL) (M := 20000) (loose := Sw.looseL) (d := HandSHeadRun.topDef (OpenLaw.row PySem.Challenge.rw_sentonward_k06_whole_rules_fit).prog 44) (kwd := []) Sw.obL_eq
    (by kernel_rfl) (fun s => by kernel_rfl) Sw.runL (by kernel_rfl) (by kernel_rfl) (by kernel_rfl) (by rfl) (by first | assumption | decide +kernel) (by decide +kernel) ⟨rfl, rfl, rfl, rfl, rfl, by decide +kernel⟩ ?hw ?hc
  case hw => w_witness2
  case hc =>
    refine L2.walk_ofE (l := PySem.Challenge.rw_sentonward_k06_whole_rules_fit) (n := 63) (k := 8) (x := "_law_script") (CX := C8.CX0) rfl (by decide) (by kernel_rfl) ⟨rfl, by decide, by decide⟩ ?F (fun _ _ _ _ z => z)
    intro w mg fa h Y G hmg0
    obtain ⟨K, KX, c⟩ := Y
    have hmg : mg ("law" : PySem.Str) = some (.ref fa) := by
      have e : (HandSHeadRun.topDef (OpenLaw.row PySem.Challenge.rw_sentonward_k06_whole_rules_fit).prog 44).name = ("law" : PySem.Str) := by kernel_rfl
      rw [← e]
      exact hmg0
    obtain ⟨fd, hb, hF⟩ := Sw.factsL (P := (PySem.Challenge.rw_sentonward_k06_whole_rules_fit).prog) (w := w) KX G hmg c
    exact ⟨K, fd, Sw.spLaw K, KX, hb, fun H a ns hl _ hS => ⟨a, ns, rfl, hS, fun _ => rfl⟩, hF⟩
