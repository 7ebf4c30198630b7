import PyProof.Rows.All
import Wide.All
import OpenK.AllK
import Wide.FinOn
import HandS.ForMost
import HandS.More
import HandS.ReplaceLit
import HandS.ReplaceList
import HandS.Walk
import HandS.Codes
import KE.SortData
import PySem.Challenge.RW_hewstream_k62_printed_outputs
set_option Elab.async false
set_option linter.all false
set_option maxRecDepth 100000
namespace K62
open PySem PySem.Spec PyProof.Rows L2

/-! ### heaps: what stays -/
/-- all tuples stay -/
def Keep (H H' : Hp) : Prop := ∀ a xs, Rd H a (.tup xs) → Rd H' a (.tup xs)
theorem Keep.refl (H : Hp) : Keep H H := fun _ _ h => h
theorem Keep.trans {H H1 H2 : Hp} (a : Keep H H1) (b : Keep H1 H2) : Keep H H2 := fun x y h => b x y (a x y h)
theorem Keep.same {H H' : Hp} (h : Same H H') : Keep H H' := fun a xs q => by
  rcases q with q | ⟨o, q⟩
  · exact .inl (h _ _ q)
  · exact .inr ⟨o, h _ _ q⟩
theorem Keep.lst {H : Hp} {p : Addr} {xs : List V} {o : HO} (h : H p = some (.lst xs)) : Keep H (upd H p o) := fun a ys q => by
  have hne : a ≠ p := by
    rintro rfl
    rcases q with q | ⟨_, q⟩ <;> (rw [h] at q; cases q)
  rcases q with q | ⟨u, q⟩
  · exact .inl (by rw [upd_ne hne]; exact q)
  · exact .inr ⟨u, by rw [upd_ne hne]; exact q⟩
theorem same_new {H : Hp} {p : Addr} {o : HO} (h : H p = none) : Same H (upd H p o) := fun b x e => by
  rw [upd_ne (ne_of_none e h)]
  exact e
/-- all but the tape stays -/
def Ext (t : Addr) (H H' : Hp) : Prop := ∀ b o, b ≠ t → H b = some o → H' b = some o
theorem Ext.refl (t : Addr) (H : Hp) : Ext t H H := fun _ _ _ h => h
theorem Ext.trans {t : Addr} {H H1 H2 : Hp} (a : Ext t H H1) (b : Ext t H1 H2) : Ext t H H2 := fun x o n h => b x o n (a x o n h)
theorem Ext.same {t : Addr} {H H' : Hp} (h : Same H H') : Ext t H H' := fun b o _ e => h b o e
theorem Ext.set {t : Addr} {H : Hp} {o : HO} : Ext t H (upd H t o) := fun b u n e => by
  rw [upd_ne n]
  exact e
theorem Ext.keep {t : Addr} {H H' : Hp} {xs : List V} (h : Ext t H H') (ht : H t = some (.lst xs)) : Keep H H' := fun a ys q => by
  have hne : a ≠ t := by
    rintro rfl
    rcases q with q | ⟨_, q⟩ <;> (rw [ht] at q; cases q)
  rcases q with q | ⟨u, q⟩
  · exact .inl (h _ _ hne q)
  · exact .inr ⟨u, h _ _ hne q⟩
theorem Ext.seq {t : Addr} {H H' : Hp} {K : PySem.W.Frag} {l : Addr} {xs : List V} (h : Ext t H H') (hl : l ≠ t) (q : SqL K H l xs) : SqL K H' l xs := by
  rcases q with (q | ⟨o, q⟩) | q
  · exact .inl (.inl (h _ _ hl q))
  · exact .inl (.inr ⟨o, h _ _ hl q⟩)
  · exact .inr q

/-! ### data of tuples -/
mutual
def tupOnly : PyData → Bool
  | .list _ => false
  | .dict _ => false
  | .tuple xs => tupOnlyAll xs
  | _ => true
def tupOnlyAll : List PyData → Bool
  | [] => true
  | d :: ds => tupOnly d && tupOnlyAll ds
end
mutual
theorem dp_keep {K : PySem.W.Frag} {H H' : Hp} (k : Keep H H') : ∀ (d : PyData) (v : V), tupOnly d = true → Dp K H v d → Dp K H' v d
  | .none, v, _, h => by cases h; exact .non
  | .bool b, v, _, h => by cases h; exact .bl b
  | .int i, v, _, h => by cases h; exact .int i
  | .str x, v, _, h => by cases h; exact .str x
  | .list xs, v, e, _ => by simp [tupOnly] at e
  | .dict xs, v, e, _ => by simp [tupOnly] at e
  | .tuple ds, v, e, h => by
    cases h with
    | tup hq ha =>
      refine .tup ?_ (dpAll_keep k ds _ (by simpa [tupOnly] using e) ha)
      rcases hq with q | q
      · exact .inl (k _ _ q)
      · exact .inr q
theorem dpAll_keep {K : PySem.W.Frag} {H H' : Hp} (k : Keep H H') : ∀ (ds : List PyData) (vs : List V), tupOnlyAll ds = true → DpAll K H vs ds → DpAll K H' vs ds
  | [], _, _, h => by cases h; exact .nil
  | d :: ds, _, e, h => by
    cases h with
    | cons h1 h2 =>
      have e' : tupOnly d = true ∧ tupOnlyAll ds = true := by simpa [tupOnlyAll] using e
      exact .cons (dp_keep k d _ e'.1 h1) (dpAll_keep k ds _ e'.2 h2)
end
theorem dpAll_get {K : PySem.W.Frag} {H : Hp} : ∀ {vs : List V} {ds : List PyData} {i : Nat} {d : PyData}, DpAll K H vs ds → ds[i]? = some d → ∃ v, vs[i]? = some v ∧ Dp K H v d
  | _, _, i, d, .nil, h => by simp at h
  | _, _, 0, d, .cons h1 _, h => by
    simp at h
    subst h
    exact ⟨_, rfl, h1⟩
  | _, _, i + 1, d, .cons _ h2, h => by
    obtain ⟨v, e, q⟩ := dpAll_get (i := i) h2 (by simpa using h)
    exact ⟨v, by simpa using e, q⟩
theorem dpAll_len {K : PySem.W.Frag} {H : Hp} : ∀ {vs : List V} {ds : List PyData}, DpAll K H vs ds → vs.length = ds.length
  | _, _, .nil => rfl
  | _, _, .cons _ t => by simp [dpAll_len t]
theorem dpAll_app {K : PySem.W.Frag} {H : Hp} : ∀ {vs us : List V} {ds es : List PyData}, DpAll K H vs ds → DpAll K H us es → DpAll K H (vs ++ us) (ds ++ es)
  | _, _, _, _, .nil, h => h
  | _, _, _, _, .cons a t, h => .cons a (dpAll_app t h)
theorem dpAll_take {K : PySem.W.Frag} {H : Hp} : ∀ (n : Nat) {vs : List V} {ds : List PyData}, DpAll K H vs ds → DpAll K H (vs.take n) (ds.take n)
  | 0, _, _, _ => .nil
  | _ + 1, _, _, .nil => .nil
  | n + 1, _, _, .cons a t => .cons a (dpAll_take n t)
theorem dpAll_drop {K : PySem.W.Frag} {H : Hp} : ∀ (n : Nat) {vs : List V} {ds : List PyData}, DpAll K H vs ds → DpAll K H (vs.drop n) (ds.drop n)
  | 0, _, _, h => h
  | _ + 1, _, _, .nil => .nil
  | n + 1, _, _, .cons _ t => dpAll_drop n t

/-! ### texts -/
def tl (x : Str) : List Nat := x.cps.toList
theorem tl_inj {x y : Str} (h : tl x = tl y) : x = y := PySem.Str.ext' (Array.toList_inj.mp h)
theorem tl_app (x y : Str) : tl (x ++ y) = tl x ++ tl y := by
  unfold tl
  rw [PySem.Str.cps_append, Array.toList_append]
theorem tl_len (x : Str) : (tl x).length = x.length := by simp [tl, Str.length]
theorem joinL_flat : ∀ ps : List (List Nat), TL.joinL [] ps = ps.flatten
  | [] => rfl
  | [p] => by simp [TL.joinL]
  | p :: q :: r => by
    show p ++ ([] ++ TL.joinL [] (q :: r)) = _
    rw [joinL_flat (q :: r)]
    simp
theorem tl_join0 (ps : List Str) : tl (Txt.join (Str.ofString "") ps) = (ps.map tl).flatten := by
  rw [TL.join_eq]
  exact (TL.tl_join _ ps).trans (joinL_flat _)

/-! ### the events and their printed form -/
inductive Ev where
  | st (n : Str) (as : List (Str × Str))
  | en (n : Str)
  | ch (s : Str)
  | sg (s : Str)
  deriving DecidableEq
def dPair (p : Str × Str) : PyData := .tuple [.str p.1, .str p.2]
def Ev.data : Ev → PyData
  | .st n as => .tuple [.str "start", .str n, .tuple (as.map dPair)]
  | .en n => .tuple [.str "end", .str n]
  | .ch s => .tuple [.str "char", .str s]
  | .sg s => .tuple [.str "signs", .str s]
def SOk (s : Str) : Prop := s.length ≤ 100 ∧ PyData.strOk s = true
def EvOk : Ev → Prop
  | .st n as => SOk n ∧ as.length ≤ 10 ∧ ∀ p ∈ as, SOk p.1 ∧ SOk p.2
  | .en n => SOk n
  | .ch s => SOk s
  | .sg s => SOk s
theorem lay_pairs : ∀ as : List (Str × Str), (∀ p ∈ as, SOk p.1 ∧ SOk p.2) → PyData.canLayAll0 (as.map dPair) = true
  | [], _ => rfl
  | p :: r, h => by
    have h1 := h p List.mem_cons_self
    have ih := lay_pairs r fun q hq => h q (List.mem_cons_of_mem _ hq)
    simp [PyData.canLayAll0, dPair, PyData.canLay0, h1.1.2, h1.2.2, ih]
theorem lay_ev : ∀ e : Ev, EvOk e → PyData.canLay0 e.data = true
  | .st n as, h => by
    have h2 := lay_pairs as h.2.2
    have h3 : PyData.strOk (Str.ofString "start") = true := by decide +kernel
    simp [Ev.data, PyData.canLayAll0, PyData.canLay0, h.1.2, h2, h3]
  | .en n, h => by
    have h3 : PyData.strOk (Str.ofString "end") = true := by decide +kernel
    simp [Ev.data, PyData.canLayAll0, PyData.canLay0, h.2, h3]
  | .ch n, h => by
    have h3 : PyData.strOk (Str.ofString "char") = true := by decide +kernel
    simp [Ev.data, PyData.canLayAll0, PyData.canLay0, h.2, h3]
  | .sg n, h => by
    have h3 : PyData.strOk (Str.ofString "signs") = true := by decide +kernel
    simp [Ev.data, PyData.canLayAll0, PyData.canLay0, h.2, h3]
theorem depth_pairs : ∀ as : List (Str × Str), PyData.depthAll (as.map dPair) ≤ 1
  | [] => by simp [PyData.depthAll]
  | p :: r => by
    have ih := depth_pairs r
    simp [PyData.depthAll, dPair, PyData.depth]
    omega
theorem depth_ev : ∀ e : Ev, PyData.depth e.data ≤ 3
  | .st n as => by
    have h := depth_pairs as
    simp [Ev.data, PyData.depth, PyData.depthAll]
    omega
  | .en n => by simp [Ev.data, PyData.depth, PyData.depthAll]
  | .ch n => by simp [Ev.data, PyData.depth, PyData.depthAll]
  | .sg n => by simp [Ev.data, PyData.depth, PyData.depthAll]
theorem shaped_ev {e : Ev} (h : EvOk e) : SeqAt.shaped e.data = true := by
  have h1 := depth_ev e
  unfold SeqAt.shaped
  rw [lay_ev e h]
  simp
  omega
theorem shaped_one {e : Ev} (h : EvOk e) : SeqAt.shaped (.list [e.data]) = true := by
  have h1 := depth_ev e
  unfold SeqAt.shaped
  simp [PyData.canLay0, PyData.canLayAll0, lay_ev e h, PyData.depth, PyData.depthAll]
  omega
theorem str_beq (a c : Str) : (a == c) = decide (a = c) := by
  by_cases h : a = c
  · subst h
    rw [decide_eq_true rfl]
    exact beq_self_eq_true a
  · rw [decide_eq_false h]
    exact beq_eq_false_iff_ne.mpr h
theorem eqv_pairs : ∀ as bs : List (Str × Str), PyData.eqvAll (as.map dPair) (bs.map dPair) = decide (as = bs)
  | [], [] => by simp [PyData.eqvAll]
  | [], _ :: _ => by simp [PyData.eqvAll]
  | _ :: _, [] => by simp [PyData.eqvAll]
  | (a, b) :: r, (c, d) :: t => by
    have ih := eqv_pairs r t
    simp [PyData.eqvAll, dPair, PyData.eqv, ih, str_beq]
theorem eqv_en (e : Ev) (n : Str) : PyData.eqv e.data (Ev.en n).data = decide (e = .en n) := by
  cases e with
  | st m as => simp [Ev.data, PyData.eqv, PyData.eqvAll]
  | en m => simp [Ev.data, PyData.eqv, PyData.eqvAll, str_beq]
  | ch m =>
    have h : (Str.ofString "char" == Str.ofString "end") = false := by decide
    simp [Ev.data, PyData.eqv, PyData.eqvAll, h]
  | sg m =>
    have h : (Str.ofString "signs" == Str.ofString "end") = false := by decide
    simp [Ev.data, PyData.eqv, PyData.eqvAll, h]
theorem tupOnly_pairs : ∀ as : List (Str × Str), tupOnlyAll (as.map dPair) = true
  | [] => rfl
  | p :: r => by simp [tupOnlyAll, dPair, tupOnly, tupOnly_pairs r]
theorem tupOnly_ev : ∀ e : Ev, tupOnly e.data = true
  | .st n as => by simp [Ev.data, tupOnly, tupOnlyAll, tupOnly_pairs]
  | .en n => by simp [Ev.data, tupOnly, tupOnlyAll]
  | .ch n => by simp [Ev.data, tupOnly, tupOnlyAll]
  | .sg n => by simp [Ev.data, tupOnly, tupOnlyAll]
theorem tupOnly_evs : ∀ es : List Ev, tupOnlyAll (es.map Ev.data) = true
  | [] => rfl
  | e :: r => by simp [tupOnlyAll, tupOnly_ev e, tupOnly_evs r]
/-- a sign by its word -/
def esc (q : Bool) (c : Nat) : List Nat :=
  if c = 60 then [38, 108, 116, 59] else if c = 62 then [38, 103, 116, 59] else if c = 38 then [38, 97, 109, 112, 59] else if q = true ∧ c = 34 then [38, 113, 117, 111, 116, 59] else [c]
theorem esc_len (q : Bool) (c : Nat) : (esc q c).length ≤ 6 := by
  unfold esc
  split
  · decide
  split
  · decide
  split
  · decide
  split
  · decide
  show 1 ≤ 6
  decide
def words (q : Bool) (l : List Nat) : List Nat := (l.map (esc q)).flatten
theorem words_len (q : Bool) : ∀ l : List Nat, (words q l).length ≤ 6 * l.length
  | [] => by simp [words]
  | c :: r => by
    have h := words_len q r
    have h1 := esc_len q c
    have e : words q (c :: r) = esc q c ++ words q r := by simp [words]
    rw [e, List.length_append, List.length_cons]
    omega
def attrW (p : Str × Str) : List Nat := 32 :: (tl p.1 ++ (61 :: 34 :: (words true (tl p.2) ++ [34])))
def tagW (n : Str) (as : List (Str × Str)) : List Nat := 60 :: (tl n ++ (as.map attrW).flatten)
def nextEnd (n : Str) : List Ev → Bool
  | e :: _ => decide (e = .en n)
  | [] => false
/-- passed: the event at hand is the end of the tag that ended itself -/
def printedF : Bool → List Ev → List Nat
  | _, [] => []
  | true, _ :: r => printedF false r
  | false, .st n as :: r => tagW n as ++ ((if nextEnd n r = true then [47, 62] else [62]) ++ printedF (nextEnd n r) r)
  | false, .en n :: r => 60 :: 47 :: (tl n ++ (62 :: printedF false r))
  | false, .ch s :: r => words false (tl s) ++ printedF false r
  | false, .sg s :: r => words false (tl s) ++ printedF false r
def printed (es : List Ev) : List Nat := printedF false es
/-- replacing the quotation marks in a written content is writing a value -/
theorem repl_words : ∀ l : List Nat, StrLaws.replL [34] [38, 113, 117, 111, 116, 59] (words false l) = words true l
  | [] => by
    show StrLaws.replL _ _ [] = []
    exact StrLaws.replL_nil
  | c :: r => by
    have ih := repl_words r
    have e1 : words false (c :: r) = esc false c ++ words false r := by simp [words]
    have e2 : words true (c :: r) = esc true c ++ words true r := by simp [words]
    rw [e1, e2]
    have miss : ∀ (x : Nat) (rest : List Nat), x ≠ 34 → StrLaws.replL [34] [38, 113, 117, 111, 116, 59] (x :: rest) = x :: StrLaws.replL [34] [38, 113, 117, 111, 116, 59] rest := fun x rest h => by
      refine StrLaws.replL_miss ?_
      intro q
      have q' : [x] = [34] := by simpa using q
      exact h (by simpa using q')
    by_cases h1 : c = 60
    · subst h1
      show StrLaws.replL _ _ (38 :: 108 :: 116 :: 59 :: words false r) = 38 :: 108 :: 116 :: 59 :: words true r
      rw [miss _ _ (by decide), miss _ _ (by decide), miss _ _ (by decide), miss _ _ (by decide), ih]
    · by_cases h2 : c = 62
      · subst h2
        show StrLaws.replL _ _ (38 :: 103 :: 116 :: 59 :: words false r) = 38 :: 103 :: 116 :: 59 :: words true r
        rw [miss _ _ (by decide), miss _ _ (by decide), miss _ _ (by decide), miss _ _ (by decide), ih]
      · by_cases h3 : c = 38
        · subst h3
          show StrLaws.replL _ _ (38 :: 97 :: 109 :: 112 :: 59 :: words false r) = 38 :: 97 :: 109 :: 112 :: 59 :: words true r
          rw [miss _ _ (by decide), miss _ _ (by decide), miss _ _ (by decide), miss _ _ (by decide), miss _ _ (by decide), ih]
        · by_cases h4 : c = 34
          · subst h4
            show StrLaws.replL _ _ (34 :: words false r) = [38, 113, 117, 111, 116, 59] ++ words true r
            rw [StrLaws.replL_hit (by simp) (by simp)]
            rw [← ih]
            simp
          · have e3 : esc false c = [c] := by simp [esc, h1, h2, h3]
            have e4 : esc true c = [c] := by simp [esc, h1, h2, h3, h4]
            rw [e3, e4]
            show StrLaws.replL _ _ (c :: words false r) = c :: words true r
            rw [miss _ _ h4, ih]
end K62
namespace K62
open PySem PySem.Spec PyProof.Rows L2

/-! ### rules of our own -/
theorem yes_of {σ : L2.St} {H : Hp} {A B : Hp → Prop} (h : A H) : tYes σ H (fun b H3 => if b = true then A H3 else B H3) := by
  show if true = true then A H else B H
  exact iteT h
section
variable {X : Cx} {o e f a b : Expr} {ty tx ta tb te : TE} {apos cpos pos : Pos} {d : Addr} {es : Array DictEntry} {n : Nat}
/-- d.get(k, x), d a written dict with text keys -/
def tKGet2 (K : PySem.W.Frag) (d : Addr) (ty tx : TE) : TE := fun σ H Q => ty σ H fun y H1 => tx σ H1 fun z H2 => ∃ (k : Str) (r : Option Value), y = .str k ∧ PySem.W.nsIn K d k = some r ∧
  ((r = none ∧ Q z H2) ∨ ∃ u0 v0, r = some u0 ∧ RelV v0 u0 ∧ Q v0 H2)
theorem pe_kget2 {K : PySem.W.Frag} {w : World} (D : KDict K w d es n) (ho : PE X o (tC (.ref d))) (he : PE X e ty) (hf : PE X f tx) (m : M2 X o "get" apos e f cpos) (hK : X.K = K := by rfl) (hw : X.w = w := by rfl) : PE X (.Call (.Attribute o "get" apos) [e, f] [] cpos) (tKGet2 K d ty tx) := by
  subst hK hw
  refine ⟨fun pins s σ H Q I h => ?_⟩
  refine wpAny_Call_method m.base m.few m.line PySem.F.plainAttrs_dict PySem.F.slot_dict_get PySem.F.type_dict_get (thn (ho.run pins s σ H (fun x H1 => x = .ref d ∧ H1 = H) I ⟨rfl, rfl⟩) fun u s1 ⟨x, H1, I1, rx, ex, eh⟩ => ?_)
  subst ex eh
  obtain rfl : u = Value.ref d := rx
  refine ⟨kd_type D I1, fun b q => ?_, ?_⟩
  · cases q
    exact ⟨_, I1.kIn _ _ D.at_, rfl⟩
  rw [m.trees]
  refine Calls.callWith_builtin rfl (Calls.evalArgs_plain (Calls.spliced_cons (thn (he.run pins s1 σ H1 _ I1 h) fun iv s2 ⟨y, H2, I2, ry, q2⟩ =>
    Calls.spliced_cons (thn (hf.run pins s2 σ H2 _ I2 q2) fun fv s3 ⟨z, H3, I3, rz, k, r, ek, er, q3⟩ => Calls.spliced_nil ?_))))
  subst ek
  obtain ⟨t, rfl⟩ := ry
  refine call_meetsIn PySem.F.slot_dict_get (kd_type D I3) PySem.F.entry_dict_get (PySem.F.args_dict_get_3 _ _ _) (meets_dict_get_default (strKind X.prog X.w) d (PySem.strKind_is X.prog X.w k t) D.low fv) ⟨_, PySem.W.mapOf_K (prog := X.prog) (w := X.w) I3.kIn D.at_ D.lit, ?_⟩
  rw [PySem.W.find_K D.at_ er]
  rcases q3 with ⟨e0, q⟩ | ⟨u0, v0, e0, r0, q⟩
  · subst e0
    exact ⟨z, H3, I3.tok _, rz, q⟩
  · subst e0
    exact ⟨v0, H3, I3.tok _, r0, q⟩

/-- the left operand has given out a token -/
def PEP (X : Cx) (e : Expr) (t : TE) : Prop := ∀ (pins : List (Addr × Obj)) (s : Shared) (σ : L2.St) (H : Hp) (Q : VK), Inv X pins σ H s → t σ H Q →
  wpAny (model X.prog X.w) X.A (eval e X.env) (fun v s' => 1 ≤ s'.toks ∧ EP X pins σ Q v s') X.xe s
theorem pep_const {op : Operator} {r : R2} {x : Str} {j : Nat} {p : Pos} (ho : OpR X (binaryOp op) r) (ha : PE X a ta) : PEP X (.BinOp a op (.Constant (.str x) j p) pos) (tOp r ta (tC (.str x))) := by
  intro pins s σ H Q I h
  refine wpAny_BinOp (thn (ha.run pins s σ H _ I h) fun v s1 ⟨y, H1, I1, r1, q1⟩ => ?_)
  refine Calls.Constant_str ?_
  refine wpAny_mono (PySem.wpAny_toks (ho pins _ σ H1 y (.str x) v (.str x _) Q (I1.tok (s1.toks + 1)) r1 ⟨_, rfl⟩ q1)) (fun v s2 q => ⟨?_, q.2⟩) fun _ _ z => z.2
  have h1 := q.1
  have h2 : s1.toks + 1 ≤ s2.toks := h1
  omega
theorem pe_opP {op : Operator} {r : R2} (ho : OpR X (binaryOp op) r) (ha : PEP X a ta) (hb : PET X b tb) : PE X (.BinOp a op b pos) (tOp r ta tb) := by
  refine ⟨fun pins s σ H Q I h => ?_⟩
  refine wpAny_BinOp (thn (ha pins s σ H _ I h) fun v s1 ⟨h0, x, H1, I1, r1, q1⟩ => ?_)
  exact thn (hb pins s1 σ H1 _ h0 I1 q1) fun u s2 ⟨y, H2, I2, r2, q2⟩ => ho pins s2 σ H2 x y v u Q I2 r1 r2 q2

/-- sorted(xs), xs a list of data of one shape -/
theorem each_of {K : PySem.W.Frag} {H : Hp} {h : Heap} (rd : ∀ d v u, Dp K H v d → RelV v u → ∃ as, Reads h u d as) : ∀ {xs : List V} {ds : List PyData} {us : List Value}, DpAll K H xs ds → Vals xs us →
    PySem.W.EachIs (fun v d => ∃ x, RelV x v ∧ Dp K H x d) us ds ∧ PySem.W.EachIs (fun v d => ∃ as, Reads h v d as) us ds
  | _, _, _, .nil, .nil => ⟨.nil, .nil⟩
  | _, _, _, .cons a t, .cons r q => by
    obtain ⟨h1, h2⟩ := each_of rd t q
    exact ⟨.cons ⟨_, r, a⟩ h1, .cons (rd _ _ _ a r) h2⟩
theorem each_back {K : PySem.W.Frag} {H : Hp} : ∀ {us : List Value} {ds : List PyData}, PySem.W.EachIs (fun v d => ∃ x, RelV x v ∧ Dp K H x d) us ds → ∃ xs, Vals xs us ∧ DpAll K H xs ds
  | _, _, .nil => ⟨[], .nil, .nil⟩
  | _, _, .cons ⟨x, r, a⟩ t => by
    obtain ⟨xs, h1, h2⟩ := each_back t
    exact ⟨x :: xs, .cons r h1, .cons a h2⟩
def rSortedD (K : PySem.W.Frag) : List V → Hp → VK → Prop := fun vs H Q => ∃ (a : Addr) (xs : List V) (ds : List PyData), vs = [.ref a] ∧ SqL K H a xs ∧ DpAll K H xs ds ∧ PySem.W.AllAlike ds ∧ PySem.W.Sortable ds ∧ (∀ d ∈ ds, d.depth ≤ 60) ∧
  ∀ ys p, DpAll K H ys (ds.mergeSort (PySem.W.dataLe false id)) → H p = none → Q (.ref p) (upd H p (.lst ys))
theorem cr_sortedD (hu : X.A.units + 64 < cLine) : CallR X (.builtin "sorted") (rSortedD X.K) := by
  intro pins s σ H vs us Q I r h
  obtain ⟨a, xs, ds, rfl, hs, hd, hal, hk, hdp, q⟩ := h
  obtain ⟨its, rv, hl, hz⟩ := I.list hs
  obtain ⟨u, rfl, ru⟩ := vals1 r
  cases ru
  obtain ⟨e1, e2⟩ := each_of (fun d v u h1 h2 => Dp.reads I d v u h1 h2) hd rv
  have hlen : ds.length = its.length := by rw [← dpAll_len hd, rv.length]
  refine PySem.W.sorted_data (enc := id) hl.isList e1 e2 (by rw [List.map_id]; exact hal) (by rw [List.map_id]; exact hk) (by rw [hlen]; rw [← rv.length]; exact hz) (fun b hb => ?_) fun out hlo heo => ?_
  · have := hdp b hb
    show X.A.units + 2 + b.depth < cLine
    omega
  · obtain ⟨ys, hv, hy⟩ := each_back heo
    obtain ⟨ep, he'⟩ := PyProof.Rows.sortedAll_at s.heap its (List.toArray out)
    have hyl : ys.length ≤ sizeLine := by
      rw [hv.length, hlo, hlen, ← rv.length]
      exact hz
    refine ⟨.ref _, upd H (s.heap.objs.size + 1) (.lst ys), I.laid (t' := s.toks) (fun _ _ => PyProof.Rows.sortedAll_old) (Nat.le_succ _) ⟨hyl, out, ep, hv, he'⟩, rfl, q ys _ hy (I.hok.fresh (Nat.le_succ _))⟩
end
end K62
namespace K62
open PySem PySem.Spec PyProof.Rows L2
def topS (i : Nat) : Stmt := PySem.Challenge.pw_hewstream_k62_printed_outputs.main.body.getD i (.Pass ⟨0, 0, 0, 0⟩)
abbrev s_content_words : Stmt := topS 2
theorem sc_content_words : FnScope ["string", "sign"] ["string"] (defScope s_content_words) := ⟨rfl, rfl, rfl, by decide +kernel, rfl, by decide +kernel, by decide +kernel⟩
abbrev s_tag_words : Stmt := topS 3
theorem sc_tag_words : FnScope ["event", "words", "name", "value"] ["event"] (defScope s_tag_words) := ⟨rfl, rfl, rfl, by decide +kernel, rfl, by decide +kernel, by decide +kernel⟩
abbrev s_print_output : Stmt := topS 4
theorem sc_print_output : FnScope ["output", "words", "is_ended", "index", "event", "sign"] ["output"] (defScope s_print_output) := ⟨rfl, rfl, rfl, by decide +kernel, rfl, by decide +kernel, by decide +kernel⟩
abbrev s__law_draw : Stmt := topS 6
theorem sc__law_draw : FnScope ["tape", "many", "cell", "mixed", "rest"] ["tape", "many"] (defScope s__law_draw) := ⟨rfl, rfl, rfl, by decide +kernel, rfl, by decide +kernel, by decide +kernel⟩
abbrev s__law_pick : Stmt := topS 7
theorem sc__law_pick : FnScope ["tape", "row"] ["tape", "row"] (defScope s__law_pick) := ⟨rfl, rfl, rfl, by decide +kernel, rfl, by decide +kernel, by decide +kernel⟩
abbrev s__law_string : Stmt := topS 8
theorem sc__law_string : FnScope ["tape", "signs", "most", "k"] ["tape", "signs", "most"] (defScope s__law_string) := ⟨rfl, rfl, rfl, by decide +kernel, rfl, by decide +kernel, by decide +kernel⟩
abbrev s__law_event : Stmt := topS 9
theorem sc__law_event : FnScope ["tape", "kind", "name", "signs", "given", "one"] ["tape"] (defScope s__law_event) := ⟨rfl, rfl, rfl, by decide +kernel, rfl, by decide +kernel, by decide +kernel⟩
abbrev s__law_row : Stmt := topS 10
theorem sc__law_row : FnScope ["tape", "row", "opened", "k", "event"] ["tape"] (defScope s__law_row) := ⟨rfl, rfl, rfl, by decide +kernel, rfl, by decide +kernel, by decide +kernel⟩
abbrev s__law_words : Stmt := topS 11
theorem sc__law_words : FnScope ["string", "quoted", "words", "sign"] ["string", "quoted"] (defScope s__law_words) := ⟨rfl, rfl, rfl, by decide +kernel, rfl, by decide +kernel, by decide +kernel⟩
abbrev s__law_printed : Stmt := topS 12
theorem sc__law_printed : FnScope ["row", "printed", "passed", "k", "event", "given", "name", "value", "sign"] ["row"] (defScope s__law_printed) := ⟨rfl, rfl, rfl, by decide +kernel, rfl, by decide +kernel, by decide +kernel⟩
abbrev s_law : Stmt := topS 13
theorem sc_law : FnScope ["script", "tape", "turn", "row", "part"] ["script"] (defScope s_law) := ⟨rfl, rfl, rfl, by decide +kernel, rfl, by decide +kernel, by decide +kernel⟩
structure Fd (K : PySem.W.Frag) (mg : Str → Option Value) (x : Str) (st : Stmt) (ps : List Str) where
  f : Addr
  fd : FuncData
  F : Fun K x x st f fd
  b : Binds K fd ps []
  g : mg x = some (.ref f)
def escS (q : Bool) (c : Nat) : Str := ⟨(esc q c).toArray⟩
theorem tl_escS (q : Bool) (c : Nat) : tl (escS q c) = esc q c := by simp [tl, escS]
structure Tx (K : PySem.W.Frag) (w : World) (mg : Str → Option Value) where
  d_content_words : Fd K mg "content_words" s_content_words ["string"]
  d_tag_words : Fd K mg "tag_words" s_tag_words ["event"]
  d_print_output : Fd K mg "print_output" s_print_output ["output"]
  d__law_draw : Fd K mg "_law_draw" s__law_draw ["tape", "many"]
  d__law_pick : Fd K mg "_law_pick" s__law_pick ["tape", "row"]
  d__law_string : Fd K mg "_law_string" s__law_string ["tape", "signs", "most"]
  d__law_event : Fd K mg "_law_event" s__law_event ["tape"]
  d__law_row : Fd K mg "_law_row" s__law_row ["tape"]
  d__law_words : Fd K mg "_law_words" s__law_words ["string", "quoted"]
  d__law_printed : Fd K mg "_law_printed" s__law_printed ["row"]
  d_law : Fd K mg "law" s_law ["script"]
  n_len : mg "len" = none
  n_range : mg "range" = none
  n_ord : mg "ord" = none
  n_abs : mg "abs" = none
  n_int : mg "int" = none
  n_tuple : mg "tuple" = none
  n_list : mg "list" = none
  n_sorted : mg "sorted" = none
  cw : Addr
  cwE : Array DictEntry
  cwN : Nat
  cwD : KDict K w cw cwE cwN
  cwG : mg "CONTENT_WORDS" = some (.ref cw)
  cwV : ∀ c : Nat, ∃ r, PySem.W.nsIn K cw ⟨#[c]⟩ = some r ∧ ((r = none ∧ esc false c = [c]) ∨ ∃ t, r = some (.str (escS false c) t))
theorem sum_esc (q : Bool) : ∀ l : List Nat, ((l.map (escS q)).map (·.length)).sum = (words q l).length
  | [] => rfl
  | c :: r => by
    have ih := sum_esc q r
    have e : words q (c :: r) = esc q c ++ words q r := by simp [words]
    have e2 : (escS q c).length = (esc q c).length := by rw [← tl_len, tl_escS]
    rw [e, List.length_append, ← ih, ← e2]
    rfl
theorem tl_escs (q : Bool) (l : List Nat) : ((l.map (escS q)).map tl).flatten = words q l := by
  rw [List.map_map]
  have e : tl ∘ escS q = esc q := funext fun c => tl_escS q c
  rw [e]
  rfl
section
variable {P : Program} {w : World} {K : PySem.W.Frag} {mg : Str → Option Value} {base : Heap}
def spContent : Sp := fun vs H Q _ => ∃ z, vs = [.str z] ∧ z.length ≤ 1000 ∧ ∀ y H', Same H H' → tl y = words false (tl z) → Q (.str y) H'
theorem ok_content_words (T : Tx K w mg) : FnOk P w K mg base CX0 1 T.d_content_words.f T.d_content_words.fd ["string"] spContent := by
  refine T.d_content_words.F.ok sc_content_words (fun vs H Q E h => ?_) (fun cdv A outer s H vs Q E hr h => ?_)
  · obtain ⟨z, rfl, _⟩ := h
    rfl
  · obtain ⟨z, rfl, hz, q⟩ := h
    refine ⟨_, (pss_one (ps_ret (pe_join pe_str (pe_lc (own := [("sign", 1)]) (g := gName 1) (by rfl) sc_content_words.nd (pi_str (pv 0)) (blkOk_by (N := ["string", "sign"]) (sc := defScope s_content_words) (by decide +kernel)) (fun _ _ _ _ _ => (pg_name (i := 1) sc_content_words.nd rfl (Or.inl rfl))) (fun _ _ _ _ _ => pts_nil) (fun _ _ _ _ _ => (pe_kget2 T.cwD (pe_glob rfl T.cwG rfl) (pv 1) (pv 1) ⟨rfl, rfl, rfl, rfl⟩)))))), ?_⟩
    refine ⟨⟨_, rfl⟩, .str z, rfl, z, rfl, fun D nD => ?_⟩
    refine lc_it walk_str (fun i H1 => H1 = upd H D (.lst (((tl z).take i).map fun c => V.str (escS false c)))) rfl (fun _ _ _ _ => trivial) (fun i x H1 H' hi p y => ?_) (fun H1 p => ?_)
    · obtain ⟨rfl, c, ec, rfl⟩ := y
      subst p
      obtain ⟨r, er, hr2⟩ := T.cwV c
      have ec' : (tl z)[i]? = some c := by
        unfold tl
        rw [Array.getElem?_toList]
        exact ec
      have fin : ∃ acc, (upd H D (.lst (((tl z).take i).map fun c => V.str (escS false c)))) D = some (.lst acc) ∧ acc.length < sizeLine ∧
          upd (upd H D (.lst (((tl z).take i).map fun c => V.str (escS false c)))) D (.lst (acc ++ [V.str (escS false c)])) = upd H D (.lst (((tl z).take (i + 1)).map fun c => V.str (escS false c))) := by
        refine ⟨_, upd_same, ?_, ?_⟩
        · rw [List.length_map, List.length_take]
          have := tl_len z
          exact Nat.lt_of_le_of_lt (Nat.min_le_right _ _) (small1000 (by omega))
        · rw [upd_upd, List.take_add_one, ec', List.map_append]
          rfl
      refine ⟨rfl, yes_of ⟨_, rfl, _, rfl, _, r, rfl, er, ?_⟩⟩
      rcases hr2 with ⟨e0, e1⟩ | ⟨t, e0⟩
      · refine .inl ⟨e0, ?_⟩
        have e2 : (⟨#[c]⟩ : Str) = escS false c := by
          unfold escS
          rw [e1]
        rw [e2]
        exact fin
      · exact .inr ⟨_, V.str (escS false c), e0, ⟨_, rfl⟩, fin⟩
    · subst p
      have e0 : (tl z).take z.cps.size = tl z := List.take_of_length_le (by unfold tl; rw [Array.length_toList]; exact Nat.le_refl _)
      rw [e0]
      refine ⟨_, D, (tl z).map (escS false), rfl, rfl, .inl (.inl (.inl ?_)), ?_, ?_⟩
      · rw [upd_same, List.map_map]
        rfl
      · rw [sum_esc]
        have h1 := words_len false (tl z)
        have h2 := tl_len z
        have h3 : ((tl z).map (escS false)).length * (Str.ofString "").length = 0 := Nat.mul_zero _
        omega
      · exact q _ _ (same_new nD) (by rw [tl_join0, tl_escs])
end
end K62
namespace K62
open PySem PySem.Spec PyProof.Rows L2
theorem key1 (c d : Nat) : ((Sum.inr ⟨#[c]⟩ : Key) = Sum.inr ⟨#[d]⟩) ↔ c = d := by
  constructor
  · intro h
    have h1 := Sum.inr.inj h
    have h2 : (#[c] : Array Nat) = #[d] := congrArg Str.cps h1
    simpa using h2
  · rintro rfl
    rfl
def escD : List (Key × V) := [(Sum.inr (Str.ofString "<"), V.str (Str.ofString "&lt;")), (Sum.inr (Str.ofString ">"), V.str (Str.ofString "&gt;")), (Sum.inr (Str.ofString "&"), V.str (Str.ofString "&amp;"))]
theorem escD_val (c : Nat) : (valV (mergeK [] escD) (Sum.inr ⟨#[c]⟩)).getD (V.str ⟨#[c]⟩) = V.str (escS false c) := by
  have e : mergeK [] escD = putK (putK (putK [] (Sum.inr ⟨#[60]⟩) (V.str (escS false 60))) (Sum.inr ⟨#[62]⟩) (V.str (escS false 62))) (Sum.inr ⟨#[38]⟩) (V.str (escS false 38)) := rfl
  rw [e, valV_put, valV_put, valV_put, valV_nil]
  simp only [key1]
  by_cases h1 : c = 38
  · subst h1; rfl
  · by_cases h2 : c = 62
    · subst h2; rfl
    · by_cases h3 : c = 60
      · subst h3; rfl
      · rw [if_neg h1, if_neg h2, if_neg h3]
        have e3 : esc false c = [c] := by simp [esc, h1, h2, h3]
        unfold escS
        rw [e3] <;> rfl
theorem escT_val (c : Nat) : (valV (putK (mergeK [] escD) (Sum.inr (Str.ofString "\"")) (V.str (Str.ofString "&quot;"))) (Sum.inr ⟨#[c]⟩)).getD (V.str ⟨#[c]⟩) = V.str (escS true c) := by
  have e : (Sum.inr (Str.ofString "\"") : Key) = Sum.inr ⟨#[34]⟩ := rfl
  rw [e, valV_put]
  simp only [key1]
  by_cases h : c = 34
  · subst h; rfl
  · rw [if_neg h, escD_val]
    have e2 : esc true c = esc false c := by simp [esc, h]
    unfold escS
    rw [e2]
section
variable {P : Program} {w : World} {K : PySem.W.Frag} {mg : Str → Option Value} {base : Heap}
def spWords : Sp := fun vs H Q _ => ∃ z q, vs = [.str z, .bl q] ∧ z.length ≤ 1000 ∧ ∀ y H', Same H H' → tl y = words q (tl z) → Q (.str y) H'
theorem words_turn {H D z q} {kvs : List (Key × V)} {p : Addr} {Qd : Hp → Prop} {σ : L2.St} (hσ : σ[0]? = some (some (V.str z))) (hσ2 : σ[2]? = some (some (V.ref p))) (hl : σ.length = 4) (np : H p = some (.dK kvs)) (nD : H D = none)
    (hv : ∀ c, (valV kvs (Sum.inr ⟨#[c]⟩)).getD (V.str ⟨#[c]⟩) = V.str (escS q c)) (hz : z.length ≤ 1000)
    (hd : Qd (upd H D (.lst ((tl z).map fun c => V.str (escS q c))))) :
    ∃ W : Nat → Nat → Hp → Prop, (∃ m, W 0 m (upd H D (.lst []))) ∧ ∀ i m H, W i m H →
      ((Its z).stop i H ∧ Qd H) ∨ ((Its z).go i H ∧ ∃ Nx : Hp → Prop, (∀ H', Nx H' → ∃ m', m' < m ∧ W (i + 1) m' H') ∧ ∀ x H', (Its z).yld i H x H' → gName 3 x (wipe σ [3]) H' fun σ2 H2 => wipe σ2 [3] = wipe σ [3] ∧ tYes σ2 H2 fun b H3 =>
        if b = true then (tDGet2 (tVar 2) (tVar 3) (tVar 3)) σ2 H3 fun y H4 => ∃ acc, H4 D = some (.lst acc) ∧ acc.length < sizeLine ∧ Nx (upd H4 D (.lst (acc ++ [y]))) else Nx H3) := by
  match σ, hl with
  | [x0, x1, x2, x3], _ =>
  have e0 : x0 = some (.str z) := by simpa using hσ
  have e2 : x2 = some (.ref p) := by simpa using hσ2
  subst e0 e2
  refine lc_it walk_str (fun i H1 => H1 = upd H D (.lst (((tl z).take i).map fun c => V.str (escS q c)))) rfl (fun _ _ _ _ => trivial) (fun i x H1 H' hi p' y => ?_) (fun H1 p' => ?_)
  · obtain ⟨rfl, c, ec, rfl⟩ := y
    subst p'
    have ec' : (tl z)[i]? = some c := by
      unfold tl
      rw [Array.getElem?_toList]
      exact ec
    have npD : p ≠ D := ne_of_none np nD
    have hp : upd H D (.lst (((tl z).take i).map fun c => V.str (escS q c))) p = some (.dK kvs) := by
      rw [upd_ne npD]
      exact np
    refine ⟨rfl, yes_of ⟨_, rfl, p, rfl, .inl ⟨kvs, .inl hp⟩, V.str ⟨#[c]⟩, rfl, V.str ⟨#[c]⟩, rfl, valV kvs (Sum.inr ⟨#[c]⟩), DGet.k (k := Sum.inr ⟨#[c]⟩) hp, ?_⟩⟩
    rw [hv]
    refine ⟨_, upd_same, ?_, ?_⟩
    · rw [List.length_map, List.length_take]
      have := tl_len z
      exact Nat.lt_of_le_of_lt (Nat.min_le_right _ _) (small1000 (by omega))
    · rw [upd_upd, List.take_add_one, ec', List.map_append]
      rfl
  · subst p'
    have e0 : (tl z).take z.cps.size = tl z := List.take_of_length_le (by unfold tl; rw [Array.length_toList]; exact Nat.le_refl _)
    rw [e0]
    exact hd
theorem ok__law_words (T : Tx K w mg) : FnOk P w K mg base CX0 1 T.d__law_words.f T.d__law_words.fd ["string", "quoted"] spWords := by
  refine T.d__law_words.F.ok sc__law_words (fun vs H Q E h => ?_) (fun cdv A outer s H vs Q E hr h => ?_)
  · obtain ⟨z, q, rfl, _⟩ := h
    rfl
  · obtain ⟨z, qt, rfl, hz, q⟩ := h
    refine ⟨_, (pss_cons (ps_set (i := 2) sc__law_words.nd rfl (Or.inr rfl) (pe_disp (pps_cons pe_str pe_str (pps_cons pe_str pe_str (pps_cons pe_str pe_str pps_nil))) (by rfl) (by rfl) (fun z => by cases z) (by decide)))
      (pss_cons (ps_if (pt_val (pv 1))
        (pss_one (ps_dput (hu_of hr) (pv 2) pe_str pe_str rfl))
        pss_nil)
      (pss_one (ps_ret (pe_join pe_str (pe_lc (own := [("sign", 3)]) (g := gName 3) (by rfl) sc__law_words.nd (pi_str (pv 0)) (blkOk_by (N := ["string", "quoted", "words", "sign"]) (sc := defScope s__law_words) (by decide +kernel)) (fun _ _ _ _ _ => (pg_name (i := 3) sc__law_words.nd rfl (Or.inl rfl))) (fun _ _ _ _ _ => pts_nil) (fun _ _ _ _ _ => (pe_dget2 (hu_of hr) (pv 2) (pv 3) (pv 3) ⟨rfl, rfl, rfl, rfl⟩)))))))), ?_⟩
    refine fun p np => ⟨upd_same, escD, rfl, by decide, ?_⟩
    rw [upd_upd]
    have fin : ∀ (kvs : List (Key × V)) (H1 : Hp) (D : Addr), H1 = upd H p (.dK kvs) → H1 D = none → ∃ a p_1 ys, V.str (Str.ofString "") = .str a ∧ [V.ref D] = [V.ref p_1] ∧
        (SqL K (upd H1 D (.lst ((tl z).map fun c => V.str (escS qt c)))) p_1 (ys.map V.str) ∨ SqT K (upd H1 D (.lst ((tl z).map fun c => V.str (escS qt c)))) p_1 (ys.map V.str)) ∧ (ys.map (·.length)).sum + ys.length * a.length ≤ 16777216 ∧
        Q (.str (Txt.join a ys)) (upd H1 D (.lst ((tl z).map fun c => V.str (escS qt c)))) := by
      rintro kvs H1 D rfl nD
      refine ⟨_, D, (tl z).map (escS qt), rfl, rfl, .inl (.inl (.inl ?_)), ?_, ?_⟩
      · rw [upd_same, List.map_map]
        rfl
      · rw [sum_esc]
        have h1 := words_len qt (tl z)
        have h2 := tl_len z
        have h3 : ((tl z).map (escS qt)).length * (Str.ofString "").length = 0 := Nat.mul_zero _
        omega
      · exact q _ _ ((same_new np).trans (same_new nD)) (by rw [tl_join0, tl_escs])
    cases qt with
    | true =>
      refine ⟨_, rfl, true, rfl, iteT ?_⟩
      refine ⟨.ref p, rfl, p, _, rfl, DPut.k (k := Sum.inr (Str.ofString "\"")) upd_same (Nat.lt_of_le_of_lt (length_mergeK _ _) (by decide)), ?_⟩
      rw [upd_upd]
      refine ⟨⟨_, rfl⟩, .str z, rfl, z, rfl, fun D nD => ?_⟩
      refine words_turn (σ := [some (.str z), some (.bl true), some (.ref p), none]) (q := true) rfl rfl rfl upd_same nD escT_val hz ?_
      exact fin _ _ D rfl nD
    | false =>
      refine ⟨_, rfl, false, rfl, iteF ?_⟩
      refine ⟨⟨_, rfl⟩, .str z, rfl, z, rfl, fun D nD => ?_⟩
      refine words_turn (σ := [some (.str z), some (.bl false), some (.ref p), none]) (q := false) rfl rfl rfl upd_same nD escD_val hz ?_
      exact fin _ _ D rfl nD
end
end K62
namespace K62
open PySem PySem.Spec PyProof.Rows L2
theorem line_ok {n : Nat} (h : n ≤ 100000) : n ≤ sizeLine := Nat.le_trans h (by decide)
theorem len_app (x y : Str) : (x ++ y).length = x.length + y.length := by
  rw [← tl_len, tl_app, List.length_append, tl_len, tl_len]
theorem dp_st {K : PySem.W.Frag} {H : Hp} {v : V} {n : Str} {as : List (Str × Str)} (h : Dp K H v (Ev.st n as).data) : ∃ a b ys, v = .ref a ∧ SqT K H a [.str "start", .str n, .ref b] ∧ SqT K H b ys ∧ DpAll K H ys (as.map dPair) := by
  cases h with
  | tup hq ha =>
    cases ha with
    | cons h1 t1 =>
      cases t1 with
      | cons h2 t2 =>
        cases t2 with
        | cons h3 t3 =>
          cases t3
          cases h1
          cases h2
          cases h3 with
          | tup hq3 ha3 => exact ⟨_, _, _, rfl, hq, hq3, ha3⟩
theorem dp_pair {K : PySem.W.Frag} {H : Hp} {v : V} {x y : Str} (h : Dp K H v (.tuple [.str x, .str y])) : ∃ a, v = .ref a ∧ SqT K H a [.str x, .str y] := by
  cases h with
  | tup hq ha =>
    cases ha with
    | cons h1 t1 =>
      cases t1 with
      | cons h2 t2 =>
        cases t2
        cases h1
        cases h2
        exact ⟨_, rfl, hq⟩
theorem same_dp {K : PySem.W.Frag} {H H' : Hp} {v : V} {d : PyData} (s : Same H H') (t : tupOnly d = true) (h : Dp K H v d) : Dp K H' v d := dp_keep (Keep.same s) d v t h
theorem same_tup {K : PySem.W.Frag} {H H' : Hp} {a : Addr} {xs : List V} (s : Same H H') (h : SqT K H a xs) : SqT K H' a xs := by
  rcases h with (h | ⟨o, h⟩) | h
  · exact .inl (.inl (s _ _ h))
  · exact .inl (.inr ⟨o, s _ _ h⟩)
  · exact .inr h
theorem attrW_len {p : Str × Str} (h1 : p.1.length ≤ 100) (h2 : p.2.length ≤ 100) : (attrW p).length ≤ 800 := by
  have h3 := words_len true (tl p.2)
  have h4 := tl_len p.1
  have h5 := tl_len p.2
  unfold attrW
  simp only [List.length_cons, List.length_append, List.length_nil]
  omega
theorem attrs_len : ∀ {as : List (Str × Str)}, (∀ p ∈ as, p.1.length ≤ 100 ∧ p.2.length ≤ 100) → ((as.map attrW).flatten).length ≤ 800 * as.length
  | [], _ => by simp
  | p :: r, h => by
    have ih := attrs_len (as := r) fun q hq => h q (List.mem_cons_of_mem _ hq)
    have h1 := h p List.mem_cons_self
    have h2 := attrW_len h1.1 h1.2
    simp only [List.map_cons, List.flatten_cons, List.length_append, List.length_cons]
    omega
section
variable {P : Program} {w : World} {K : PySem.W.Frag} {mg : Str → Option Value} {base : Heap}
def spTag (K : PySem.W.Frag) : Sp := fun vs H Q _ => ∃ v n as, vs = [v] ∧ Dp K H v (Ev.st n as).data ∧ EvOk (.st n as) ∧ ∀ y H', Same H H' → tl y = tagW n as → Q (.str y) H'
theorem ok_tag_words (T : Tx K w mg) : FnOk P w K mg base CX0 2 T.d_tag_words.f T.d_tag_words.fd ["event"] (spTag K) := by
  refine T.d_tag_words.F.ok sc_tag_words (fun vs H Q E h => ?_) (fun cdv A outer s H vs Q E hr h => ?_)
  · obtain ⟨z, n, as, rfl, _⟩ := h
    rfl
  · obtain ⟨v, n, as, rfl, hd, hok, q⟩ := h
    obtain ⟨a, b, ys, rfl, ha, hb, hys⟩ := dp_st hd
    obtain ⟨⟨hn, _⟩, hal, has'⟩ := hok
    have has : ∀ p ∈ as, p.1.length ≤ 100 ∧ p.2.length ≤ 100 := fun p hp => ⟨(has' p hp).1.1, (has' p hp).2.1⟩
    refine ⟨_, (pss_cons (ps_set (i := 1) sc_tag_words.nd rfl (Or.inl rfl) (pe_op op_add_str pe_str (pe_ix ix_tup (pv 0) pe_int (fun _ _ => rfl))))
      (pss_cons (ps_for PassesOwn.never rfl (pi_tup (pe_ix ix_tup (pv 0) pe_int (fun _ _ => rfl))) (pg_tup rfl (pgs_cons (pg_name (i := 2) sc_tag_words.nd rfl (Or.inl rfl)) (pgs_cons (pg_name (i := 3) sc_tag_words.nd rfl (Or.inl rfl)) pgs_nil)))
        (pss_one (ps_set (i := 1) sc_tag_words.nd rfl (Or.inl rfl) (pe_op op_add_str (pe_opP op_add_str (pep_const op_add_str (pe_op op_add_str (pe_op op_add_str (pv 1) pe_str) (pv 2))) (CwR.pet_replC (pe_call (ok_content_words T) (hr.mono (by decide)) (by rfl) T.d_content_words.g T.d_content_words.F.kp T.d_content_words.b .nil pass0 (pa_cons (pv 3) pa_nil)))) pe_str))))
      (pss_one (ps_ret (pv 1))))), ?_⟩
    -- words = '<' + event[1]
    refine ⟨.ref a, rfl, a, _, 1, .str n, rfl, rfl, ha, rfl, _, _, rfl, rfl, line_ok (by show 1 + n.length ≤ 100000; omega), ?_⟩
    -- for name, value in event[2]
    have hyl : ys.length = as.length := by rw [dpAll_len hys, List.length_map]
    refine ⟨.ref a, rfl, a, _, 2, .ref b, rfl, rfl, ha, rfl, b, rfl, ⟨ys, hb⟩, ?_⟩
    refine for_tup (xs := ys) (fun i σ H1 => Same H H1 ∧ ∃ x2 x3 wd, σ = [some (.ref a), some (.str wd), x2, x3] ∧ tl wd = 60 :: (tl n ++ ((as.take i).map attrW).flatten)) ⟨Same.refl _, none, none, _, rfl, by rw [tl_app]; show 60 :: tl n = _; simp⟩ (fun i σ H1 _ p => same_tup p.1 hb) (fun i x σ H1 hx p => ?_) (fun σ H1 p => ?_)
    · obtain ⟨sm, x2, x3, wd, rfl, ew⟩ := p
      have hi : i < ys.length := (List.getElem?_eq_some_iff.mp hx).1
      have hi2 : i < as.length := by omega
      obtain ⟨x', ex, hx2⟩ := dpAll_get hys (i := i) (d := dPair as[i]) (by rw [List.getElem?_map, List.getElem?_eq_getElem hi2] <;> rfl)
      rw [hx] at ex
      cases ex
      obtain ⟨c, rfl, hc⟩ := dp_pair hx2
      have hmem : as[i] ∈ as := List.getElem_mem hi2
      have hb1 := has _ hmem
      have hwl : wd.length ≤ 9000 := by
        have h1 := tl_len wd
        rw [ew] at h1
        have h2 := attrs_len (as := as.take i) fun p hp => has p (List.mem_of_mem_take hp)
        have h3 := tl_len n
        simp only [List.length_cons, List.length_append] at h1
        have h4 : (as.take i).length ≤ as.length := by rw [List.length_take]; exact Nat.min_le_right _ _
        omega
      refine ⟨c, _, rfl, same_tup sm hc, rfl, .str as[i].1, [.str as[i].2], rfl, .str as[i].2, [], rfl, rfl, ?_⟩
      refine ⟨.str wd, rfl, _, _, rfl, rfl, line_ok (by show wd.length + 1 ≤ 100000; omega), ?_⟩
      refine ⟨.str as[i].1, rfl, _, _, rfl, rfl, line_ok (by rw [len_app]; show wd.length + 1 + as[i].1.length ≤ 100000; omega), ?_⟩
      refine ⟨_, _, rfl, rfl, line_ok (by rw [len_app, len_app]; show wd.length + 1 + as[i].1.length + 2 ≤ 100000; omega), ?_⟩
      refine ⟨.str as[i].2, rfl, as[i].2, rfl, by omega, fun y H2 s2 ey => ?_⟩
      have hyl2 : y.length ≤ 600 := by
        have h1 := tl_len y
        rw [ey] at h1
        have h2 := words_len false (tl as[i].2)
        have h3 := tl_len as[i].2
        omega
      have er : tl (Txt.replace y (Str.ofString "\"") (Str.ofString "&quot;")) = words true (tl as[i].2) := by
        have h1 := StrLaws.replace_list (x := y) (y := Str.ofString "\"") (z := Str.ofString "&quot;") (by decide)
        have h2 : StrLaws.replL [34] [38, 113, 117, 111, 116, 59] (tl y) = words true (tl as[i].2) := by rw [ey, repl_words]
        exact h1.trans h2
      have erl : (Txt.replace y (Str.ofString "\"") (Str.ofString "&quot;")).length ≤ 600 := by
        have h1 := tl_len (Txt.replace y (Str.ofString "\"") (Str.ofString "&quot;"))
        rw [er] at h1
        have h2 := words_len true (tl as[i].2)
        have h3 := tl_len as[i].2
        omega
      refine ⟨y, rfl, by show y.length + (y.length + 1) * 6 ≤ 16777216; omega, ?_⟩
      refine ⟨_, _, rfl, rfl, line_ok (by rw [len_app, len_app, len_app]; show wd.length + 1 + as[i].1.length + 2 + _ ≤ 100000; omega), ?_⟩
      refine ⟨_, _, rfl, rfl, line_ok (by rw [len_app, len_app, len_app, len_app]; show wd.length + 1 + as[i].1.length + 2 + _ + 1 ≤ 100000; omega), ?_⟩
      refine ⟨sm.trans s2, _, _, _, rfl, ?_⟩
      rw [tl_app, tl_app, tl_app, tl_app, tl_app, ew, er, List.take_add_one, List.getElem?_eq_getElem hi2, List.map_append, List.flatten_append]
      show _ = 60 :: (tl n ++ (((as.take i).map attrW).flatten ++ ([attrW as[i]]).flatten))
      have e1 : tl (Str.ofString " ") = [32] := rfl
      have e2 : tl (Str.ofString "=\"") = [61, 34] := rfl
      have e3 : tl (Str.ofString "\"") = [34] := rfl
      rw [e1, e2, e3]
      simp [attrW]
    · obtain ⟨sm, x2, x3, wd, rfl, ew⟩ := p
      refine ⟨.str wd, rfl, q wd H1 sm ?_⟩
      rw [ew, hyl, List.take_length]
      rfl
end
end K62
namespace K62
open PySem PySem.Spec PyProof.Rows L2
theorem line_lt {n : Nat} (h : n < 100000) : n < sizeLine := Nat.lt_of_lt_of_le h (by decide)
theorem at0 {α : Type} {xs : List α} {i : Nat} {v : α} (h : xs[i]? = some v) : atI xs (0 + (i : Int)) = some v := by
  rw [Int.zero_add]
  exact atI_nat h
/-- a comprehension of the codes of a text's signs -/
theorem ord_turn {z : Str} {j : Nat} {σ : L2.St} (hj : j < σ.length) {H : Hp} {D : Addr} {Qd : Hp → Prop} (hz : z.length < sizeLine) (hd : Qd (upd H D (.lst ((tl z).map fun (c : Nat) => V.int c)))) :
    ∃ W : Nat → Nat → Hp → Prop, (∃ m, W 0 m (upd H D (.lst []))) ∧ ∀ i m H, W i m H →
      ((Its z).stop i H ∧ Qd H) ∨ ((Its z).go i H ∧ ∃ Nx : Hp → Prop, (∀ H', Nx H' → ∃ m', m' < m ∧ W (i + 1) m' H') ∧ ∀ x H', (Its z).yld i H x H' → gName j x (wipe σ [j]) H' fun σ2 H2 => wipe σ2 [j] = wipe σ [j] ∧ tYes σ2 H2 fun b H3 =>
        if b = true then (tCB (fun xs H Q => ∃ x, xs = [.str x] ∧ x.length = 1 ∧ Q (.int (x.cps.getD 0 0 : Nat)) H) (tCons (tVar j) tNil)) σ2 H3 fun y H4 => ∃ acc, H4 D = some (.lst acc) ∧ acc.length < sizeLine ∧ Nx (upd H4 D (.lst (acc ++ [y]))) else Nx H3) := by
  refine lc_it walk_str (fun i H1 => H1 = upd H D (.lst (((tl z).take i).map fun (c : Nat) => V.int c))) rfl (fun _ _ _ _ => trivial) (fun i x H1 H' hi p' y => ?_) (fun H1 p' => ?_)
  · obtain ⟨rfl, c, ec, rfl⟩ := y
    subst p'
    have ec' : (tl z)[i]? = some c := by
      unfold tl
      rw [Array.getElem?_toList]
      exact ec
    refine ⟨?_, yes_of ⟨.str ⟨#[c]⟩, ?_, ⟨#[c]⟩, rfl, rfl, _, upd_same, ?_, ?_⟩⟩
    · show ((σ.set j none).set j _).set j none = σ.set j none
      simp [List.set_set]
    · show ((σ.set j none).set j _)[j]? = _
      rw [List.set_set, List.getElem?_set_self hj]
    · rw [List.length_map, List.length_take]
      have := tl_len z
      exact Nat.lt_of_le_of_lt (Nat.min_le_right _ _) (by omega)
    · rw [upd_upd, List.take_add_one, ec', List.map_append]
      rfl
  · subst p'
    have e0 : (tl z).take z.cps.size = tl z := List.take_of_length_le (by unfold tl; rw [Array.length_toList]; exact Nat.le_refl _)
    rw [e0]
    exact hd
theorem cut1 (xs : List V) (i : Nat) : cutV xs (some (0 + (i : Int) + 1)) (some (0 + (i : Int) + 2)) = (xs.drop (i + 1)).take 1 := by
  have e1 : (0 + (i : Int) + 1) = ((i + 1 : Nat) : Int) := by omega
  have e2 : (0 + (i : Int) + 2) = ((i + 2 : Nat) : Int) := by omega
  unfold cutV
  rw [e1, e2, HT.sIx_nat, HT.sIx_nat]
  by_cases h : i + 1 < xs.length
  · rw [show min (i + 1) xs.length = i + 1 by omega, show min (i + 2) xs.length = i + 2 by omega, show i + 2 - (i + 1) = 1 by omega]
  · rw [show min (i + 1) xs.length = xs.length by omega, List.drop_length, List.take_nil, List.drop_eq_nil_of_le (by omega), List.take_nil]
theorem nextEnd_eqv (n : Str) (es : List Ev) : PyData.eqv (.list ((es.take 1).map Ev.data)) (.list [(Ev.en n).data]) = nextEnd n es := by
  cases es with
  | nil => simp [PyData.eqv, PyData.eqvAll, nextEnd]
  | cons e r => simp [PyData.eqv, PyData.eqvAll, nextEnd, eqv_en]
theorem shaped_take {es : List Ev} (h : ∀ e ∈ es, EvOk e) : SeqAt.shaped (.list ((es.take 1).map Ev.data)) = true := by
  cases es with
  | nil => decide
  | cons e r => exact shaped_one (h e List.mem_cons_self)
theorem printed_st {n : Str} {as : List (Str × Str)} {r : List Ev} : printedF false (.st n as :: r) = tagW n as ++ ((if nextEnd n r = true then [47, 62] else [62]) ++ printedF (nextEnd n r) r) := by
  cases r <;> rfl
theorem nextEnd_true {n : Str} {es : List Ev} (h : nextEnd n es = true) : ∃ m r, es = .en m :: r := by
  cases es with
  | nil => cases h
  | cons e r =>
    have e1 : e = .en n := of_decide_eq_true h
    exact ⟨n, r, by rw [e1]⟩
theorem tagW_len {n : Str} {as : List (Str × Str)} (h : EvOk (.st n as)) : (tagW n as).length ≤ 8200 := by
  have h1 := attrs_len (as := as) fun p hp => ⟨(h.2.2 p hp).1.1, (h.2.2 p hp).2.1⟩
  have h2 := tl_len n
  have h3 := h.1.1
  have h4 := h.2.1
  unfold tagW
  simp only [List.length_cons, List.length_append]
  omega
theorem drop_cons {α : Type} {es : List α} {i : Nat} (h : i < es.length) : es.drop i = es[i] :: es.drop (i + 1) := List.drop_eq_getElem_cons h
section
variable {P : Program} {w : World} {K : PySem.W.Frag} {mg : Str → Option Value} {base : Heap}
def spPrint (K : PySem.W.Frag) : Sp := fun vs H Q _ => ∃ l xs es, vs = [.ref l] ∧ SqL K H l xs ∧ DpAll K H xs (es.map Ev.data) ∧ es.length ≤ 40 ∧ (∀ e ∈ es, EvOk e) ∧
  ∀ p H', Same H H' → H' p = some (.lst ((printed es).map fun (c : Nat) => V.int c)) → Q (.ref p) H'
/-- the words of the first turns, and what is still to be printed -/
structure Pr (es : List Ev) (i : Nat) (ws : List Str) (f : Bool) : Prop where
  eq : (ws.map tl).flatten ++ printedF f (es.drop i) = printed es
  nx : f = true → ∃ n r, es.drop i = .en n :: r
  few : ws.length ≤ i
  sum : (ws.map (·.length)).sum ≤ 9000 * i
theorem Pr.add {es : List Ev} {i : Nat} {ws : List Str} {f f' : Bool} {y : Str} (p : Pr es i ws f) (hy : y.length ≤ 9000) (e : printedF f (es.drop i) = tl y ++ printedF f' (es.drop (i + 1))) (hn : f' = true → ∃ n r, es.drop (i + 1) = .en n :: r) : Pr es (i + 1) (ws ++ [y]) f' := by
  refine ⟨?_, hn, ?_, ?_⟩
  · rw [← p.eq, e]
    simp
  · have := p.few
    simp
    omega
  · have := p.sum
    simp
    omega
theorem Pr.pass {es : List Ev} {i : Nat} {ws : List Str} {f f' : Bool} (p : Pr es i ws f) (e : printedF f (es.drop i) = printedF f' (es.drop (i + 1))) (hn : f' = true → ∃ n r, es.drop (i + 1) = .en n :: r) : Pr es (i + 1) ws f' := by
  refine ⟨?_, hn, ?_, ?_⟩
  · rw [← p.eq, e]
  · have := p.few
    omega
  · have := p.sum
    omega
theorem iteB {c : Bool} {A B : Prop} (h : c = true) (p : A) : if c = true then A else B := by
  rw [if_pos h]
  exact p
theorem iteN {c : Bool} {A B : Prop} (h : c = false) (p : B) : if c = true then A else B := by
  rw [if_neg (by rw [h]; exact Bool.false_ne_true)]
  exact p
theorem ok_print_output (T : Tx K w mg) : FnOk P w K mg base CX0 3 T.d_print_output.f T.d_print_output.fd ["output"] (spPrint K) := by
  refine T.d_print_output.F.ok sc_print_output (fun vs H Q E h => ?_) (fun cdv A outer s H vs Q E hr h => ?_)
  · obtain ⟨z, n, as, rfl, _⟩ := h
    rfl
  · obtain ⟨l, xs, es, rfl, hl, hd, hlen, hok, q⟩ := h
    have hxl : xs.length = es.length := by rw [dpAll_len hd, List.length_map]
    refine ⟨_, (pss_cons (ps_set (i := 1) sc_print_output.nd rfl (Or.inl rfl) (pe_lst pa_nil))
      (pss_cons (ps_set (i := 2) sc_print_output.nd rfl (Or.inl rfl) pe_bl)
      (pss_cons (ps_for PassesOwn.never rfl (pi_range1 (by rfl) T.n_range (pa_cons (pe_callB call_len_seq (by rfl) T.n_len (by decide +kernel) (pa_cons (pv 0) pa_nil)) pa_nil)) (pg_name (i := 3) sc_print_output.nd rfl (Or.inl rfl))
        (pss_cons (ps_set (i := 4) sc_print_output.nd rfl (Or.inl rfl) (pe_ix ix_list (pv 0) (pv 3) (fun _ _ => rfl)))
        (pss_one (ps_if (pt_cmpR op_eq (pe_ix ix_tup (pv 4) pe_int (fun _ _ => rfl)) pe_str (nomark _))
          (pss_cons (ps_set (i := 2) sc_print_output.nd rfl (Or.inl rfl) (pe_cmpR (op_eqD hr.units) (pe_slice sl_list (pv 0) (po_some (pe_op op_add (pv 3) pe_int)) (po_some (pe_op op_add (pv 3) pe_int))) (pe_lst (pa_cons (pe_tup (pa_cons pe_str (pa_cons (pe_ix ix_tup (pv 4) pe_int (fun _ _ => rfl)) pa_nil))) pa_nil)) (nomark _)))
          (pss_one (ps_expr (pe_bm PySem.F.plainAttrs_list PySem.F.slot_list_append PySem.F.type_list_append mt_append (pv 1) (pa_cons (pe_op op_add_str (pe_call (ok_tag_words T) (hr.mono (by decide)) (by rfl) T.d_tag_words.g T.d_tag_words.F.kp T.d_tag_words.b .nil pass0 (pa_cons (pv 4) pa_nil)) (pe_ifExp (pt_val (pv 2)) pe_str pe_str)) pa_nil)))))
          (pss_one (ps_if (pt_cmpR op_ne (pe_ix ix_tup (pv 4) pe_int (fun _ _ => rfl)) pe_str (nomark _))
            (pss_one (ps_expr (pe_bm PySem.F.plainAttrs_list PySem.F.slot_list_append PySem.F.type_list_append mt_append (pv 1) (pa_cons (pe_call (ok_content_words T) (hr.mono (by decide)) (by rfl) T.d_content_words.g T.d_content_words.F.kp T.d_content_words.b .nil pass0 (pa_cons (pe_ix ix_tup (pv 4) pe_int (fun _ _ => rfl)) pa_nil)) pa_nil))))
            (pss_one (ps_if (pt_val (pv 2))
              (pss_one (ps_set (i := 2) sc_print_output.nd rfl (Or.inl rfl) pe_bl))
              (pss_one (ps_expr (pe_bm PySem.F.plainAttrs_list PySem.F.slot_list_append PySem.F.type_list_append mt_append (pv 1) (pa_cons (pe_op op_add_str (pe_op op_add_str pe_str (pe_ix ix_tup (pv 4) pe_int (fun _ _ => rfl))) pe_str) pa_nil))))))))))))
      (pss_one (ps_ret (pe_lc (own := [("sign", 5)]) (g := gName 5) (by rfl) sc_print_output.nd (pi_str (pe_join pe_str (pv 1))) (blkOk_by (N := ["output", "words", "is_ended", "index", "event", "sign"]) (sc := defScope s_print_output) (by decide +kernel)) (fun _ _ _ _ _ => (pg_name (i := 5) sc_print_output.nd rfl (Or.inl rfl))) (fun _ _ _ _ _ => pts_nil) (fun _ _ _ _ _ => (pe_callB call_ord (by rfl) T.n_ord (by decide +kernel) (pa_cons (pv 5) pa_nil))))))))), ?_⟩
    refine ⟨Nat.zero_le _, fun o no => ?_⟩
    have s1 : Same H (upd H o (.lst [])) := same_new no
    refine ⟨.ref l, rfl, l, xs, rfl, .inl (s1.seq hl), _, rfl, by omega, by rw [hxl]; omega, ?_⟩
    rw [Int.toNat_natCast]
    refine for_range (fun i σ H2 => ∃ (ws : List Str) (f : Bool) (x3 x4 : Option V), σ = [some (.ref l), some (.ref o), some (.bl f), x3, x4, none] ∧ Same H H2 ∧ H2 o = some (.lst (ws.map V.str)) ∧ Pr es i ws f)
      ⟨[], false, none, none, rfl, s1, upd_same, ⟨rfl, (fun h => by cases h), Nat.le_refl _, Nat.zero_le _⟩⟩ (fun i σ H2 hi p => ?_) (fun σ H2 p => ?_)
    · obtain ⟨ws, f, x3, x4, rfl, sm, ho, pr⟩ := p
      have hi2 : i < es.length := by omega
      have hle : (0 + (i : Int)) = ((i : Nat) : Int) := Int.zero_add _
      obtain ⟨v, ev, hv⟩ := dpAll_get hd (i := i) (d := es[i].data) (by rw [List.getElem?_map, List.getElem?_eq_getElem hi2] <;> rfl)
      have hv2 : Dp K H2 v es[i].data := same_dp sm (tupOnly_ev _) hv
      have hev : EvOk es[i] := hok _ (List.getElem_mem hi2)
      have hdr := drop_cons hi2
      have hl2 : SqL K H2 l xs := sm.seq hl
      -- event = output[index]
      refine ⟨.ref l, rfl, .int (0 + (i : Int)), rfl, l, xs, _, v, rfl, rfl, hl2, at0 ev, ?_⟩
      have wsl : (ws.map V.str).length < sizeLine := by
        rw [List.length_map]
        have := pr.few
        exact line_lt (by omega)
      have add : ∀ (y : Str) (H3 : Hp), Same H2 H3 → H3 o = some (.lst (ws.map V.str)) → Same H (upd H3 o (.lst (ws.map V.str ++ [V.str y]))) ∧ (upd H3 o (.lst (ws.map V.str ++ [V.str y]))) o = some (.lst ((ws ++ [y]).map V.str)) := fun y H3 s3 _ => by
        refine ⟨fun b u e => ?_, ?_⟩
        · rw [upd_ne (ne_of_none e no)]
          exact s3 _ _ (sm _ _ e)
        · rw [upd_same, List.map_append]
          rfl
      generalize es[i] = e at hv2 hev hdr
      cases e with
      | st n as =>
        obtain ⟨a, b, ys, rfl, ha, hb, hys⟩ := dp_st hv2
        refine ⟨.ref a, rfl, a, _, 0, .str (Str.ofString "start"), rfl, rfl, ha, rfl, rfl, _, rfl, iteB (decide_eq_true rfl) ?_⟩
        -- is_ended = ..
        refine ⟨.ref l, rfl, .int (0 + (i : Int)), rfl, _, _, rfl, rfl, _, rfl, .int (0 + (i : Int)), rfl, _, _, rfl, rfl, _, rfl, l, xs, rfl, hl2, fun p np => ?_⟩
        rw [cut1]
        have s2 : Same H2 (upd H2 p (.lst ((xs.drop (i + 1)).take 1))) := same_new np
        refine ⟨.ref a, rfl, a, _, 1, .str n, rfl, rfl, same_tup s2 ha, rfl, line_ok (by show 2 ≤ 100000; omega), fun t nt => ⟨line_ok (by show 1 ≤ 100000; omega), fun u nu => ?_⟩⟩
        have s3 := s2.trans (same_new (o := .tup [.str (Str.ofString "end"), .str n]) nt)
        have s4 := s3.trans (same_new (o := .lst [.ref t]) nu)
        have hnu : ∀ {b : Addr} {z : HO}, (upd (upd H2 p (.lst ((xs.drop (i + 1)).take 1))) t (.tup [.str (Str.ofString "end"), .str n])) b = some z → b ≠ u := fun e => ne_of_none e nu
        have hp : (upd (upd (upd H2 p (.lst ((xs.drop (i + 1)).take 1))) t (.tup [.str (Str.ofString "end"), .str n])) u (.lst [.ref t])) p = some (.lst ((xs.drop (i + 1)).take 1)) := ((same_new nt).trans (same_new nu)) _ _ upd_same
        have ht : (upd (upd (upd H2 p (.lst ((xs.drop (i + 1)).take 1))) t (.tup [.str (Str.ofString "end"), .str n])) u (.lst [.ref t])) t = some (.tup [.str (Str.ofString "end"), .str n]) := (same_new nu) _ _ upd_same
        have hda := dpAll_take 1 (dpAll_drop (i + 1) hd)
        rw [← List.map_drop, ← List.map_take] at hda
        have hda4 := dpAll_keep (Keep.same (sm.trans s4)) _ _ (tupOnly_evs _) hda
        refine ⟨.list (((es.drop (i + 1)).take 1).map Ev.data), .list [(Ev.en n).data], .lst (.inl (.inl hp)) hda4, .lst (.inl (.inl upd_same)) (.cons (.tup (.inl (.inl ht)) (.cons (.str _) (.cons (.str _) .nil))) .nil), shaped_take (fun e he => hok e (List.mem_of_mem_drop he)), shaped_one (show EvOk (.en n) from hev.1), ?_⟩
        rw [nextEnd_eqv]
        -- words.append(..)
        have hda5 : Dp K _ (.ref a) (Ev.st n as).data := same_dp s4 (tupOnly_ev _) hv2
        refine ⟨.ref o, rfl, .inl ⟨rfl, _, .inl (.inl (s4 _ _ ho))⟩, .ref a, rfl, .ref a, n, as, rfl, hda5, hev, fun y H5 s5 ey => ?_⟩
        have hf : f = false := by
          cases f with
          | false => rfl
          | true =>
            obtain ⟨m, r, e⟩ := pr.nx rfl
            rw [hdr] at e
            cases e
        subst hf
        have hyl : y.length ≤ 8200 := by rw [← tl_len, ey]; exact tagW_len hev
        have ho5 := s5 _ _ (s4 _ _ ho)
        refine ⟨_, rfl, _, rfl, ?_⟩
        cases hne : nextEnd n (es.drop (i + 1)) with
        | true =>
          refine iteT ⟨_, _, rfl, rfl, line_ok (by show y.length + 2 ≤ 100000; omega), o, _, _, rfl, rfl, ho5, wsl, ?_⟩
          obtain ⟨g1, g2⟩ := add (y ++ Str.ofString "/>") H5 (s4.trans s5) ho5
          refine ⟨_, true, _, _, rfl, g1, g2, pr.add (by rw [len_app]; show y.length + 2 ≤ 9000; omega) ?_ fun _ => nextEnd_true hne⟩
          rw [hdr, printed_st, hne, tl_app, ey, List.append_assoc]
          rfl
        | false =>
          refine iteF ⟨_, _, rfl, rfl, line_ok (by show y.length + 1 ≤ 100000; omega), o, _, _, rfl, rfl, ho5, wsl, ?_⟩
          obtain ⟨g1, g2⟩ := add (y ++ Str.ofString ">") H5 (s4.trans s5) ho5
          refine ⟨_, false, _, _, rfl, g1, g2, pr.add (by rw [len_app]; show y.length + 1 ≤ 9000; omega) ?_ fun h => by cases h⟩
          rw [hdr, printed_st, hne, tl_app, ey, List.append_assoc]
          rfl
      | en n =>
        obtain ⟨a, rfl, ha⟩ := dp_pair hv2
        refine ⟨.ref a, rfl, a, _, 0, .str (Str.ofString "end"), rfl, rfl, ha, rfl, rfl, _, rfl, iteN (decide_eq_false (by decide +kernel)) ?_⟩
        refine ⟨.ref a, rfl, a, _, 0, .str (Str.ofString "end"), rfl, rfl, ha, rfl, rfl, _, rfl, iteN (by rw [decide_eq_true rfl] <;> rfl) ?_⟩
        refine ⟨.bl f, rfl, f, rfl, ?_⟩
        cases f with
        | true =>
          refine iteT ⟨ws, false, _, _, rfl, sm, ho, pr.pass ?_ fun h => by cases h⟩
          rw [hdr]
          rfl
        | false =>
          refine iteF ⟨.ref o, rfl, .inl ⟨rfl, _, .inl (.inl ho)⟩, .ref a, rfl, a, _, 1, .str n, rfl, rfl, ha, rfl, _, _, rfl, rfl, line_ok (by show 2 + n.length ≤ 100000; have := hev.1; omega), _, _, rfl, rfl, line_ok (by rw [len_app]; show 2 + n.length + 1 ≤ 100000; have := hev.1; omega), o, _, _, rfl, rfl, ho, wsl, ?_⟩
          obtain ⟨g1, g2⟩ := add (Str.ofString "</" ++ n ++ Str.ofString ">") H2 (Same.refl _) ho
          refine ⟨_, false, _, _, rfl, g1, g2, pr.add (by rw [len_app, len_app]; show 2 + n.length + 1 ≤ 9000; have := hev.1; omega) ?_ fun h => by cases h⟩
          rw [hdr, tl_app, tl_app]
          have e1 : tl (Str.ofString "</") = [60, 47] := rfl
          have e2 : tl (Str.ofString ">") = [62] := rfl
          rw [e1, e2]
          simp [printedF]
      | ch n =>
        obtain ⟨a, rfl, ha⟩ := dp_pair hv2
        have hf : f = false := by
          cases f with
          | false => rfl
          | true =>
            obtain ⟨m, r, e⟩ := pr.nx rfl
            rw [hdr] at e
            cases e
        subst hf
        refine ⟨.ref a, rfl, a, _, 0, .str (Str.ofString "char"), rfl, rfl, ha, rfl, rfl, _, rfl, iteN (decide_eq_false (by decide +kernel)) ?_⟩
        refine ⟨.ref a, rfl, a, _, 0, .str (Str.ofString "char"), rfl, rfl, ha, rfl, rfl, _, rfl, iteB (by rw [decide_eq_false (by decide +kernel)] <;> rfl) ?_⟩
        refine ⟨.ref o, rfl, .inl ⟨rfl, _, .inl (.inl ho)⟩, .ref a, rfl, a, _, 1, .str n, rfl, rfl, ha, rfl, n, rfl, by have := hev.1; omega, fun y H5 s5 ey => ⟨o, _, _, rfl, rfl, s5 _ _ ho, wsl, ?_⟩⟩
        obtain ⟨g1, g2⟩ := add y H5 s5 (s5 _ _ ho)
        refine ⟨_, false, _, _, rfl, g1, g2, pr.add ?_ ?_ fun h => by cases h⟩
        · rw [← tl_len, ey]
          have h1 := words_len false (tl n)
          have h2 := tl_len n
          have h3 := hev.1
          omega
        · rw [hdr, ey]
          rfl
      | sg n =>
        obtain ⟨a, rfl, ha⟩ := dp_pair hv2
        have hf : f = false := by
          cases f with
          | false => rfl
          | true =>
            obtain ⟨m, r, e⟩ := pr.nx rfl
            rw [hdr] at e
            cases e
        subst hf
        refine ⟨.ref a, rfl, a, _, 0, .str (Str.ofString "signs"), rfl, rfl, ha, rfl, rfl, _, rfl, iteN (decide_eq_false (by decide +kernel)) ?_⟩
        refine ⟨.ref a, rfl, a, _, 0, .str (Str.ofString "signs"), rfl, rfl, ha, rfl, rfl, _, rfl, iteB (by rw [decide_eq_false (by decide +kernel)] <;> rfl) ?_⟩
        refine ⟨.ref o, rfl, .inl ⟨rfl, _, .inl (.inl ho)⟩, .ref a, rfl, a, _, 1, .str n, rfl, rfl, ha, rfl, n, rfl, by have := hev.1; omega, fun y H5 s5 ey => ⟨o, _, _, rfl, rfl, s5 _ _ ho, wsl, ?_⟩⟩
        obtain ⟨g1, g2⟩ := add y H5 s5 (s5 _ _ ho)
        refine ⟨_, false, _, _, rfl, g1, g2, pr.add ?_ ?_ fun h => by cases h⟩
        · rw [← tl_len, ey]
          have h1 := words_len false (tl n)
          have h2 := tl_len n
          have h3 := hev.1
          omega
        · rw [hdr, ey]
          rfl
    · obtain ⟨ws, f, x3, x4, rfl, sm, ho, pr⟩ := p
      have hall : es.drop xs.length = [] := List.drop_eq_nil_of_le (by omega)
      have e0 : (ws.map tl).flatten = printed es := by
        have h1 := pr.eq
        rw [hall] at h1
        have h2 : printedF f [] = [] := by cases f <;> rfl
        rw [h2, List.append_nil] at h1
        exact h1
      have hsum : (ws.map (·.length)).sum ≤ 9000 * xs.length := pr.sum
      refine ⟨⟨_, rfl⟩, .ref o, rfl, _, o, ws, rfl, rfl, .inl (.inl (.inl ho)), ?_, _, rfl, fun D nD => ?_⟩
      · have h3 : ws.length * (Str.ofString "").length = 0 := Nat.mul_zero _
        omega
      · have ez : tl (Txt.join (Str.ofString "") ws) = printed es := by rw [tl_join0, e0]
        have ezl : (Txt.join (Str.ofString "") ws).length ≤ 360000 := by
          rw [← tl_len, tl_join0]
          have : ∀ l : List Str, ((l.map tl).flatten).length = (l.map (·.length)).sum := by
            intro l
            induction l with
            | nil => rfl
            | cons x r ih => simp [ih, tl_len]
          rw [this]
          omega
        refine ord_turn (by show 5 < 6; decide) (Nat.lt_of_le_of_lt ezl (by decide)) ?_
        rw [ez]
        exact q D _ (sm.trans (same_new nD)) upd_same
end
end K62
namespace K62
open PySem PySem.Spec PyProof.Rows L2
theorem at1 {α : Type} {xs : List α} {i : Nat} {v : α} (h : xs[i + 1]? = some v) : atI xs (0 + (i : Int) + 1) = some v := by
  have e : (0 + (i : Int) + 1) = ((i + 1 : Nat) : Int) := by omega
  rw [e]
  exact atI_nat h
section
variable {P : Program} {w : World} {K : PySem.W.Frag} {mg : Str → Option Value} {base : Heap}
structure Pl (es : List Ev) (i : Nat) (pt : Str) (f : Bool) : Prop where
  eq : tl pt ++ printedF f (es.drop i) = printed es
  nx : f = true → ∃ n r, es.drop i = .en n :: r
  len : pt.length ≤ 9000 * i
theorem Pl.add {es : List Ev} {i : Nat} {pt y : Str} {f f' : Bool} (p : Pl es i pt f) (hy : y.length ≤ pt.length + 9000) (e : tl pt ++ printedF f (es.drop i) = tl y ++ printedF f' (es.drop (i + 1))) (hn : f' = true → ∃ n r, es.drop (i + 1) = .en n :: r) : Pl es (i + 1) y f' := by
  refine ⟨?_, hn, ?_⟩
  · rw [← p.eq, e]
  · have := p.len
    omega
theorem ok__law_printed (T : Tx K w mg) : FnOk P w K mg base CX0 2 T.d__law_printed.f T.d__law_printed.fd ["row"] (spPrint K) := by
  refine T.d__law_printed.F.ok sc__law_printed (fun vs H Q E h => ?_) (fun cdv A outer s H vs Q E hr h => ?_)
  · obtain ⟨z, n, as, rfl, _⟩ := h
    rfl
  · obtain ⟨l, xs, es, rfl, hl, hd, hlen, hok, q⟩ := h
    have hxl : xs.length = es.length := by rw [dpAll_len hd, List.length_map]
    refine ⟨_, (pss_cons (ps_set (i := 1) sc__law_printed.nd rfl (Or.inl rfl) pe_str)
      (pss_cons (ps_set (i := 2) sc__law_printed.nd rfl (Or.inl rfl) pe_bl)
      (pss_cons (ps_for PassesOwn.never rfl (pi_range1 (by rfl) T.n_range (pa_cons (pe_callB call_len_seq (by rfl) T.n_len (by decide +kernel) (pa_cons (pv 0) pa_nil)) pa_nil)) (pg_name (i := 3) sc__law_printed.nd rfl (Or.inl rfl))
        (pss_cons (ps_set (i := 4) sc__law_printed.nd rfl (Or.inl rfl) (pe_ix ix_list (pv 0) (pv 3) (fun _ _ => rfl)))
        (pss_one (ps_if (pt_val (pv 2))
          (pss_one (ps_set (i := 2) sc__law_printed.nd rfl (Or.inl rfl) pe_bl))
          (pss_one (ps_if (pt_cmpR op_eq (pe_ix ix_tup (pv 4) pe_int (fun _ _ => rfl)) pe_str (nomark _))
            (pss_cons (ps_set (i := 5) sc__law_printed.nd rfl (Or.inl rfl) (pe_join pe_str (pe_lc (own := [("name", 6), ("value", 7)]) (g := gTup K 2 _) (by rfl) sc__law_printed.nd (pi_tup (pe_ix ix_tup (pv 4) pe_int (fun _ _ => rfl))) (blkOk_by (N := ["row", "printed", "passed", "k", "event", "given", "name", "value", "sign"]) (sc := defScope s__law_printed) (by decide +kernel)) (fun _ _ _ _ _ => (pg_tup rfl (pgs_cons (pg_name (i := 6) sc__law_printed.nd rfl (Or.inl rfl)) (pgs_cons (pg_name (i := 7) sc__law_printed.nd rfl (Or.inl rfl)) pgs_nil)))) (fun _ _ _ _ _ => pts_nil) (fun _ _ _ _ _ => (pe_op op_add_str (pe_op op_add_str (pe_op op_add_str (pe_op op_add_str pe_str (pv 6)) pe_str) (pe_call (ok__law_words T) (hr.mono (by decide)) (by rfl) T.d__law_words.g T.d__law_words.F.kp T.d__law_words.b .nil pass0 (pa_cons (pv 7) (pa_cons pe_bl pa_nil)))) pe_str)))))
            (C8.pss_cut (ps_set (i := 2) sc__law_printed.nd rfl (Or.inl rfl) (pe_and (pe_cmpR op_lt (pe_op op_add (pv 3) pe_int) (pe_callB call_len_seq (by rfl) T.n_len (by decide +kernel) (pa_cons (pv 0) pa_nil)) (nomark _)) (pe_one (pe_cmpR (op_eqD hr.units) (pe_ix ix_list (pv 0) (pe_op op_add (pv 3) pe_int) (fun _ _ => rfl)) (pe_tup (pa_cons pe_str (pa_cons (pe_ix ix_tup (pv 4) pe_int (fun _ _ => rfl)) pa_nil))) (nomark _)))))
            (pss_one (ps_set (i := 1) sc__law_printed.nd rfl (Or.inl rfl) (pe_op op_add_str (pe_op op_add_str (pe_op op_add_str (pe_op op_add_str (pv 1) pe_str) (pe_ix ix_tup (pv 4) pe_int (fun _ _ => rfl))) (pv 5)) (pe_ifExp (pt_val (pv 2)) pe_str pe_str))))))
            (pss_one (ps_if (pt_cmpR op_eq (pe_ix ix_tup (pv 4) pe_int (fun _ _ => rfl)) pe_str (nomark _))
              (pss_one (ps_set (i := 1) sc__law_printed.nd rfl (Or.inl rfl) (pe_op op_add_str (pe_op op_add_str (pe_op op_add_str (pv 1) pe_str) (pe_ix ix_tup (pv 4) pe_int (fun _ _ => rfl))) pe_str)))
              (pss_one (ps_set (i := 1) sc__law_printed.nd rfl (Or.inl rfl) (pe_op op_add_str (pv 1) (pe_call (ok__law_words T) (hr.mono (by decide)) (by rfl) T.d__law_words.g T.d__law_words.F.kp T.d__law_words.b .nil pass0 (pa_cons (pe_ix ix_tup (pv 4) pe_int (fun _ _ => rfl)) (pa_cons pe_bl pa_nil))))))))))))))
      (pss_one (ps_ret (pe_lc (own := [("sign", 8)]) (g := gName 8) (by rfl) sc__law_printed.nd (pi_str (pv 1)) (blkOk_by (N := ["row", "printed", "passed", "k", "event", "given", "name", "value", "sign"]) (sc := defScope s__law_printed) (by decide +kernel)) (fun _ _ _ _ _ => (pg_name (i := 8) sc__law_printed.nd rfl (Or.inl rfl))) (fun _ _ _ _ _ => pts_nil) (fun _ _ _ _ _ => (pe_callB call_ord (by rfl) T.n_ord (by decide +kernel) (pa_cons (pv 8) pa_nil))))))))), ?_⟩
    refine ⟨.ref l, rfl, l, xs, rfl, .inl hl, _, rfl, by omega, by rw [hxl]; omega, ?_⟩
    rw [Int.toNat_natCast]
    refine for_range (fun i σ H2 => ∃ (pt : Str) (f : Bool) (x3 x4 x5 : Option V), σ = [some (.ref l), some (.str pt), some (.bl f), x3, x4, x5, none, none, none] ∧ Same H H2 ∧ Pl es i pt f)
      ⟨_, false, none, none, none, rfl, Same.refl _, ⟨rfl, (fun h => by cases h), Nat.le_refl _⟩⟩ (fun i σ H2 hi p => ?_) (fun σ H2 p => ?_)
    · obtain ⟨pt, f, x3, x4, x5, rfl, sm, pr⟩ := p
      have hi2 : i < es.length := by omega
      obtain ⟨v, ev, hv⟩ := dpAll_get hd (i := i) (d := es[i].data) (by rw [List.getElem?_map, List.getElem?_eq_getElem hi2] <;> rfl)
      have hv2 : Dp K H2 v es[i].data := same_dp sm (tupOnly_ev _) hv
      have hev : EvOk es[i] := hok _ (List.getElem_mem hi2)
      have hdr := drop_cons hi2
      have hl2 : SqL K H2 l xs := sm.seq hl
      have hpl : pt.length ≤ 360000 := by
        have := pr.len
        omega
      have line_ok : ∀ {n : Nat}, n ≤ 1000000 → n ≤ sizeLine := fun h => Nat.le_trans h (by decide)
      refine ⟨.ref l, rfl, .int (0 + (i : Int)), rfl, l, xs, _, v, rfl, rfl, hl2, at0 ev, ?_⟩
      refine ⟨.bl f, rfl, f, rfl, ?_⟩
      cases f with
      | true =>
        obtain ⟨m, r, e⟩ := pr.nx rfl
        refine iteT ⟨pt, false, _, _, _, rfl, sm, pr.add (by omega) ?_ fun h => by cases h⟩
        rw [hdr]
        rfl
      | false =>
      refine iteF ?_
      generalize es[i] = e at hv2 hev hdr
      cases e with
      | st n as =>
        obtain ⟨a, b, ys, rfl, ha, hb, hys⟩ := dp_st hv2
        obtain ⟨hn, hal, has⟩ := id hev
        have hyl : ys.length = as.length := by rw [dpAll_len hys, List.length_map]
        refine ⟨.ref a, rfl, a, _, 0, .str (Str.ofString "start"), rfl, rfl, ha, rfl, rfl, _, rfl, iteB (decide_eq_true rfl) ?_⟩
        -- given = ..
        refine ⟨⟨_, rfl⟩, .ref a, rfl, a, _, 2, .ref b, rfl, rfl, ha, rfl, b, rfl, ⟨ys, hb⟩, fun D nD => ?_⟩
        refine lc_tup (xs := ys) (fun j H3 => Same H2 H3 ∧ ∃ ws : List Str, H3 D = some (.lst (ws.map V.str)) ∧ (ws.map tl).flatten = ((as.take j).map attrW).flatten ∧ ws.length = j ∧ (ws.map (·.length)).sum ≤ 800 * j)
          ⟨same_new nD, [], upd_same, rfl, rfl, Nat.zero_le _⟩ (fun j H3 _ p => same_tup p.1 hb) (fun j x H3 hx p => ?_) (fun H3 p => ?_)
        · obtain ⟨s3, ws, hD, ew, hwl, hws⟩ := p
          have hj : j < ys.length := (List.getElem?_eq_some_iff.mp hx).1
          have hj2 : j < as.length := by omega
          obtain ⟨x', ex, hx2⟩ := dpAll_get hys (i := j) (d := dPair as[j]) (by rw [List.getElem?_map, List.getElem?_eq_getElem hj2] <;> rfl)
          rw [hx] at ex
          cases ex
          obtain ⟨c, rfl, hc⟩ := dp_pair hx2
          have hb1 := has _ (List.getElem_mem hj2)
          have h11 := hb1.1.1
          have h21 := hb1.2.1
          refine ⟨c, _, rfl, same_tup s3 hc, rfl, .str as[j].1, [.str as[j].2], rfl, .str as[j].2, [], rfl, rfl, rfl, yes_of ?_⟩
          refine ⟨.str as[j].1, rfl, _, _, rfl, rfl, line_ok (by show 1 + as[j].1.length ≤ 1000000; omega), _, _, rfl, rfl, line_ok (by rw [len_app]; show 1 + as[j].1.length + 2 ≤ 1000000; omega), ?_⟩
          refine ⟨.str as[j].2, rfl, as[j].2, true, rfl, by omega, fun y H4 s4 ey => ?_⟩
          have hyl2 : y.length ≤ 600 := by
            have h1 := tl_len y
            rw [ey] at h1
            have h2 := words_len true (tl as[j].2)
            have h3 := tl_len as[j].2
            omega
          have hD4 := s4 _ _ hD
          refine ⟨_, _, rfl, rfl, line_ok (by rw [len_app, len_app]; show 1 + as[j].1.length + 2 + y.length ≤ 1000000; omega), _, _, rfl, rfl, line_ok (by rw [len_app, len_app, len_app]; show 1 + as[j].1.length + 2 + y.length + 1 ≤ 1000000; omega), _, hD4, ?_, ?_⟩
          · rw [List.length_map]
            exact line_lt (by omega)
          · refine ⟨fun b u e => ?_, ws ++ [_], by rw [upd_same, List.map_append]; rfl, ?_, by rw [List.length_append, hwl]; rfl, ?_⟩
            · rw [upd_ne (ne_of_none e nD)]
              exact s4 _ _ (s3 _ _ e)
            · have e1 : tl (Str.ofString " ") = [32] := rfl
              have e2 : tl (Str.ofString "=\"") = [61, 34] := rfl
              have e3 : tl (Str.ofString "\"") = [34] := rfl
              rw [List.map_append, List.flatten_append, ew, List.take_add_one, List.getElem?_eq_getElem hj2, List.map_append, List.flatten_append]
              simp [attrW, tl_app, e1, e2, e3, ey]
            · rw [List.map_append, List.sum_append]
              have h9 : (Str.ofString " " ++ as[j].1 ++ Str.ofString "=\"" ++ y ++ Str.ofString "\"").length ≤ 800 := by
                rw [len_app, len_app, len_app, len_app]
                show 1 + as[j].1.length + 2 + y.length + 1 ≤ 800
                omega
              simp only [List.map_cons, List.map_nil, List.sum_cons, List.sum_nil]
              omega
        · obtain ⟨s3, ws, hD, ew, hwl, hws⟩ := p
          have eg : tl (Txt.join (Str.ofString "") ws) = (as.map attrW).flatten := by rw [tl_join0, ew, hyl, List.take_length]
          have egl : (Txt.join (Str.ofString "") ws).length ≤ 8000 := by
            rw [← tl_len, eg]
            have := attrs_len (as := as) fun p hp => ⟨(has p hp).1.1, (has p hp).2.1⟩
            omega
          refine ⟨_, D, ws, rfl, rfl, .inl (.inl (.inl hD)), ?_, ?_⟩
          · have h3 : ws.length * (Str.ofString "").length = 0 := Nat.mul_zero _
            omega
          -- passed = ..
          refine ⟨fun σ H4 => σ = [some (.ref l), some (.str pt), some (.bl (nextEnd n (es.drop (i + 1)))), some (.int (0 + (i : Int))), some (.ref a), some (.str (Txt.join (Str.ofString "") ws)), none, none, none] ∧ Same H3 H4, ?_, ?_⟩
          · refine ⟨.int (0 + (i : Int)), rfl, _, _, rfl, rfl, .ref l, rfl, l, xs, rfl, .inl (s3.seq hl2), _, _, rfl, rfl, _, rfl, ?_⟩
            by_cases hlt : i + 1 < es.length
            · refine iteB (decide_eq_true (by rw [hxl]; omega)) ?_
              obtain ⟨v', ev', hv'⟩ := dpAll_get hd (i := i + 1) (d := es[i + 1].data) (by rw [List.getElem?_map, List.getElem?_eq_getElem hlt] <;> rfl)
              have hv3 : Dp K H3 v' es[i + 1].data := same_dp (sm.trans s3) (tupOnly_ev _) hv'
              refine ⟨.ref l, rfl, .int (0 + (i : Int)), rfl, _, _, rfl, rfl, l, xs, _, v', rfl, rfl, s3.seq hl2, at1 ev', .ref a, rfl, a, _, 1, .str n, rfl, rfl, same_tup s3 ha, rfl, line_ok (by show 2 ≤ 1000000; omega), fun t nt => ?_⟩
              refine ⟨es[i + 1].data, (Ev.en n).data, same_dp (same_new nt) (tupOnly_ev _) hv3, .tup (.inl (.inl upd_same)) (.cons (.str _) (.cons (.str _) .nil)), shaped_ev (hok _ (List.getElem_mem hlt)), shaped_ev (show EvOk (.en n) from hn), ?_⟩
              rw [eqv_en]
              refine ⟨?_, same_new nt⟩
              rw [drop_cons hlt]
              rfl
            · refine iteN (decide_eq_false (by rw [hxl]; omega)) ?_
              refine ⟨?_, Same.refl _⟩
              rw [List.drop_eq_nil_of_le (by omega)]
              rfl
          · rintro σ H4 ⟨rfl, s4⟩
            have ha4 := same_tup (s3.trans s4) ha
            have hn1 := hn.1
            refine ⟨.str pt, rfl, _, _, rfl, rfl, line_ok (by show pt.length + 1 ≤ 1000000; omega), .ref a, rfl, a, _, 1, .str n, rfl, rfl, ha4, rfl, _, _, rfl, rfl, line_ok (by rw [len_app]; show pt.length + 1 + n.length ≤ 1000000; omega), _, rfl, _, _, rfl, rfl, line_ok (by rw [len_app, len_app]; show pt.length + 1 + n.length + _ ≤ 1000000; omega), _, rfl, _, rfl, ?_⟩
            have e1 : tl (Str.ofString "<") = [60] := rfl
            have e2 : tl (Str.ofString "/>") = [47, 62] := rfl
            have e3 : tl (Str.ofString ">") = [62] := rfl
            cases hne : nextEnd n (es.drop (i + 1)) with
            | true =>
              refine iteT ⟨_, _, rfl, rfl, line_ok (by rw [len_app, len_app, len_app]; show pt.length + 1 + n.length + _ + 2 ≤ 1000000; omega), ?_⟩
              refine ⟨_, true, _, _, _, rfl, sm.trans (s3.trans s4), pr.add (by rw [len_app, len_app, len_app, len_app]; show pt.length + 1 + n.length + _ + 2 ≤ pt.length + 9000; omega) ?_ fun _ => nextEnd_true hne⟩
              rw [hdr, printed_st, hne, tl_app, tl_app, tl_app, tl_app, e1, e2, eg]
              simp [tagW]
            | false =>
              refine iteF ⟨_, _, rfl, rfl, line_ok (by rw [len_app, len_app, len_app]; show pt.length + 1 + n.length + _ + 1 ≤ 1000000; omega), ?_⟩
              refine ⟨_, false, _, _, _, rfl, sm.trans (s3.trans s4), pr.add (by rw [len_app, len_app, len_app, len_app]; show pt.length + 1 + n.length + _ + 1 ≤ pt.length + 9000; omega) ?_ fun h => by cases h⟩
              rw [hdr, printed_st, hne, tl_app, tl_app, tl_app, tl_app, e1, e3, eg]
              simp [tagW]
      | en n =>
        obtain ⟨a, rfl, ha⟩ := dp_pair hv2
        have hn1 := hev.1
        refine ⟨.ref a, rfl, a, _, 0, .str (Str.ofString "end"), rfl, rfl, ha, rfl, rfl, _, rfl, iteN (decide_eq_false (by decide +kernel)) ?_⟩
        refine ⟨.ref a, rfl, a, _, 0, .str (Str.ofString "end"), rfl, rfl, ha, rfl, rfl, _, rfl, iteB (decide_eq_true rfl) ?_⟩
        refine ⟨.str pt, rfl, _, _, rfl, rfl, line_ok (by show pt.length + 2 ≤ 1000000; omega), .ref a, rfl, a, _, 1, .str n, rfl, rfl, ha, rfl, _, _, rfl, rfl, line_ok (by rw [len_app]; show pt.length + 2 + n.length ≤ 1000000; omega), _, _, rfl, rfl, line_ok (by rw [len_app, len_app]; show pt.length + 2 + n.length + 1 ≤ 1000000; omega), ?_⟩
        refine ⟨_, false, _, _, _, rfl, sm, pr.add (by rw [len_app, len_app, len_app]; show pt.length + 2 + n.length + 1 ≤ pt.length + 9000; omega) ?_ fun h => by cases h⟩
        have e1 : tl (Str.ofString "</") = [60, 47] := rfl
        have e2 : tl (Str.ofString ">") = [62] := rfl
        rw [hdr, tl_app, tl_app, tl_app, e1, e2]
        simp [printedF]
      | ch n =>
        obtain ⟨a, rfl, ha⟩ := dp_pair hv2
        have hn1 := hev.1
        refine ⟨.ref a, rfl, a, _, 0, .str (Str.ofString "char"), rfl, rfl, ha, rfl, rfl, _, rfl, iteN (decide_eq_false (by decide +kernel)) ?_⟩
        refine ⟨.ref a, rfl, a, _, 0, .str (Str.ofString "char"), rfl, rfl, ha, rfl, rfl, _, rfl, iteN (decide_eq_false (by decide +kernel)) ?_⟩
        refine ⟨.str pt, rfl, .ref a, rfl, a, _, 1, .str n, rfl, rfl, ha, rfl, n, false, rfl, by omega, fun y H5 s5 ey => ?_⟩
        have hyl : y.length ≤ 600 := by
          rw [← tl_len, ey]
          have h1 := words_len false (tl n)
          have h2 := tl_len n
          omega
        refine ⟨_, _, rfl, rfl, line_ok (by omega), ?_⟩
        refine ⟨_, false, _, _, _, rfl, sm.trans s5, pr.add (by rw [len_app]; omega) ?_ fun h => by cases h⟩
        rw [hdr, tl_app, ey, List.append_assoc]
        rfl
      | sg n =>
        obtain ⟨a, rfl, ha⟩ := dp_pair hv2
        have hn1 := hev.1
        refine ⟨.ref a, rfl, a, _, 0, .str (Str.ofString "signs"), rfl, rfl, ha, rfl, rfl, _, rfl, iteN (decide_eq_false (by decide +kernel)) ?_⟩
        refine ⟨.ref a, rfl, a, _, 0, .str (Str.ofString "signs"), rfl, rfl, ha, rfl, rfl, _, rfl, iteN (decide_eq_false (by decide +kernel)) ?_⟩
        refine ⟨.str pt, rfl, .ref a, rfl, a, _, 1, .str n, rfl, rfl, ha, rfl, n, false, rfl, by omega, fun y H5 s5 ey => ?_⟩
        have hyl : y.length ≤ 600 := by
          rw [← tl_len, ey]
          have h1 := words_len false (tl n)
          have h2 := tl_len n
          omega
        refine ⟨_, _, rfl, rfl, line_ok (by omega), ?_⟩
        refine ⟨_, false, _, _, _, rfl, sm.trans s5, pr.add (by rw [len_app]; omega) ?_ fun h => by cases h⟩
        rw [hdr, tl_app, ey, List.append_assoc]
        rfl
    · obtain ⟨pt, f, x3, x4, x5, rfl, sm, pr⟩ := p
      have hall : es.drop xs.length = [] := List.drop_eq_nil_of_le (by omega)
      have ez : tl pt = printed es := by
        have h1 := pr.eq
        rw [hall] at h1
        have h2 : printedF f [] = [] := by cases f <;> rfl
        rw [h2, List.append_nil] at h1
        exact h1
      have hpl := pr.len
      refine ⟨.str pt, rfl, pt, rfl, fun D nD => ?_⟩
      refine ord_turn (by show 8 < 9; decide) (Nat.lt_of_le_of_lt (show pt.length ≤ 360000 by omega) (by decide)) ?_
      rw [ez]
      exact q D _ (sm.trans (same_new nD)) upd_same
end
end K62
namespace K62
open PySem PySem.Spec PyProof.Rows L2
def TapeOk (H : Hp) (t s : Addr) : Prop := ∃ (ns : List Int) (r i : Int), H t = some (.lst [.int r, .ref s, .int i]) ∧ 0 ≤ r ∧ 0 ≤ i ∧ s ≠ t ∧ H s = some (.lst (ns.map V.int))
theorem TapeOk.ext {H H' : Hp} {t s : Addr} (k : TapeOk H t s) (h : ∀ b o, H b = some o → H' b = some o) : TapeOk H' t s := by
  obtain ⟨ns, r, i, h1, h2, h3, h4, h5⟩ := k
  exact ⟨ns, r, i, h _ _ h1, h2, h3, h4, h _ _ h5⟩
theorem TapeOk.new {H : Hp} {t s p : Addr} {o : HO} (k : TapeOk H t s) (h : H p = none) : TapeOk (upd H p o) t s := k.ext (same_new h)
theorem TapeOk.ne {H : Hp} {t s p : Addr} (k : TapeOk H t s) (h : H p = none) : p ≠ t ∧ p ≠ s := by
  obtain ⟨ns, r, i, h1, _, _, _, h2⟩ := k
  exact ⟨(ne_of_none h1 h).symm, (ne_of_none h2 h).symm⟩
theorem TapeOk.keep {H H' : Hp} {t s : Addr} (k : TapeOk H t s) (e : Ext t H H') : Keep H H' := by
  obtain ⟨ns, r, i, h1, _⟩ := k
  exact e.keep h1
/-- an object that is not the tape's is stored -/
theorem TapeOk.put {H : Hp} {t s p : Addr} {o : HO} (k : TapeOk H t s) (hp : p ≠ t ∧ p ≠ s) : TapeOk (upd H p o) t s := by
  obtain ⟨ns, r, i, h1, h2, h3, h4, h5⟩ := k
  refine ⟨ns, r, i, ?_, h2, h3, h4, ?_⟩
  · rw [upd_ne (Ne.symm hp.1)]
    exact h1
  · rw [upd_ne (Ne.symm hp.2)]
    exact h5
/-- new before is new ahead of it -/
theorem Ext.back {t p : Addr} {H H' : Hp} (e : Ext t H H') (h : H' p = none) (hp : p ≠ t) : H p = none := by
  cases q : H p with
  | none => rfl
  | some o =>
    rw [e p o hp q] at h
    cases h
/-- a store to what was not there -/
theorem Ext.put {t p : Addr} {H H' : Hp} {o : HO} (e : Ext t H H') (h : H p = none) : Ext t H (upd H' p o) := fun b u hb q => by
  rw [upd_ne (ne_of_none q h)]
  exact e b u hb q
section
variable {P : Program} {w : World} {K : PySem.W.Frag} {mg : Str → Option Value} {base : Heap}
def spDraw : Sp := fun vs H Q _ => ∃ (t s : Addr) (m : Int), vs = [.ref t, .int m] ∧ 0 < m ∧ m < 1073741824 ∧ TapeOk H t s ∧ ∀ d H', 0 ≤ d → d < m → Ext t H H' → TapeOk H' t s → Q (.int d) H'
theorem ok__law_draw (T : Tx K w mg) : FnOk P w K mg base CX0 1 T.d__law_draw.f T.d__law_draw.fd ["tape", "many"] spDraw := by
  refine T.d__law_draw.F.ok sc__law_draw (fun vs H Q E h => ?_) (fun cdv A outer st H vs Q E hr h => ?_)
  · obtain ⟨z, n, _, rfl, _⟩ := h
    rfl
  · obtain ⟨t, s, m, rfl, hm0, hm1, ⟨ns, r, i, ht, hr0, hi0, hst, hs⟩, q⟩ := h
    refine ⟨_, (C8.pss_cut (ps_if (pt_cmpR op_eq (pe_ix ix_list (pv 0) pe_int (fun _ _ => rfl)) pe_int (nomark _))
        (pss_cons (ps_set (i := 2) sc__law_draw.nd rfl (Or.inl rfl) pe_int)
        (C8.pss_cut (ps_if (pt_cmpR op_lt (pe_ix ix_list (pv 0) pe_int (fun _ _ => rfl)) (pe_callB call_len_seq (by rfl) T.n_len (by decide +kernel) (pa_cons (pe_ix ix_list (pv 0) pe_int (fun _ _ => rfl)) pa_nil)) (nomark _))
          (pss_one (ps_set (i := 2) sc__law_draw.nd rfl (Or.inl rfl) (pe_callB call_abs (by rfl) T.n_abs (by decide +kernel) (pa_cons (pe_callTy call_int1 (by rfl) T.n_int (by decide +kernel) (pa_cons (pe_ix ix_list (pe_ix ix_list (pv 0) pe_int (fun _ _ => rfl)) (pe_ix ix_list (pv 0) pe_int (fun _ _ => rfl)) (fun _ _ => rfl)) pa_nil)) pa_nil))))
          pss_nil)
        (pss_cons (ps_asg (pe_op op_add (pe_ix ix_list (pv 0) pe_int (fun _ _ => rfl)) pe_int) (pg_sub (pv 0) pe_int set_list))
        (pss_cons (ps_asg (pv 2) (pg_sub (pv 0) pe_int set_list))
        (pss_one (ps_if (pt_cmpR op_lt (pv 2) (pe_op op_pow pe_int pe_int) (nomark _))
          (pss_cons (ps_set (i := 3) sc__law_draw.nd rfl (Or.inl rfl) (pe_op op_mod (pe_callTy call_int1 (by rfl) T.n_int (by decide +kernel) (pa_cons (pe_op op_add (pe_op op_add (pe_op op_mul (pv 2) pe_int) (pe_op op_mul (pe_ix ix_list (pv 0) pe_int (fun _ _ => rfl)) pe_int)) pe_int) pa_nil)) pe_int))
          (pss_one (ps_asg (pe_op op_add (pe_op op_mul (pv 3) pe_int) (pe_op op_mod (pe_callTy call_int1 (by rfl) T.n_int (by decide +kernel) (pa_cons (pe_op op_add (pe_op op_mul (pv 3) pe_int) pe_int) pa_nil)) pe_int)) (pg_sub (pv 0) pe_int set_list))))
          pss_nil))))))
        pss_nil)
      (pss_cons (ps_set (i := 4) sc__law_draw.nd rfl (Or.inl rfl) (pe_ix ix_list (pv 0) pe_int (fun _ _ => rfl)))
      (pss_cons (ps_asg (pe_op op_fdivN (pv 4) (pv 1)) (pg_sub (pv 0) pe_int set_list))
      (pss_one (ps_ret (pe_op op_mod (pe_callTy call_int1 (by rfl) T.n_int (by decide +kernel) (pa_cons (pv 4) pa_nil)) (pv 1))))))), ?_⟩
    refine ⟨fun σ H1 => ∃ x2 x3 r' i', σ = [some (.ref t), some (.int m), x2, x3, none] ∧ 0 ≤ r' ∧ 0 ≤ i' ∧ H1 t = some (.lst [.int r', .ref s, .int i']) ∧ Ext t H H1, ?_, ?_⟩
    · refine ⟨.ref t, rfl, t, _, 0, .int r, rfl, rfl, SqL.of ht, rfl, rfl, _, rfl, ite2 (fun e => ?_) (fun e => ?_)⟩
      · -- cell = 0; the next cell
        refine ⟨fun σ H1 => ∃ c : Int, 0 ≤ c ∧ σ = [some (.ref t), some (.int m), some (.int c), none, none] ∧ H1 = H, ?_, ?_⟩
        · refine ⟨.ref t, rfl, t, _, 2, .int i, rfl, rfl, SqL.of ht, rfl, .ref t, rfl, t, _, 1, .ref s, rfl, rfl, SqL.of ht, rfl, s, _, rfl, .inl (SqL.of hs), _, _, rfl, rfl, _, rfl, ite2 (fun e2 => ?_) (fun e2 => ?_)⟩
          · have e3 : i < ((ns.map V.int).length : Int) := of_decide_eq_true e2
            rw [List.length_map] at e3
            obtain ⟨k, rfl⟩ := Int.eq_ofNat_of_zero_le hi0
            have hk : k < ns.length := by omega
            have g1 : (ns.map V.int)[k]? = some (.int ns[k]) := by
              rw [List.getElem?_map, List.getElem?_eq_getElem hk] <;> rfl
            refine ⟨.ref t, rfl, t, _, 1, .ref s, rfl, rfl, SqL.of ht, rfl, .ref t, rfl, t, _, 2, .int (k : Int), rfl, rfl, SqL.of ht, rfl, s, _, _, _, rfl, rfl, SqL.of hs, atI_nat g1, .inl ⟨_, rfl, _, rfl, ?_⟩⟩
            refine ⟨_, ?_, rfl, rfl⟩
            split <;> omega
          · exact ⟨0, Int.le_refl _, rfl, rfl⟩
        · rintro σ H1 ⟨c, hc, rfl, rfl⟩
          refine ⟨.ref t, rfl, t, _, 2, .int i, rfl, rfl, SqL.of ht, rfl, _, _, rfl, rfl, .ref t, rfl, t, _, 2, 2, rfl, rfl, ht, rfl, ?_⟩
          refine ⟨.int c, rfl, .ref t, rfl, t, _, 0, 0, rfl, rfl, upd_same, rfl, ?_⟩
          refine ⟨.int c, rfl, _, _, rfl, rfl, ⟨by decide, by decide, by decide⟩, _, _, rfl, rfl, _, rfl, ite2 (fun e2 => ?_) (fun e2 => ?_)⟩
          · refine ⟨.int c, rfl, _, _, rfl, rfl, .inr ⟨by decide, by decide⟩, .ref t, rfl, t, _, 2, .int (i + 1), rfl, rfl, SqL.of upd_same, rfl, _, _, rfl, rfl, .inr ⟨by decide, by decide⟩, _, _, rfl, rfl, _, _, rfl, rfl, .inl ⟨_, rfl, _, _, rfl, rfl, (show (0 : Int) < 2147483647 by decide), ?_⟩⟩
            have hmx : 0 ≤ (c * 48271 + (i + 1) * 69621 + 12345) % 2147483647 := Int.emod_nonneg _ (by decide)
            refine ⟨_, rfl, _, _, rfl, rfl, .inr ⟨by decide, by decide⟩, _, rfl, _, _, rfl, rfl, .inr ⟨by decide, by decide⟩, _, _, rfl, rfl, .inl ⟨_, rfl, _, _, rfl, rfl, (show (0 : Int) < 2147483629 by decide), _, _, rfl, rfl, .ref t, rfl, t, _, 0, 0, rfl, rfl, upd_same, rfl, ?_⟩⟩
            refine ⟨_, _, _, i + 1, rfl, ?_, by omega, upd_same, (Ext.set.trans Ext.set).trans Ext.set⟩
            show (0 : Int) ≤ ((c * 48271 + (i + 1) * 69621 + 12345) % 2147483647) * 2147483629 + (((c * 48271 + (i + 1) * 69621 + 12345) % 2147483647) * 16807 + 11) % 2147483629
            generalize (c * 48271 + (i + 1) * 69621 + 12345) % 2147483647 = mx at hmx ⊢
            have h1 : 0 ≤ (mx * 16807 + 11) % 2147483629 := Int.emod_nonneg _ (by decide)
            have h2 : 0 ≤ mx * 2147483629 := Int.mul_nonneg hmx (by decide)
            omega
          · exact ⟨_, _, c, i + 1, rfl, hc, by omega, upd_same, Ext.set.trans Ext.set⟩
      · exact ⟨_, _, r, i, rfl, hr0, hi0, ht, Ext.refl _ _⟩
    · rintro σ H1 ⟨x2, x3, r', i', rfl, hr', hi', ht1, ext⟩
      refine ⟨.ref t, rfl, t, _, 0, .int r', rfl, rfl, SqL.of ht1, rfl, ?_⟩
      refine ⟨.int r', rfl, .int m, rfl, _, _, rfl, rfl, ⟨by omega, by omega⟩, .ref t, rfl, t, _, 0, 0, rfl, rfl, ht1, rfl, ?_⟩
      refine ⟨.int r', rfl, .inl ⟨_, rfl, .int m, rfl, _, _, rfl, rfl, hm0, ?_⟩⟩
      have hs1 := ext s _ hst hs
      refine q _ _ (Int.emod_nonneg _ (by omega)) (Int.emod_lt_of_pos _ hm0) (ext.trans Ext.set) ⟨ns, _, i', upd_same, ?_, hi', hst, ?_⟩
      · rw [Int.fdiv_eq_ediv_of_nonneg _ (by omega)]
        exact Int.ediv_nonneg hr' (by omega)
      · rw [upd_ne hst]
        exact hs1
def spPick (K : PySem.W.Frag) : Sp := fun vs H Q _ => ∃ (t s l : Addr) (xs : List V), vs = [.ref t, .ref l] ∧ SqL K H l xs ∧ 0 < xs.length ∧ xs.length < 1000 ∧ l ≠ t ∧ TapeOk H t s ∧ ∀ x H', x ∈ xs → Ext t H H' → TapeOk H' t s → Q x H'
theorem ok__law_pick (T : Tx K w mg) : FnOk P w K mg base CX0 2 T.d__law_pick.f T.d__law_pick.fd ["tape", "row"] (spPick K) := by
  refine T.d__law_pick.F.ok sc__law_pick (fun vs H Q E h => ?_) (fun cdv A outer st H vs Q E hr h => ?_)
  · obtain ⟨z, n, _, _, rfl, _⟩ := h
    rfl
  · obtain ⟨t, s, l, xs, rfl, hl, h0, h1, hlt, tk, q⟩ := h
    refine ⟨_, (pss_one (ps_ret (pe_ix ix_list (pv 1) (pe_call (ok__law_draw T) (hr.mono (by decide)) (by rfl) T.d__law_draw.g T.d__law_draw.F.kp T.d__law_draw.b .nil pass0 (pa_cons (pv 0) (pa_cons (pe_callB call_len_seq (by rfl) T.n_len (by decide +kernel) (pa_cons (pv 1) pa_nil)) pa_nil))) (fun _ _ => rfl)))), ?_⟩
    refine ⟨.ref l, rfl, .ref t, rfl, .ref l, rfl, l, xs, rfl, .inl hl, t, s, _, rfl, by omega, by omega, tk, fun d H' hd0 hd1 ext tk' => ?_⟩
    obtain ⟨k, rfl⟩ := Int.eq_ofNat_of_zero_le hd0
    have hk : k < xs.length := by omega
    exact ⟨l, xs, _, xs[k], rfl, rfl, ext.seq hlt hl, atI_nat (List.getElem?_eq_getElem hk), q _ _ (List.getElem_mem hk) ext tk'⟩
theorem strOk_tl (z : Str) : PyData.strOk z = true ↔ ∀ c ∈ tl z, c < 0x110000 := by
  unfold PyData.strOk tl
  rw [Array.all_eq_true_iff_forall_mem]
  simp
def spString (K : PySem.W.Frag) : Sp := fun vs H Q _ => ∃ (t s l : Addr) (xs : List V) (m : Int), vs = [.ref t, .ref l, .int m] ∧ SqL K H l xs ∧ 0 < xs.length ∧ xs.length < 1000 ∧ (∀ x ∈ xs, ∃ z, x = .str z ∧ z.length = 1 ∧ PyData.strOk z = true) ∧ l ≠ t ∧ TapeOk H t s ∧ 0 < m ∧ m ≤ 50 ∧
  ∀ z H', SOk z → Ext t H H' → TapeOk H' t s → Q (.str z) H'
theorem ok__law_string (T : Tx K w mg) : FnOk P w K mg base CX0 3 T.d__law_string.f T.d__law_string.fd ["tape", "signs", "most"] (spString K) := by
  refine T.d__law_string.F.ok sc__law_string (fun vs H Q E h => ?_) (fun cdv A outer st H vs Q E hr h => ?_)
  · obtain ⟨z, n, _, _, _, rfl, _⟩ := h
    rfl
  · obtain ⟨t, s, l, xs, m, rfl, hl, h0, h1, hxs, hlt, tk, hm0, hm1, q⟩ := h
    refine ⟨_, (pss_one (ps_ret (pe_join pe_str (pe_lc (own := [("k", 3)]) (g := gName 3) (by rfl) sc__law_string.nd (pi_range1 (by rfl) T.n_range (pa_cons (pe_op op_add pe_int (pe_call (ok__law_draw T) (hr.mono (by decide)) (by rfl) T.d__law_draw.g T.d__law_draw.F.kp T.d__law_draw.b .nil pass0 (pa_cons (pv 0) (pa_cons (pv 2) pa_nil)))) pa_nil)) (blkOk_by (N := ["tape", "signs", "most", "k"]) (sc := defScope s__law_string) (by decide +kernel)) (fun _ _ _ _ _ => (pg_name (i := 3) sc__law_string.nd rfl (Or.inl rfl))) (fun _ _ _ _ _ => pts_nil) (fun _ _ _ _ _ => (pe_call (ok__law_pick T) (hr.mono (by decide)) (by rfl) T.d__law_pick.g T.d__law_pick.F.kp T.d__law_pick.b .nil pass0 (pa_cons (pv 0) (pa_cons (pv 1) pa_nil)))))))), ?_⟩
    refine ⟨⟨_, rfl⟩, .ref t, rfl, .int m, rfl, t, s, m, rfl, hm0, by omega, tk, fun d H1 hd0 hd1 ext tk1 => ?_⟩
    refine ⟨_, _, rfl, rfl, _, rfl, by omega, by omega, fun D nD => ?_⟩
    have hDt := tk1.ne nD
    have hn : (1 + d).toNat ≤ 50 := by omega
    have hHD : H D = none := ext.back nD hDt.1
    refine lc_range (lo := 0) (fun j H2 => Ext t H H2 ∧ TapeOk H2 t s ∧ ∃ zs : List Str, H2 D = some (.lst (zs.map V.str)) ∧ zs.length = j ∧ ∀ z ∈ zs, z.length = 1 ∧ PyData.strOk z = true)
      ⟨ext.trans (Ext.same (same_new nD)), tk1.new nD, [], upd_same, rfl, by simp⟩ (fun j H2 hj p => ?_) (fun H2 p => ?_)
    · obtain ⟨ext2, tk2, zs, hD, hz, hzs⟩ := p
      refine ⟨rfl, yes_of ⟨.ref t, rfl, .ref l, rfl, t, s, l, xs, rfl, ext2.seq hlt hl, h0, h1, hlt, tk2, fun x H3 hx ext3 tk3 => ?_⟩⟩
      have hD3 := ext3 D _ hDt.1 hD
      obtain ⟨z, rfl, z1, z2⟩ := hxs x hx
      refine ⟨_, hD3, ?_, (ext2.trans ext3).put hHD, tk3.put hDt, zs ++ [z], ?_, ?_, ?_⟩
      · rw [List.length_map]
        exact line_lt (by omega)
      · rw [upd_same, List.map_append]
        rfl
      · rw [List.length_append, hz]
        rfl
      · intro y hy
        rcases List.mem_append.mp hy with hy | hy
        · exact hzs y hy
        · have : y = z := by simpa using hy
          rw [this]
          exact ⟨z1, z2⟩
    · obtain ⟨ext2, tk2, zs, hD, hz, hzs⟩ := p
      have hsum : ∀ l : List Str, (∀ z ∈ l, z.length = 1 ∧ PyData.strOk z = true) → (l.map (·.length)).sum = l.length := by
        intro l
        induction l with
        | nil => intro _; rfl
        | cons x r ih =>
          intro h
          have h2 := ih fun z hz => h z (List.mem_cons_of_mem _ hz)
          have h3 := (h x List.mem_cons_self).1
          simp only [List.map_cons, List.sum_cons, List.length_cons]
          omega
      have hs := hsum zs hzs
      refine ⟨_, D, zs, rfl, rfl, .inl (.inl (.inl hD)), ?_, q _ _ ⟨?_, ?_⟩ ext2 tk2⟩
      · have h3 : zs.length * (Str.ofString "").length = 0 := Nat.mul_zero _
        omega
      · rw [← tl_len, tl_join0]
        have : ∀ l : List Str, ((l.map tl).flatten).length = (l.map (·.length)).sum := by
          intro l
          induction l with
          | nil => rfl
          | cons x r ih => simp [ih, tl_len]
        rw [this]
        omega
      · rw [strOk_tl, tl_join0]
        intro c hc
        obtain ⟨l1, hl1, hc1⟩ := List.mem_flatten.mp hc
        obtain ⟨z, hz1, rfl⟩ := List.mem_map.mp hl1
        exact (strOk_tl z).mp (hzs z hz1).2 c hc1
end
end K62
namespace K62
open PySem PySem.Spec PyProof.Rows L2
def EvTag : Ev → Str
  | .st _ _ => Str.ofString "start"
  | .en _ => Str.ofString "end"
  | .ch _ => Str.ofString "char"
  | .sg _ => Str.ofString "signs"
def EvName : Ev → Str
  | .st n _ => n
  | .en n => n
  | .ch n => n
  | .sg n => n
theorem ev_name_ok : ∀ {e : Ev}, EvOk e → SOk (EvName e)
  | .st _ _, h => h.1
  | .en _, h => h
  | .ch _, h => h
  | .sg _, h => h
theorem dp_ev {K : PySem.W.Frag} {H : Hp} {v : V} {e : Ev} (h : Dp K H v e.data) : ∃ a r, v = .ref a ∧ SqT K H a (.str (EvTag e) :: .str (EvName e) :: r) := by
  cases e with
  | st n as =>
    obtain ⟨a, b, ys, e1, h1, _⟩ := dp_st h
    exact ⟨a, _, e1, h1⟩
  | en n => obtain ⟨a, e1, h1⟩ := dp_pair h; exact ⟨a, _, e1, h1⟩
  | ch n => obtain ⟨a, e1, h1⟩ := dp_pair h; exact ⟨a, _, e1, h1⟩
  | sg n => obtain ⟨a, e1, h1⟩ := dp_pair h; exact ⟨a, _, e1, h1⟩
theorem pairs_back : ∀ {ds : List PyData} {ps : List (Str × Str)}, (∀ d ∈ ds, ∃ p ∈ ps, d = dPair p) → ∃ qs : List (Str × Str), ds = qs.map dPair ∧ ∀ q ∈ qs, q ∈ ps
  | [], _, _ => ⟨[], rfl, by simp⟩
  | d :: r, ps, h => by
    obtain ⟨p, hp, e⟩ := h d List.mem_cons_self
    obtain ⟨qs, e2, h2⟩ := pairs_back (ds := r) (ps := ps) fun x hx => h x (List.mem_cons_of_mem _ hx)
    refine ⟨p :: qs, by rw [e, e2]; rfl, fun q hq => ?_⟩
    rcases List.mem_cons.mp hq with rfl | hq
    · exact hp
    · exact h2 q hq
theorem dpAll_set {K : PySem.W.Frag} {H : Hp} {v : V} {d : PyData} (h : Dp K H v d) : ∀ (i : Nat) {vs : List V} {ds : List PyData}, DpAll K H vs ds → DpAll K H (vs.set i v) (ds.set i d)
  | _, _, _, .nil => .nil
  | 0, _, _, .cons _ t => .cons h t
  | i + 1, _, _, .cons a t => .cons a (dpAll_set h i t)
theorem shaped_pairs {ps : List (Str × Str)} (h : ∀ p ∈ ps, SOk p.1 ∧ SOk p.2) : SeqAt.shaped (.list (ps.map dPair)) = true := by
  have h1 := depth_pairs ps
  unfold SeqAt.shaped
  simp [PyData.canLay0, lay_pairs ps h, PyData.depth]
  omega
theorem str1 (s : String) (h : (Str.ofString s).length = 1 ∧ PyData.strOk (Str.ofString s) = true := by decide +kernel) : ∃ z, V.str (Str.ofString s) = .str z ∧ z.length = 1 ∧ PyData.strOk z = true := ⟨_, rfl, h⟩
theorem sok (s : String) (h : (decide ((Str.ofString s).length ≤ 100) && PyData.strOk (Str.ofString s)) = true := by decide +kernel) : SOk (Str.ofString s) := by
  have h' := Bool.and_eq_true_iff.mp h
  exact ⟨of_decide_eq_true h'.1, h'.2⟩
theorem sok1 {z : Str} (h : z.length = 1 ∧ PyData.strOk z = true) : SOk z := ⟨by omega, h.2⟩
theorem ix0 (x : V) (xs : List V) : ixN (x :: xs).length 0 = some 0 := by
  unfold ixN
  rw [if_pos (by decide), if_pos (by rw [List.length_cons]; omega)]
  rfl
def signsV : List V := [.str (Str.ofString "u"), .str (Str.ofString " "), .str (Str.ofString "<"), .str (Str.ofString "&"), .str (Str.ofString ">"), .str (Str.ofString "\""), .str (Str.ofString "'"), .str (Str.ofString "-"), .str (Str.ofString "/")]
theorem signs_ok : ∀ x ∈ signsV, ∃ z, x = .str z ∧ z.length = 1 ∧ PyData.strOk z = true := by
  intro x hx
  simp only [signsV, List.mem_cons, List.not_mem_nil, or_false] at hx
  rcases hx with rfl | rfl | rfl | rfl | rfl | rfl | rfl | rfl | rfl <;> exact str1 _
section
variable {P : Program} {w : World} {K : PySem.W.Frag} {mg : Str → Option Value} {base : Heap}
def spEvent (K : PySem.W.Frag) : Sp := fun vs H Q _ => ∃ t s, vs = [.ref t] ∧ TapeOk H t s ∧ ∀ v e H', EvOk e → Dp K H' v e.data → Ext t H H' → TapeOk H' t s → Q v H'
theorem ok__law_event (T : Tx K w mg) : FnOk P w K mg base CX0 4 T.d__law_event.f T.d__law_event.fd ["tape"] (spEvent K) := by
  refine T.d__law_event.F.ok sc__law_event (fun vs H Q E h => ?_) (fun cdv A outer st H vs Q E hr h => ?_)
  · obtain ⟨z, _, rfl, _⟩ := h
    rfl
  · obtain ⟨t, s, rfl, tk, q⟩ := h
    refine ⟨_, (pss_cons (ps_set (i := 1) sc__law_event.nd rfl (Or.inl rfl) (pe_call (ok__law_draw T) (hr.mono (by decide)) (by rfl) T.d__law_draw.g T.d__law_draw.F.kp T.d__law_draw.b .nil pass0 (pa_cons (pv 0) (pa_cons pe_int pa_nil))))
      (pss_cons (ps_set (i := 2) sc__law_event.nd rfl (Or.inl rfl) (pe_call (ok__law_pick T) (hr.mono (by decide)) (by rfl) T.d__law_pick.g T.d__law_pick.F.kp T.d__law_pick.b .nil pass0 (pa_cons (pv 0) (pa_cons (pe_lst (pa_cons pe_str (pa_cons pe_str (pa_cons pe_str (pa_cons pe_str (pa_cons pe_str pa_nil)))))) pa_nil))))
      (pss_cons (ps_set (i := 3) sc__law_event.nd rfl (Or.inr rfl) (pe_lst (pa_cons pe_str (pa_cons pe_str (pa_cons pe_str (pa_cons pe_str (pa_cons pe_str (pa_cons pe_str (pa_cons pe_str (pa_cons pe_str (pa_cons pe_str pa_nil)))))))))))
      (pss_cons (ps_if (pt_cmpR op_lt (pv 1) pe_int (nomark _))
        (pss_cons (ps_setLc (i := 4) (own := [("one", 5)]) (g := gName 5) (by rfl) sc__law_event.nd rfl rfl (sw_true rfl rfl rfl (by decide +kernel)) (pi_list (pe_slice sl_list (pe_lst (pa_cons pe_str (pa_cons pe_str (pa_cons pe_str pa_nil)))) po_none (po_some (pe_call (ok__law_draw T) (hr.mono (by decide)) (by rfl) T.d__law_draw.g T.d__law_draw.F.kp T.d__law_draw.b .nil pass0 (pa_cons (pv 0) (pa_cons pe_int pa_nil)))))) (blkOk_by (N := ["tape", "kind", "name", "signs", "given", "one"]) (sc := defScope s__law_event) (by decide +kernel)) (fun _ _ _ _ _ => (pg_name (i := 5) sc__law_event.nd rfl (Or.inl rfl))) (fun _ _ _ _ _ => pts_nil) (fun _ _ _ _ _ => (pe_tup (pa_cons (pv 5) (pa_cons (pe_call (ok__law_string T) (hr.mono (by decide)) (by rfl) T.d__law_string.g T.d__law_string.F.kp T.d__law_string.b .nil pass0 (pa_cons (pv 0) (pa_cons (pv 3) (pa_cons pe_int pa_nil)))) pa_nil)))))
        (C8.pss_cut (ps_if (PW.pt (pw_and (pt_cmpR (op_neD hr.units) (pv 4) (pe_lst pa_nil) (nomark _)) (pw_and1 (pt_cmpR op_eq (pe_call (ok__law_draw T) (hr.mono (by decide)) (by rfl) T.d__law_draw.g T.d__law_draw.F.kp T.d__law_draw.b .nil pass0 (pa_cons (pv 0) (pa_cons pe_int pa_nil))) pe_int (nomark _)))))
          (pss_one (ps_asg (pe_tup (pa_cons (pe_ix ix_tup (pe_ix ix_list (pv 4) pe_int (fun _ _ => rfl)) pe_int (fun _ _ => rfl)) (pa_cons pe_str pa_nil))) (pg_sub (pv 4) pe_int set_list)))
          pss_nil)
        (pss_one (ps_ret (pe_tup (pa_cons pe_str (pa_cons (pv 2) (pa_cons (pe_callTy call_tuple_of (by rfl) T.n_tuple (by decide +kernel) (pa_cons (pe_callB (cr_sortedD hr.units) (by rfl) T.n_sorted (by decide +kernel) (pa_cons (pv 4) pa_nil)) pa_nil)) pa_nil))))))))
        pss_nil)
      (pss_cons (ps_if (pt_cmpR op_eq (pv 1) pe_int (nomark _))
        (pss_one (ps_ret (pe_tup (pa_cons pe_str (pa_cons (pv 2) pa_nil)))))
        pss_nil)
      (pss_cons (ps_if (pt_cmpR op_eq (pv 1) pe_int (nomark _))
        (pss_one (ps_ret (pe_tup (pa_cons pe_str (pa_cons (pe_call (ok__law_pick T) (hr.mono (by decide)) (by rfl) T.d__law_pick.g T.d__law_pick.F.kp T.d__law_pick.b .nil pass0 (pa_cons (pv 0) (pa_cons (pv 3) pa_nil))) pa_nil)))))
        pss_nil)
      (pss_one (ps_ret (pe_tup (pa_cons pe_str (pa_cons (pe_call (ok__law_string T) (hr.mono (by decide)) (by rfl) T.d__law_string.g T.d__law_string.F.kp T.d__law_string.b .nil pass0 (pa_cons (pv 0) (pa_cons (pv 3) (pa_cons pe_int pa_nil)))) pa_nil))))))))))), ?_⟩
    refine ⟨.ref t, rfl, t, s, 5, rfl, by decide, by decide, tk, fun kd H1 hk0 hk1 ext1 tk1 => ?_⟩
    refine ⟨.ref t, rfl, line_ok (by show 5 ≤ 100000; omega), fun p np => ?_⟩
    have np1 := tk1.ne np
    refine ⟨t, s, p, _, rfl, SqL.of upd_same, (by decide : 0 < 5), (by decide : 5 < 1000), np1.1, tk1.new np, fun x H2 hx ext2 tk2 => ?_⟩
    obtain ⟨nm, rfl, hnm⟩ : ∃ nm, x = .str nm ∧ SOk nm := by
      simp only [List.mem_cons, List.not_mem_nil, or_false] at hx
      rcases hx with rfl | rfl | rfl | rfl | rfl <;> exact ⟨_, rfl, sok _⟩
    have e12 : Ext t H H2 := (ext1.trans (Ext.same (same_new np))).trans ext2
    refine ⟨line_ok (by show 9 ≤ 100000; omega), fun g ng => ?_⟩
    have ng2 := tk2.ne ng
    have tk3 := tk2.new (o := .lst signsV) ng
    have e3 : Ext t H (upd H2 g (.lst signsV)) := e12.trans (Ext.same (same_new ng))
    have hg3 : (upd H2 g (.lst signsV)) g = some (.lst signsV) := upd_same
    show tSeq _ _ _ _ (upd H2 g (.lst signsV))
    generalize upd H2 g (.lst signsV) = H3 at tk3 e3 hg3
    refine ⟨.int kd, rfl, _, _, rfl, rfl, _, rfl, ite2 (fun _ => ?_) (fun _ => ?_)⟩
    · -- a start event: given = ..
      refine ⟨line_ok (by show 3 ≤ 100000; omega), fun a na => ?_⟩
      refine ⟨.ref t, rfl, t, s, 4, rfl, by decide, by decide, tk3.new na, fun d H4 hd0 hd1 ext4 tk4 => ?_⟩
      have na3 := tk3.ne na
      have ha4 := ext4 a _ na3.1 upd_same
      refine ⟨_, rfl, a, _, rfl, SqL.of ha4, fun b nb => ?_⟩
      have e5 : Ext t H (upd H4 b (.lst (cutV [.str (Str.ofString "k"), .str (Str.ofString "name"), .str (Str.ofString "b")] none (some d)))) := ((e3.trans (Ext.same (same_new na))).trans ext4).trans (Ext.same (same_new nb))
      have nb4 := tk4.ne nb
      have tk5 := tk4.new (o := .lst (cutV [.str (Str.ofString "k"), .str (Str.ofString "name"), .str (Str.ofString "b")] none (some d))) nb
      have hg5 : (upd H4 b (.lst (cutV [.str (Str.ofString "k"), .str (Str.ofString "name"), .str (Str.ofString "b")] none (some d)))) g = some (.lst signsV) := (same_new nb) _ _ (ext4 g _ ng2.1 ((same_new na) _ _ hg3))
      have hb5 : (upd H4 b (.lst (cutV [.str (Str.ofString "k"), .str (Str.ofString "name"), .str (Str.ofString "b")] none (some d)))) b = some (.lst (cutV [.str (Str.ofString "k"), .str (Str.ofString "name"), .str (Str.ofString "b")] none (some d))) := upd_same
      have hbl : (cutV [.str (Str.ofString "k"), .str (Str.ofString "name"), .str (Str.ofString "b")] none (some d)).length ≤ 3 := cutV_length _ _ _
      have hbm : ∀ x ∈ (cutV [.str (Str.ofString "k"), .str (Str.ofString "name"), .str (Str.ofString "b")] none (some d)), ∃ z, x = .str z ∧ SOk z := by
        intro x hx
        have h1 : x ∈ [V.str (Str.ofString "k"), .str (Str.ofString "name"), .str (Str.ofString "b")] := by
          unfold cutV at hx
          exact List.mem_of_mem_drop (List.mem_of_mem_take hx)
        simp only [List.mem_cons, List.not_mem_nil, or_false] at h1
        rcases h1 with rfl | rfl | rfl <;> exact ⟨_, rfl, sok _⟩
      refine ⟨b, rfl, ⟨_, SqL.of hb5⟩, fun D nD => ?_⟩
      generalize cutV [V.str (Str.ofString "k"), .str (Str.ofString "name"), .str (Str.ofString "b")] none (some d) = bs at *
      generalize upd H4 b (.lst bs) = H5 at *
      have nD5 := tk5.ne nD
      have hHD : H D = none := e5.back nD nD5.1
      refine lc_list (xs := bs) (fun j H6 => Ext t H5 H6 ∧ TapeOk H6 t s ∧ ∃ (vs : List V) (ps : List (Str × Str)), H6 D = some (.lst vs) ∧ DpAll K H6 vs (ps.map dPair) ∧ ps.length = j ∧ ∀ p ∈ ps, SOk p.1 ∧ SOk p.2)
        ⟨Ext.same (same_new nD), tk5.new nD, [], [], upd_same, .nil, rfl, by simp⟩ (fun j H6 _ p => p.1.seq nb4.1 (SqL.of hb5)) (fun j x H6 hx p => ?_) (fun H6 p => ?_)
      · obtain ⟨ext6, tk6, vs, ps, hD, hvs, hpl, hps⟩ := p
        have hj : j < bs.length := (List.getElem?_eq_some_iff.mp hx).1
        obtain ⟨z, rfl, hz⟩ := hbm x (List.mem_of_getElem? hx)
        refine ⟨rfl, yes_of ⟨.str z, rfl, .ref t, rfl, .ref g, rfl, t, s, g, signsV, 5, rfl, SqL.of (ext6 g _ ng2.1 hg5), (by decide : 0 < 9), (by decide : 9 < 1000), signs_ok, ng2.1, tk6, by decide, by decide, fun y H7 hy ext7 tk7 => ?_⟩⟩
        refine ⟨line_ok (by show 2 ≤ 100000; omega), fun c nc => ?_⟩
        have hD7 := ext7 D _ nD5.1 hD
        have hD8 := (same_new (o := .tup [.str z, .str y]) nc) _ _ hD7
        refine ⟨vs, hD8, ?_, ?_, ?_, vs ++ [.ref c], ps ++ [(z, y)], upd_same, ?_, ?_, ?_⟩
        · rw [dpAll_len hvs, List.length_map]
          exact line_lt (by omega)
        · exact ((ext6.trans ext7).trans (Ext.same (same_new nc))).put nD
        · exact (tk7.new nc).put nD5
        · have k1 : Keep H6 H7 := tk6.keep ext7
          have k2 : Keep H7 (upd H7 c (.tup [.str z, .str y])) := Keep.same (same_new nc)
          have k3 : Keep (upd H7 c (.tup [.str z, .str y])) (upd (upd H7 c (.tup [.str z, .str y])) D (.lst (vs ++ [.ref c]))) := Keep.lst hD8
          have h1 := dpAll_keep ((k1.trans k2).trans k3) _ _ (tupOnly_pairs ps) hvs
          rw [List.map_append]
          refine dpAll_app h1 (.cons (.tup (.inl (k3 _ _ (.inl upd_same))) (.cons (.str _) (.cons (.str _) .nil))) .nil)
        · rw [List.length_append, hpl]
          rfl
        · intro p hp
          rcases List.mem_append.mp hp with hp | hp
          · exact hps p hp
          · have e : p = (z, y) := by simpa using hp
            rw [e]
            exact ⟨hz, hy⟩
      · obtain ⟨ext6, tk6, vs, ps, hD, hvs, hpl, hps⟩ := p
        -- if given != [] and ..
        refine ⟨fun σ H7 => ∃ x5, σ = [some (.ref t), some (.int kd), some (.str nm), some (.ref g), some (.ref D), x5] ∧ Ext t H H7 ∧ TapeOk H7 t s ∧ ∃ (vs : List V) (ps : List (Str × Str)), H7 D = some (.lst vs) ∧ DpAll K H7 vs (ps.map dPair) ∧ ps.length ≤ 3 ∧ ∀ p ∈ ps, SOk p.1 ∧ SOk p.2, ?_, ?_⟩
        · refine ⟨.ref D, rfl, line_ok (by show 0 ≤ 100000; omega), fun u nu => ?_⟩
          have s7 : Same H6 (upd H6 u (.lst [])) := same_new nu
          refine ⟨.list (ps.map dPair), .list [], .lst (.inl (.inl (s7 _ _ hD))) (dpAll_keep (Keep.same s7) _ _ (tupOnly_pairs ps) hvs), .lst (.inl (.inl upd_same)) .nil, shaped_pairs hps, rfl, _, rfl, ?_⟩
          have fin : ∀ H8, Ext t (upd H6 u (.lst [])) H8 → TapeOk H8 t s → ∃ x5, [some (V.ref t), some (.int kd), some (.str nm), some (.ref g), some (.ref D), none] = [some (.ref t), some (.int kd), some (.str nm), some (.ref g), some (.ref D), x5] ∧ Ext t H H8 ∧ TapeOk H8 t s ∧ ∃ (vs : List V) (ps : List (Str × Str)), H8 D = some (.lst vs) ∧ DpAll K H8 vs (ps.map dPair) ∧ ps.length ≤ 3 ∧ ∀ p ∈ ps, SOk p.1 ∧ SOk p.2 := fun H8 e8 tk8 =>
            ⟨_, rfl, ((e5.trans ext6).trans (Ext.same s7)).trans e8, tk8, vs, ps, e8 D _ nD5.1 (s7 _ _ hD), dpAll_keep ((Keep.same s7).trans ((tk6.new nu).keep e8)) _ _ (tupOnly_pairs ps) hvs, by omega, hps⟩
          cases ps with
          | nil => exact iteN rfl (iteN rfl (fin _ (Ext.refl _ _) (tk6.new nu)))
          | cons p0 pr =>
            refine iteB rfl ?_
            refine ⟨.ref t, rfl, t, s, 3, rfl, by decide, by decide, tk6.new nu, fun d2 H8 _ _ ext8 tk8 => ⟨rfl, _, rfl, ite2 (fun _ => ?_) (fun _ => fin _ ext8 tk8)⟩⟩
            -- given[0] = (given[0][0], '')
            have hD8 := ext8 D _ nD5.1 (s7 _ _ hD)
            have hv8 := dpAll_keep ((Keep.same s7).trans ((tk6.new nu).keep ext8)) _ _ (tupOnly_pairs _) hvs
            cases hv8 with
            | @cons v0 vr _ _ h0 hr0 =>
            obtain ⟨c0, rfl, hc0⟩ := dp_pair h0
            refine ⟨.ref D, rfl, D, _, 0, .ref c0, rfl, rfl, SqL.of hD8, atI_nat (j := 0) rfl, c0, _, 0, .str p0.1, rfl, rfl, hc0, rfl, line_ok (by show 2 ≤ 100000; omega), fun c nc => ?_⟩
            have hD9 := (same_new (o := .tup [.str p0.1, .str (Str.ofString "")]) nc) _ _ hD8
            refine ⟨.ref D, rfl, D, _, 0, 0, rfl, rfl, hD9, ix0 _ _, ?_⟩
            have k2 : Keep H8 (upd H8 c (.tup [.str p0.1, .str (Str.ofString "")])) := Keep.same (same_new nc)
            have k3 : Keep (upd H8 c (.tup [.str p0.1, .str (Str.ofString "")])) (upd (upd H8 c (.tup [.str p0.1, .str (Str.ofString "")])) D (.lst (.ref c :: vr))) := Keep.lst hD9
            refine ⟨_, rfl, ((((e5.trans ext6).trans (Ext.same s7)).trans ext8).trans (Ext.same (same_new nc))).put hHD, (tk8.new nc).put nD5, _, (p0.1, Str.ofString "") :: pr, upd_same, ?_, ?_, ?_⟩
            · exact .cons (.tup (.inl (k3 _ _ (.inl upd_same))) (.cons (.str _) (.cons (.str _) .nil))) (dpAll_keep (k2.trans k3) _ _ (tupOnly_pairs pr) hr0)
            · have h1 : (p0 :: pr).length = bs.length := hpl
              show (p0 :: pr).length ≤ 3
              omega
            · intro p hp
              rcases List.mem_cons.mp hp with rfl | hp
              · exact ⟨(hps p0 List.mem_cons_self).1, sok _⟩
              · exact hps p (List.mem_cons_of_mem _ hp)
        · rintro σ H7 ⟨x5, rfl, e7, tk7, vs, ps, hD, hvs, hpl, hps⟩
          -- return ('start', name, tuple(sorted(given)))
          refine ⟨.str nm, rfl, .ref D, rfl, D, vs, _, rfl, SqL.of hD, hvs, PySem.W.AllAlike.of (fun _ _ => rfl), PySem.W.Sortable.tuples (fun _ => ⟨_, _, rfl⟩), ?_, fun ys l hys nl => ?_⟩
          · intro d hd
            obtain ⟨p, _, rfl⟩ := List.mem_map.mp hd
            show 1 ≤ 60
            decide
          · obtain ⟨qs, eq, hqs⟩ := pairs_back (ds := (ps.map dPair).mergeSort (PySem.W.dataLe false id)) (ps := ps) fun d hd => by
              obtain ⟨p, hp, e⟩ := List.mem_map.mp (List.mem_mergeSort.mp hd)
              exact ⟨p, hp, e.symm⟩
            have hql : qs.length = ps.length := by
              have h1 := List.length_mergeSort (le := PySem.W.dataLe false id) (ps.map dPair)
              rw [eq, List.length_map, List.length_map] at h1
              exact h1
            rw [eq] at hys
            have s8 : Same H7 (upd H7 l (.lst ys)) := same_new nl
            refine ⟨l, ys, rfl, .inl ⟨SqL.of upd_same, fun u nu => ?_⟩⟩
            refine ⟨line_ok (by show 3 ≤ 100000; omega), fun z nz => ?_⟩
            have s9 : Same (upd H7 l (.lst ys)) (upd (upd H7 l (.lst ys)) u (.tup ys)) := same_new nu
            have s10 : Same (upd (upd H7 l (.lst ys)) u (.tup ys)) (upd (upd (upd H7 l (.lst ys)) u (.tup ys)) z (.tup [.str (Str.ofString "start"), .str nm, .ref u])) := same_new nz
            have sA := (s8.trans s9).trans s10
            refine q (.ref z) (.st nm qs) _ ⟨hnm, by omega, fun p hp => hps p (hqs p hp)⟩ ?_ (e7.trans (Ext.same sA)) (tk7.ext sA)
            refine .tup (.inl (.inl upd_same)) (.cons (.str _) (.cons (.str _) (.cons (.tup (.inl (.inl (s10 _ _ upd_same))) ?_) .nil)))
            exact dpAll_keep (Keep.same sA) _ _ (tupOnly_pairs qs) hys
    · refine ⟨.int kd, rfl, rfl, _, rfl, ite2 (fun _ => ?_) (fun _ => ?_)⟩
      · refine ⟨.str nm, rfl, line_ok (by show 2 ≤ 100000; omega), fun z nz => ?_⟩
        exact q (.ref z) (.en nm) _ hnm (.tup (.inl (.inl upd_same)) (.cons (.str _) (.cons (.str _) .nil))) (e3.trans (Ext.same (same_new nz))) (tk3.new nz)
      · refine ⟨.int kd, rfl, rfl, _, rfl, ite2 (fun _ => ?_) (fun _ => ?_)⟩
        · refine ⟨.ref t, rfl, .ref g, rfl, t, s, g, signsV, rfl, SqL.of hg3, (by decide : 0 < 9), (by decide : 9 < 1000), ng2.1, tk3, fun x H4 hx ext4 tk4 => ?_⟩
          obtain ⟨y, rfl, hy⟩ := signs_ok x hx
          refine ⟨line_ok (by show 2 ≤ 100000; omega), fun z nz => ?_⟩
          exact q (.ref z) (.ch y) _ (sok1 hy) (.tup (.inl (.inl upd_same)) (.cons (.str _) (.cons (.str _) .nil))) ((e3.trans ext4).trans (Ext.same (same_new nz))) (tk4.new nz)
        · refine ⟨.ref t, rfl, .ref g, rfl, t, s, g, signsV, 9, rfl, SqL.of hg3, (by decide : 0 < 9), (by decide : 9 < 1000), signs_ok, ng2.1, tk3, by decide, by decide, fun y H4 hy ext4 tk4 => ?_⟩
          refine ⟨line_ok (by show 2 ≤ 100000; omega), fun z nz => ?_⟩
          exact q (.ref z) (.sg y) _ hy (.tup (.inl (.inl upd_same)) (.cons (.str _) (.cons (.str _) .nil))) ((e3.trans ext4).trans (Ext.same (same_new nz))) (tk4.new nz)
end
end K62
namespace K62
open PySem PySem.Spec PyProof.Rows L2
theorem dpAll_strs {K : PySem.W.Frag} {H : Hp} : ∀ ops : List Str, DpAll K H (ops.map V.str) (ops.map PyData.str)
  | [] => .nil
  | x :: r => .cons (.str x) (dpAll_strs r)
theorem shaped_strs {ops : List Str} (h : ∀ z ∈ ops, SOk z) : SeqAt.shaped (.list (ops.map PyData.str)) = true := by
  have h1 : ∀ l : List Str, (∀ z ∈ l, SOk z) → PyData.canLayAll0 (l.map PyData.str) = true := by
    intro l
    induction l with
    | nil => intro _; rfl
    | cons x r ih =>
      intro hx
      have h2 := ih fun z hz => hx z (List.mem_cons_of_mem _ hz)
      have h3 := (hx x List.mem_cons_self).2
      simp [PyData.canLayAll0, PyData.canLay0, h2, h3]
  have h2 : ∀ l : List Str, PyData.depthAll (l.map PyData.str) = 0 := by
    intro l
    induction l with
    | nil => rfl
    | cons x r ih => simp [PyData.depthAll, PyData.depth, ih]
  unfold SeqAt.shaped
  simp [PyData.canLay0, h1 ops h, PyData.depth, h2]
def dInt (c : Nat) : PyData := .int c
theorem dpAll_ints {K : PySem.W.Frag} {H : Hp} : ∀ l : List Nat, DpAll K H (l.map fun (c : Nat) => V.int c) (l.map dInt)
  | [] => .nil
  | x :: r => .cons (.int _) (dpAll_ints r)
theorem shaped_ints (l : List Nat) : SeqAt.shaped (.list (l.map dInt)) = true := by
  have h1 : ∀ l : List Nat, PyData.canLayAll0 (l.map dInt) = true := by
    intro l
    induction l with
    | nil => rfl
    | cons x r ih => simp [PyData.canLayAll0, PyData.canLay0, dInt]; exact ih
  have h2 : ∀ l : List Nat, PyData.depthAll (l.map dInt) = 0 := by
    intro l
    induction l with
    | nil => rfl
    | cons x r ih => simp [PyData.depthAll, PyData.depth, dInt]; exact ih
  unfold SeqAt.shaped
  simp [PyData.canLay0, h1, PyData.depth, h2]
theorem eqv_ints : ∀ l : List Nat, PyData.eqvAll (l.map dInt) (l.map dInt) = true
  | [] => rfl
  | x :: r => by
    simp [PyData.eqvAll, dInt, PyData.eqv]
    exact eqv_ints r
theorem evs_take (n : Nat) (es : List Ev) : (es.map Ev.data).take n = (es.take n).map Ev.data := (List.map_take).symm
theorem cutTo (xs : List V) {d : Int} (h0 : 0 ≤ d) : cutV xs none (some d) = xs.take d.toNat := by
  obtain ⟨k, rfl⟩ := Int.eq_ofNat_of_zero_le h0
  unfold cutV
  rw [HT.sIx_nat, HT.sIx_none, List.drop_zero, Int.toNat_natCast, Nat.sub_zero]
  by_cases h : k ≤ xs.length
  · rw [Nat.min_eq_left h]
  · rw [Nat.min_eq_right (by omega), List.take_length, List.take_of_length_le (by omega)]
theorem cutV_strs (ops : List Str) (lo hi : Option Int) : ∃ qs : List Str, cutV (ops.map V.str) lo hi = qs.map V.str ∧ (∀ z ∈ qs, z ∈ ops) ∧ qs.length ≤ ops.length := by
  unfold cutV
  refine ⟨(ops.drop (HT.sIx (ops.map V.str).length 0 lo)).take (HT.sIx (ops.map V.str).length (ops.map V.str).length hi - HT.sIx (ops.map V.str).length 0 lo), ?_, fun z hz => List.mem_of_mem_drop (List.mem_of_mem_take hz), ?_⟩
  · rw [List.map_take, List.map_drop]
  · rw [List.length_take, List.length_drop]
    omega
/-- the row and the names of open elements, while the row is made -/
structure RI (K : PySem.W.Frag) (H H2 : Hp) (t s r o : Addr) (vs : List V) (es : List Ev) (ops : List Str) : Prop where
  ext : Ext t H H2
  tk : TapeOk H2 t s
  hr : H2 r = some (.lst vs)
  hv : DpAll K H2 vs (es.map Ev.data)
  ho : H2 o = some (.lst (ops.map V.str))
  hops : ∀ z ∈ ops, SOk z
  nor : o ≠ r
  rt : r ≠ t ∧ r ≠ s
  ot : o ≠ t ∧ o ≠ s
  newr : H r = none
  newo : H o = none
section
variable {K : PySem.W.Frag} {H H2 H3 : Hp} {t s r o : Addr} {vs : List V} {es : List Ev} {ops : List Str}
theorem RI.mono (a : RI K H H2 t s r o vs es ops) (e : Ext t H2 H3) (tk : TapeOk H3 t s) : RI K H H3 t s r o vs es ops :=
  ⟨a.ext.trans e, tk, e _ _ a.rt.1 a.hr, dpAll_keep (a.tk.keep e) _ _ (tupOnly_evs _) a.hv, e _ _ a.ot.1 a.ho, a.hops, a.nor, a.rt, a.ot, a.newr, a.newo⟩
theorem RI.same (a : RI K H H2 t s r o vs es ops) (e : Same H2 H3) : RI K H H3 t s r o vs es ops := a.mono (Ext.same e) (a.tk.ext e)
theorem RI.opened (a : RI K H H2 t s r o vs es ops) {qs : List Str} (hq : ∀ z ∈ qs, SOk z) : RI K H (upd H2 o (.lst (qs.map V.str))) t s r o vs es qs :=
  ⟨a.ext.put a.newo, a.tk.put a.ot, by rw [upd_ne a.nor.symm]; exact a.hr, dpAll_keep (Keep.lst a.ho) _ _ (tupOnly_evs _) a.hv, upd_same, hq, a.nor, a.rt, a.ot, a.newr, a.newo⟩
theorem RI.fresh (a : RI K H H2 t s r o vs es ops) {p : Addr} (np : H2 p = none) {qs : List Str} (hq : ∀ z ∈ qs, SOk z) : RI K H (upd H2 p (.lst (qs.map V.str))) t s r p vs es qs := by
  have b := a.same (same_new (o := .lst (qs.map V.str)) np)
  have hp := a.tk.ne np
  exact ⟨b.ext, b.tk, b.hr, b.hv, upd_same, hq, (ne_of_none a.hr np).symm, a.rt, hp, a.newr, a.ext.back np hp.1⟩
theorem RI.row (a : RI K H H2 t s r o vs es ops) {v : V} {e : Ev} (hd : Dp K H2 v e.data) : RI K H (upd H2 r (.lst (vs ++ [v]))) t s r o (vs ++ [v]) (es ++ [e]) ops := by
  have k : Keep H2 (upd H2 r (.lst (vs ++ [v]))) := Keep.lst a.hr
  refine ⟨a.ext.put a.newr, a.tk.put a.rt, upd_same, ?_, by rw [upd_ne a.nor]; exact a.ho, a.hops, a.nor, a.rt, a.ot, a.newr, a.newo⟩
  rw [List.map_append]
  exact dpAll_app (dpAll_keep k _ _ (tupOnly_evs _) a.hv) (.cons (dp_keep k _ _ (tupOnly_ev _) hd) .nil)
theorem RI.keepO (a : RI K H H2 t s r o vs es ops) {u : HO} : Keep H2 (upd H2 o u) := Keep.lst a.ho
end
section
variable {P : Program} {w : World} {K : PySem.W.Frag} {mg : Str → Option Value} {base : Heap}
def spRow (K : PySem.W.Frag) : Sp := fun vs H Q _ => ∃ t s, vs = [.ref t] ∧ TapeOk H t s ∧ ∀ (r : Addr) (vs : List V) (es : List Ev) (H' : Hp), H' r = some (.lst vs) → DpAll K H' vs (es.map Ev.data) → es.length ≤ 30 → (∀ e ∈ es, EvOk e) → r ≠ t → Ext t H H' → TapeOk H' t s → Q (.ref r) H'
theorem ok__law_row (T : Tx K w mg) : FnOk P w K mg base CX0 5 T.d__law_row.f T.d__law_row.fd ["tape"] (spRow K) := by
  refine T.d__law_row.F.ok sc__law_row (fun vs H Q E h => ?_) (fun cdv A outer st H vs Q E hr h => ?_)
  · obtain ⟨z, _, rfl, _⟩ := h
    rfl
  · obtain ⟨t, s, rfl, tk, q⟩ := h
    refine ⟨_, (pss_cons (ps_set (i := 1) sc__law_row.nd rfl (Or.inl rfl) (pe_lst pa_nil))
      (pss_cons (ps_set (i := 2) sc__law_row.nd rfl (Or.inl rfl) (pe_lst pa_nil))
      (pss_cons (ps_for PassesOwn.never rfl (pi_range1 (by rfl) T.n_range (pa_cons (pe_call (ok__law_draw T) (hr.mono (by decide)) (by rfl) T.d__law_draw.g T.d__law_draw.F.kp T.d__law_draw.b .nil pass0 (pa_cons (pv 0) (pa_cons pe_int pa_nil))) pa_nil)) (pg_name (i := 3) sc__law_row.nd rfl (Or.inl rfl))
        (pss_cons (ps_set (i := 4) sc__law_row.nd rfl (Or.inl rfl) (pe_call (ok__law_event T) (hr.mono (by decide)) (by rfl) T.d__law_event.g T.d__law_event.F.kp T.d__law_event.b .nil pass0 (pa_cons (pv 0) pa_nil)))
        (C8.pss_cut (ps_if (PW.pt (pw_and (pt_cmpR op_eq (pe_ix ix_tup (pv 4) pe_int (fun _ _ => rfl)) pe_str (nomark _)) (pw_and (pt_cmpR (op_neD hr.units) (pv 2) (pe_lst pa_nil) (nomark _)) (pw_and1 (pt_cmpR op_gt (pe_call (ok__law_draw T) (hr.mono (by decide)) (by rfl) T.d__law_draw.g T.d__law_draw.F.kp T.d__law_draw.b .nil pass0 (pa_cons (pv 0) (pa_cons pe_int pa_nil))) pe_int (nomark _))))))
          (pss_one (ps_set (i := 4) sc__law_row.nd rfl (Or.inl rfl) (pe_tup (pa_cons pe_str (pa_cons (pe_ix ix_list (pv 2) (pe_un un_neg pe_int) (fun _ _ => rfl)) pa_nil)))))
          pss_nil)
        (C8.pss_cut (ps_if (pt_cmpR op_eq (pe_ix ix_tup (pv 4) pe_int (fun _ _ => rfl)) pe_str (nomark _))
          (pss_one (ps_expr (pe_bm PySem.F.plainAttrs_list PySem.F.slot_list_append PySem.F.type_list_append mt_append (pv 2) (pa_cons (pe_ix ix_tup (pv 4) pe_int (fun _ _ => rfl)) pa_nil))))
          pss_nil)
        (C8.pss_cut (ps_if (pt_cmpR op_eq (pe_ix ix_tup (pv 4) pe_int (fun _ _ => rfl)) pe_str (nomark _))
          (pss_one (ps_set (i := 2) sc__law_row.nd rfl (Or.inl rfl) (pe_slice sl_list (pv 2) po_none (po_some (pe_un un_neg pe_int)))))
          pss_nil)
        (pss_one (ps_expr (pe_bm PySem.F.plainAttrs_list PySem.F.slot_list_append PySem.F.type_list_append mt_append (pv 1) (pa_cons (pv 4) pa_nil)))))))))
      (pss_one (ps_ret (pv 1)))))), ?_⟩
    refine ⟨Nat.zero_le _, fun r nr => ⟨Nat.zero_le _, fun o no => ?_⟩⟩
    have rt := tk.ne nr
    have tk1 := tk.new (o := .lst []) nr
    have ot := tk1.ne no
    have r0 : RI K H (upd (upd H r (.lst [])) o (.lst [])) t s r o [] [] [] :=
      ⟨(Ext.same (same_new nr)).trans (Ext.same (same_new no)), tk1.new no, (same_new no) _ _ upd_same, .nil, upd_same, by simp, (ne_of_none upd_same no).symm, rt, ot, nr, (Same.free (same_new nr) no)⟩
    refine ⟨.ref t, rfl, t, s, 31, rfl, by decide, by decide, r0.tk, fun d H1 hd0 hd1 ext1 tk2 => ?_⟩
    refine ⟨_, rfl, by omega, by omega, ?_⟩
    refine for_range (fun i σ H2 => ∃ (x3 x4 : Option V) (o : Addr) (ops : List Str) (vs : List V) (es : List Ev), σ = [some (.ref t), some (.ref r), some (.ref o), x3, x4] ∧ RI K H H2 t s r o vs es ops ∧ es.length = i ∧ (∀ e ∈ es, EvOk e) ∧ ops.length ≤ i)
      ⟨none, none, o, [], [], [], rfl, r0.mono ext1 tk2, rfl, by simp, Nat.le_refl _⟩ (fun i σ H2 hi p => ?_) (fun σ H2 p => ?_)
    · obtain ⟨x3, x4, o, ops, vs, es, rfl, ri, hes, hok, hopl⟩ := p
      have hi2 : i < 31 := by omega
      refine ⟨.ref t, rfl, t, s, rfl, ri.tk, fun v e H3 he hd ext3 tk3 => ?_⟩
      have ri3 := ri.mono ext3 tk3
      obtain ⟨a, rr, rfl, ha⟩ := dp_ev hd
      -- if event[0] == 'end' and ..
      refine ⟨fun σ H4 => ∃ v' e', σ = [some (.ref t), some (.ref r), some (.ref o), some (.int (0 + (i : Int))), some v'] ∧ RI K H H4 t s r o vs es ops ∧ EvOk e' ∧ Dp K H4 v' e'.data, ?_, ?_⟩
      · have keepE : ∀ H4, RI K H H4 t s r o vs es ops → Dp K H4 (.ref a) e.data → ∃ v' e', [some (V.ref t), some (.ref r), some (.ref o), some (.int (0 + (i : Int))), some (.ref a)] = [some (.ref t), some (.ref r), some (.ref o), some (.int (0 + (i : Int))), some v'] ∧ RI K H H4 t s r o vs es ops ∧ EvOk e' ∧ Dp K H4 v' e'.data := fun H4 x y => ⟨_, e, rfl, x, he, y⟩
        refine ⟨.ref a, rfl, a, _, 0, .str (EvTag e), rfl, rfl, ha, atI_nat (j := 0) rfl, rfl, _, rfl, ite2 (fun _ => ?_) (fun _ => iteF (keepE _ ri3 hd))⟩
        refine ⟨.ref o, rfl, Nat.zero_le _, fun u nu => ?_⟩
        have s4 : Same H3 (upd H3 u (.lst [])) := same_new nu
        have ri4 := ri3.same s4
        have hd4 := same_dp s4 (tupOnly_ev e) hd
        refine ⟨.list (ops.map PyData.str), .list [], .lst (.inl (.inl (s4 _ _ ri3.ho))) (dpAll_strs ops), .lst (.inl (.inl upd_same)) .nil, shaped_strs ri3.hops, rfl, _, rfl, ?_⟩
        rcases List.eq_nil_or_concat ops with rfl | ⟨init, z, rfl⟩
        · exact iteN rfl (iteF (keepE _ ri4 hd4))
        · refine iteB (by cases init <;> rfl) ?_
          refine ⟨.ref t, rfl, t, s, 4, rfl, by decide, by decide, ri4.tk, fun d2 H5 _ _ ext5 tk5 => ⟨_, _, rfl, rfl, _, rfl, ?_⟩⟩
          have ri5 := ri4.mono ext5 tk5
          refine ite2 (fun _ => ?_) (fun _ => keepE _ ri5 (dp_keep (ri4.tk.keep ext5) _ _ (tupOnly_ev e) hd4))
          refine ⟨.ref o, rfl, _, rfl, o, _, _, .str z, rfl, rfl, SqL.of ri5.ho, ?_, line_ok (by show 2 ≤ 100000; omega), fun c nc => ?_⟩
          · rw [List.concat_eq_append, List.map_append]
            exact atI_last _ _
          · exact ⟨.ref c, .en z, rfl, ri5.same (same_new nc), ri5.hops z (by simp), .tup (.inl (.inl upd_same)) (.cons (.str _) (.cons (.str _) .nil))⟩
      · rintro σ H4 ⟨v', e', rfl, ri4, he', hd4⟩
        obtain ⟨a', rr', rfl, ha'⟩ := dp_ev hd4
        -- if event[0] == 'start'
        refine ⟨fun σ H5 => ∃ ops, σ = [some (.ref t), some (.ref r), some (.ref o), some (.int (0 + (i : Int))), some (.ref a')] ∧ RI K H H5 t s r o vs es ops ∧ Dp K H5 (.ref a') e'.data ∧ ops.length ≤ i + 1, ?_, ?_⟩
        · refine ⟨.ref a', rfl, a', _, 0, .str (EvTag e'), rfl, rfl, ha', atI_nat (j := 0) rfl, rfl, _, rfl, ite2 (fun _ => ?_) (fun _ => ⟨ops, rfl, ri4, hd4, by omega⟩)⟩
          refine ⟨.ref o, rfl, .inl ⟨rfl, _, SqL.of ri4.ho⟩, .ref a', rfl, a', _, 1, .str (EvName e'), rfl, rfl, ha', atI_nat (j := 1) rfl, o, _, _, rfl, rfl, ri4.ho, ?_, ?_⟩
          · rw [List.length_map]
            exact line_lt (by omega)
          · refine ⟨ops ++ [EvName e'], rfl, ?_, dp_keep ri4.keepO _ _ (tupOnly_ev e') hd4, by rw [List.length_append]; show ops.length + 1 ≤ i + 1; omega⟩
            have h1 := ri4.opened (qs := ops ++ [EvName e']) fun z hz => by
              rcases List.mem_append.mp hz with hz | hz
              · exact ri4.hops z hz
              · have e1 : z = EvName e' := by simpa using hz
                rw [e1]
                exact ev_name_ok he'
            rw [List.map_append] at h1
            exact h1
        · rintro σ H5 ⟨ops5, rfl, ri5, hd5, hop5⟩
          obtain ⟨a5, rr5, e5, ha5⟩ := dp_ev hd5
          cases e5
          refine ⟨fun σ H6 => ∃ o ops, σ = [some (.ref t), some (.ref r), some (.ref o), some (.int (0 + (i : Int))), some (.ref a')] ∧ RI K H H6 t s r o vs es ops ∧ Dp K H6 (.ref a') e'.data ∧ ops.length ≤ i + 1, ?_, ?_⟩
          · refine ⟨.ref a', rfl, a', _, 0, .str (EvTag e'), rfl, rfl, ha5, atI_nat (j := 0) rfl, rfl, _, rfl, ite2 (fun _ => ?_) (fun _ => ⟨o, ops5, rfl, ri5, hd5, by omega⟩)⟩
            obtain ⟨qs, eq, hq, hql⟩ := cutV_strs ops5 none (some (-1))
            refine ⟨.ref o, rfl, _, rfl, _, rfl, o, _, rfl, SqL.of ri5.ho, fun p np => ?_⟩
            show ∃ o' ops', _
            rw [show cutV (ops5.map V.str) none (some (-1)) = qs.map V.str from eq]
            exact ⟨p, qs, rfl, ri5.fresh np fun z hz => ri5.hops z (hq z hz), same_dp (same_new np) (tupOnly_ev e') hd5, by omega⟩
          · rintro σ H6 ⟨o6, ops6, rfl, ri6, hd6, hop6⟩
            refine ⟨.ref r, rfl, .inl ⟨rfl, _, SqL.of ri6.hr⟩, .ref a', rfl, r, _, _, rfl, rfl, ri6.hr, ?_, ?_⟩
            · rw [dpAll_len ri6.hv, List.length_map]
              exact line_lt (by omega)
            · refine ⟨_, _, o6, ops6, _, _, rfl, ri6.row hd6, by rw [List.length_append, hes]; rfl, fun x hx => ?_, hop6⟩
              rcases List.mem_append.mp hx with hx | hx
              · exact hok x hx
              · have e1 : x = e' := by simpa using hx
                rw [e1]
                exact he'
    · obtain ⟨x3, x4, o, ops, vs, es, rfl, ri, hes, hok, hopl⟩ := p
      exact ⟨.ref r, rfl, q r vs es H2 ri.hr ri.hv (by omega) hok ri.rt.1 ri.ext ri.tk⟩
def spLaw (K : PySem.W.Frag) : Sp := fun vs H Q _ => ∃ (a : Addr) (ns : List Int), vs = [.ref a] ∧ SqL K H a (ns.map V.int) ∧ ∀ H', Q (.bl true) H'
theorem ok_law (T : Tx K w mg) : FnOk P w K mg base CX0 6 T.d_law.f T.d_law.fd ["script"] (spLaw K) := by
  refine T.d_law.F.ok sc_law (fun vs H Q E h => ?_) (fun cdv A outer st H vs Q E hr h => ?_)
  · obtain ⟨z, _, rfl, _⟩ := h
    rfl
  · obtain ⟨a, ns, rfl, ha, q⟩ := h
    refine ⟨_, (pss_cons (ps_set (i := 1) sc_law.nd rfl (Or.inl rfl) (pe_lst (pa_cons pe_int (pa_cons (pe_callTy call_list_of (by rfl) T.n_list (by decide +kernel) (pa_cons (pv 0) pa_nil)) (pa_cons pe_int pa_nil)))))
      (pss_cons (ps_for PassesOwn.never rfl (pi_range1 (by rfl) T.n_range (pa_cons pe_int pa_nil)) (pg_name (i := 2) sc_law.nd rfl (Or.inl rfl))
        (pss_cons (ps_set (i := 3) sc_law.nd rfl (Or.inl rfl) (pe_call (ok__law_row T) (hr.mono (by decide)) (by rfl) T.d__law_row.g T.d__law_row.F.kp T.d__law_row.b .nil pass0 (pa_cons (pv 1) pa_nil)))
        (pss_cons (ps_if (pt_cmpR (op_neD hr.units) (pe_call (ok_print_output T) (hr.mono (by decide)) (by rfl) T.d_print_output.g T.d_print_output.F.kp T.d_print_output.b .nil pass0 (pa_cons (pv 3) pa_nil)) (pe_call (ok__law_printed T) (hr.mono (by decide)) (by rfl) T.d__law_printed.g T.d__law_printed.F.kp T.d__law_printed.b .nil pass0 (pa_cons (pv 3) pa_nil)) (nomark _))
          (pss_one (ps_ret pe_bl))
          pss_nil)
        (pss_cons (ps_set (i := 4) sc_law.nd rfl (Or.inl rfl) (pe_slice sl_list (pv 3) po_none (po_some (pe_call (ok__law_draw T) (hr.mono (by decide)) (by rfl) T.d__law_draw.g T.d__law_draw.F.kp T.d__law_draw.b .nil pass0 (pa_cons (pv 1) (pa_cons (pe_op op_add (pe_callB call_len_seq (by rfl) T.n_len (by decide +kernel) (pa_cons (pv 3) pa_nil)) pe_int) pa_nil))))))
        (pss_one (ps_if (pt_cmpR (op_neD hr.units) (pe_call (ok_print_output T) (hr.mono (by decide)) (by rfl) T.d_print_output.g T.d_print_output.F.kp T.d_print_output.b .nil pass0 (pa_cons (pv 4) pa_nil)) (pe_call (ok__law_printed T) (hr.mono (by decide)) (by rfl) T.d__law_printed.g T.d__law_printed.F.kp T.d__law_printed.b .nil pass0 (pa_cons (pv 4) pa_nil)) (nomark _))
          (pss_one (ps_ret pe_bl))
          pss_nil))))))
      (pss_one (ps_ret pe_bl)))), ?_⟩
    refine ⟨.ref a, rfl, a, _, rfl, .inl ha, fun s ns_ => ⟨line_ok (by show 3 ≤ 100000; omega), fun t nt => ?_⟩⟩
    have hst : s ≠ t := ne_of_none upd_same nt
    have tk : TapeOk (upd (upd H s (.lst (ns.map V.int))) t (.lst [.int 0, .ref s, .int 0])) t s := ⟨ns, 0, 0, upd_same, Int.le_refl _, Int.le_refl _, hst, (same_new nt) _ _ upd_same⟩
    refine ⟨_, rfl, by decide, by decide, ?_⟩
    refine for_range (fun i σ H2 => ∃ (x2 x3 x4 : Option V), σ = [some (.ref a), some (.ref t), x2, x3, x4] ∧ TapeOk H2 t s) ⟨none, none, none, rfl, tk⟩ (fun i σ H2 hi p => ?_) (fun σ H2 p => q _)
    obtain ⟨x2, x3, x4, rfl, tk2⟩ := p
    refine ⟨.ref t, rfl, t, s, rfl, tk2, fun r vs es H3 hr3 hv3 hlen hok hrt ext3 tk3 => ?_⟩
    have eqI : ∀ l : List Nat, PyData.eqv (.list (l.map dInt)) (.list (l.map dInt)) = true := fun l => by
      simp [PyData.eqv, eqv_ints]
    refine ⟨.ref r, rfl, r, vs, es, rfl, SqL.of hr3, hv3, by omega, hok, fun p H5 s5 hp => ?_⟩
    refine ⟨.ref r, rfl, r, vs, es, rfl, SqL.of (s5 _ _ hr3), dpAll_keep (Keep.same s5) _ _ (tupOnly_evs es) hv3, by omega, hok, fun p2 H6 s6 hp2 => ?_⟩
    refine ⟨.list ((printed es).map dInt), .list ((printed es).map dInt), .lst (SqL.of (s6 _ _ hp)) (dpAll_ints _), .lst (SqL.of hp2) (dpAll_ints _), shaped_ints _, shaped_ints _, _, rfl, ?_⟩
    refine iteN (by rw [eqI] <;> rfl) ?_
    -- part = row[:..]
    have hr6 := s6 _ _ (s5 _ _ hr3)
    have hv6 := dpAll_keep (Keep.same (s5.trans s6)) _ _ (tupOnly_evs es) hv3
    have tk6 := tk3.ext (s5.trans s6)
    have hvl : vs.length = es.length := by rw [dpAll_len hv3, List.length_map]
    refine ⟨.ref r, rfl, .ref t, rfl, .ref r, rfl, r, vs, rfl, .inl (SqL.of hr6), _, _, rfl, rfl, t, s, _, rfl, by omega, by omega, tk6, fun d H7 hd0 hd1 ext7 tk7 => ?_⟩
    refine ⟨_, rfl, r, vs, rfl, SqL.of (ext7 _ _ hrt hr6), fun u nu => ?_⟩
    have hcut := cutTo vs hd0
    have hv7 := dpAll_keep ((tk6.keep ext7).trans (Keep.same (same_new (o := .lst (cutV vs none (some d))) nu))) _ _ (tupOnly_evs es) hv6
    have hv8 : DpAll K (upd H7 u (.lst (cutV vs none (some d)))) (cutV vs none (some d)) ((es.take d.toNat).map Ev.data) := by
      have h1 := dpAll_take d.toNat hv7
      rw [evs_take] at h1
      rw [hcut] at h1 ⊢
      exact h1
    have hu8 : (upd H7 u (.lst (cutV vs none (some d)))) u = some (.lst (cutV vs none (some d))) := upd_same
    have tk8 := tk7.new (o := .lst (cutV vs none (some d))) nu
    have hfl : (es.take d.toNat).length ≤ 40 := by
      rw [List.length_take]
      omega
    have hfk : ∀ e ∈ es.take d.toNat, EvOk e := fun e he => hok e (List.mem_of_mem_take he)
    refine ⟨.ref u, rfl, u, _, es.take d.toNat, rfl, SqL.of hu8, hv8, hfl, hfk, fun p H9 s9 hp => ?_⟩
    refine ⟨.ref u, rfl, u, _, es.take d.toNat, rfl, SqL.of (s9 _ _ hu8), dpAll_keep (Keep.same s9) _ _ (tupOnly_evs _) hv8, hfl, hfk, fun p2 HA sA hp2 => ?_⟩
    refine ⟨.list ((printed (es.take d.toNat)).map dInt), .list ((printed (es.take d.toNat)).map dInt), .lst (SqL.of (sA _ _ hp)) (dpAll_ints _), .lst (SqL.of hp2) (dpAll_ints _), shaped_ints _, shaped_ints _, _, rfl, ?_⟩
    refine iteN (by rw [eqI] <;> rfl) ?_
    exact ⟨_, _, _, rfl, tk8.ext (s9.trans sA)⟩
end
end K62
namespace K62
open PySem PySem.Spec PyProof.Rows L2
theorem cw_vals {K : PySem.W.Frag} {cw : Addr} {n : Nat} {h1 h2 h3 : Int} {t1 t2 t3 u1 u2 u3 : Tok}
    (hl : K.lookup cw = some ⟨.type "dict", none, .dict #[⟨h1, .str (Str.ofString "<") t1, .str (Str.ofString "&lt;") u1⟩, ⟨h2, .str (Str.ofString ">") t2, .str (Str.ofString "&gt;") u2⟩, ⟨h3, .str (Str.ofString "&") t3, .str (Str.ofString "&amp;") u3⟩] n, #[]⟩) (c : Nat) :
    ∃ r, PySem.W.nsIn K cw ⟨#[c]⟩ = some r ∧ ((r = none ∧ esc false c = [c]) ∨ ∃ t, r = some (.str (escS false c) t)) := by
  have e0 : PySem.W.nsIn K cw ⟨#[c]⟩ = (match ([⟨h1, .str (Str.ofString "<") t1, .str (Str.ofString "&lt;") u1⟩, ⟨h2, .str (Str.ofString ">") t2, .str (Str.ofString "&gt;") u2⟩, ⟨h3, .str (Str.ofString "&") t3, .str (Str.ofString "&amp;") u3⟩] : List DictEntry).find? (·.key.isStr ⟨#[c]⟩) with
      | some e => some (some e.val)
      | none => some none) := by
    unfold PySem.W.nsIn
    rw [hl]
    rfl
  have k : ∀ (x : String) (d : Nat) (t : Tok), Str.ofString x = ⟨#[d]⟩ → (Value.str (Str.ofString x) t).isStr ⟨#[c]⟩ = decide (c = d) := fun x d t e => by
    rw [PySem.W.isStr_of, e]
    unfold Value.isStrOf
    by_cases h : c = d
    · subst h
      simp
    · simp [h]
      intro z
      exact h (by simpa using z.symm)
  rw [e0]
  simp only [List.find?_cons, k "<" 60 t1 rfl, k ">" 62 t2 rfl, k "&" 38 t3 rfl]
  by_cases e1 : c = 60
  · subst e1
    exact ⟨_, rfl, .inr ⟨_, rfl⟩⟩
  · by_cases e2 : c = 62
    · subst e2
      exact ⟨_, rfl, .inr ⟨_, rfl⟩⟩
    · by_cases e3 : c = 38
      · subst e3
        exact ⟨_, rfl, .inr ⟨_, rfl⟩⟩
      · refine ⟨none, ?_, .inl ⟨rfl, by simp [esc, e1, e2, e3]⟩⟩
        simp [e1, e2, e3]

theorem all_mk {l : PySem.W.OpenLaw} {w : World} {K : PySem.W.Frag} {h : Heap} {mg : Str → Option Value} {fa f1 f2 f3 f4 f5 f6 f7 f8 f9 f10 f11 cw : Addr} (X : K.In h) (G : h.Ns mainGlobals mg) (hfa : mg "law" = some (.ref fa))
    {od1 an1 od2 an2 od3 an3 od4 an4 od5 an5 od6 an6 od7 an7 od8 an8 od9 an9 od10 an10 od11 an11 : Option Addr} {sl1 sl2 sl3 sl4 sl5 sl6 sl7 sl8 sl9 sl10 sl11 : Array (Option Value)} {oc1 kV1 dc1 pm1 cd1 ct1 oc2 kV2 dc2 pm2 cd2 ct2 oc3 kV3 dc3 pm3 cd3 ct3 oc4 kV4 dc4 pm4 cd4 ct4 oc5 kV5 dc5 pm5 cd5 ct5 oc6 kV6 dc6 pm6 cd6 ct6 oc7 kV7 dc7 pm7 cd7 ct7 oc8 kV8 dc8 pm8 cd8 ct8 oc9 kV9 dc9 pm9 cd9 ct9 oc10 kV10 dc10 pm10 cd10 ct10 oc11 kV11 dc11 pm11 cd11 ct11 : Value}
    (a1 : PySem.W.nsIn K mainGlobals "content_words" = some (some (.ref f1))) (l1 : K.lookup f1 = some ⟨oc1, od1, .func (PySem.W.fnOf "content_words" "content_words" (defArgs s_content_words) (defBody s_content_words) (defScope s_content_words) .none kV1 dc1 pm1 an1 cd1 ct1), sl1⟩) (c1 : PySem.W.codeIn K cd1 "content_words" = true) (k1 : PySem.W.keepIn K (.ref f1) = true)
    (a2 : PySem.W.nsIn K mainGlobals "tag_words" = some (some (.ref f2))) (l2 : K.lookup f2 = some ⟨oc2, od2, .func (PySem.W.fnOf "tag_words" "tag_words" (defArgs s_tag_words) (defBody s_tag_words) (defScope s_tag_words) .none kV2 dc2 pm2 an2 cd2 ct2), sl2⟩) (c2 : PySem.W.codeIn K cd2 "tag_words" = true) (k2 : PySem.W.keepIn K (.ref f2) = true)
    (a3 : PySem.W.nsIn K mainGlobals "print_output" = some (some (.ref f3))) (l3 : K.lookup f3 = some ⟨oc3, od3, .func (PySem.W.fnOf "print_output" "print_output" (defArgs s_print_output) (defBody s_print_output) (defScope s_print_output) .none kV3 dc3 pm3 an3 cd3 ct3), sl3⟩) (c3 : PySem.W.codeIn K cd3 "print_output" = true) (k3 : PySem.W.keepIn K (.ref f3) = true)
    (a4 : PySem.W.nsIn K mainGlobals "_law_draw" = some (some (.ref f4))) (l4 : K.lookup f4 = some ⟨oc4, od4, .func (PySem.W.fnOf "_law_draw" "_law_draw" (defArgs s__law_draw) (defBody s__law_draw) (defScope s__law_draw) .none kV4 dc4 pm4 an4 cd4 ct4), sl4⟩) (c4 : PySem.W.codeIn K cd4 "_law_draw" = true) (k4 : PySem.W.keepIn K (.ref f4) = true)
    (a5 : PySem.W.nsIn K mainGlobals "_law_pick" = some (some (.ref f5))) (l5 : K.lookup f5 = some ⟨oc5, od5, .func (PySem.W.fnOf "_law_pick" "_law_pick" (defArgs s__law_pick) (defBody s__law_pick) (defScope s__law_pick) .none kV5 dc5 pm5 an5 cd5 ct5), sl5⟩) (c5 : PySem.W.codeIn K cd5 "_law_pick" = true) (k5 : PySem.W.keepIn K (.ref f5) = true)
    (a6 : PySem.W.nsIn K mainGlobals "_law_string" = some (some (.ref f6))) (l6 : K.lookup f6 = some ⟨oc6, od6, .func (PySem.W.fnOf "_law_string" "_law_string" (defArgs s__law_string) (defBody s__law_string) (defScope s__law_string) .none kV6 dc6 pm6 an6 cd6 ct6), sl6⟩) (c6 : PySem.W.codeIn K cd6 "_law_string" = true) (k6 : PySem.W.keepIn K (.ref f6) = true)
    (a7 : PySem.W.nsIn K mainGlobals "_law_event" = some (some (.ref f7))) (l7 : K.lookup f7 = some ⟨oc7, od7, .func (PySem.W.fnOf "_law_event" "_law_event" (defArgs s__law_event) (defBody s__law_event) (defScope s__law_event) .none kV7 dc7 pm7 an7 cd7 ct7), sl7⟩) (c7 : PySem.W.codeIn K cd7 "_law_event" = true) (k7 : PySem.W.keepIn K (.ref f7) = true)
    (a8 : PySem.W.nsIn K mainGlobals "_law_row" = some (some (.ref f8))) (l8 : K.lookup f8 = some ⟨oc8, od8, .func (PySem.W.fnOf "_law_row" "_law_row" (defArgs s__law_row) (defBody s__law_row) (defScope s__law_row) .none kV8 dc8 pm8 an8 cd8 ct8), sl8⟩) (c8 : PySem.W.codeIn K cd8 "_law_row" = true) (k8 : PySem.W.keepIn K (.ref f8) = true)
    (a9 : PySem.W.nsIn K mainGlobals "_law_words" = some (some (.ref f9))) (l9 : K.lookup f9 = some ⟨oc9, od9, .func (PySem.W.fnOf "_law_words" "_law_words" (defArgs s__law_words) (defBody s__law_words) (defScope s__law_words) .none kV9 dc9 pm9 an9 cd9 ct9), sl9⟩) (c9 : PySem.W.codeIn K cd9 "_law_words" = true) (k9 : PySem.W.keepIn K (.ref f9) = true)
    (a10 : PySem.W.nsIn K mainGlobals "_law_printed" = some (some (.ref f10))) (l10 : K.lookup f10 = some ⟨oc10, od10, .func (PySem.W.fnOf "_law_printed" "_law_printed" (defArgs s__law_printed) (defBody s__law_printed) (defScope s__law_printed) .none kV10 dc10 pm10 an10 cd10 ct10), sl10⟩) (c10 : PySem.W.codeIn K cd10 "_law_printed" = true) (k10 : PySem.W.keepIn K (.ref f10) = true)
    (a11 : PySem.W.nsIn K mainGlobals "law" = some (some (.ref f11))) (l11 : K.lookup f11 = some ⟨oc11, od11, .func (PySem.W.fnOf "law" "law" (defArgs s_law) (defBody s_law) (defScope s_law) .none kV11 dc11 pm11 an11 cd11 ct11), sl11⟩) (c11 : PySem.W.codeIn K cd11 "law" = true) (k11 : PySem.W.keepIn K (.ref f11) = true)
    (z_len : PySem.W.nsIn K mainGlobals "len" = some none)
    (z_range : PySem.W.nsIn K mainGlobals "range" = some none)
    (z_ord : PySem.W.nsIn K mainGlobals "ord" = some none)
    (z_abs : PySem.W.nsIn K mainGlobals "abs" = some none)
    (z_int : PySem.W.nsIn K mainGlobals "int" = some none)
    (z_tuple : PySem.W.nsIn K mainGlobals "tuple" = some none)
    (z_list : PySem.W.nsIn K mainGlobals "list" = some none)
    (z_sorted : PySem.W.nsIn K mainGlobals "sorted" = some none)
    (aD : PySem.W.nsIn K mainGlobals "CONTENT_WORDS" = some (some (.ref cw))) {n : Nat} {h1 h2 h3 : Int} {t1 t2 t3 u1 u2 u3 : Tok}
    (lD : K.lookup cw = some ⟨.type "dict", none, .dict #[⟨h1, .str (Str.ofString "<") t1, .str (Str.ofString "&lt;") u1⟩, ⟨h2, .str (Str.ofString ">") t2, .str (Str.ofString "&gt;") u2⟩, ⟨h3, .str (Str.ofString "&") t3, .str (Str.ofString "&amp;") u3⟩] n, #[]⟩)
    (q1 : h1 = PyData.keyHash w.params (Str.ofString "<")) (q2 : h2 = PyData.keyHash w.params (Str.ofString ">")) (q3 : h3 = PyData.keyHash w.params (Str.ofString "&")) (low : (cw == sysModules) = false) :
    ∃ fd : FuncData, (∀ (s : Shared) (v : Value), BindsTo s fd ⟨[v], []⟩ [("script", v)]) ∧ ∀ base : Heap, K.In base → base.Ns mainGlobals mg → FnOk l.prog w K mg base CX0 6 fa fd ["script"] (spLaw K) := by
  have e := hfa.symm.trans (PySem.W.mg_of X G a11)
  cases e
  have F1 := fun_mk (st := s_content_words) l1 c1 k1
  have b1 := F1.binds (ps := ["string"]) fun _ _ _ _ _ _ us hl => match us, hl with | [_], _ => rfl
  have F2 := fun_mk (st := s_tag_words) l2 c2 k2
  have b2 := F2.binds (ps := ["event"]) fun _ _ _ _ _ _ us hl => match us, hl with | [_], _ => rfl
  have F3 := fun_mk (st := s_print_output) l3 c3 k3
  have b3 := F3.binds (ps := ["output"]) fun _ _ _ _ _ _ us hl => match us, hl with | [_], _ => rfl
  have F4 := fun_mk (st := s__law_draw) l4 c4 k4
  have b4 := F4.binds (ps := ["tape", "many"]) fun _ _ _ _ _ _ us hl => match us, hl with | [_, _], _ => rfl
  have F5 := fun_mk (st := s__law_pick) l5 c5 k5
  have b5 := F5.binds (ps := ["tape", "row"]) fun _ _ _ _ _ _ us hl => match us, hl with | [_, _], _ => rfl
  have F6 := fun_mk (st := s__law_string) l6 c6 k6
  have b6 := F6.binds (ps := ["tape", "signs", "most"]) fun _ _ _ _ _ _ us hl => match us, hl with | [_, _, _], _ => rfl
  have F7 := fun_mk (st := s__law_event) l7 c7 k7
  have b7 := F7.binds (ps := ["tape"]) fun _ _ _ _ _ _ us hl => match us, hl with | [_], _ => rfl
  have F8 := fun_mk (st := s__law_row) l8 c8 k8
  have b8 := F8.binds (ps := ["tape"]) fun _ _ _ _ _ _ us hl => match us, hl with | [_], _ => rfl
  have F9 := fun_mk (st := s__law_words) l9 c9 k9
  have b9 := F9.binds (ps := ["string", "quoted"]) fun _ _ _ _ _ _ us hl => match us, hl with | [_, _], _ => rfl
  have F10 := fun_mk (st := s__law_printed) l10 c10 k10
  have b10 := F10.binds (ps := ["row"]) fun _ _ _ _ _ _ us hl => match us, hl with | [_], _ => rfl
  have F11 := fun_mk (st := s_law) l11 c11 k11
  have b11 := F11.binds (ps := ["script"]) fun _ _ _ _ _ _ us hl => match us, hl with | [_], _ => rfl
  let T : Tx K w mg := {
    d_content_words := ⟨_, _, F1, b1, PySem.W.mg_of X G a1⟩
    d_tag_words := ⟨_, _, F2, b2, PySem.W.mg_of X G a2⟩
    d_print_output := ⟨_, _, F3, b3, PySem.W.mg_of X G a3⟩
    d__law_draw := ⟨_, _, F4, b4, PySem.W.mg_of X G a4⟩
    d__law_pick := ⟨_, _, F5, b5, PySem.W.mg_of X G a5⟩
    d__law_string := ⟨_, _, F6, b6, PySem.W.mg_of X G a6⟩
    d__law_event := ⟨_, _, F7, b7, PySem.W.mg_of X G a7⟩
    d__law_row := ⟨_, _, F8, b8, PySem.W.mg_of X G a8⟩
    d__law_words := ⟨_, _, F9, b9, PySem.W.mg_of X G a9⟩
    d__law_printed := ⟨_, _, F10, b10, PySem.W.mg_of X G a10⟩
    d_law := ⟨_, _, F11, b11, PySem.W.mg_of X G a11⟩
    n_len := PySem.W.mg_none_of X G z_len
    n_range := PySem.W.mg_none_of X G z_range
    n_ord := PySem.W.mg_none_of X G z_ord
    n_abs := PySem.W.mg_none_of X G z_abs
    n_int := PySem.W.mg_none_of X G z_int
    n_tuple := PySem.W.mg_none_of X G z_tuple
    n_list := PySem.W.mg_none_of X G z_list
    n_sorted := PySem.W.mg_none_of X G z_sorted
    cw := cw
    cwE := _
    cwN := _
    cwD := ⟨lD, ⟨⟨_, _, rfl, q1⟩, ⟨_, _, rfl, q2⟩, ⟨_, _, rfl, q3⟩, trivial⟩, low⟩
    cwG := PySem.W.mg_of X G aD
    cwV := cw_vals lD }
  exact ⟨_, fun s v => .of_eq rfl, fun base _ _ => ok_law T⟩
end K62
open PySem PySem.W PyProof.Rows
set_option maxHeartbeats 0 in
theorem PySem.Challenge.cw_hewstream_k62_printed_outputs_holds : PySem.Challenge.rw_hewstream_k62_printed_outputs.Holds := by
  w_on; o_law; k_head; (case hw => w_witness2)
  k_fill
  refine L2.walk_of (l := PySem.Challenge.rw_hewstream_k62_printed_outputs) (n := 63) (k := 6) (x := "script") (CX := fun _ => L2.CX0) (sp := fun w => K62.spLaw _) rfl (by decide) rfl ⟨rfl, by decide, by decide⟩ (fun w h Y => PySem.W.kIn_of Y) ?F (fun _ _ a ns hl _ hS => ⟨a, ns, rfl, hS, fun _ => rfl⟩) (fun _ _ _ _ _ h => h)
  case F =>
    intro w mg fa h KX G hmg
    refine' K62.all_mk KX G hmg ?a1 ?l1 ?c1 ?k1 ?a2 ?l2 ?c2 ?k2 ?a3 ?l3 ?c3 ?k3 ?a4 ?l4 ?c4 ?k4 ?a5 ?l5 ?c5 ?k5 ?a6 ?l6 ?c6 ?k6 ?a7 ?l7 ?c7 ?k7 ?a8 ?l8 ?c8 ?k8 ?a9 ?l9 ?c9 ?k9 ?a10 ?l10 ?c10 ?k10 ?a11 ?l11 ?c11 ?k11 ?z_len ?z_range ?z_ord ?z_abs ?z_int ?z_tuple ?z_list ?z_sorted ?aD ?lD ?q1 ?q2 ?q3 ?low
    (case a1 => k_is)
    (case l1 => k_is)
    (case c1 => k_is)
    (case k1 => k_is)
    (case a2 => k_is)
    (case l2 => k_is)
    (case c2 => k_is)
    (case k2 => k_is)
    (case a3 => k_is)
    (case l3 => k_is)
    (case c3 => k_is)
    (case k3 => k_is)
    (case a4 => k_is)
    (case l4 => k_is)
    (case c4 => k_is)
    (case k4 => k_is)
    (case a5 => k_is)
    (case l5 => k_is)
    (case c5 => k_is)
    (case k5 => k_is)
    (case a6 => k_is)
    (case l6 => k_is)
    (case c6 => k_is)
    (case k6 => k_is)
    (case a7 => k_is)
    (case l7 => k_is)
    (case c7 => k_is)
    (case k7 => k_is)
    (case a8 => k_is)
    (case l8 => k_is)
    (case c8 => k_is)
    (case k8 => k_is)
    (case a9 => k_is)
    (case l9 => k_is)
    (case c9 => k_is)
    (case k9 => k_is)
    (case a10 => k_is)
    (case l10 => k_is)
    (case c10 => k_is)
    (case k10 => k_is)
    (case a11 => k_is)
    (case l11 => k_is)
    (case c11 => k_is)
    (case k11 => k_is)
    (case z_len => k_is)
    (case z_range => k_is)
    (case z_ord => k_is)
    (case z_abs => k_is)
    (case z_int => k_is)
    (case z_tuple => k_is)
    (case z_list => k_is)
    (case z_sorted => k_is)
    (case aD => k_is)
    (case lD => k_is)
    (case q1 => rfl)
    (case q2 => rfl)
    (case q3 => rfl)
    (case low => rfl)
