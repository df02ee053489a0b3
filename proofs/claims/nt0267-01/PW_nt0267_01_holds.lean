import PyProof.Rows.All
import Wide.All
import OpenK.AllK
import Wide.FinOn
import PySem.Challenge.RW_nt0267_01
open PySem PySem.W PySem.Calls PyProof.Rows
set_option Elab.async false
set_option maxRecDepth 100000
set_option linter.all false
set_option maxHeartbeats 16000000
set_option genInjectivity false
set_option genSizeOf false
set_option genSizeOfSpec false
namespace Mine
open_top hd for PySem.Challenge.rw_nt0267_01
end Mine
namespace Mine
open Builtin
noncomputable abbrev By := List UInt8
noncomputable def joinP : List By → By
  | [] => []
  | [x] => x
  | x :: y :: r => x ++ 47 :: joinP (y :: r)
noncomputable def splitA (cur : By) : By → List By
  | [] => [cur]
  | x :: r => if x = 47 then cur :: splitA [] r else splitA (cur ++ [x]) r
noncomputable def splitP (l : By) : List By := splitA [] l
noncomputable def lastCut : By → Option (By × By)
  | [] => none
  | x :: r => match lastCut r with
    | some (p, q) => some (x :: p, q)
    | none => if x = 47 then some ([], r) else none
noncomputable def folderB (l : By) : By := match lastCut l with | some (p, _) => p | none => []
noncomputable def nameB (l : By) : By := match lastCut l with | some (_, q) => q | none => l

theorem lastCut_none : ∀ {l : By}, 47 ∉ l → lastCut l = none
  | [], _ => rfl
  | x :: r, h => by
    simp only [List.mem_cons, not_or] at h
    rw [lastCut, lastCut_none h.2]
    simp [Ne.symm h.1]
theorem lastCut_app : ∀ (p : By) {q : By}, 47 ∉ q → lastCut (p ++ 47 :: q) = some (p, q)
  | [], q, h => by simp [lastCut, lastCut_none h]
  | x :: p, q, h => by simp [lastCut, lastCut_app p h]
theorem lastCut_cases (l : By) : (47 ∉ l ∧ lastCut l = none) ∨ ∃ p q, l = p ++ 47 :: q ∧ 47 ∉ q ∧ lastCut l = some (p, q) := by
  induction l with
  | nil => exact .inl ⟨by simp, rfl⟩
  | cons x r ih =>
    rcases ih with ⟨h, e⟩ | ⟨p, q, e, h, e2⟩
    · by_cases hx : x = 47
      · subst hx; exact .inr ⟨[], r, rfl, h, by simp [lastCut, e]⟩
      · exact .inl ⟨by simp [Ne.symm hx, h], by simp [lastCut, e, hx]⟩
    · exact .inr ⟨x :: p, q, by rw [e]; rfl, h, by simp [lastCut, e2]⟩

theorem find_rev_range {P : Nat → Bool} : ∀ {n i : Nat}, i < n → P i = true → (∀ j, i < j → j < n → P j = false) → (List.range n).reverse.find? P = some i
  | 0, _, h, _, _ => absurd h (Nat.not_lt_zero _)
  | n + 1, i, h, hp, hl => by
    rw [List.range_succ, List.reverse_append]
    simp only [List.reverse_cons, List.reverse_nil, List.nil_append, List.cons_append, List.find?_cons]
    by_cases e : i = n
    · subst e; rw [hp]
    · have hin : i < n := Nat.lt_of_le_of_ne (Nat.le_of_lt_succ h) e
      rw [hl n hin (Nat.lt_succ_self n)]
      exact find_rev_range hin hp fun j h1 h2 => hl j h1 (Nat.lt_succ_of_lt h2)
theorem find_rev_none {P : Nat → Bool} {n : Nat} (h : ∀ j, j < n → P j = false) : (List.range n).reverse.find? P = none := by
  rw [List.find?_eq_none]
  intro x hx
  rw [List.mem_reverse, List.mem_range] at hx
  rw [h x hx]; decide

theorem extract_one (l : By) (i : Nat) : (l.toArray.extract i (i + 1) == #[(47 : UInt8)]) = (l[i]? == some 47) := by
  rw [Bool.eq_iff_iff]
  simp only [beq_iff_eq]
  constructor
  · intro h
    have := congrArg Array.toList h
    simp only [Array.toList_extract, List.extract, Nat.add_sub_cancel_left] at this
    have h2 : (l.drop i).take 1 = [47] := by simpa using this
    cases hd : l.drop i with
    | nil => rw [hd] at h2; simp at h2
    | cons x r =>
      rw [hd] at h2
      simp only [List.take_succ_cons, List.take_zero, List.cons.injEq, and_true] at h2
      subst h2
      have : (l.drop i)[0]? = some 47 := by rw [hd]; rfl
      simpa using this
  · intro h
    apply Array.toList_inj.mp
    simp only [Array.toList_extract, List.extract, Nat.add_sub_cancel_left]
    show (l.drop i).take 1 = [47]
    obtain ⟨hi, e⟩ := List.getElem?_eq_some_iff.mp h
    rw [List.drop_eq_getElem_cons hi, e]; rfl

theorem rfind_cut (l : By) : ((if ((l.toArray.size : Int) - 0) < ((#[(47 : UInt8)]).size : Int) then none else some (0, l.toArray.size) : Option (Nat × Nat)).bind (fun x => Bytes.rfind? l.toArray #[(47 : UInt8)] x.1 x.2)) = (lastCut l).map (·.1.length) := by
  have hr : ∀ n : Nat, Bytes.rfind? l.toArray #[(47 : UInt8)] 0 n = (List.range n).reverse.find? fun i => l[i]? == some 47 := by
    intro n
    unfold Bytes.rfind?
    have e : (List.range (n + 1 - (0 + #[(47 : UInt8)].size))).map (· + 0) = List.range n := by simp
    rw [e]
    congr 1
    funext i
    exact extract_one l i
  rcases lastCut_cases l with ⟨h, e⟩ | ⟨p, q, rfl, h, e⟩
  · rw [e]
    split
    · rfl
    · show Bytes.rfind? _ _ _ _ = _
      rw [hr]
      refine find_rev_none fun j _ => ?_
      simp only [beq_eq_false_iff_ne, ne_eq]
      intro hj
      exact h (List.mem_of_getElem? hj)
  · rw [e, if_neg (by simp; (first | lia | omega))]
    show Bytes.rfind? _ _ _ _ = _
    rw [hr]
    refine find_rev_range (by simp) (by simp) fun j h1 h2 => ?_
    replace h1 : p.length < j := h1
    simp only [beq_eq_false_iff_ne, ne_eq]
    intro hj
    rw [List.getElem?_append_right (Nat.le_of_lt (by assumption))] at hj
    obtain ⟨k, hk⟩ : ∃ k, j - p.length = k + 1 := Nat.exists_eq_succ_of_ne_zero (Nat.sub_ne_zero_of_lt (by assumption))
    rw [hk] at hj
    exact h (List.mem_of_getElem? (by simpa using hj))

theorem occ_eq (l : By) : Bytes.occurrences l.toArray #[(47 : UInt8)] 0 l.toArray.size = (List.range l.length).filter fun i => l[i]? == some 47 := by
  unfold Bytes.occurrences
  have e : (List.range (l.toArray.size + 1 - (0 + #[(47 : UInt8)].size))).map (· + 0) = List.range l.length := by simp
  rw [e]
  have key : ∀ (n m : Nat), m ≤ n → ∀ acc : List Nat, ∀ last, last ≤ m →
      (((List.range' m (n - m)).foldl (fun (acc : List Nat × Nat) i => if i ≥ acc.2 && l.toArray.extract i (i + #[(47 : UInt8)].size) == #[(47 : UInt8)] then (i :: acc.1, i + #[(47 : UInt8)].size) else acc) (acc, last)).1.reverse) = acc.reverse ++ (List.range' m (n - m)).filter fun i => l[i]? == some 47 := by
    intro n m hm
    generalize hk : n - m = k
    clear hk hm
    induction k generalizing m with
    | zero => intro acc last _; simp
    | succ k ih =>
      intro acc last hl
      rw [List.range'_succ, List.foldl_cons, List.filter_cons]
      have hx : (decide (m ≥ last) && l.toArray.extract m (m + #[(47 : UInt8)].size) == #[(47 : UInt8)]) = (l[m]? == some 47) := by
        rw [decide_eq_true hl, Bool.true_and]; exact extract_one l m
      rw [hx]
      cases hc : (l[m]? == some 47) with
      | true =>
        simp only [if_true]
        rw [ih (m + 1) (m :: acc) (m + #[(47 : UInt8)].size) (by simp)]
        simp
      | false =>
        simp only [Bool.false_eq_true, if_false]
        exact ih (m + 1) acc last (by (first | lia | omega))
  have := key l.length 0 (Nat.zero_le _) [] 0 (Nat.le_refl _)
  rw [Nat.sub_zero, ← List.range_eq_range'] at this
  simpa using this

theorem between_eq (l : By) : (Bytes.between l.toArray 1 ((List.range l.length).filter fun i => l[i]? == some 47)).map Array.toList = splitP l := by
  have key : ∀ (suf pre : By) (parts : Array (Array UInt8)) (last : Nat), l = pre ++ suf → last ≤ pre.length →
      (let r := ((List.range' pre.length suf.length).filter fun i => l[i]? == some 47).foldl (fun (x : Array (Array UInt8) × Nat) p => (x.1.push (l.toArray.extract x.2 p), p + 1)) (parts, last)
       (r.1.push (l.toArray.extract r.2 l.length)).toList.map Array.toList) = parts.toList.map Array.toList ++ splitA (pre.drop last) suf := by
    intro suf
    induction suf with
    | nil =>
      intro pre parts last he hl
      subst he
      simp [splitA, List.extract, List.take_of_length_le]
    | cons x r ih =>
      intro pre parts last he hl
      have hx : l[pre.length]? = some x := by rw [he]; simp
      have he' : l = (pre ++ [x]) ++ r := by rw [he]; simp
      rw [List.length_cons, List.range'_succ, List.filter_cons, hx]
      by_cases h47 : x = 47
      · subst h47
        simp only [beq_self_eq_true, if_true, List.foldl_cons]
        have := ih (pre ++ [47]) (parts.push (l.toArray.extract last pre.length)) (pre.length + 1) he' (by simp)
        simp only [List.length_append, List.length_cons, List.length_nil, Nat.zero_add] at this
        rw [this]
        rw [splitA, if_pos rfl]
        have hdl : (pre ++ [(47 : UInt8)]).drop (pre.length + 1) = [] := by simp
        rw [hdl]
        have e1 : (l.toArray.extract last pre.length).toList = pre.drop last := by
          rw [he]
          simp only [Array.toList_extract, List.extract]
          rw [List.drop_append_of_le_length hl, List.take_append_of_le_length (by simp)]
          rw [List.take_of_length_le (by simp)]
        rw [Array.toList_push, List.map_append, List.map_cons, List.map_nil, e1]; simp
      · have hb : (some x == some (47 : UInt8)) = false := by simpa using h47
        rw [hb]
        simp only [Bool.false_eq_true, if_false]
        have := ih (pre ++ [x]) parts last he' (by simp; (first | lia | omega))
        simp only [List.length_append, List.length_cons, List.length_nil, Nat.zero_add] at this
        rw [this, splitA, if_neg h47, List.drop_append_of_le_length hl]
  have := key l [] #[] 0 rfl (Nat.le_refl _)
  simp only [List.length_nil, ← List.range_eq_range'] at this
  unfold splitP Bytes.between
  simpa using this

theorem splitA_free {x : By} (h : 47 ∉ x) : ∀ cur, splitA cur x = [cur ++ x] := by
  induction x with
  | nil => intro cur; simp [splitA]
  | cons a r ih =>
    intro cur
    simp only [List.mem_cons, not_or] at h
    rw [splitA, if_neg (Ne.symm h.1), ih h.2]; simp
theorem splitA_app {x : By} (h : 47 ∉ x) : ∀ cur r, splitA cur (x ++ 47 :: r) = (cur ++ x) :: splitA [] r := by
  induction x with
  | nil => intro cur r; simp [splitA]
  | cons a x ih =>
    intro cur r
    simp only [List.mem_cons, not_or] at h
    rw [List.cons_append, splitA, if_neg (Ne.symm h.1), ih h.2]; simp
theorem split_join : ∀ {ps : List By}, ps ≠ [] → (∀ x ∈ ps, 47 ∉ x) → splitP (joinP ps) = ps
  | [], h, _ => absurd rfl h
  | [x], _, h => by unfold splitP joinP; rw [splitA_free (h x (by simp))]; rfl
  | x :: y :: r, _, h => by
    have ih := split_join (ps := y :: r) (by simp) fun z hz => h z (List.mem_cons_of_mem _ hz)
    rw [joinP]
    unfold splitP at *
    rw [splitA_app (h x (by simp)), ih, List.nil_append]

theorem join_eq (ps : List (Array UInt8)) : Bytes.joined #[(47 : UInt8)] ps = (joinP (ps.map Array.toList)).toArray := by
  have key : ∀ (qs : List (Array UInt8)) (k : Nat) (out : Array UInt8), 0 < k → ((qs.zipIdx k).foldl (fun (out : Array UInt8) (x : Array UInt8 × Nat) => (if x.2 > 0 then out ++ #[(47 : UInt8)] else out) ++ x.1) out) = (out.toList ++ (qs.map fun q => 47 :: q.toList).flatten).toArray := by
    intro qs
    induction qs with
    | nil => intro k out _; simp
    | cons q qs ih =>
      intro k out hk
      rw [List.zipIdx_cons, List.foldl_cons, if_pos hk, ih (k + 1) _ (by (first | lia | omega))]
      simp
  have tail : ∀ (x : By) (qs : List By), joinP (x :: qs) = x ++ (qs.map fun q => 47 :: q).flatten := by
    intro x qs
    induction qs generalizing x with
    | nil => simp [joinP]
    | cons y r ih => rw [joinP, ih y]; simp
  cases ps with
  | nil => simp [Bytes.joined, joinP]
  | cons p ps =>
    unfold Bytes.joined
    rw [List.zipIdx_cons, List.foldl_cons]
    simp only [Nat.lt_irrefl, gt_iff_lt, if_false]
    have := key ps (0 + 1) (#[] ++ p) (by decide)
    simp only [gt_iff_lt] at this
    rw [this, List.map_cons, tail]
    simp [Function.comp_def]

theorem joinP_cons (x : By) (qs : List By) : joinP (x :: qs) = x ++ (qs.map fun q => 47 :: q).flatten := by
  induction qs generalizing x with
  | nil => simp [joinP]
  | cons y r ih => rw [joinP, ih y]; simp
theorem joinP_snoc : ∀ (ps : List By) (x : By), ps ≠ [] → joinP (ps ++ [x]) = joinP ps ++ 47 :: x
  | [], _, h => absurd rfl h
  | p :: ps, x, _ => by rw [List.cons_append, joinP_cons, joinP_cons]; simp
end Mine
namespace Mine

noncomputable abbrev PR : Program := PySem.Challenge.rw_nt0267_01.row.prog

structure Base (w : World) (h : Heap) : Prop where
  K : (hd.heap_39 w.params).In h
  T : ∃ mg mb, TopRead hd.view_39 (looseW hd.view_39 [Str.ofString "PathChange", Str.ofString "directory_renames"]) mg mb h
theorem Base.keeps {w : World} {h h' : Heap} (B : Base w h) (k : ∀ b o, h.get? b = some o → h'.get? b = some o) : Base w h' :=
  ⟨B.K.keeps k, let ⟨mg, mb, T⟩ := B.T; ⟨mg, mb, T.keeps k⟩⟩

structure Rm (A : Around) (k : Nat) : Prop where
  hh : A.handled = none
  hd : A.depth + k < 900
  hu : A.units + 4 * k < 5000
theorem Rm.deeper {A : Around} {k : Nat} (R : Rm A (k + 1)) (env : Env) : Rm (A.deeper env) k := ⟨R.hh, by have := R.hd; show A.depth + 1 + k < 900; (first | lia | omega), by have := R.hu; show A.units + 3 + 4 * k < 5000; (first | lia | omega)⟩
theorem Rm.room {A : Around} {k : Nat} (R : Rm A k) : A.depth < recursionLimit := by have := R.hd; unfold recursionLimit; (first | lia | omega)
theorem Rm.units {A : Around} {k : Nat} (R : Rm A k) : A.units < cLine := by have := R.hu; unfold cLine; (first | lia | omega)

section
variable {w : World} {A : Around} {E : Value → Shared → Prop} {s : Shared} {h₀ : Heap} {L : Addr} {m : Str → Option Value} {news : List (Addr × Obj)} {env : Env}

theorem nameG {M : Model} {x : Str} {pos : Pos} {v : Value} {Q : Value → Shared → Prop} (F : Fr h₀ L s.heap m) (B : Base w h₀) (e : nsIn (hd.heap_39 w.params) mainGlobals x = some (some v)) (h : Q v s)
    (hg : env.globals = mainGlobals := by rfl) (hk : env.scope.kind = .function := by rfl) (hx : env.kindOf x = some .globalImplicit := by rfl) (hd : (x == ("__debug__" : Str)) = false := by decide) :
    wpAny M A (eval (.Name x pos) env) Q E s := by
  obtain ⟨mg, mb, T⟩ := B.T
  exact Name_function_global hk hx (loadGlobal_global (mg := mg) (by rw [hg]; exact T.g.keeps F.keep) (mg_of B.K T.g e) h) hd
theorem nameBI {M : Model} {x : Str} {pos : Pos} {v : Value} {Q : Value → Shared → Prop} (F : Fr h₀ L s.heap m) (B : Base w h₀) (e : nsIn (hd.heap_39 w.params) mainGlobals x = some none) (hv : bootBuiltins x = some v) (hn : x ≠ "__name__") (h : Q v s)
    (hg : env.globals = mainGlobals := by rfl) (hb : env.builtins = builtinsNs := by rfl) (hk : env.scope.kind = .function := by rfl) (hx : env.kindOf x = some .globalImplicit := by rfl) (hd : (x == ("__debug__" : Str)) = false := by decide) :
    wpAny M A (eval (.Name x pos) env) Q E s := by
  obtain ⟨mg, mb, T⟩ := B.T
  exact Name_function_global hk hx (loadGlobal_builtin (mg := mg) (mb := mb) (by rw [hg]; exact T.g.keeps F.keep) (mg_none_of B.K T.g e) (by rw [hb]; exact T.b.keeps F.keep) ((T.builtins x hn).trans hv) h) hd
theorem nameL {M : Model} {x : Str} {pos : Pos} {v : Value} {Q : Value → Shared → Prop} (F : Fr h₀ L s.heap m) (hv : m x = some v) (h : Q v s) (hL : env.locals = L := by rfl)
    (hk : env.scope.kind = .function := by rfl) (hl : env.kindOf x = some .local := by rfl) (hd : (x == ("__debug__" : Str)) = false := by decide) :
    wpAny M A (eval (.Name x pos) env) Q E s := wpAny_Name (wpAny_loadName_local hk hl (by rw [hL]; exact F.ns) hv h) hd
theorem storeL {M : Model} {x : Str} {v : Value} {Q : Unit → Shared → Prop} (F : Fr h₀ L s.heap m) (N : News h₀ L s.heap news)
    (h : ∀ h', Fr h₀ L h' (fun y => if y = x then some v else m y) → News h₀ L h' news → Q () { s with heap := h', toks := s.toks + 1 }) (hL : env.locals = L := by rfl)
    (hk : env.scope.kind = .function := by rfl) (hl : env.kindOf x = some .local := by rfl) :
    wpAny M A (storeName env x v) Q E s := by
  subst hL
  exact wpAny_storeName_local hl F.ns (fun h' hn hs => h h' (F.set hn hs) (N.set hs)) (by show (env.scope.kind == .class || (env.scope.kind == .module && env.locals != env.globals)) = false; rw [hk]; rfl)

theorem enter {R : Result → Shared → Prop} {name qual : Str} {params : Arguments} {body : List Stmt} {scope : Scope} {dV kV doc pm cdv ct oc : Value} {an od : Option Addr} {osl : Array (Option Value)} {f : Addr} {args : Args} {binds : List (Str × Value)} {k : Nat}
    (B : Base w s.heap) (Rr : Rm A (k + 1))
    (ho : (hd.heap_39 w.params).lookup f = some ⟨oc, od, .func (fnOf name qual params body scope dV kV doc pm an cdv ct), osl⟩) (hcd : codeIn (hd.heap_39 w.params) cdv qual = true)
    (hbind : BindsTo s (fnOf name qual params body scope dV kV doc pm an cdv ct) args binds) (hloc : ∀ y ∈ binds, scope.names.lookup y.1 = some .local)
    (h : ∀ h₁, Fr s.heap s.heap.objs.size h₁ (fun y => binds.reverse.lookup y) → Rm (A.deeper (envOf qual scope s.heap.objs.size f cdv)) k →
      wpAny (model PR w) (A.deeper (envOf qual scope s.heap.objs.size f cdv)) (execs body (envOf qual scope s.heap.objs.size f cdv))
        (fun fl s' => R (.ok (.ret (match fl with | .ret v => v | _ => .none))) s') (fun _ _ => False) { s with heap := h₁, toks := s.toks + binds.length })
    (hco : scope.isCoroutine = false := by rfl) (hgen : scope.isGenerator = false := by rfl) (hk : scope.kind = .function := by rfl)
    (hcell : ∀ x ∈ scope.names, x.2 ≠ .cell := by decide) : codeAny (model PR w) A (.call (.ref f) args) R s := by
  obtain ⟨mg, mb, T⟩ := B.T
  refine codeAny_call_def (fd := fnOf name qual params body scope dV kV doc pm an cdv ct) (body := body) (binds := binds) Rr.room (B.K _ _ ho) rfl T.nolimit (codeRec_of B.K hcd) rfl hbind hcell hloc (fun h₁ hns hk₁ => ?_) hco hgen hk
  exact wpAny_mono (h h₁ ⟨hns, hk₁, Nat.le_refl _⟩ (Rr.deeper _)) (fun _ _ x => x) fun _ _ x => x.elim
end
end Mine
namespace Mine
open Builtin
theorem wpIfN {α : Type} {M : Model} {A : Around} {Q : α → Shared → Prop} {E : Value → Shared → Prop} {s : Shared} {c : Prop} [Decidable c] {a b : Sem α} (h : ¬ c) (x : wpAny M A b Q E s) : wpAny M A (if c then a else b) Q E s := by rw [if_neg h]; exact x
theorem wpIfP {α : Type} {M : Model} {A : Around} {Q : α → Shared → Prop} {E : Value → Shared → Prop} {s : Shared} {c : Prop} [Decidable c] {a b : Sem α} (h : c) (x : wpAny M A a Q E s) : wpAny M A (if c then a else b) Q E s := by rw [if_pos h]; exact x
theorem absQ {α : Type} {M : Model} {A : Around} {t : Sem α} {Q : α → Shared → Prop} {E : Value → Shared → Prop} {s : Shared} (h : ∀ R : α → Shared → Prop, (∀ v s, Q v s → R v s) → wpAny M A t R E s) : wpAny M A t Q E s := h Q fun _ _ x => x
theorem owner_bytes' : Manifest.owners.lookup (String.ofList ['s', 'e', 't', 'y', 'b'].reverse) = some Manifest.sig_bytes := FB.owner_bytes
theorem slot_rfind : Slot "bytes" "rfind" "bytes.rfind" :=
  .of (owner := "bytes") (n := "rfind") (by rw [typeLookup_type, builtinLookup_eq_fast]; kernel_rfl) (by decide +kernel) (by decide +kernel) (by decide +kernel)
    (by first | exact .inl (by decide +kernel) | exact .inr (by decide +kernel)) (by rw [isSubtype_type]; kernel_rfl)
theorem type_rfind : typeOf (.builtin "bytes.rfind") = pure (.type "method_descriptor") := by show builtinType _ = _; rw [builtinType_eq_fast]; kernel_rfl
theorem entry_rfind : entryFor table "bytes.rfind" = some Builtin.«bytes.rfind» := entryFor_of_tree (by kernel_rfl)
theorem args_rfind (a b : Value) : argsOk "bytes.rfind" ⟨[a, b], []⟩ := by
  unfold argsOk; rw [signature?_of (id := "bytes.rfind") (n := ['d', 'n', 'i', 'f', 'r']) (o := ['s', 'e', 't', 'y', 'b']) (by kernel_rfl) owner_bytes']; kernel_rfl
theorem slot_join : Slot "bytes" "join" "bytes.join" :=
  .of (owner := "bytes") (n := "join") (by rw [typeLookup_type, builtinLookup_eq_fast]; kernel_rfl) (by decide +kernel) (by decide +kernel) (by decide +kernel)
    (by first | exact .inl (by decide +kernel) | exact .inr (by decide +kernel)) (by rw [isSubtype_type]; kernel_rfl)
theorem type_join : typeOf (.builtin "bytes.join") = pure (.type "method_descriptor") := by show builtinType _ = _; rw [builtinType_eq_fast]; kernel_rfl
theorem entry_join : entryFor table "bytes.join" = some Builtin.«bytes.join» := entryFor_of_tree (by kernel_rfl)
theorem args_join (a b : Value) : argsOk "bytes.join" ⟨[a, b], []⟩ := by
  unfold argsOk; rw [signature?_of (id := "bytes.join") (n := ['n', 'i', 'o', 'j']) (o := ['s', 'e', 't', 'y', 'b']) (by kernel_rfl) owner_bytes']; kernel_rfl
theorem slot_split : Slot "bytes" "split" "bytes.split" :=
  .of (owner := "bytes") (n := "split") (by rw [typeLookup_type, builtinLookup_eq_fast]; kernel_rfl) (by decide +kernel) (by decide +kernel) (by decide +kernel)
    (by first | exact .inl (by decide +kernel) | exact .inr (by decide +kernel)) (by rw [isSubtype_type]; kernel_rfl)
theorem type_split : typeOf (.builtin "bytes.split") = pure (.type "method_descriptor") := by show builtinType _ = _; rw [builtinType_eq_fast]; kernel_rfl
theorem entry_split : entryFor table "bytes.split" = some Builtin.«bytes.split» := entryFor_of_tree (by kernel_rfl)
theorem args_split (a b : Value) : argsOk "bytes.split" ⟨[a, b], []⟩ := by
  unfold argsOk; rw [signature?_of (id := "bytes.split") (n := ['t', 'i', 'l', 'p', 's']) (o := ['s', 'e', 't', 'y', 'b']) (by kernel_rfl) owner_bytes']; kernel_rfl

theorem like_eq {id : String} {b : Array UInt8} {t : Tok} : Bytes.bytesLike id (.bytes b t) = pure b := by
  unfold Bytes.bytesLike
  rw [KBy.buffer_eq]
  rfl

section
variable {b c : Array UInt8} {t u : Tok}
theorem gives_rfind : Gives («bytes.rfind» ⟨[.bytes b t, .bytes c u], []⟩) (.int (match (if ((b.size : Int) - 0) < c.size then none else some (0, b.size) : Option (Nat × Nat)).bind (fun x => Bytes.rfind? b c x.1 x.2) with | some i => (i : Int) | none => -1)) := by
  refine .of_wp fun M A E s Q hq => ?_
  unfold «bytes.rfind» Bytes.searchM
  refine wpAny_bind ?_
  unfold Bytes.searchArgs
  refine wpAny_bind (wpAny_of_eq (a := (Value.bytes b t, [Value.bytes c u])) rfl ?_)
  refine wpAny_bind (wpAny_of_eq (a := none) rfl ?_)
  refine wpAny_bind (wpAny_of_eq (a := none) rfl ?_)
  refine wpAny_bind ?_
  refine wpAny_of_eq (a := some c) KBy.buffer_eq ?_
  refine wpAny_bind (wpAny_pure ?_)
  refine wpAny_bind (wpAny_of_eq (a := b) rfl ?_)
  have hw : Bytes.window b.size none none = ((0 : Int), (b.size : Int)) := by
    unfold Bytes.window; have hn : ¬ ((b.size : Int) < 0) := by omega
    simp [hn]
  rw [hw]
  dsimp only
  refine wpAny_pure ?_
  dsimp only
  have e0 : ((if (b.size : Int) - 0 < c.size then none else some ((0 : Int).toNat, (b.size : Int).toNat) : Option (Nat × Nat)).bind fun x => match x with | (lo, hi) => if true = true then Bytes.rfind? b c lo hi else Bytes.find? b c lo hi) =
      (if ((b.size : Int) - 0) < c.size then none else some (0, b.size) : Option (Nat × Nat)).bind (fun x => Bytes.rfind? b c x.1 x.2) := by
    split <;> simp
  rw [e0]
  revert hq
  generalize ((if (b.size : Int) - 0 < c.size then none else some (0, b.size) : Option (Nat × Nat)).bind fun x => Bytes.rfind? b c x.1 x.2) = r
  intro hq
  cases r with
  | some i => exact wpAny_bind (wpAny_mkInt (wpAny_pure ⟨_, rfl, hq⟩))
  | none =>
    refine wpAny_bind (wpAny_rule ?_)
    first | refine wpIfN (by decide) ?_ | rw [if_neg (by decide)]
    exact wpAny_bind (wpAny_mkInt (wpAny_pure ⟨_, rfl, hq⟩))

theorem call_rfind {prog : Program} {w : World} {A : Around} {E : Value → Shared → Prop} {s : Shared} {l : By} {Q : Value → Shared → Prop}
    (h : ∀ t', Q (.int (match lastCut l with | some (p, _) => (p.length : Int) | none => -1) t') { s with toks := s.toks + 1 }) :
    wpAny (model prog w) A (call (.builtin "bytes.rfind") [.bytes l.toArray t, .bytes (List.toArray [47]) u]) Q E s := by
  refine call_gives slot_rfind (typeIs_bytes _ _ _) entry_rfind (args_rfind _ _) gives_rfind ?_
  have e := rfind_cut l
  have e' : (if ((l.toArray.size : Int) - 0) < ((List.toArray [(47 : UInt8)]).size : Int) then none else some (0, l.toArray.size) : Option (Nat × Nat)).bind (fun x => Bytes.rfind? l.toArray (List.toArray [(47 : UInt8)]) x.1 x.2) = (lastCut l).map (·.1.length) := e
  rw [e']
  have h' := h s.toks
  cases hc : lastCut l with
  | none => rw [hc] at h'; exact h'
  | some pq => rw [hc] at h'; exact h'

inductive BysAre : List Value → List By → Prop
  | nil : BysAre [] []
  | cons {x : By} {t : Tok} {vs : List Value} {ps : List By} : BysAre vs ps → BysAre (.bytes x.toArray t :: vs) (x :: ps)
theorem BysAre.length {vs : List Value} {ps : List By} (h : BysAre vs ps) : vs.length = ps.length := by
  induction h with
  | nil => rfl
  | cons _ ih => simp [ih]
theorem BysAre.get {vs : List Value} {ps : List By} (h : BysAre vs ps) : ∀ {i : Nat} {x : By}, ps[i]? = some x → ∃ t, vs[i]? = some (.bytes x.toArray t) := by
  induction h with
  | nil => intro i x h; simp at h
  | @cons x t vs ps _ ih =>
    intro i y hy
    cases i with
    | zero => simp at hy; subst hy; exact ⟨t, rfl⟩
    | succ i => simpa using ih (by simpa using hy)
theorem BysAre.append {vs us : List Value} {ps qs : List By} (h : BysAre vs ps) (k : BysAre us qs) : BysAre (vs ++ us) (ps ++ qs) := by
  induction h with
  | nil => exact k
  | cons _ ih => exact .cons ih
theorem BysAre.take {vs : List Value} {ps : List By} (h : BysAre vs ps) : ∀ n, BysAre (vs.take n) (ps.take n) := by
  induction h with
  | nil => intro n; simp; exact .nil
  | cons _ ih => intro n; cases n with
    | zero => exact .nil
    | succ n => exact .cons (ih n)
theorem BysAre.drop {vs : List Value} {ps : List By} (h : BysAre vs ps) : ∀ n, BysAre (vs.drop n) (ps.drop n) := by
  induction h with
  | nil => intro n; simp; exact .nil
  | cons k ih => intro n; cases n with
    | zero => exact .cons k
    | succ n => exact ih n

theorem take_eq {id : String} {b : Array UInt8} {t : Tok} : Bytes.takeBufferQuiet? id (.bytes b t) 0 = pure (some (b, none)) := by
  unfold Bytes.takeBufferQuiet? Bytes.takeBuffer?
  rw [KBy.special_eq KBy.look_buffer, KBy.own_buffer]
  show (do
    match ← (((pure (some (Value.builtin "bytes.__buffer__")) : Sem (Option Value)) >>= fun r => _) : Sem (Option (Array UInt8 × Option Value))).attempt with
      | .ok r => pure r
      | .error _ => rule "memoryview.buffer.refusal-replaced"; pure none) = _
  kernel_rfl

theorem joinLetGo_any {M : Model} {A : Around} {E : Value → Shared → Prop} {s : Shared} {Q : Unit → Shared → Prop} : ∀ (vs : List (Value × Option Value)) (keep : List Value), (∀ x ∈ vs, x.2 = none) → Q () s → wpAny M A (Bytes.joinLetGo vs keep) Q E s
  | [], _, _, h => wpAny_pure h
  | (x, w) :: rest, keep, hn, h => by
    have e : w = none := hn (x, w) (List.mem_cons_self ..)
    subst e
    unfold Bytes.joinLetGo
    dsimp only
    refine wpAny_bind ?_
    unfold letGo
    refine wpAny_bind (wpAny_holding (wpAny_point ?_))
    exact wpAny_pure (joinLetGo_any rest keep (fun y hy => hn y (List.mem_cons_of_mem _ hy)) h)

theorem foldl_size : ∀ (as : List (Array UInt8)) (k : Nat), as.foldl (fun n a => n + a.size) k = k + (as.map (·.size)).sum
  | [], k => by simp
  | a :: as, k => by rw [List.foldl_cons, foldl_size as, List.map_cons, List.sum_cons]; (first | lia | omega)
theorem joinP_length (ps : List By) : (ps.map (·.length)).sum + (ps.length - 1) = (joinP ps).length := by
  cases ps with
  | nil => rfl
  | cons x qs =>
    rw [joinP_cons]
    simp only [List.map_cons, List.sum_cons, List.length_cons, Nat.add_sub_cancel, List.length_append]
    induction qs with
    | nil => simp
    | cons y r ih => simp only [List.map_cons, List.sum_cons, List.length_cons, List.flatten_cons, List.length_append] at ih ⊢; (first | lia | omega)
theorem forInF {α β : Type} {M : Model} {A : Around} {l : List α} {i : β} {f : α → β → Sem (ForInStep β)} {Q : β → Shared → Prop} {E : Value → Shared → Prop} {s : Shared} (h : ∀ F, F = f → wpAny M A (forIn l i F) Q E s) : wpAny M A (forIn l i f) Q E s := h f rfl
theorem call_join {prog : Program} {w : World} {A : Around} {E : Value → Shared → Prop} {s : Shared} {a : Addr} {o : Obj} {vs : List Value} {ps : List By} {n : Nat} {Q : Value → Shared → Prop}
    (ho : s.heap.get? a = some o) (hc : o.cls = .type "list" ∨ o.cls = .type "tuple") (hd : o.data = .seq vs.toArray n) (hv : BysAre vs ps) (hz : (joinP ps).length ≤ 1000000)
    (h : ∀ t' k, Q (.bytes (joinP ps).toArray t') { s with toks := k }) :
    wpAny (model prog w) A (call (.builtin "bytes.join") [.bytes (List.toArray [47]) u, .ref a]) Q E s := by
  refine wpAny_call_entry slot_join (typeIs_bytes _ _ _) entry_join ?_ (args_join _ _)
  unfold «bytes.join» Bytes.joinM
  refine wpAny_bind (wpAny_of_eq (a := (Value.bytes (List.toArray [47]) u, Value.ref a)) rfl ?_)
  refine wpAny_bind ?_
  unfold Bytes.joinItems
  refine wpAny_bind ?_
  have hty : ∃ T, (T = "list" ∨ T = "tuple") ∧ s.TypeIs (.ref a) T := by
    rcases hc with hc | hc
    · exact ⟨"list", .inl rfl, o, ho, hc⟩
    · exact ⟨"tuple", .inr rfl, o, ho, hc⟩
  obtain ⟨T, hT, hT'⟩ := hty
  refine wpAny_typeOf hT' ?_
  first | refine wpIfP (by rcases hT with rfl | rfl <;> rfl) ?_ | rw [if_pos (by rcases hT with rfl | rfl <;> rfl)]
  refine wpAny_pure ?_
  refine wpAny_bind (wpAny_seqItems ho hd ?_)
  first | refine wpIfP (by rfl) ?_ | rw [if_pos (by rfl)]
  rcases vs with _ | ⟨v, _ | ⟨v', r⟩⟩
  case cons.nil =>
    cases hv with
    | cons hv =>
      rename_i y t ps
      cases hv
      refine wpAny_bind (wpAny_typeOf (typeIs_bytes _ _ _) ?_)
      first | refine wpIfP (by rfl) ?_ | rw [if_pos (by rfl)]
      refine wpAny_bind (wpAny_rule (wpAny_bind (wpAny_pure (wpAny_pure ⟨_, rfl, ?_⟩))))
      exact h t s.toks
  case nil =>
    cases hv
    refine wpAny_bind ?_
    rw [Std.Legacy.Range.forIn_eq_forIn_range']
    refine absQ fun R hR => ?_
    show wpAny _ _ (forIn ([] : List Nat) _ _) _ _ _
    rw [List.forIn_nil]
    refine wpAny_pure (hR _ _ ?_)
    refine wpAny_bind (wpAny_of_eq (a := (List.toArray [47])) rfl ?_)
    refine wpIfN (by unfold Bytes.tooLong; rw [sizeLine_eq]; decide) ?_
    refine wpAny_bind (wpAny_mkBytes ?_ (by rw [sizeLine_eq]; decide))
    refine wpAny_bind (wpAny_holding (wpAny_point ?_))
    refine wpAny_bind (joinLetGo_any _ _ (fun y hy => nomatch hy) ?_)
    exact wpAny_pure ⟨_, rfl, h _ _⟩
  case cons.cons =>
    refine wpAny_bind ?_
    refine absQ fun R hR => ?_
    generalize hg : v :: v' :: r = vs at *
    have hlen := hv.length
    rw [Std.Legacy.Range.forIn_eq_forIn_range']
    simp only [Std.Legacy.Range.size, Nat.sub_zero, Nat.add_sub_cancel, Nat.div_one]
    refine forInF fun FF hFF => ?_
    refine wpAny_forIn_list _
      (fun rest (q : Array (Array UInt8) × List (Value × Option Value)) s' => s' = s ∧ ∃ i, rest = List.range' i (vs.length - i) ∧ i ≤ vs.length ∧ q.1.toList = (ps.take i).map List.toArray ∧ (∀ x ∈ q.2, x.2 = none ∧ x.1.onHeap = false))
      _ ?_ ?_ _ _ ⟨rfl, 0, by simp, Nat.zero_le _, by simp, by simp⟩
    · rintro x rest ⟨q1, q2⟩ s' ⟨rfl, i, hr, hi, hq1, hq2⟩
      have hlt : i < vs.length := by
        rcases Nat.lt_or_ge i vs.length with h | h
        · exact h
        · rw [Nat.sub_eq_zero_of_le h] at hr; simp at hr
      obtain ⟨rfl, hrest⟩ : x = i ∧ rest = List.range' (i + 1) (vs.length - (i + 1)) := by
        have e : vs.length - i = (vs.length - (i + 1)) + 1 := (Nat.succ_pred_eq_of_pos (Nat.sub_pos_of_lt hlt)).symm
        rw [e, List.range'_succ] at hr
        injection hr with h1 h2
        exact ⟨h1, h2⟩
      have hlt' : x < ps.length := hlen ▸ hlt
      obtain ⟨t, ht⟩ := hv.get (i := x) (List.getElem?_eq_getElem hlt')
      rw [hFF]
      refine wpAny_bind (wpAny_seqItems ho hd ?_)
      dsimp only
      have hx : vs.toArray.getD x Value.none = .bytes (ps[x]).toArray t := by
        simp only [List.getElem?_eq_getElem hlt] at ht
        simp [Array.getD, hlt, Option.some.inj ht]
      rw [hx]
      refine wpIfN (by
        simp only [Bool.or_eq_true, not_or]
        refine ⟨by decide, ?_⟩
        rw [List.any_eq_true]
        rintro ⟨y, hy, hh⟩
        rw [(hq2 y hy).2] at hh; cases hh) ?_
      refine wpAny_bind (wpAny_holding (wpAny_of_eq take_eq ?_))
      refine wpAny_bind (wpAny_seqItems ho hd ?_)
      first | refine wpIfN (by simp) ?_ | rw [if_neg (by simp)]
      refine wpAny_pure ⟨rfl, x + 1, hrest, hlt, ?_, ?_⟩
      · have hq1' : q1.toList = (ps.take x).map List.toArray := hq1
        show (q1.push _).toList = _
        rw [Array.toList_push, List.take_add_one, List.getElem?_eq_getElem hlt', List.map_append, ← hq1']
        rfl
      · intro y hy
        rcases List.mem_append.mp hy with hy | hy
        · exact hq2 y hy
        · simp at hy; subst hy; exact ⟨rfl, rfl⟩
    · rintro ⟨q1, q2⟩ s' ⟨rfl, i, hr, hi, hq1, hq2⟩
      have hi' : i = vs.length := by
        rcases Nat.lt_or_ge i vs.length with h | h
        · have e : vs.length - i = (vs.length - (i + 1)) + 1 := (Nat.succ_pred_eq_of_pos (Nat.sub_pos_of_lt h)).symm
          rw [e, List.range'_succ] at hr; cases hr
        · exact Nat.le_antisymm hi h
      subst hi'
      rw [hlen, List.take_length] at hq1
      refine hR _ _ ?_
      refine wpAny_bind (wpAny_of_eq (a := (List.toArray [47])) rfl ?_)
      have hjj := join_eq q1.toList
      have hmm : q1.toList.map Array.toList = ps := by rw [hq1]; simp [Function.comp_def]
      rw [hmm] at hjj
      have hsz : q1.foldl (· + ·.size) ((List.toArray [(47 : UInt8)]).size * (q1.size - 1)) ≤ 3000000 := by
        have hq1' : q1.toList = ps.map List.toArray := hq1
        have hs1 : q1.size = ps.length := by rw [← Array.length_toList, hq1']; simp
        rw [← Array.foldl_toList, foldl_size, hq1', hs1]
        have hj := joinP_length ps
        refine Nat.le_trans (m := (joinP ps).length) ?_ (by (first | lia | omega))
        rw [← hj, List.map_map]
        refine Nat.le_of_eq ?_
        show 1 * _ + (ps.map _).sum = _
        rw [Nat.one_mul, Nat.add_comm]
        rfl
      first | refine wpIfN (by unfold Bytes.tooLong; rw [sizeLine_eq]; simp only [decide_eq_true_eq]; (first | lia | omega)) ?_ | rw [if_neg (by unfold Bytes.tooLong; rw [sizeLine_eq]; simp only [decide_eq_true_eq]; (first | lia | omega))]
      rw [hjj]
      show wpAny _ _ (mkBytes _ >>= fun r => _) _ _ _
      refine wpAny_bind (wpAny_mkBytes ?_ (by rw [sizeLine_eq, List.size_toArray]; (first | lia | omega)))
      refine wpAny_bind (wpAny_holding (wpAny_point ?_))
      refine wpAny_bind (joinLetGo_any _ _ (fun y hy => (hq2 y hy).1) ?_)
      exact wpAny_pure ⟨_, rfl, h _ _⟩
end
end Mine
namespace Mine
open Builtin

theorem mapM_mkBytes {M : Model} {A : Around} {E : Value → Shared → Prop} : ∀ (as : List (Array UInt8)) (s : Shared) (Q : List Value → Shared → Prop), (∀ a ∈ as, a.size ≤ 1000000) →
    (∀ vs tk, BysAre vs (as.map Array.toList) → Q vs { s with toks := tk }) → wpAny M A (as.mapM Bytes.Kind.bytes.new) Q E s
  | [], s, Q, _, h => by
    rw [List.mapM_nil]
    exact wpAny_pure (h [] s.toks .nil)
  | a :: as, s, Q, hz, h => by
    rw [List.mapM_cons]
    refine wpAny_bind (wpAny_mkBytes ?_ (by rw [sizeLine_eq]; have := hz a (by simp); (first | lia | omega)))
    refine wpAny_bind (mapM_mkBytes as _ _ (fun x hx => hz x (List.mem_cons_of_mem _ hx)) fun vs tk hv => wpAny_pure ?_)
    have := h (.bytes a s.toks :: vs) tk (by
      have e : a = a.toList.toArray := by simp
      rw [List.map_cons]
      conv => lhs; rw [e]
      exact .cons hv)
    exact this

theorem splitA_sizes : ∀ (l cur : By), ∀ x ∈ splitA cur l, x.length ≤ cur.length + l.length
  | [], cur, x, h => by simp only [splitA, List.mem_singleton] at h; subst h; simp
  | a :: r, cur, x, h => by
    rw [splitA] at h
    split at h
    · rcases List.mem_cons.mp h with rfl | h
      · simp only [List.length_cons]; (first | lia | omega)
      · have := splitA_sizes r [] x h; simp only [List.length_cons, List.length_nil] at *; (first | lia | omega)
    · have := splitA_sizes r (cur ++ [a]) x h; simp only [List.length_cons, List.length_append, List.length_nil] at *; (first | lia | omega)

theorem splitA_len : ∀ (l cur : By), (splitA cur l).length ≤ l.length + 1
  | [], cur => by simp [splitA]
  | a :: r, cur => by
    rw [splitA]
    split
    · have := splitA_len r []; simp only [List.length_cons]; exact Nat.succ_le_succ this
    · have := splitA_len r (cur ++ [a]); simp only [List.length_cons]; exact Nat.le_succ_of_le this
theorem call_split {prog : Program} {w : World} {A : Around} {E : Value → Shared → Prop} {s : Shared} {l : By} {t u : Tok} {Q : Value → Shared → Prop} (hz : l.length ≤ 1000000)
    (h : ∀ vs tk, BysAre vs (splitP l) → Q (.ref s.heap.objs.size) { s with heap := s.heap.push { cls := .type "list", data := .seq vs.toArray }, toks := tk }) :
    wpAny (model prog w) A (call (.builtin "bytes.split") [.bytes l.toArray t, .bytes (List.toArray [47]) u]) Q E s := by
  refine wpAny_call_entry slot_split (typeIs_bytes _ _ _) entry_split ?_ (args_split _ _)
  unfold «bytes.split» Bytes.splitM
  refine wpAny_bind (wpAny_of_eq (a := [some (Value.bytes (List.toArray [47]) u), none]) (by kernel_rfl) ?_)
  dsimp only
  refine wpAny_bind (wpAny_pure ?_)
  refine wpAny_bind (wpAny_of_eq (a := l.toArray) rfl ?_)
  refine wpAny_bind (wpAny_of_eq like_eq ?_)
  first | refine wpIfN (by simp) ?_ | rw [if_neg (by simp)]
  have hl : (if (-1 : Int) < 0 then l.toArray.size + 1 else (-1 : Int).toNat) = l.toArray.size + 1 := if_pos (by decide)
  simp only [Bool.false_eq_true, if_false, hl]
  rw [show (List.toArray [(47 : UInt8)]) = #[(47 : UInt8)] from rfl, occ_eq, List.take_of_length_le (by
    have := List.length_filter_le (fun i => l[i]? == some (47 : UInt8)) (List.range l.length)
    rw [List.length_range] at this
    simp only [List.size_toArray]; (first | lia | omega))]
  have hb := between_eq l
  split
  · rename_i he
    rw [List.isEmpty_iff] at he
    rw [he] at hb
    refine wpAny_bind (wpAny_rule ?_)
    have hs : splitP l = [l] := by
      rw [← hb]; simp [Bytes.between]
    refine wpAny_bind ?_
    refine wpAny_bind (wpAny_typeOf (typeIs_bytes _ _ _) ?_)
    first | refine wpIfP (by rfl) ?_ | rw [if_pos (by rfl)]
    refine wpAny_pure ?_
    refine wpAny_bind (wpAny_newObj_type ?_ (by show (1 : Nat) ≤ sizeLine; rw [sizeLine_eq]; decide))
    refine wpAny_bind (wpAny_pure (wpAny_pure ⟨_, rfl, ?_⟩))
    exact h [.bytes l.toArray t] s.toks (by rw [hs]; exact .cons .nil)
  · refine wpAny_bind (mapM_mkBytes _ _ _ ?_ fun vs tk hv => ?_)
    · intro a ha
      have hm : a.toList ∈ splitP l := by rw [← hb]; exact List.mem_map_of_mem ha
      have := splitA_sizes l [] _ hm
      simp only [Array.length_toList, List.length_nil] at this
      (first | lia | omega)
    · rw [show (#[(47 : UInt8)]).size = 1 from rfl, hb] at hv
      refine wpAny_bind (wpAny_newObj_type ?_ ?_)
      · exact wpAny_pure ⟨_, rfl, h vs tk hv⟩
      · show vs.toArray.size ≤ sizeLine
        rw [List.size_toArray, hv.length, sizeLine_eq]
        have := splitA_len l []
        show (splitA [] l).length ≤ _
        (first | lia | omega)
end Mine
namespace Mine
structure Nm where
  R : Flow → Shared → Prop
  tk : Nat
theorem useN {c : Nm} {P : Flow → Shared → Prop} {f : Flow} {s : Shared} (k : ∀ f s, P f s → c.R f s) (h : P f s) : c.R f s := k _ _ h
theorem execsN {s : Shared} {h : Heap} {M : Model} {A : Around} {st : Stmt} {rest : List Stmt} {env : Env} {Q : Flow → Shared → Prop} {E : Value → Shared → Prop} {tk : Nat}
    (k : ∀ c : Nm, (∀ f s', (match f with | .next => wpAny M A (execs rest env) Q E s' | f => Q f s') → c.R f s') → wpAny M A (exec st env) c.R E { s with heap := h, toks := c.tk }) :
    wpAny M A (execs (st :: rest) env) Q E { s with heap := h, toks := tk } := wpAny_execs_cons (k ⟨_, tk⟩ fun _ _ x => x)
theorem allNil {α : Type} {P : α → Prop} : ∀ p ∈ ([] : List α), P p := fun _ h => nomatch h
theorem allCons {α : Type} {P : α → Prop} {a : α} {l : List α} (h : P a) (r : ∀ p ∈ l, P p) : ∀ p ∈ a :: l, P p := List.forall_mem_cons.mpr ⟨h, r⟩
theorem notNil {α : Type} {x : α} : ¬ x ∈ ([] : List α) := fun h => nomatch h
theorem notCons {α : Type} {x a : α} {l : List α} (h : x ≠ a) (r : ¬ x ∈ l) : ¬ x ∈ a :: l := fun q => by
  cases q with
  | head => exact h rfl
  | tail _ q => exact r q
theorem notOne {α : Type} {x a : α} (h : x ≠ a) : ¬ x ∈ [a] := notCons h notNil
section
variable {w : World} {A : Around} {E : Value → Shared → Prop} {s : Shared} {h₀ : Heap} {L : Addr} {m : Str → Option Value} {env : Env}
theorem argL {M : Model} {x : Str} {p pos : Pos} {rest : List Expr} {v : Value} {Q : List Value → Shared → Prop} (F : Fr h₀ L s.heap m) (hv : m x = some v) (h : wpAny M A (spliced (backTo pos (starEach rest env))) (fun vs s₂ => Q (v :: vs) s₂) E s)
    (hL : env.locals = L) (hk : env.scope.kind = .function) (hl : env.kindOf x = some .local) (hd : (x == ("__debug__" : Str)) = false) :
    wpAny M A (spliced (backTo pos (starEach (.Name x p :: rest) env))) Q E s := args_cons (nameL F hv h hL hk hl hd)
theorem callG {x : Str} {p pos : Pos} {args : List Expr} {v : Value} {Q : Value → Shared → Prop} (F : Fr h₀ L s.heap m) (B : Base w h₀) (e : nsIn (hd.heap_39 w.params) mainGlobals x = some (some v)) (h : wpAny (model PR w) A (callWith pos v [] (backTo pos (starEach args env)) []) Q E s)
    (hg : env.globals = mainGlobals) (hk : env.scope.kind = .function) (hx : env.kindOf x = some .globalImplicit) (hd : (x == ("__debug__" : Str)) = false) :
    wpAny (model PR w) A (eval (.Call (.Name x p) args [] pos) env) Q E s := Call_ (nameG F B e h hg hk hx hd)
end
theorem normR {s : Shared} {h : Heap} {tk : Nat} {c : Nm} {f : Flow} (k : c.R f { s with heap := h, toks := tk }) : c.R f { s with heap := h, toks := tk } := k
theorem normT {s : Shared} {h : Heap} {α : Type} {M : Model} {A : Around} {t : Sem α} {Q : α → Shared → Prop} {E : Value → Shared → Prop} {tk : Nat} (k : wpAny M A t Q E { s with heap := h, toks := tk }) : wpAny M A t Q E { s with heap := h, toks := tk } := k

theorem methB {M : Model} {A : Around} {E : Value → Shared → Prop} {s : Shared} {env : Env} {o : Expr} {name : Str} {apos pos : Pos} {args : List Expr} {pl : Sem Bool} {Q : Value → Shared → Prop}
    (h : wpAny M A (eval o env) (fun ov s₁ => wpAny M A (getMethod ov name pl) (fun fx s₂ => wpAny M A (callWith pos fx.1 fx.2 (backTo pos (starEach args env)) []) Q E s₂) E s₁) E s)
    (he : eval (.Call (.Attribute o name apos) args [] pos) env = (do
      let ov ← eval o env
      standAt apos.atName
      let (f, first) ← holding [ov] (getMethod ov name pl)
      callWith pos f first (backTo pos (starEach args env)) (backToKw pos (keywordEach [] env))) := by rfl) :
    wpAny M A (eval (.Call (.Attribute o name apos) args [] pos) env) Q E s := methodCall_KW h he

theorem noRef (b : Array UInt8) (t : Tok) {h : Heap} : ∀ a, Value.bytes b t = .ref a → ∃ o, h.get? a = some o ∧ o.dict = none := fun _ e => nomatch e
section
variable {M : Model} {A : Around} {E : Value → Shared → Prop} {s : Shared} {b : Array UInt8} {t : Tok} {pl : Sem Bool} {Q : Value × List Value → Shared → Prop}
theorem meth_rfind (h : Q (.builtin "bytes.rfind", [.bytes b t]) s) : wpAny M A (getMethod (.bytes b t) "rfind" pl) Q E s :=
  by with_reducible exact getMethod_builtin (typeIs_bytes _ _ _) FB.plainAttrs_bytes slot_rfind type_rfind (noRef _ _) h
theorem meth_join (h : Q (.builtin "bytes.join", [.bytes b t]) s) : wpAny M A (getMethod (.bytes b t) "join" pl) Q E s :=
  by with_reducible exact getMethod_builtin (typeIs_bytes _ _ _) FB.plainAttrs_bytes slot_join type_join (noRef _ _) h
theorem meth_split (h : Q (.builtin "bytes.split", [.bytes b t]) s) : wpAny M A (getMethod (.bytes b t) "split" pl) Q E s :=
  by with_reducible exact getMethod_builtin (typeIs_bytes _ _ _) FB.plainAttrs_bytes slot_split type_split (noRef _ _) h
end

theorem map_inj' {α β : Type} {f : α → β} (hf : ∀ x y, f x = f y → x = y) : ∀ {l k : List α}, l.map f = k.map f → l = k
  | [], [], _ => rfl
  | [], _ :: _, h => by simp at h
  | _ :: _, [], h => by simp at h
  | a :: l, b :: k, h => by
    simp only [List.map_cons, List.cons.injEq] at h
    rw [hf _ _ h.1, map_inj' hf h.2]
theorem bInts_inj {b c : Array UInt8} (h : KBw.bInts b = KBw.bInts c) : b = c := by
  unfold KBw.bInts at h
  apply Array.toList_inj.mp
  refine map_inj' ?_ h
  intro x y hxy
  exact UInt8.toNat_inj.mp (Int.ofNat.inj hxy)
theorem bInts_list (l : By) : KBw.bInts l.toArray = l.map fun c => (c.toNat : Int) := rfl

section
variable {prog : Program} {w : World} {A : Around} {E : Value → Shared → Prop} {s : Shared} {value slice : PySem.Expr} {b : By} {t : Tok} {h₀ : Heap} {L : Addr} {m : PySem.Str → Option Value} {news : List (Addr × Obj)} {l u : Value} {lo hi : Option Int} {Q : Value → Shared → Prop}
theorem slice_B (hF : Fr h₀ L s.heap m) (hN : News h₀ L s.heap news) (hl : IsPart l lo) (hu : IsPart u hi) (hz : b.length ≤ 1000000)
    (h : ∀ h' t' k, Fr h₀ L h' m → News h₀ L h' news → Q (.bytes ((b.drop (lo.elim 0 (clipAt b.length))).take (hi.elim b.length (clipAt b.length) - lo.elim 0 (clipAt b.length))).toArray t') { s with heap := h', toks := k })
    (hs : subscripted slice false (.bytes b.toArray t) (.ref s.heap.objs.size) = operate [.ref s.heap.objs.size, .bytes b.toArray t] (getItem (.bytes b.toArray t) (.ref s.heap.objs.size)) := by with_unfolding_all rfl)
    (ht : ∀ r, letTemporaryGo value (.bytes b.toArray t) r = pure () := by intro _; with_unfolding_all rfl) :
    wpAny (model prog w) A (subscriptTail value slice (.bytes b.toArray t) (.ref s.heap.objs.size)) Q E { s with heap := s.heap.push { cls := .type "slice", data := .fields #[l, u, .none] } } := by
  refine KBc.slice_K hF hN rfl hl hu (by rw [bInts_list]; simp only [List.length_map]; (first | lia | omega)) (fun h' t' k F' N' e => ?_) hs ht
  have : KBy.picked b.toArray lo hi = ((b.drop (lo.elim 0 (clipAt b.length))).take (hi.elim b.length (clipAt b.length) - lo.elim 0 (clipAt b.length))).toArray := by
    apply bInts_inj
    rw [e, bInts_list, bInts_list, List.length_map, List.map_take, List.map_drop]
  rw [this]
  exact h h' t' k F' N'
theorem truthy_B {Q : Bool → Shared → Prop} (hz : b.length ≤ 1000000) (h : ∀ tk, Q (!b.isEmpty) { s with toks := tk }) : wpAny (model prog w) A (truthy (.bytes b.toArray t)) Q E s := by
  refine truthy_bytes (by rw [List.size_toArray]; (first | lia | omega)) ?_
  have : (((b.toArray.size : Nat) : Int) != 0) = !b.isEmpty := by
    cases b with
    | nil => rfl
    | cons x r => simp only [List.size_toArray, List.length_cons, List.isEmpty_cons, Bool.not_false, bne_iff_ne, ne_eq]; (first | lia | omega)
  rw [this]; exact h _
theorem add_B {c : By} {u : Tok} (hz : b.length + c.length ≤ 1000000) (h : ∀ t' k, Q (.bytes (b ++ c).toArray t') { s with toks := k }) : wpAny (model prog w) A (binaryOp .Add (.bytes b.toArray t) (.bytes c.toArray u)) Q E s := by
  refine KBy.add_bytes (by simp only [List.size_toArray]; (first | lia | omega)) fun t' k => ?_
  have := h t' k
  simpa using this
end
noncomputable def Keeps (h h' : Heap) : Prop := ∀ b o, h.get? b = some o → h'.get? b = some o
theorem Keeps.refl (h : Heap) : Keeps h h := fun _ _ e => e
theorem frK {h₀ h h' : Heap} {L : Addr} {m : Str → Option Value} (F : Fr h₀ L h m) (k : Keeps h h') : Fr h₀ L h' m := F.grownK k
theorem newsK {h₀ h h' : Heap} {L : Addr} {news : List (Addr × Obj)} (N : News h₀ L h news) (k : Keeps h h') : News h₀ L h' news := fun p hp => ⟨k _ _ (N p hp).1, (N p hp).2⟩

inductive Back (s : Shared) (P : Value → Heap → Prop) (r : Result) (s' : Shared) : Prop
  | mk (v : Value) (h' : Heap) (tk : Nat) (e1 : r = .ok (.ret v)) (e2 : s' = { s with heap := h', toks := tk }) (p : P v h') : Back s P r s'
theorem call_of {M : Model} {A : Around} {E : Value → Shared → Prop} {s : Shared} {f : Value} {args : List Value} {P : Value → Heap → Prop} {Q : Value → Shared → Prop} (h : codeAny M A (.call f ⟨args, []⟩) (Back s P) s)
    (k : ∀ v h' tk, P v h' → Q v { s with heap := h', toks := tk }) : wpAny M A (call f args) Q E s :=
  wpAny_call (codeAny_mono h fun r s' ⟨v, h', tk, e1, e2, p⟩ => by subst e1; subst e2; exact k v h' tk p)
theorem callF {w : World} {A : Around} {M : Model} {E : Value → Shared → Prop} {s : Shared} {env : Env} {pos : Pos} {f : Addr} {e : Expr} {rest : List Expr} {Q : Value → Shared → Prop} (hk : keepIn (hd.heap_39 w.params) (.ref f) = true)
    (h : wpAny M A (spliced (backTo pos (starEach (e :: rest) env))) (fun vs s₁ => (hd.heap_39 w.params).In s₁.heap ∧ wpAny M A (call (.ref f) vs) Q E s₁) E s)
    (he : starEach (e :: rest) env = (false, eval e env) :: starEach rest env := by rfl) (hplain : (backTo pos (starEach rest env)).any (·.1) = false := by rfl) :
    wpAny M A (callWith pos (.ref f) [] (backTo pos (starEach (e :: rest) env)) []) Q E s := by
  rw [he] at h ⊢
  exact callWith_of (by show ((false || (backTo pos (starEach rest env)).any (·.1)) || false) = false; rw [hplain]; rfl) (keeps_K hk) (evalArgs_plain h)

section
variable {M : Model} {A : Around} {E : Value → Shared → Prop} {s : Shared} {env : Env} {pos : Pos} {id : String} {v0 : Value} {e : Expr} {rest : List Expr} {Q : Value → Shared → Prop}
theorem callM0 (h : wpAny M A (call (.builtin id) [v0]) Q E s) : wpAny M A (callWith pos (.builtin id) [v0] (backTo pos (starEach [] env)) []) Q E s := callWith_method0 h
theorem callM1 (h : wpAny M A (spliced (backTo pos (starEach (e :: rest) env))) (fun vs s₁ => wpAny M A (call (.builtin id) (v0 :: vs)) Q E s₁) E s)
    (he : starEach (e :: rest) env = (false, eval e env) :: starEach rest env := by rfl)
    (hplain : (backTo pos (starEach rest env)).any (·.1) = false := by rfl) :
    wpAny M A (callWith pos (.builtin id) [v0] (backTo pos (starEach (e :: rest) env)) []) Q E s := callWith_method1 h he hplain
theorem callB1 (h : wpAny M A (spliced (backTo pos (starEach (e :: rest) env))) (fun vs s₁ => wpAny M A (call (.builtin id) vs) Q E s₁) E s)
    (he : starEach (e :: rest) env = (false, eval e env) :: starEach rest env := by rfl)
    (hplain : (backTo pos (starEach rest env)).any (·.1) = false := by rfl) :
    wpAny M A (callWith pos (.builtin id) [] (backTo pos (starEach (e :: rest) env)) []) Q E s := callWith_builtin1 h he hplain
theorem ifTrue {b : Bool} {P R : Prop} (h : b = true) (x : P) : if b = true then P else R := by rw [if_pos h]; exact x
theorem ifFalse {b : Bool} {P R : Prop} (h : b = false) (x : R) : if b = true then P else R := by rw [if_neg (by rw [h]; decide)]; exact x
end
theorem memTail {α : Type} {a b : α} {l : List α} (h : a ∈ l) : a ∈ b :: l := List.Mem.tail _ h
end Mine
namespace Mine
theorem fill_one : PySem.Challenge.rw_nt0267_01 = PySem.Challenge.rw_nt0267_01 ∧ hd.heap_39 = hd.heap_39 := by
  k_fill
  k_with "len" =>
    first
      | ((with_reducible show List.length _ ≤ _); (with_reducible assumption))
      | ((with_reducible apply Nat.add_le_add) <;> k_extra "len")
      | exact Nat.le_refl _
  k_with "size" =>
    first
      | with_reducible assumption
      | exact Nat.le_trans (by with_reducible assumption) (by decide)
      | ((simp only [List.length_cons, List.length_nil, Nat.zero_add, Nat.reduceAdd, Nat.reduceLeDiff]; done))
      | (simp only [List.length_append, List.length_cons, List.length_nil]; exact Nat.le_trans (by k_extra "len") (by decide))
      | exact Nat.le_trans (Nat.le_of_eq (BysAre.length (by with_reducible assumption))) (Nat.le_trans (by with_reducible assumption) (by decide))
  k_with "mem" =>
    first
      | with_reducible assumption
      | exact List.Mem.head _
      | (refine' memTail ?_; k_extra "mem")
      | (simp only [List.mem_append, List.mem_cons, true_or, or_true, *]; done)
  k_with "isl" =>
    first
      | with_reducible assumption
      | exact News.isList (by with_reducible assumption) (by k_extra "mem")
      | exact listKeep (by with_reducible assumption) (Fr.keep (by with_reducible assumption))
  k_with "ne" =>
    first
      | with_reducible assumption
      | exact Ne.symm (by with_reducible assumption)
      | ((refine' neOf ?hh ?mm); (case hh => with_reducible assumption); (case mm => k_extra "mem"))
      | ((refine' Ne.symm (neOf ?hh ?mm)); (case hh => with_reducible assumption); (case mm => k_extra "mem"))
  k_with "rm" =>
    first
      | with_reducible assumption
      | exact Rm.le (by with_reducible assumption) (by decide)
      | exact Rm.le (Rm.deeper (by with_reducible assumption) _) (by decide)
  k_with "pick" =>
    first
      | exact Pick2.nil
      | exact Pick1.nil
      | exact Pick1.all (by with_reducible assumption)
      | exact Pick2.all (by with_reducible assumption)
      | ((with_reducible refine' Pick2.dropA ?pp); (case pp => k_extra "pick"))
      | ((with_reducible refine' Pick2.dropB ?pp); (case pp => k_extra "pick"))
      | ((with_reducible refine' Pick1.drop ?pp); (case pp => k_extra "pick"))
      | ((with_reducible refine' Pick2.keep ?n1 ?n2 ?pp); (case n1 => k_extra "ne"); (case n2 => k_extra "ne"); (case pp => k_extra "pick"))
      | ((with_reducible refine' Pick1.keep ?n1 ?pp); (case n1 => k_extra "ne"); (case pp => k_extra "pick"))
  k_with "var" =>
    first
      | with_reducible assumption
      | with_reducible exact varEq
      | ((with_reducible refine' varNe ?q1 ?q2); (case q1 => decide); (case q2 => k_extra "var"))
      | exact rfl
  k_with "nrm" =>
    ((with_reducible refine normS (s := s) ?_); intro _)
  k_with "hk" =>
    first
      | ((fail_if_success (have _ := hcut1)); intro hcut1)
      | ((fail_if_success (have _ := hcut2)); intro hcut2)
      | ((fail_if_success (have _ := hcut3)); intro hcut3)
      | ((fail_if_success (have _ := hcut4)); intro hcut4)
      | ((fail_if_success (have _ := hcut5)); intro hcut5)
      | ((fail_if_success (have _ := hcut6)); intro hcut6)
      | ((fail_if_success (have _ := hcut7)); intro hcut7)
      | ((fail_if_success (have _ := hcut8)); intro hcut8)
  k_with "use" =>
    first
      | ((with_reducible refine useN hcut8 ?_); clear hcut8)
      | ((with_reducible refine useN hcut7 ?_); clear hcut7)
      | ((with_reducible refine useN hcut6 ?_); clear hcut6)
      | ((with_reducible refine useN hcut5 ?_); clear hcut5)
      | ((with_reducible refine useN hcut4 ?_); clear hcut4)
      | ((with_reducible refine useN hcut3 ?_); clear hcut3)
      | ((with_reducible refine useN hcut2 ?_); clear hcut2)
      | ((with_reducible refine useN hcut1 ?_); clear hcut1)
  k_with "fld" =>
    first
      | ((with_reducible refine' plainObj_wpAny_Assign_Attribute ?_ ?hs); (case hs => exact rfl))
      | ((with_reducible show wpAny _ _ (setAttr _ _ _) _ _ _); (refine' set_dict (K := hd.heap_39 _) ?F ?X ?N ?I ?hd ?hs ?hp ?ht ?hh ?hl ?e ?U ?hz ?_); (case F => with_reducible assumption); (case X => exact Base.K (by with_reducible assumption)); (case N => with_reducible assumption); (case I => (refine' InstAt.of_news ?N ?h1 ?h2; (case N => with_reducible assumption); (case h1 => k_extra "mem"); (case h2 => k_extra "mem"))); (case hd => exact rfl); (case hs => k_is); (case hp => k_is); (case ht => k_is); (case hh => k_is); (case hl => k_get); (case e => k_put); (case U => exact Upd.tail (by assumption) (Upd.head (fun _ h => nomatch h))); (case hz => exact Nat.le_of_ble_eq_true rfl); intro _ _ _)
  k_with "cel" =>
    ((with_reducible refine' storeCU ?F ?N ?hm ?hd ?_ ?hc ?hk ?hl); (case F => with_reducible assumption); (case N => with_reducible assumption); (case hc => exact rfl); (case hm => k_extra "mem"); (case hd => with_reducible assumption); (case hk => exact rfl); (case hl => exact rfl); intro _ _ _ _ _)
  k_with "nt" =>
    first
      | (with_reducible refine normT (s := s1) ?_)
      | (with_reducible refine normT (s := s) ?_)
      | (with_reducible refine normR (s := s1) ?_)
      | (with_reducible refine normR (s := s) ?_)
      | (with_reducible refine normFW (s := s1) ?_)
      | (with_reducible refine normFW (s := s) ?_)
      | (with_reducible refine normFG (s := s1) ?_)
      | (with_reducible refine normFG (s := s) ?_)
      | (with_reducible refine normCL (s := s1) ?_)
      | (with_reducible refine normCL (s := s) ?_)
      | (with_reducible refine normCA (s := s1) ?_)
      | (with_reducible refine normCA (s := s) ?_)
  k_with "in" =>
    first
      | with_reducible assumption
      | exact List.Mem.head _
      | (refine List.Mem.tail _ ?_; k_extra "in")
      | simp
  k_with "m" =>
    first
      | ((with_reducible refine execsN (s := s1) ?_); intro _; k_extra "hk")
      | ((with_reducible refine execsN (s := s) ?_); intro _; k_extra "hk")
      | ((with_reducible show Nm.R _ _ _); k_extra "use")
      | with_reducible refine wpAny_execs_cons ?_
      | with_reducible refine wpAny_execs_nil ?_
      | ((with_reducible refine' wpAny_Assign_Name ?_ ?hs); (case hs => exact rfl))
      | with_reducible refine wpAny_Return_some ?_
      | with_reducible refine wpAny_If ?_
      | ((with_reducible refine' wpAny_isTrue_Compare1 ?_ ?hm); (case hm => with_unfolding_all exact rfl))
      | ((with_reducible refine' wpAny_Compare1 ?_ ?hm); (case hm => with_unfolding_all exact rfl))
      | ((with_reducible refine' isTrue_plain ?_ ?hp); (case hp => with_unfolding_all exact rfl))
      | with_reducible refine wpAny_BinOp ?_
      | with_reducible refine wpAny_IfExp ?_
      | with_reducible refine wpAny_Constant_int ?_
      | with_reducible refine wpAny_Constant_none ?_
      | with_reducible refine wpAny_Constant_bool ?_
      | with_reducible refine Calls.Constant_str ?_
      | with_reducible refine Constant_bytes ?_
      | with_reducible refine Subscript_ ?_
      | with_reducible refine wpAny_Slice ?_
      | with_reducible refine evalPart_none_step ?_
      | with_reducible refine evalPart_some_step ?_
      | with_reducible refine wpAny_truthy_bool ?_
      | ((with_reducible refine' nameL ?F ?v ?_ ?hL ?hk ?hl ?hd); (case F => with_reducible assumption); (case v => k_extra "var"); (case hL => exact rfl); (case hk => exact rfl); (case hl => exact rfl); (case hd => decide))
      | ((with_reducible refine' nameG ?F ?B ?e ?_ ?hg ?hk ?hx ?hd); (case F => with_reducible assumption); (case B => with_reducible assumption); (case e => k_is); (case hg => exact rfl); (case hk => exact rfl); (case hx => exact rfl); (case hd => decide))
      | ((with_reducible refine' storeL ?F ?N ?_ ?hL ?hk ?hl); (case F => with_reducible assumption); (case N => with_reducible assumption); (case hL => exact rfl); (case hk => exact rfl); (case hl => exact rfl); intro _ _ _; (try k_extra "nt"))
      | ((with_reducible refine' methB ?_ ?he); (case he => exact rfl))
      | ((with_reducible refine' callG ?F ?B ?e ?_ ?hg ?hk ?hx ?hd); (case F => with_reducible assumption); (case B => with_reducible assumption); (case e => k_is); (case hg => exact rfl); (case hk => exact rfl); (case hx => exact rfl); (case hd => decide))
      | ((with_reducible refine' Call_ ?_ ?he); (case he => exact rfl))
      | with_reducible refine args_nil ?_
      | ((with_reducible refine' argL ?F ?v ?_ ?hL ?hk ?hl ?hd); (case F => with_reducible assumption); (case v => k_extra "var"); (case hL => exact rfl); (case hk => exact rfl); (case hl => exact rfl); (case hd => decide))
      | ((with_reducible refine' args_cons ?_ ?he); (case he => exact rfl))
      | with_reducible refine callM0 ?_
      | ((with_reducible refine' callM1 ?_ ?he ?hp); (case he => exact rfl); (case hp => exact rfl))
      | ((with_reducible refine' callB1 ?_ ?he ?hp); (case he => exact rfl); (case hp => exact rfl))
      | ((with_reducible refine' callF (w := ?w) ?hk ?_ ?he ?hp); (case w => with_reducible assumption); (case hk => k_is); (case he => exact rfl); (case hp => exact rfl))
      | ((with_reducible refine call_rfind ?_); intro _; (try k_extra "nt"))
      | ((with_reducible refine' truthy_B ?hz ?_); (case hz => k_extra "size"); intro _; (try k_extra "nt"))
      | ((with_reducible refine' add_B ?hz ?_); (case hz => k_extra "size"); intro _ _; (try k_extra "nt"))
      | ((with_reducible show wpAny _ _ (subscriptTail _ (Expr.Slice _ _ none _) (Value.bytes _ _) (Value.ref _)) _ _ _); (refine' slice_B (s := ⟨_, _, _, _, _⟩) ?F ?N ?hl ?hu ?hz ?_ ?hs ?ht); (case F => with_reducible assumption); (case N => with_reducible assumption); (case hl => constructor); (case hu => constructor); (case hz => k_extra "size"); (case hs => with_unfolding_all rfl); (case ht => intro _; with_unfolding_all rfl); intro _ _ _ _ _; (try k_extra "nt"))
      | ((with_reducible show wpAny _ _ (subscriptTail _ (Expr.Slice _ _ none _) (Value.ref _) (Value.ref _)) _ _ _); (refine' sliceL (s := ⟨_, _, _, _, _⟩) ?F ?N ?l ?hl ?hu ?hz ?_ ?hs); (case F => with_reducible assumption); (case N => with_reducible assumption); (case l => k_extra "isl"); (case hl => constructor); (case hu => constructor); (case hz => k_extra "size"); (case hs => with_unfolding_all rfl); intro _ _ _ _ _; (try k_extra "nt"))
      | ((with_reducible show wpAny _ _ (subscriptTail _ (Expr.Slice none none (some _) _) (Value.ref _) (Value.ref _)) _ _ _); (refine' sliceRev (s := ⟨_, _, _, _, _⟩) ?F ?N ?l ?hl ?hz ?_ ?hs); (case F => with_reducible assumption); (case N => with_reducible assumption); (case l => k_extra "isl"); (case hl => constructor); (case hz => k_extra "size"); (case hs => with_unfolding_all rfl); intro _ _ _ _ _; (try k_extra "nt"))
      | ((with_reducible refine' splitN ?F ?N ?hz ?_); (case F => with_reducible assumption); (case N => with_reducible assumption); (case hz => k_extra "size"); intro _ _ _ _ _ _ _ _; (try k_extra "nt"))
      | ((with_reducible refine' joinN ?l ?hv ?hz ?_); (case l => k_extra "isl"); (case hv => with_reducible assumption); (case hz => k_extra "size"); intro _ _; (try k_extra "nt"))
      | with_reducible refine wpAny_UnaryOp ?_
      | with_reducible refine neg_int ?_
      | ((with_reducible refine' wpAny_Assign_Subscript ?_ ?hs); (case hs => exact rfl))
      | with_reducible refine List_ ?_
      | with_reducible refine Tuple_ ?_
      | ((with_reducible refine' mod_int ?hb ?_); (case hb => first | decide | omega))
      | ((with_reducible refine' newListN ?F ?N ?hz ?_); (case F => with_reducible assumption); (case N => with_reducible assumption); (case hz => k_extra "size"); intro _ _ _ _ _; (try k_extra "nt"))
      | ((with_reducible refine' newTupN ?F ?N ?hz ?_); (case F => with_reducible assumption); (case N => with_reducible assumption); (case hz => k_extra "size"); intro _ _ _ _ _; (try k_extra "nt"))
      | ((with_reducible refine' mul_int ?_ ?hm); (case hm => exact IntMulOk.of_right (by decide)))
      | ((with_reducible refine' floordiv_int ?hb ?_ ?hp); (case hb => first | decide | omega); (case hp => exact Or.inl (PyProof.noPylong_small (by decide))))
      | ((with_reducible refine' nameC ?N ?hm ?hd ?_ ?hc ?hk ?hl ?hb); (case N => with_reducible assumption); (case hc => exact rfl); (case hm => k_extra "mem"); (case hd => assumption); (case hk => exact rfl); (case hl => exact rfl); (case hb => decide))
      | ((with_reducible refine' nameCB ?F ?X ?_ ?hc ?hk ?hl ?hb); (case F => with_reducible assumption); (case hc => exact rfl); (case X => with_reducible assumption); (case hk => exact rfl); (case hl => exact rfl); (case hb => decide))
      | (with_reducible refine And.intro (Frag.In.keeps (Base.K (by with_reducible assumption)) (Fr.keep (by with_reducible assumption))) ?_)
      | ((with_reducible refine' nameBI ?F ?B ?e ?hv ?hn ?_ ?hg ?hb ?hk ?hx ?hd); (case F => with_reducible assumption); (case B => with_reducible assumption); (case e => k_is); (case hv => boot_by_name); (case hn => decide); (case hg => exact rfl); (case hb => exact rfl); (case hk => exact rfl); (case hx => exact rfl); (case hd => decide))
      | ((with_reducible refine' callWith_type1 ?_ ?he ?hp); (case he => exact rfl); (case hp => exact rfl))
      | ((with_reducible refine' range1N ?F ?N ?_); (case F => with_reducible assumption); (case N => with_reducible assumption); intro _ _ _ _ _ _ _ _; (try k_extra "nt"))
      | ((with_reducible refine' drawN ?F ?N ?B ?m1 ?m2 ?hne ?D (Pick2.ok ?pk) ?Rr ?k1 ?k2 ?_); (case F => with_reducible assumption); (case N => with_reducible assumption); (case B => with_reducible assumption); (case D => with_reducible assumption); (case m1 => k_extra "mem"); (case m2 => k_extra "mem"); (case hne => with_reducible assumption); (case Rr => k_extra "rm"); (case k1 => decide); (case k2 => decide); (case pk => k_extra "pick"); intro _ _ _ _ _ _ _ _ _ _ _; (try k_extra "nt"))
      | ((with_reducible refine' Assign_sw2 ?_ ?hs ?hw); (case hs => exact rfl); (case hw => exact rfl))
      | ((with_reducible refine' Assign_sw3 ?_ ?hs ?hw); (case hs => exact rfl); (case hw => exact rfl))
      | ((with_reducible refine' Assign_Tuple ?_ ?hs ?hw); (case hs => exact rfl); (case hw => exact rfl))
      | ((with_reducible refine' swap2 ?F ?N ?hh ?_); (case F => with_reducible assumption); (case N => with_reducible assumption); (case hh => exact Rm.hh (by with_reducible assumption)); intro _ _ _; (try k_extra "nt"))
      | ((with_reducible refine' swap3 ?F ?N ?hh ?_); (case F => with_reducible assumption); (case N => with_reducible assumption); (case hh => exact Rm.hh (by with_reducible assumption)); intro _ _ _; (try k_extra "nt"))
      | ((with_reducible refine' tupA2 ?F ?N ?hh ?_); (case F => with_reducible assumption); (case N => with_reducible assumption); (case hh => exact Rm.hh (by with_reducible assumption)); intro _ _ _; (try k_extra "nt"))
      | ((with_reducible refine' pathN ?F ?N ?B ?m1 ?m2 ?hne ?D (Pick2.ok ?pk) ?Rr ?_); (case F => with_reducible assumption); (case N => with_reducible assumption); (case B => with_reducible assumption); (case D => with_reducible assumption); (case m1 => k_extra "mem"); (case m2 => k_extra "mem"); (case hne => with_reducible assumption); (case Rr => k_extra "rm"); (case pk => k_extra "pick"); intro _ _ _ _ _ _ _ _ _ _ _ _ _; (try k_extra "nt"))
      | ((with_reducible refine' folderN ?F ?N ?B ?Rr ?hz ?_); (case F => with_reducible assumption); (case N => with_reducible assumption); (case B => with_reducible assumption); (case Rr => k_extra "rm"); (case hz => k_extra "size"); intro _ _ _ _ _; (try k_extra "nt"))
      | ((with_reducible refine' nameN ?F ?N ?B ?Rr ?hz ?_); (case F => with_reducible assumption); (case N => with_reducible assumption); (case B => with_reducible assumption); (case Rr => k_extra "rm"); (case hz => k_extra "size"); intro _ _ _ _ _; (try k_extra "nt"))
      | ((with_reducible refine' joinedN ?F ?N ?B ?Rr ?hz ?hf ?_); (case F => with_reducible assumption); (case N => with_reducible assumption); (case B => with_reducible assumption); (case Rr => k_extra "rm"); (case hz => k_extra "size"); (case hf => k_extra "size"); intro _ _ _ _ _; (try k_extra "nt"))
      | ((with_reducible refine' partsN ?F ?N ?B ?Rr ?hz ?_); (case F => with_reducible assumption); (case N => with_reducible assumption); (case B => with_reducible assumption); (case Rr => k_extra "rm"); (case hz => k_extra "size"); intro _ _ _ _ _ _ _ _ _; (try k_extra "nt"))
      | ((with_reducible refine' makeN ?F ?N ?B ?Rr (Or.inl rfl) ?_); (case F => with_reducible assumption); (case N => with_reducible assumption); (case B => with_reducible assumption); (case Rr => k_extra "rm"); intro _ _ _ _ _ _ _ _ _ _ _ _; (try k_extra "nt"))
      | ((with_reducible refine' makeN ?F ?N ?B ?Rr (Or.inr ⟨rfl, rfl⟩) ?_); (case F => with_reducible assumption); (case N => with_reducible assumption); (case B => with_reducible assumption); (case Rr => k_extra "rm"); intro _ _ _ _ _ _ _ _ _ _ _ _; (try k_extra "nt"))
      | ((with_reducible refine' addL ?F ?N ?l ?b ?hz ?_); (case F => with_reducible assumption); (case N => with_reducible assumption); (case l => k_extra "isl"); (case b => k_extra "isl"); (case hz => k_extra "size"); intro _ _ _ _ _; (try k_extra "nt"))
      | ((with_reducible refine' neL ?ha ?hb ?hx ?hy ?R ?_); (case ha => k_extra "isl"); (case hb => k_extra "isl"); (case hx => with_reducible assumption); (case hy => first | with_reducible assumption | exact BysAre.nil); (case R => with_reducible assumption))
      | ((with_reducible refine' eqL ?ha ?hb ?hx ?hy ?R ?_); (case ha => k_extra "isl"); (case hb => k_extra "isl"); (case hx => with_reducible assumption); (case hy => first | with_reducible assumption | exact BysAre.nil); (case R => with_reducible assumption))
      | ((with_reducible refine' tupleN ?F ?N ?l ?hz ?_); (case F => with_reducible assumption); (case N => with_reducible assumption); (case l => k_extra "isl"); (case hz => k_extra "size"); intro _ _ _ _ _; (try k_extra "nt"))
      | ((with_reducible refine' dictN ?F ?N ?B ?_); (case F => with_reducible assumption); (case N => with_reducible assumption); (case B => with_reducible assumption); intro _ _ _ _ _ _; (try k_extra "nt"))
      | with_reducible refine wpAny_isTrue_BoolOp ?_
      | with_reducible refine wpAny_allTrue_And_nil ?_
      | with_reducible refine wpAny_allTrue_Or_nil ?_
      | with_reducible refine wpAny_allTrue_And_cons ?_
      | with_reducible refine wpAny_allTrue_Or_cons ?_
      | with_reducible refine Attribute_name ?_
      | ((with_reducible refine' attrW ?F ?B ?hx ?hd ?hl ?hv ?_); (case F => with_reducible assumption); (case B => with_reducible assumption); (case hx => with_reducible assumption); (case hd => with_reducible assumption); (case hl => with_reducible assumption); (case hv => first | with_reducible assumption | exact rfl))
      | ((with_reducible refine' attrO ?F ?B ?hx ?hd ?hl ?hv ?_); (case F => with_reducible assumption); (case B => with_reducible assumption); (case hx => with_reducible assumption); (case hd => with_reducible assumption); (case hl => with_reducible assumption); (case hv => first | with_reducible assumption | exact rfl))
      | ((with_reducible refine' attrN ?F ?B ?hx ?hd ?hl ?hv ?_); (case F => with_reducible assumption); (case B => with_reducible assumption); (case hx => with_reducible assumption); (case hd => with_reducible assumption); (case hl => with_reducible assumption); (case hv => first | with_reducible assumption | exact rfl))
      | ((with_reducible refine' attrS ?F ?B ?hx ?hd ?hl ?hv ?_); (case F => with_reducible assumption); (case B => with_reducible assumption); (case hx => with_reducible assumption); (case hd => with_reducible assumption); (case hl => with_reducible assumption); (case hv => first | with_reducible assumption | exact rfl))
      | (with_reducible refine strEq ?_)
      | (with_reducible refine strNe ?_)
      | ((with_reducible show (if true = true then _ else _)); refine ifTrue rfl ?_)
      | ((with_reducible show (if false = true then _ else _)); refine ifFalse rfl ?_)
      | with_reducible refine wpAny_Break ?_
      | with_reducible refine wpAny_Continue ?_
      | ((with_reducible refine' storeC ?F ?N ?hm ?hd (Pick1.ok ?pk) ?_ ?hc ?hk ?hl); (case F => with_reducible assumption); (case N => with_reducible assumption); (case hc => exact rfl); (case hm => k_extra "mem"); (case hd => with_reducible assumption); (case hk => exact rfl); (case hl => exact rfl); (case pk => k_extra "pick"); intro _ _ _ _ _; (try k_extra "nt"))
      | ((with_reducible refine' lenL ?hl ?hz ?_); (case hl => k_extra "isl"); (case hz => k_extra "size"); intro _ _; (try k_extra "nt"))
      | ((with_reducible refine' range3N ?F ?N ?hc ?hb ?_); (case F => with_reducible assumption); (case N => with_reducible assumption); (case hc => decide); (case hb => decide); intro _ _ _ _ _ _; (try k_extra "nt"))
      | ((with_reducible refine' lenB ?hz ?_); (case hz => k_extra "size"); intro _ _; (try k_extra "nt"))
      | ((with_reducible refine' notInT ?ha ?hx ?_); (case ha => with_reducible assumption); (case hx => with_reducible assumption))
      | with_reducible refine meth_rfind ?_
      | with_reducible refine meth_join ?_
      | with_reducible refine meth_split ?_
      | (with_reducible refine add_int ?_)
      | (with_reducible refine sub_int ?_)
      | (with_reducible refine lt_int ?_)
      | (with_reducible refine ge_int ?_)
      | (with_reducible refine eq_int ?_)
      | (with_reducible refine eq_bytes ?_)
      | (with_reducible refine ne_bytes ?_)
  exact ⟨rfl, rfl⟩
theorem folder_spec {w : World} {A : Around} {s : Shared} {b : By} {t : Tok} (B : Base w s.heap) (Rr : Rm A 1) (hz : b.length ≤ 1000) :
    codeAny (model PR w) A (.call (.ref 35) ⟨[.bytes b.toArray t], []⟩) (Back s fun v h' => Keeps s.heap h' ∧ ∃ u, v = .bytes (folderB b).toArray u) s := by
  refine' enter (binds := [(Str.ofString "path", .bytes b.toArray t)]) B Rr ?ho ?hcd ?hb ?hl ?_ ?c1 ?c2 ?c3 ?c4
  case ho => k_is
  case hcd => k_is
  case hb => exact BindsTo.of_eq rfl
  case hl => exact locs rfl
  case c1 => exact rfl
  case c2 => exact rfl
  case c3 => exact rfl
  case c4 => decide
  intro h₁ F R'
  have N : News s.heap s.heap.objs.size h₁ [] := News.nil
  repeat k_extra "m"
  rcases lastCut_cases b with ⟨h, e⟩ | ⟨p, q, e0, h, e⟩
  · rw [e]
    refine ifFalse (by decide) ?_
    repeat k_extra "m"
    refine ⟨_, _, _, rfl, rfl, Fr.keep (by assumption), ?_⟩
    unfold folderB; rw [e]; exact ⟨_, rfl⟩
  · rw [e]
    refine ifTrue (by simp) ?_
    repeat k_extra "m"
    refine ⟨_, _, _, rfl, rfl, Fr.keep (by assumption), ?_⟩
    unfold folderB; rw [e]; subst e0
    refine ⟨_, congrArg (fun x : By => Value.bytes x.toArray _) ?_⟩
    have hc : clipAt (p ++ 47 :: q).length (p.length : Int) = p.length := by
      rw [clipAt_nat]; simp
    dsimp only [Option.elim]
    rw [hc]; simp

theorem name_spec {w : World} {A : Around} {s : Shared} {b : By} {t : Tok} (B : Base w s.heap) (Rr : Rm A 1) (hz : b.length ≤ 1000) :
    codeAny (model PR w) A (.call (.ref 42) ⟨[.bytes b.toArray t], []⟩) (Back s fun v h' => Keeps s.heap h' ∧ ∃ u, v = .bytes (nameB b).toArray u) s := by
  refine' enter (binds := [(Str.ofString "path", .bytes b.toArray t)]) B Rr ?ho ?hcd ?hb ?hl ?_ ?c1 ?c2 ?c3 ?c4
  case ho => k_is
  case hcd => k_is
  case hb => exact BindsTo.of_eq rfl
  case hl => exact locs rfl
  case c1 => exact rfl
  case c2 => exact rfl
  case c3 => exact rfl
  case c4 => decide
  intro h₁ F R'
  have N : News s.heap s.heap.objs.size h₁ [] := News.nil
  repeat k_extra "m"
  refine ⟨_, _, _, rfl, rfl, Fr.keep (by assumption), ?_⟩
  refine ⟨_, congrArg (fun x : By => Value.bytes x.toArray _) ?_⟩
  unfold nameB
  rcases lastCut_cases b with ⟨h, e⟩ | ⟨p, q, e0, h, e⟩
  · rw [e]
    have hc : clipAt b.length (-1 + 1) = 0 := by rw [show (-1 + 1 : Int) = ((0 : Nat) : Int) by decide, clipAt_nat]; simp
    dsimp only [Option.elim]
    rw [hc]; simp
  · rw [e]; subst e0
    have hc : clipAt (p ++ 47 :: q).length ((p.length : Int) + 1) = p.length + 1 := by
      rw [show ((p.length : Int) + 1) = ((p.length + 1 : Nat) : Int) by simp, clipAt_nat]; simp
    dsimp only [Option.elim]
    have hd : (p ++ 47 :: q).drop (p.length + 1) = q := by simp
    rw [hc, hd, List.take_of_length_le (by rw [List.length_append, List.length_cons, Nat.add_sub_add_left]; exact Nat.le_refl _)]

theorem joined_spec {w : World} {A : Around} {s : Shared} {f b : By} {t u : Tok} (B : Base w s.heap) (Rr : Rm A 1) (hz : b.length ≤ 1000) (hf : f.length ≤ 1000) :
    codeAny (model PR w) A (.call (.ref 28) ⟨[.bytes f.toArray t, .bytes b.toArray u], []⟩) (Back s fun v h' => Keeps s.heap h' ∧ ∃ u, v = .bytes (if f = [] then b else f ++ 47 :: b).toArray u) s := by
  refine' enter (binds := [(Str.ofString "folder", .bytes f.toArray t), (Str.ofString "name", .bytes b.toArray u)]) B Rr ?ho ?hcd ?hb ?hl ?_ ?c1 ?c2 ?c3 ?c4
  case ho => k_is
  case hcd => k_is
  case hb => exact BindsTo.of_eq rfl
  case hl => exact locs rfl
  case c1 => exact rfl
  case c2 => exact rfl
  case c3 => exact rfl
  case c4 => decide
  intro h₁ F R'
  have N : News s.heap s.heap.objs.size h₁ [] := News.nil
  repeat k_extra "m"
  by_cases h0 : f = []
  · subst h0
    refine ifFalse (by rfl) ?_
    repeat k_extra "m"
    refine ⟨_, _, _, rfl, rfl, Fr.keep (by assumption), ?_⟩
    rw [if_pos rfl]; exact ⟨_, rfl⟩
  · refine ifTrue (by simp [h0]) ?_
    repeat k_extra "m"
    refine ⟨_, _, _, rfl, rfl, Fr.keep (by assumption), ?_⟩
    rw [if_neg h0]
    refine ⟨_, congrArg (fun x : By => Value.bytes x.toArray _) ?_⟩
    simp
theorem letTemp {prog : Program} {w : World} {A : Around} {E : Value → Shared → Prop} {s : Shared} {base : Expr} {o r : Value} {Q : Unit → Shared → Prop} (h : Q () s) : wpAny (model prog w) A (letTemporaryGo base o r) Q E s := wpAny_letTemporaryGo h

theorem subT {prog : Program} {w : World} {A : Around} {E : Value → Shared → Prop} {s : Shared} {value slice : Expr} {o i : Value} {T id : String} {ops : List Value} {Q : Value → Shared → Prop} (hT : s.TypeIs o T)
    (hl : typeLookup (.type T) "__getitem__" = pure (some (.builtin id))) (h : wpAny (model prog w) A (getItem o i) Q E s) (hs : subscripted slice false o i = operate ops (getItem o i)) :
    wpAny (model prog w) A (subscriptTail value slice o i) Q E s := by
  unfold subscriptTail
  refine wpAny_bind ?_
  rw [getitemInPython_of_ne hT.not_modules]
  refine wpAny_bind (wpAny_specialOf hT hl ?_)
  have fin : wpAny (model prog w) A (subscripted slice false o i) (fun r s₃ => wpAny (model prog w) A (letTemporaryGo value o r >>= fun _ => pure r) Q E s₃) E s := by
    rw [hs]
    exact wpAny_operating (wpAny_mono h (fun r s₃ h₃ => wpAny_bind (letTemp (wpAny_pure h₃))) fun _ _ x => x)
  first
    | exact wpAny_pure (wpAny_bind fin)
    | exact wpAny_bind (wpAny_pure (wpAny_bind fin))
    | exact wpAny_bind fin

theorem listKeep {h h' : Heap} {a : Addr} {its : Array Value} (x : h.IsList a its) (k : ∀ b o, h.get? b = some o → h'.get? b = some o) : h'.IsList a its := let ⟨o, ho, r⟩ := x; ⟨o, k _ _ ho, r⟩

section
variable {prog : Program} {w : World} {A : Around} {E : Value → Shared → Prop} {s : Shared} {h₀ : Heap} {L l : Addr} {m : Str → Option Value} {news : List (Addr × Obj)} {value slice : PySem.Expr} {vs : List Value} {vl vu vk : Value} {lo hi : Option Int} {Q : Value → Shared → Prop}
theorem sliceL {ops : List Value} (F : Fr h₀ L s.heap m) (N : News h₀ L s.heap news) (hl : s.heap.IsList l vs.toArray) (pl : IsPart vl lo) (pu : IsPart vu hi) (hz : vs.length ≤ 1000000)
    (h : ∀ D h', Fr h₀ L h' m → News h₀ L h' ((D, listOf (kms_pick vs lo hi).toArray 0) :: news) → (∀ p ∈ news, p.1 ≠ D) → Q (.ref D) { s with heap := h' })
    (hs : subscripted slice false (.ref l) (.ref s.heap.objs.size) = operate ops (getItem (.ref l) (.ref s.heap.objs.size))) :
    wpAny (model prog w) A (subscriptTail value slice (.ref l) (.ref s.heap.objs.size)) Q E { s with heap := s.heap.push { cls := .type "slice", data := .fields #[vl, vu, .none] } } := by
  refine subT (Heap.IsList.typeIs (s := { s with heap := s.heap.push { cls := .type "slice", data := .fields #[vl, vu, .none] } }) (hl.push _)) list_getitem_lookup
    (wpAny_getItem_list_slice (hl.push _) (Heap.IsSliceOf.new ..) pl pu .none (by simp) ?_ (by rw [List.size_toArray, sizeLine_eq]; (first | lia | omega))) hs
  have N1 := News.push (F.push { cls := .type "slice", data := .fields #[vl, vu, .none] }) (N.grown fun _ _ e => Heap.get?_push_of_some _ e) { cls := .type "list", data := .seq (slicePick vs.toArray lo hi none) }
  rw [Heap.size_push] at N1
  rw [kms_pick_eq] at N1
  rw [kms_pick_eq]
  show Q (.ref (s.heap.push _).objs.size) _
  rw [Heap.size_push]
  exact h _ _ ((F.push _).push _) N1 fun p hp => Nat.ne_of_lt (Nat.lt_succ_of_lt (Heap.lt_size (N p hp).1))
theorem sliceRev {ops : List Value} (F : Fr h₀ L s.heap m) (N : News h₀ L s.heap news) (hl : s.heap.IsList l vs.toArray) (pk : IsPart vk (some (-1))) (hz : vs.length ≤ 1000000)
    (h : ∀ D h', Fr h₀ L h' m → News h₀ L h' ((D, listOf vs.reverse.toArray 0) :: news) → (∀ p ∈ news, p.1 ≠ D) → Q (.ref D) { s with heap := h' })
    (hs : subscripted slice false (.ref l) (.ref s.heap.objs.size) = operate ops (getItem (.ref l) (.ref s.heap.objs.size))) :
    wpAny (model prog w) A (subscriptTail value slice (.ref l) (.ref s.heap.objs.size)) Q E { s with heap := s.heap.push { cls := .type "slice", data := .fields #[.none, .none, vk] } } := by
  refine subT (Heap.IsList.typeIs (s := { s with heap := s.heap.push { cls := .type "slice", data := .fields #[.none, .none, vk] } }) (hl.push _)) list_getitem_lookup
    (wpAny_getItem_list_slice (hl.push _) (Heap.IsSliceOf.new ..) .none .none pk (by decide) ?_ (by rw [List.size_toArray, sizeLine_eq]; (first | lia | omega))) hs
  have N1 := News.push (F.push { cls := .type "slice", data := .fields #[.none, .none, vk] }) (N.grown fun _ _ e => Heap.get?_push_of_some _ e) { cls := .type "list", data := .seq (slicePick vs.toArray none none (some (-1))) }
  rw [Heap.size_push] at N1
  rw [krv_pick] at N1
  rw [krv_pick]
  show Q (.ref (s.heap.push _).objs.size) _
  rw [Heap.size_push]
  exact h _ _ ((F.push _).push _) N1 fun p hp => Nat.ne_of_lt (Nat.lt_succ_of_lt (Heap.lt_size (N p hp).1))
theorem itemL {k : Int} {u : Tok} {v : Value} {ops : List Value} (hl : s.heap.IsList l vs.toArray) (h0 : 0 ≤ k) (hhi : k < 2 ^ 63) (hx : vs[k.toNat]? = some v) (h : Q v s)
    (hs : subscripted slice false (.ref l) (.int k u) = operate ops (getItem (.ref l) (.int k u))) : wpAny (model prog w) A (subscriptTail value slice (.ref l) (.int k u)) Q E s :=
  subT hl.typeIs list_getitem_lookup (wpAny_getItem_list hl h0 hhi (by simpa using hx) h) hs
theorem splitN {b : By} {t u : Tok} (F : Fr h₀ L s.heap m) (N : News h₀ L s.heap news) (hz : b.length ≤ 1000000)
    (h : ∀ D h' vs tk, BysAre vs (splitP b) → Fr h₀ L h' m → News h₀ L h' ((D, listOf vs.toArray 0) :: news) → (∀ p ∈ news, p.1 ≠ D) → Q (.ref D) { s with heap := h', toks := tk }) :
    wpAny (model prog w) A (call (.builtin "bytes.split") [.bytes b.toArray t, .bytes (List.toArray [47]) u]) Q E s :=
  call_split hz fun vs tk hv => h _ _ vs tk hv (F.push _) (N.push F _) fun p hp => Nat.ne_of_lt (Heap.lt_size (N p hp).1)
theorem joinN {a : Addr} {ps : List By} {u : Tok} (hl : s.heap.IsList a vs.toArray) (hv : BysAre vs ps) (hz : (joinP ps).length ≤ 1000000) (h : ∀ t' k, Q (.bytes (joinP ps).toArray t') { s with toks := k }) :
    wpAny (model prog w) A (call (.builtin "bytes.join") [.bytes (List.toArray [47]) u, .ref a]) Q E s :=
  let ⟨_, ho, hc, _, hd⟩ := hl
  call_join ho (.inl hc) hd hv hz h
end
theorem parts_spec {w : World} {A : Around} {s : Shared} {b : By} {t : Tok} (B : Base w s.heap) (Rr : Rm A 1) (hz : b.length ≤ 1000) :
    codeAny (model PR w) A (.call (.ref 154) ⟨[.bytes b.toArray t], []⟩) (Back s fun v h' => Keeps s.heap h' ∧ ∃ D vs, v = .ref D ∧ h'.get? D = some (listOf vs.toArray 0) ∧ s.heap.get? D = none ∧ BysAre vs (splitP b).dropLast) s := by
  have hlen : (splitP b).length ≤ 1001 := Nat.le_trans (splitA_len b []) (by (first | lia | omega))
  refine' enter (binds := [(Str.ofString "path", .bytes b.toArray t)]) B Rr ?ho ?hcd ?hb ?hl ?_ ?c1 ?c2 ?c3 ?c4
  case ho => k_is
  case hcd => k_is
  case hb => exact BindsTo.of_eq rfl
  case hl => exact locs rfl
  case c1 => exact rfl
  case c2 => exact rfl
  case c3 => exact rfl
  case c4 => decide
  intro h₁ F R'
  have N : News s.heap s.heap.objs.size h₁ [] := News.nil
  repeat k_extra "m"
  rename_i vs _ hv _ _ _ _ _ _ N1 _
  refine ⟨_, _, _, rfl, rfl, Fr.keep (by assumption), _, _, rfl, (N1 _ (.head _)).1, (N1 _ (.head _)).2.2, ?_⟩
  have e : kms_pick vs none (some (-1)) = vs.take (vs.length - 1) := by
    unfold kms_pick kms_lo kms_hi; simp
  rw [e, List.dropLast_eq_take, ← hv.length]
  exact hv.take _
theorem Keeps.hide {h₀ h : Heap} (k : Keeps h₀ h) {as : List Addr} (hn : ∀ a ∈ as, h₀.get? a = none) : Keeps h₀ (hideAll h as) := fun b o e =>
  hideAll_get as (k b o e) fun hb => by rw [hn b hb] at e; cases e
theorem enterH {w : World} {A : Around} {s : Shared} {h₀ : Heap} {led : List (Addr × Obj)} {R : Result → Shared → Prop} {name qual : Str} {params : Arguments} {body : List Stmt} {scope : Scope} {dV kV doc pm cdv ct oc : Value} {an od : Option Addr} {osl : Array (Option Value)} {f : Addr} {args : Args} {binds : List (Str × Value)} {k : Nat}
    (B : Base w h₀) (kp : Keeps h₀ s.heap) (hled : ∀ p ∈ led, s.heap.get? p.1 = some p.2 ∧ h₀.get? p.1 = none) (Rr : Rm A (k + 1))
    (ho : (hd.heap_39 w.params).lookup f = some ⟨oc, od, .func (fnOf name qual params body scope dV kV doc pm an cdv ct), osl⟩) (hcd : codeIn (hd.heap_39 w.params) cdv qual = true)
    (hbind : BindsTo s (fnOf name qual params body scope dV kV doc pm an cdv ct) args binds) (hloc : ∀ y ∈ binds, scope.names.lookup y.1 = some .local)
    (h : ∀ h₁, Fr (hideAll s.heap (led.map (·.1))) s.heap.objs.size h₁ (fun y => binds.reverse.lookup y) → News (hideAll s.heap (led.map (·.1))) s.heap.objs.size h₁ led → Base w (hideAll s.heap (led.map (·.1))) → Rm (A.deeper (envOf qual scope s.heap.objs.size f cdv)) k →
      wpAny (model PR w) (A.deeper (envOf qual scope s.heap.objs.size f cdv)) (execs body (envOf qual scope s.heap.objs.size f cdv))
        (fun fl s' => R (.ok (.ret (match fl with | .ret v => v | _ => .none))) s') (fun _ _ => False) { s with heap := h₁, toks := s.toks + binds.length })
    (hco : scope.isCoroutine = false := by rfl) (hgen : scope.isGenerator = false := by rfl) (hk : scope.kind = .function := by rfl)
    (hcell : ∀ x ∈ scope.names, x.2 ≠ .cell := by decide) : codeAny (model PR w) A (.call (.ref f) args) R s := by
  have B' := B.keeps kp
  obtain ⟨mg, mb, T⟩ := B'.T
  refine codeAny_call_def (fd := fnOf name qual params body scope dV kV doc pm an cdv ct) (body := body) (binds := binds) Rr.room (B'.K _ _ ho) rfl T.nolimit (codeRec_of B'.K hcd) rfl hbind hcell hloc (fun h₁ hns hk₁ => ?_) hco hgen hk
  refine wpAny_mono (h h₁ ⟨hns, fun b o e => hk₁ b o (of_hideAll _ e), ?_⟩ ?_ (B.keeps (kp.hide ?_)) (Rr.deeper _)) (fun _ _ x => x) fun _ _ x => x.elim
  · rw [hideAll_size]; exact Nat.le_refl _
  · exact fun p hp => ⟨hk₁ _ _ (hled p hp).1, Nat.ne_of_lt (Heap.lt_size (hled p hp).1), hideAll_none _ (List.mem_map_of_mem hp)⟩
  · intro a ha
    obtain ⟨p, hp, rfl⟩ := List.mem_map.mp ha
    exact (hled p hp).2

section
variable {prog : Program} {w : World} {K : Type} [DecidableEq K] {knd : KeyKind prog w K} {A : Around} {E : Value → Shared → Prop} {s : Shared} {d : Addr} {kvs : List (K × Value)} {k : K} {key v : Value}
theorem dictItem {value slice : Expr} {ops : List Value} {Q : Value → Shared → Prop} (hD : s.heap.DictOf knd d kvs) (hkey : knd.is k key = true) (hl : valueAt kvs k = some v) (h : Q v { s with toks := s.toks + 1 })
    (hs : subscripted slice false (.ref d) key = operate ops (getItem (.ref d) key)) : wpAny (model prog w) A (subscriptTail value slice (.ref d) key) Q E s :=
  subT hD.typeIs slot_dict_getitem.lookup (wpAny_getItem_of hkey hD.mapOf hl h) hs
end

section
variable {M : Model} {A : Around} {E : Value → Shared → Prop} {s : Shared} {h₀ : Heap} {L : Addr} {m : Str → Option Value} {news : List (Addr × Obj)} {vs : List Value} {Q : Value → Shared → Prop}
noncomputable abbrev tupOf (vs : List Value) : Obj := { cls := .type "tuple", data := .seq vs.toArray }
theorem newListN (F : Fr h₀ L s.heap m) (N : News h₀ L s.heap news) (hz : vs.length ≤ 1000000)
    (h : ∀ D h', Fr h₀ L h' m → News h₀ L h' ((D, listOf vs.toArray 0) :: news) → (∀ p ∈ news, p.1 ≠ D) → Q (.ref D) { s with heap := h' }) : wpAny M A (newList vs) Q E s :=
  newList_N F N (fun h' F' N' => h _ h' F' N' fun p hp => Nat.ne_of_lt (Heap.lt_size (N p hp).1)) (by rw [sizeLine_eq]; (first | lia | omega))
theorem newTupN (F : Fr h₀ L s.heap m) (N : News h₀ L s.heap news) (hz : vs.length ≤ 1000000)
    (h : ∀ D h', Fr h₀ L h' m → News h₀ L h' ((D, tupOf vs) :: news) → (∀ p ∈ news, p.1 ≠ D) → Q (.ref D) { s with heap := h' }) : wpAny M A (newTuple vs) Q E s :=
  newTuple_N F N (fun h' F' N' => h _ h' F' N' fun p hp => Nat.ne_of_lt (Heap.lt_size (N p hp).1)) (by rw [sizeLine_eq]; (first | lia | omega))
end

inductive IsDeck (w : World) (od ol : Obj) (ld : Addr) : Prop
  | mk (m : Int) (tm : Tok) (vs : List Value) (ns : List Int) (k : Nat) (hod : od.IsDictOf (strKind PR w) [(Str.ofString "left", .ref ld), (Str.ofString "mixed", .int m tm)]) (hol : ol = listOf vs.toArray k) (hvs : IntsAre vs ns) (hns : ∀ x ∈ ns, 0 ≤ x ∧ x < 1000003) (hm0 : 0 ≤ m) (hm1 : m < 1000003) (hlen : vs.length ≤ 64) : IsDeck w od ol ld
inductive DrawBack (w : World) (s : Shared) (dk ld : Addr) (k : Int) (v : Value) (h' : Heap) : Prop
  | mk (i : Int) (u : Tok) (od' ol' : Obj) (e : v = .int i u) (h0 : 0 ≤ i) (h1 : i < k) (D : IsDeck w od' ol' ld) (gd : h'.get? dk = some od') (gl : h'.get? ld = some ol') (kp : ∀ b o, b ≠ dk → b ≠ ld → s.heap.get? b = some o → h'.get? b = some o) : DrawBack w s dk ld k v h'
theorem draw_spec {w : World} {A : Around} {s : Shared} {h₀ : Heap} {dk ld : Addr} {od ol : Obj} {k : Int} {tk : Tok} (B : Base w h₀) (kp : Keeps h₀ s.heap) (hdk : s.heap.get? dk = some od) (hld : s.heap.get? ld = some ol)
    (fdk : h₀.get? dk = none) (fld : h₀.get? ld = none) (hne : dk ≠ ld) (D : IsDeck w od ol ld) (Rr : Rm A 1) (hk : 1 ≤ k) (hk2 : k ≤ 100) :
    codeAny (model PR w) A (.call (.ref 142) ⟨[.ref dk, .int k tk], []⟩) (Back s (DrawBack w s dk ld k)) s := by
  obtain ⟨m, tm, vs, ns, kk, hod, rfl, hvs, hns, hm0, hm1, hlen⟩ := D
  refine' enterH (led := [(dk, od), (ld, listOf vs.toArray kk)]) (binds := [(Str.ofString "deck", .ref dk), (Str.ofString "many", .int k tk)]) B kp ?hled Rr ?ho ?hcd ?hb ?hl ?_ ?c1 ?c2 ?c3 ?c4
  case hled => exact allCons (⟨hdk, fdk⟩) (allCons (⟨hld, fld⟩) allNil)
  case ho => k_is
  case hcd => k_is
  case hb => exact BindsTo.of_eq rfl
  case hl => exact locs rfl
  case c1 => exact rfl
  case c2 => exact rfl
  case c3 => exact rfl
  case c4 => decide
  intro h₁ F N B' R'
  try k_extra "nt"
  clear B
  simp only [List.map_cons, List.map_nil] at F N B'
  repeat k_extra "m"
  refine dictItem (kda_dict N (.head _) hod) (strKind_is _ _ _ _) rfl ?_ (by with_unfolding_all rfl)
  repeat k_extra "m"
  rename_i D1 h1 F1 N1 hD1
  refine ke_ne_ints (News.isList N1 (.tail _ (.tail _ (.head _)))) (News.isList N1 (.head _)) hvs .nil (by have := R'.units; have := R'.hu; unfold cLine; omega) ?_
  repeat k_extra "m"
  by_cases hn : ns = []
  · subst hn
    refine ifFalse (by simp) ?_
    repeat k_extra "m"
    refine dictItem (v := .int m tm) (kda_dict N1 (.tail _ (.head _)) hod) (strKind_is _ _ _ _) rfl ?_ (by with_unfolding_all rfl)
    repeat k_extra "m"
    refine kda_set F1 N1 (.tail (hD1 _ (.head _)).symm (.head (fun p hp => by simp only [List.mem_singleton] at hp; subst hp; exact hne.symm))) hod (strKind_is _ _ _ _) (by rw [sizeLine_eq]; simp) fun h2 o2 F2 N2 d2 => ?_
    try k_extra "nt"
    repeat k_extra "m"
    have hmm := (fdiv_fmod_facts (m * 4801 + 97) 1000003).2.2.1 (by decide)
    refine dictItem (v := .int ((m * 4801 + 97).fmod 1000003) _) (kda_dict N2 (.tail _ (.head _)) d2) (strKind_is _ _ _ _) rfl ?_ (by with_unfolding_all rfl)
    repeat k_extra "m"
    have hq := (fdiv_fmod_facts (((m * 4801 + 97).fmod 1000003).fdiv 7) k).2.2.1 (Int.lt_of_lt_of_le Int.one_pos hk)
    refine ⟨_, _, _, rfl, rfl, _, _, o2, _, rfl, hq.1, hq.2, ?_, (N2 _ (.tail _ (.head _))).1, (N2 _ (.tail _ (.tail _ (.head _)))).1, fun b o h1 h2 e => F2.keep b o (hideAll_get _ e (by simp [h1, h2]))⟩
    exact ⟨_, _, _, [], _, d2, rfl, hvs, hns, hmm.1, hmm.2, hlen⟩
  · obtain ⟨v, vs', n, ns', t, rfl, rfl, rfl, hvs'⟩ : ∃ v vs' n ns' t, vs = v :: vs' ∧ ns = n :: ns' ∧ v = .int n t ∧ IntsAre vs' ns' := by
      cases hvs with
      | nil => exact absurd rfl hn
      | cons _ _ h => exact ⟨_, _, _, _, _, rfl, rfl, rfl, h⟩
    refine ifTrue (by simp) ?_
    repeat k_extra "m"
    refine dictItem (v := .ref ld) (kda_dict N1 (.tail _ (.head _)) hod) (strKind_is _ _ _ _) rfl ?_ (by with_unfolding_all rfl)
    refine kl_method N1 (.tail _ (.tail _ (.head _))) PySem.F.slot_list_pop PySem.F.type_list_pop ?_
    repeat k_extra "m"
    refine kl_popAt F1 N1 (by decide) (k := 0) (by simp [seqIndex?]) (p := []) (q := vs') (y := .int n t) (by rfl) (.tail (hD1 _ (.tail _ (.head _))).symm (.tail hne (.head (fun p hp => nomatch hp)))) (by rw [sizeLine_eq]; simp only [List.length_cons] at hlen ⊢; omega) fun h2 F2 N2 => ?_
    try k_extra "nt"
    repeat k_extra "m"
    have hq := (fdiv_fmod_facts n k).2.2.1 (Int.lt_of_lt_of_le Int.one_pos hk)
    refine ⟨_, _, _, rfl, rfl, _, _, od, _, rfl, hq.1, hq.2, ?_, (N2 _ (.tail _ (.head _))).1, (N2 _ (.tail _ (.tail _ (.head _)))).1, fun b o h1 h2 e => F2.keep b o (hideAll_get _ e (by simp [h1, h2]))⟩
    exact ⟨m, tm, vs', ns', _, hod, rfl, hvs', fun x hx => hns x (List.mem_cons_of_mem _ hx), hm0, hm1, Nat.le_of_succ_le hlen⟩
theorem newsSub {h₀ h : Heap} {L : Addr} {news news' : List (Addr × Obj)} (N : News h₀ L h news) (hs : ∀ p ∈ news', p ∈ news) : News h₀ L h news' := fun p hp => N p (hs p hp)
theorem frBut {h₀ h h' : Heap} {L a : Addr} {m : Str → Option Value} (F : Fr h₀ L h m) (k : ∀ b o, b ≠ a → h.get? b = some o → h'.get? b = some o) (h0 : h₀.get? a = none) (hL : L ≠ a) : Fr h₀ L h' m := by
  refine ⟨F.ns.at' fun o e => k L o hL e, fun b o e => k b o (fun q => by rw [q, h0] at e; cases e) (F.keep b o e), F.above⟩

section
variable {prog : Program} {w : World} {A : Around} {E : Value → Shared → Prop}

inductive CEi (hC : Heap) (C I D : Addr) (oI : Obj) (oD : Obj) (gs : Array GenState) (dr : Drawn) (os : OsState) (J : List (Addr × Obj) → Prop) (s' : Shared) : Prop
  | mk (h' : Heap) (tk' : Nat) (mC' : Str → Option Value) (led' : List (Addr × Obj)) (e : s' = { heap := h', gens := gs, drawn := dr, toks := tk', os := os }) (F : Fr hC C h' mC') (N : News hC C h' ((I, oI) :: (D, oD) :: led')) (n : ∀ p ∈ led', p.1 ≠ I ∧ p.1 ≠ D) (j : J led') : CEi hC C I D oI oD gs dr os J s'
noncomputable def CE (hC : Heap) (C I D : Addr) (oI : Obj) (oD : Obj) (s : Shared) (J : List (Addr × Obj) → Prop) (s' : Shared) : Prop := CEi hC C I D oI oD s.gens s.drawn s.os J s'
inductive CI (hC : Heap) (C I D n : Nat) (s : Shared) (St : Nat → Heap → Prop) (J : Nat → List Value → List (Addr × Obj) → Prop) (q : Nat) (s' : Shared) : Prop
  | mk (i : Nat) (vs : List Value) (led : List (Addr × Obj)) (h : Heap) (tk : Nat) (m : Str → Option Value) (oI : Obj) (k : Nat) (hq : q = n - i) (hi : i ≤ n) (e : s' = { s with heap := h, toks := tk }) (st : St i h) (j : J i vs led) (hv : vs.length ≤ i) (hl : ∀ p ∈ led, p.1 ≠ I ∧ p.1 ≠ D)
      (F : Fr hC C h m) (N : News hC C h ((I, oI) :: (D, listOf vs.toArray k) :: led)) : CI hC C I D n s St J q s'
inductive CompH (prog : Program) (w : World) (A : Around) (it : Value) (s₂ : Shared)
    (T : (I : Addr) → List (Addr × Obj) → (Nat → List Value → List (Addr × Obj) → Prop) → Addr → Addr → Nat → Value → List Value → List (Addr × Obj) → Heap → Nat → (Str → Option Value) → Obj → Nat → (Value → Shared → Prop) → Prop)
    (Z : (I : Addr) → List (Addr × Obj) → Addr → List Value → List (Addr × Obj) → Heap → Nat → Nat → Prop) : Prop
  | mk (I : Addr) (fp : List Addr) (n : Nat) (P : Nat → Value → Prop) (St : Nat → Heap → Prop) (led : List (Addr × Obj)) (J : Nat → List Value → List (Addr × Obj) → Prop) (hit : it = .ref I) (W : Walks prog w A I fp [I] n P St) (hn : n ≤ 1000000)
      (hSt : ∀ i h, St i h → ∃ o, h.get? I = some o) (hst : St 0 s₂.heap) (hled : ∀ p ∈ led, s₂.heap.get? p.1 = some p.2 ∧ p.1 ≠ I) (hfp : ∀ b ∈ fp, b = I ∨ ((∃ o, s₂.heap.get? b = some o) ∧ b ∉ I :: led.map (·.1))) (j0 : J 0 [] led)
      (turn : ∀ (C D : Addr) (i : Nat) (v : Value) (vs : List Value) (led' : List (Addr × Obj)) (h : Heap) (tk : Nat) (m : Str → Option Value) (oI : Obj) (k : Nat) (EE : Value → Shared → Prop), s₂.heap.objs.size ≤ C → s₂.heap.objs.size ≤ D → i < n → P i v → J i vs led' → vs.length ≤ i → (∀ p ∈ led', p.1 ≠ I ∧ p.1 ≠ D) → T I led J C D i v vs led' h tk m oI k EE)
      (done : ∀ (D : Addr) (vs : List Value) (led' : List (Addr × Obj)) (h : Heap) (tk k : Nat), J n vs led' → Z I led D vs led' h tk k) : CompH prog w A it s₂ T Z

theorem compLoopW {R : Result → Shared → Prop} {s : Shared} {elt iter : Expr} {x : Str} {px : Pos} {ifs : List Expr} {scope : Scope} {pos : Pos} {I D : Addr} {fp : List Addr} {n : Nat} {P : Nat → Value → Prop} {St : Nat → Heap → Prop}
    {cenv : Env} {hC : Heap} {led₀ : List (Addr × Obj)} {mC : Str → Option Value} {oI : Obj} (W : Walks prog w A I fp [I] n P St) (hSt : ∀ i h, St i h → ∃ o, h.get? I = some o) (hfp : ∀ b ∈ fp, b = I ∨ ∃ o, hC.get? b = some o)
    (hx : cenv.kindOf x = some .local) (hp : (cenv.scope.kind == .class || (cenv.scope.kind == .module && cenv.locals != cenv.globals)) = false)
    (J : Nat → List Value → List (Addr × Obj) → Prop) (hID : I ≠ D)
    (F : Fr hC cenv.locals s.heap mC) (N : News hC cenv.locals s.heap ((I, oI) :: (D, listOf #[] 0) :: led₀)) (hl₀ : ∀ p ∈ led₀, p.1 ≠ I ∧ p.1 ≠ D) (st : St 0 s.heap) (j0 : J 0 [] led₀)
    (turn : ∀ (i : Nat) (v : Value) (vs : List Value) (led : List (Addr × Obj)) (h : Heap) (tk : Nat) (m : Str → Option Value) (oI : Obj) (k : Nat), i < n → P i v → J i vs led → vs.length ≤ i → (∀ p ∈ led, p.1 ≠ I ∧ p.1 ≠ D) → Fr hC cenv.locals h (fun y => if y = x then some v else m y) → News hC cenv.locals h ((I, oI) :: (D, listOf vs.toArray k) :: led) →
      wpAny (model prog w) A (forIn ifs true fun c r => if r = true then do let ok ← isTrue c cenv (eval c cenv); pure (ForInStep.yield ok) else pure (ForInStep.yield r)) (fun ok s₃ =>
        if ok = true then wpAny (model prog w) A (eval elt cenv) (fun y s₄ => CE hC cenv.locals I D oI (listOf vs.toArray k) s (J (i + 1) (vs ++ [y])) s₄) (notedBy (model prog w) A cenv fun e s' => R (.error e) s') s₃
        else CE hC cenv.locals I D oI (listOf vs.toArray k) s (J (i + 1) vs) s₃) (notedBy (model prog w) A cenv fun e s' => R (.error e) s') { s with heap := h, toks := tk })
    (done : ∀ (vs : List Value) (led : List (Addr × Obj)) (h : Heap) (tk k : Nat) (m : Str → Option Value), J n vs led → (∀ p ∈ led, p.1 ≠ I ∧ p.1 ≠ D) → Fr hC cenv.locals h m → News hC cenv.locals h ((D, listOf vs.toArray k) :: led) → R (.ok .next) { s with heap := h, toks := tk })
    (hsz : n ≤ 1000000) :
    codeAny (model prog w) A (.compLoop (.ListComp elt [⟨.Name x px, iter, ifs, 0⟩] scope pos) 0 (.ref I) (.ref D) cenv) R s := by
  have hfpK : ∀ {h h' : Heap} {m m' : Str → Option Value}, Fr hC cenv.locals h m → Fr hC cenv.locals h' m' → (∀ o, h.get? I = some o → h'.get? I = some o) → ∀ b ∈ fp, ∀ o, h.get? b = some o → h'.get? b = some o := by
    intro h h' m m' F1 F2 hI b hb o e
    rcases hfp b hb with rfl | ⟨o', ho'⟩
    · exact hI o e
    · have e1 := F1.keep _ _ ho'; rw [e] at e1; cases e1; exact F2.keep _ _ ho'
  refine codeAny_compLoop_tests
    (CI hC cenv.locals I D n s St J)
    ?_ n ⟨0, [], led₀, s.heap, s.toks, mC, oI, 0, rfl, Nat.zero_le _, rfl, st, j0, Nat.le_refl _, hl₀, F, N⟩
  rintro q s' ⟨i, vs, led, h, tk, m, oI, k, rfl, hi, rfl, hst, hj, hlen, hled, F, N⟩
  have hCI : cenv.locals ≠ I := fun e => (N _ (.head _)).2.1 e.symm
  have hC0 : hC.get? I = none := (N _ (.head _)).2.2
  have hCD : D ≠ cenv.locals := (N _ (.tail _ (.head _))).2.1
  by_cases hlt : i < n
  · refine W.item i _ _ _ hlt hst fun v h₁ tk₁ hPv hst₁ hk₁ => ?_
    have hk₁' : ∀ b o, b ≠ I → h.get? b = some o → h₁.get? b = some o := fun b o hb e => hk₁ b o (by simpa using hb) e
    obtain ⟨oI₁, hoI₁⟩ := hSt _ _ hst₁
    have F₁ := frBut F hk₁' hC0 hCI
    have N₁ : News hC cenv.locals h₁ ((I, oI₁) :: (D, listOf vs.toArray k) :: led) := by
      intro p hp
      rcases List.mem_cons.mp hp with rfl | hp
      · exact ⟨hoI₁, (N _ (.head _)).2⟩
      · refine ⟨hk₁' _ _ ?_ (N p (.tail _ hp)).1, (N p (.tail _ hp)).2⟩
        rcases List.mem_cons.mp hp with rfl | hp
        · exact hID.symm
        · exact (hled p hp).1
    refine wpAny_assign_Name (wpAny_storeName_local hx F₁.ns (fun h₂ hn₂ hs₂ => ?_) hp)
    have F₂ := F₁.set hn₂ hs₂
    have N₂ := N₁.set hs₂
    have hst₂ : St (i + 1) h₂ := W.frame _ _ _ hst₁ (hfpK F₁ F₂ fun o e => by have := (N₁ _ (.head _)).1; rw [e] at this; cases this; exact (N₂ _ (.head _)).1)
    refine wpAny_mono (turn i v vs led h₂ _ _ oI₁ k hlt hPv hj hlen hled F₂ N₂) (fun ok s₃ h₃ => ?_) fun _ _ e => e
    split
    · rename_i hok
      rw [if_pos hok] at h₃
      refine wpAny_mono h₃ (fun y s₄ h₄ => ?_) fun _ _ e => e
      obtain ⟨h', tk', mC', led', rfl, F', N', hl', hj'⟩ := h₄
      have hst' : St (i + 1) h' := W.frame _ _ _ hst₂ (hfpK F₂ F' fun o e => by have := (N₂ _ (.head _)).1; rw [e] at this; cases this; exact (N' _ (.head _)).1)
      refine wpAny_list_append_plain (s := { s with heap := h', toks := tk' }) (items := vs.toArray) ⟨k, (N' _ (.tail _ (.head _))).1⟩ (fun h₅ ⟨k₅, hl₅⟩ hs₅ => ?_) (by rw [List.size_toArray, sizeLine_eq]; (first | lia | omega))
      have hk₅ : ∀ b o, b ≠ D → h'.get? b = some o → h₅.get? b = some o := fun b o hb e => hs₅.extBut b o hb e
      refine ⟨n - (i + 1), Nat.sub_succ_lt_self _ _ hlt, i + 1, vs ++ [y], led', h₅, tk', mC', oI₁, k₅, rfl, hlt, rfl, ?_, hj', by rw [List.length_append]; exact Nat.succ_le_succ hlen, hl', frBut F' hk₅ (N' _ (.tail _ (.head _))).2.2 hCD.symm, ?_⟩
      · refine W.frame _ _ _ hst' fun b hb o e => hk₅ b o ?_ e
        rintro rfl
        rcases hfp _ hb with rfl | ⟨o', ho'⟩
        · exact hID rfl
        · rw [(N' _ (.tail _ (.head _))).2.2] at ho'; cases ho'
      · intro p hp
        rcases List.mem_cons.mp hp with rfl | hp
        · exact ⟨hk₅ _ _ hID (N' _ (.head _)).1, (N' _ (.head _)).2⟩
        · rcases List.mem_cons.mp hp with rfl | hp
          · refine ⟨?_, (N' _ (.tail _ (.head _))).2⟩
            show h₅.get? D = _
            rw [hl₅]; simp
          · exact ⟨hk₅ _ _ (hl' p hp).2 (N' p (.tail _ (.tail _ hp))).1, (N' p (.tail _ (.tail _ hp))).2⟩
    · rename_i hok
      rw [if_neg hok] at h₃
      obtain ⟨h', tk', mC', led', rfl, F', N', hl', hj'⟩ := h₃
      exact ⟨n - (i + 1), Nat.sub_succ_lt_self _ _ hlt, i + 1, vs, led', h', tk', mC', oI₁, k, rfl, hlt, rfl, W.frame _ _ _ hst₂ (hfpK F₂ F' fun o e => by have := (N₂ _ (.head _)).1; rw [e] at this; cases this; exact (N' _ (.head _)).1), hj', Nat.le_succ_of_le hlen, hl', F', N'⟩
  · have hin : i = n := Nat.le_antisymm hi (Nat.not_lt.mp hlt)
    subst hin
    refine W.done _ _ _ hst fun h₁ tk₁ hk₁ => ?_
    have hk₁' : ∀ b o, b ≠ I → h.get? b = some o → h₁.get? b = some o := fun b o hb e => hk₁ b o (by simpa using hb) e
    refine done vs led h₁ tk₁ k m hj hled (frBut F hk₁' hC0 hCI) fun p hp => ⟨hk₁' _ _ ?_ (N p (.tail _ hp)).1, (N p (.tail _ hp)).2⟩
    rcases List.mem_cons.mp hp with rfl | hp
    · exact hID.symm
    · exact (hled p hp).1

theorem frHide {h₀ h h' : Heap} {L : Addr} {m : Str → Option Value} {as : List Addr} (F : Fr h₀ L h m) (k : Keeps (hideAll h as) h') (hn : ∀ a ∈ as, h₀.get? a = none) (hL : L ∉ as) : Fr h₀ L h' m := by
  obtain ⟨oL, es, ep, hL', hLd, hLk, hLf⟩ := F.ns
  exact ⟨⟨oL, es, ep, k _ _ (hideAll_get _ hL' hL), hLd, hLk, hLf⟩, fun b o e => k _ _ (hideAll_get _ (F.keep b o e) fun hb => by rw [hn b hb] at e; cases e), F.above⟩

noncomputable def CompLH (prog : Program) (w : World) (A : Around) (env : Env) (elt : Expr) (x : Str) (ifs : List Expr) (scope : Scope) (cl : List (Str × Addr)) (Q : Value → Shared → Prop) (it : Value) (s₂ : Shared) : Prop :=
  CompH prog w A it s₂ (fun I led J C D i v vs led' h tk m oI k EE =>
        Fr (hideAll s₂.heap (I :: led.map (·.1))) C h (fun y => if y = x then some v else m y) → News (hideAll s₂.heap (I :: led.map (·.1))) C h ((I, oI) :: (D, listOf vs.toArray k) :: led') →
        wpAny (model prog w) A (forIn ifs true fun c r => if r = true then do let ok ← isTrue c (compEnvC scope cl C env) (eval c (compEnvC scope cl C env)); pure (ForInStep.yield ok) else pure (ForInStep.yield r)) (fun ok s₃ =>
          if ok = true then wpAny (model prog w) A (eval elt (compEnvC scope cl C env)) (fun y s₄ => CE (hideAll s₂.heap (I :: led.map (·.1))) C I D oI (listOf vs.toArray k) s₂ (J (i + 1) (vs ++ [y])) s₄) EE s₃
          else CE (hideAll s₂.heap (I :: led.map (·.1))) C I D oI (listOf vs.toArray k) s₂ (J (i + 1) vs) s₃) EE { s₂ with heap := h, toks := tk })
      (fun I led D vs led' h tk k => Keeps (hideAll s₂.heap (I :: led.map (·.1))) h → (∀ p ∈ led', h.get? p.1 = some p.2 ∧ (hideAll s₂.heap (I :: led.map (·.1))).get? p.1 = none ∧ p.1 ≠ D ∧ p.1 ≠ I) → h.get? D = some (listOf vs.toArray k) → s₂.heap.objs.size ≤ D →
        Q (.ref D) { s₂ with heap := h, toks := tk })
theorem normCL {env : Env} {elt : Expr} {x : Str} {ifs : List Expr} {scope : Scope} {cl : List (Str × Addr)} {Q : Value → Shared → Prop} {it : Value} {s : Shared} {h : Heap} {tk : Nat} (k : CompLH prog w A env elt x ifs scope cl Q it { s with heap := h, toks := tk }) : CompLH prog w A env elt x ifs scope cl Q it { s with heap := h, toks := tk } := k

theorem listCompW {s : Shared} {env : Env} {elt iter : Expr} {x : Str} {px : Pos} {ifs : List Expr} {scope : Scope} {cl : List (Str × Addr)} {pos : Pos} {Q : Value → Shared → Prop}
    (hclos : closureFor scope env = pure cl) (hcell : ∀ y ∈ scope.names, y.2 ≠ .cell) (hkind : scope.kind = .function)
    (hnames : ∀ y ∈ scope.names, y.2 = .local → scope.names.lookup y.1 = some .local) (hx : scope.names.lookup x = some .local)
    (h : wpAny (model prog w) A (eval iter env) (fun xv s₁ => wpAny (model prog w) A (pyIter xv) (fun it s₂ => CompLH prog w A env elt x ifs scope cl Q it s₂) E s₁) E s)
    (hs : ∀ x, foldedSetIterable iter env x = pure x := by intro _; rfl) :
    wpAny (model prog w) A (eval (.ListComp elt [⟨.Name x px, iter, ifs, 0⟩] scope pos) env) Q E s := by
  rw [eval_ListComp]
  refine wpAny_comprehension_free (use := none) rfl hs hclos hkind hnames (wpAny_mono h (fun xv s₁ h₁ => wpAny_mono h₁ (fun it s₂ h₂ => ?_) fun _ _ e => e) fun _ _ e => e)
  obtain ⟨I, fp, n, P, St, led, J, rfl, W, hn, hSt, hst, hled, hfp, j0, turn, done⟩ := h₂
  refine wpAny_newObj_type (wpAny_newFunctionEnv hcell (by intro y hy; simp at hy) (fun h₁ hns₁ hsb₁ => ?_) hkind)
  dsimp only at hns₁ hsb₁ ⊢
  generalize hH2 : s₂.heap.push { cls := .type "list", dict := none, data := .seq ([] : List Value).toArray } = H2 at hns₁ hsb₁ ⊢
  have hCs : H2.objs.size = s₂.heap.objs.size + 1 := by rw [← hH2, Heap.size_push]
  have old : ∀ b o, s₂.heap.get? b = some o → h₁.get? b = some o := fun b o e =>
    hsb₁.extBut b o (by rw [hCs]; exact Nat.ne_of_lt (Nat.lt_succ_of_lt (Heap.lt_size e))) (Heap.get?_push_of_some _ (hH2 ▸ Heap.get?_push_of_some _ e))
  obtain ⟨oI, hoI⟩ := hSt _ _ hst
  have hIlt : I < s₂.heap.objs.size := Heap.lt_size hoI
  have hDo : h₁.get? s₂.heap.objs.size = some (listOf #[] 0) := hsb₁.extBut _ _ (by rw [hCs]; exact Nat.ne_of_lt (Nat.lt_succ_self _)) (Heap.get?_push_of_some _ (hH2 ▸ Heap.get?_push_size _ rfl))
  have hCn : (hideAll s₂.heap (I :: led.map (·.1))).get? H2.objs.size = none := by
    cases e : (hideAll s₂.heap (I :: led.map (·.1))).get? H2.objs.size with
    | none => rfl
    | some o => have := Heap.lt_size (of_hideAll _ e); rw [hCs] at this; exact absurd this (Nat.not_lt.mpr (Nat.le_succ _))
  have hDn : (hideAll s₂.heap (I :: led.map (·.1))).get? s₂.heap.objs.size = none := by
    cases e : (hideAll s₂.heap (I :: led.map (·.1))).get? s₂.heap.objs.size with
    | none => rfl
    | some o => have := Heap.lt_size (of_hideAll _ e); exact absurd this (Nat.lt_irrefl _)
  have F₀ : Fr (hideAll s₂.heap (I :: led.map (·.1))) H2.objs.size h₁ (fun x => List.lookup x ([] : List (Str × Value)).reverse) :=
    ⟨hns₁, fun b o e => old b o (of_hideAll _ e), by rw [hideAll_size, hCs]; exact Nat.le_succ _⟩
  have N₀ : News (hideAll s₂.heap (I :: led.map (·.1))) H2.objs.size h₁ ((I, oI) :: (s₂.heap.objs.size, listOf #[] 0) :: led) := by
    intro p hp
    rcases List.mem_cons.mp hp with rfl | hp
    · exact ⟨old _ _ hoI, by rw [hCs]; exact Nat.ne_of_lt (Nat.lt_succ_of_lt hIlt), hideAll_none _ (.head _)⟩
    · rcases List.mem_cons.mp hp with rfl | hp
      · exact ⟨hDo, by rw [hCs]; exact Nat.ne_of_lt (Nat.lt_succ_self _), hDn⟩
      · have := (hled p hp).1
        exact ⟨old _ _ this, by rw [hCs]; exact Nat.ne_of_lt (Nat.lt_succ_of_lt (Heap.lt_size this)), hideAll_none _ (.tail _ (List.mem_map_of_mem hp))⟩
  have hl₀ : ∀ p ∈ led, p.1 ≠ I ∧ p.1 ≠ s₂.heap.objs.size := fun p hp => ⟨(hled p hp).2, Nat.ne_of_lt (Heap.lt_size (hled p hp).1)⟩
  have hst₁ : St 0 h₁ := W.frame _ _ _ hst fun b _ o e => old b o e
  have loop : codeAny (model prog w) A (.compLoop (.ListComp elt [⟨.Name x px, iter, ifs, 0⟩] scope pos) 0 (.ref I) (.ref s₂.heap.objs.size) (compEnvC scope cl H2.objs.size env))
      (compPost (model prog w) A E none Q (.ref s₂.heap.objs.size) H2.objs.size) { s₂ with heap := h₁, toks := s₂.toks + ([] : List (Str × Value)).length } := by
    refine compLoopW (cenv := compEnvC scope cl H2.objs.size env) W hSt ?_ (lookup_relabel_local hx) (by simp [compEnvC, relabel, hkind]) J (Nat.ne_of_lt hIlt) F₀ N₀ hl₀ hst₁ j0 ?_ ?_ hn
    · intro b hb
      rcases hfp b hb with e | ⟨⟨o, ho⟩, hnb⟩
      · exact .inl e
      · exact .inr ⟨o, hideAll_get _ ho hnb⟩
    · intro i v vs led' h tk m oI' k hi hP hJ hv hl F N
      exact turn _ _ i v vs led' h tk m oI' k _ (by rw [hCs]; exact Nat.le_succ _) (Nat.le_refl _) hi hP hJ hv hl F N
    · intro vs led' h tk k m hJ hl F N
      refine ⟨_, F.ns, fun h' hs' => ?_⟩
      have hk' : ∀ b o, b ≠ H2.objs.size → h.get? b = some o → h'.get? b = some o := fun b o hb e => hs'.extBut b o hb e
      refine done _ vs led' h' tk k hJ (fun b o e => hk' b o (fun q => by rw [q, hCn] at e; cases e) (F.keep b o e)) (fun p hp => ⟨hk' _ _ (N p (.tail _ hp)).2.1 (N p (.tail _ hp)).1, (N p (.tail _ hp)).2.2, (hl p hp).2, (hl p hp).1⟩) (hk' _ _ (by rw [hCs]; exact Nat.ne_of_lt (Nat.lt_succ_self _)) (N _ (.head _)).1) (Nat.le_refl _)
  exact codeAny_compStart_list loop (W.self 0 _ _ _ hst₁ loop)
end
theorem enterC {w : World} {A : Around} {s : Shared} {h₀ : Heap} {led : List (Addr × Obj)} {R : Result → Shared → Prop} {name qual : Str} {params : Arguments} {body : List Stmt} {scope : Scope} {dV kV doc pm cdv ct oc : Value} {an od : Option Addr} {osl : Array (Option Value)} {f : Addr} {args : Args} {binds : List (Str × Value)} {k : Nat}
    (B : Base w h₀) (kp : Keeps h₀ s.heap) (hled : ∀ p ∈ led, s.heap.get? p.1 = some p.2 ∧ h₀.get? p.1 = none) (Rr : Rm A (k + 1))
    (ho : (hd.heap_39 w.params).lookup f = some ⟨oc, od, .func (fnOf name qual params body scope dV kV doc pm an cdv ct), osl⟩) (hcd : codeIn (hd.heap_39 w.params) cdv qual = true)
    (hbind : BindsTo s (fnOf name qual params body scope dV kV doc pm an cdv ct) args binds)
    (hkind : ∀ n, ∀ x ∈ binds, scope.names.lookup x.1 = some .local ∨ (scope.names.lookup x.1 = some .cell ∧ ((cellsFrom n scope.names []).lookup x.1).isSome = true))
    (hnd : ((cellsFrom 0 scope.names []).map (·.1)).Nodup)
    (h : ∀ L h₁ tk cells, Fr (hideAll s.heap (led.map (·.1))) L h₁ (bindL (envOfC qual scope L f cdv).kindOf binds fun _ => none) → News (hideAll s.heap (led.map (·.1))) L h₁ (cells ++ led) →
      CellsAre (bindC (envOfC qual scope L f cdv).kindOf binds fun _ => none) (cellsFrom (L + 1) scope.names []) cells → Base w (hideAll s.heap (led.map (·.1))) → Rm (A.deeper (envOfC qual scope L f cdv)) k → (∀ p ∈ led, @LT.lt Nat _ p.1 L) →
      wpAny (model PR w) (A.deeper (envOfC qual scope L f cdv)) (execs body (envOfC qual scope L f cdv))
        (fun fl s' => R (.ok (.ret (match fl with | .ret v => v | _ => .none))) s') (fun _ _ => False) { s with heap := h₁, toks := tk })
    (hco : scope.isCoroutine = false := by rfl) (hgen : scope.isGenerator = false := by rfl) (hk : scope.kind = .function := by rfl) : codeAny (model PR w) A (.call (.ref f) args) R s := by
  have B' := B.keeps kp
  obtain ⟨mg, mb, T⟩ := B'.T
  refine codeAny_call_function (fd := fnOf name qual params body scope dV kV doc pm an cdv ct) (body := body) Rr.room (B'.K _ _ ho) rfl hco hgen rfl (codeRec_of B'.K hcd) (hbind _ _ _ _ ?_)
  refine wpAny_newFunctionEnv_cells hk (hkind _) fun env' he s' x => ?_
  subst he
  refine ⟨T.nolimit.keeps x.toInCall.keep, codeAny_func ?_⟩
  obtain ⟨h₁, tk, rfl, _⟩ := x.done
  have hk₁ := x.toInCall.keep
  obtain ⟨cells, NC, Y⟩ := Cl.news (h₀ := s.heap) (Nat.le_refl _) fun n c hm => ⟨x.cell n c (lookup_of_mem_nodup (cellsFrom_names scope.names 0 (s.heap.objs.size + 1) [] [] rfl ▸ hnd) hm), x.above n c hm⟩
  refine wpAny_mono (h s.heap.objs.size h₁ tk cells ⟨x.toInCall.ns, fun b o e => hk₁ b o (of_hideAll _ e), Nat.le_of_eq (hideAll_size _ _)⟩ (fun p hp => ?_) Y (B.keeps (kp.hide ?_)) (Rr.deeper _) (fun p hp => Heap.lt_size (hled p hp).1)) (fun _ _ x => x) fun _ _ x => x.elim
  · rcases List.mem_append.mp hp with hp | hp
    · refine ⟨(NC p hp).1, (NC p hp).2.1, ?_⟩
      cases q : (hideAll s.heap (led.map (·.1))).get? p.1 with
      | none => rfl
      | some o => have := of_hideAll _ q; rw [(NC p hp).2.2] at this; cases this
    · exact ⟨hk₁ _ _ (hled p hp).1, Nat.ne_of_lt (Heap.lt_size (hled p hp).1), hideAll_none _ (List.mem_map_of_mem hp)⟩
  · intro a ha
    obtain ⟨p, hp, rfl⟩ := List.mem_map.mp ha
    exact (hled p hp).2

section
variable {M : Model} {A : Around} {E : Value → Shared → Prop} {s : Shared} {h₀ : Heap} {L c : Addr} {m : Str → Option Value} {news : List (Addr × Obj)} {env : Env} {x : Str} {pos : Pos} {v : Value} {o : Obj}
theorem nameC {Q : Value → Shared → Prop} (N : News h₀ L s.heap news) (hm : (c, o) ∈ news) (hd : o.data = .cell (some v)) (h : Q v s) (hc : env.cells.lookup x = some c := by rfl)
    (hk : env.scope.kind = .function := by rfl) (hl : env.kindOf x = some .cell := by rfl) (hb : (x == ("__debug__" : Str)) = false := by decide) :
    wpAny M A (eval (.Name x pos) env) Q E s := wpAny_Name (wpAny_loadName_cell hk hl hc ⟨o, (N _ hm).1, hd⟩ h) hb
theorem nameCB {Q : Value → Shared → Prop} (F : Fr h₀ L s.heap m) (X : h₀.IsCell c (some v)) (h : Q v s) (hc : env.cells.lookup x = some c := by rfl)
    (hk : env.scope.kind = .function := by rfl) (hl : env.kindOf x = some .cell := by rfl) (hb : (x == ("__debug__" : Str)) = false := by decide) :
    wpAny M A (eval (.Name x pos) env) Q E s := wpAny_Name (wpAny_loadName_cell hk hl hc (let ⟨o, ho, hd⟩ := X; ⟨o, F.keep _ _ ho, hd⟩) h) hb
theorem storeC {Q : Unit → Shared → Prop} {v₀ : Option Value} {rest : List (Addr × Obj)} (F : Fr h₀ L s.heap m) (N : News h₀ L s.heap news) (hm : (c, o) ∈ news) (hd : o.data = .cell v₀) (hr : ∀ p ∈ rest, p ∈ news ∧ p.1 ≠ c)
    (h : ∀ h' o', Fr h₀ L h' m → News h₀ L h' ((c, o') :: rest) → o'.data = .cell (some v) → Q () { s with heap := h' }) (hc : env.cells.lookup x = some c := by rfl)
    (hk : env.scope.kind = .function := by rfl) (hl : env.kindOf x = some .cell := by rfl) : wpAny M A (storeName env x v) Q E s := by
  have hmem := N (c, o) hm
  refine wpAny_storeName_cell hk hl hc ⟨o, hmem.1, hd⟩ fun h' hv hs => ?_
  obtain ⟨o', ho', hd'⟩ := hv
  have hk' : ∀ b o, b ≠ c → s.heap.get? b = some o → h'.get? b = some o := fun b o hb e => hs.extBut b o hb e
  refine h h' o' (frBut F hk' hmem.2.2 (Ne.symm hmem.2.1)) (fun p hp => ?_) hd'
  rcases List.mem_cons.mp hp with rfl | hp
  · exact ⟨ho', hmem.2⟩
  · exact ⟨hk' _ _ (hr p hp).2 (N p (hr p hp).1).1, (N p (hr p hp).1).2⟩
end

section
variable {prog : Program} {w : World} {A : Around} {E : Value → Shared → Prop}
inductive FE (h₀ : Heap) (L I : Addr) (oI : Obj) (s : Shared) (J : (Str → Option Value) → List (Addr × Obj) → Prop) (s' : Shared) : Prop
  | mk (h' : Heap) (tk' : Nat) (m' : Str → Option Value) (news' : List (Addr × Obj)) (e : s' = { s with heap := h', toks := tk' }) (F : Fr h₀ L h' m') (N : News h₀ L h' ((I, oI) :: news')) (n : ∀ p ∈ news', p.1 ≠ I) (j : J m' news') : FE h₀ L I oI s J s'

inductive FI (h₀ : Heap) (L I n : Nat) (s₂ : Shared) (St : Nat → Heap → Prop) (J : Nat → (Str → Option Value) → List (Addr × Obj) → Prop) (q : Nat) (s' : Shared) : Prop
  | mk (i : Nat) (m : Str → Option Value) (news : List (Addr × Obj)) (h : Heap) (tk : Nat) (oI : Obj) (hq : q = n - i) (hi : i ≤ n) (e : s' = { s₂ with heap := h, toks := tk }) (st : St i h) (j : J i m news) (hn : ∀ p ∈ news, p.1 ≠ I) (F : Fr h₀ L h m) (N : News h₀ L h ((I, oI) :: news)) : FI h₀ L I n s₂ St J q s'
inductive ForH (prog : Program) (w : World) (A : Around) (Q : Flow → Shared → Prop) (h₀ : Heap) (L : Addr) (it : Value) (s₂ : Shared)
    (T : (I : Addr) → (Nat → (Str → Option Value) → List (Addr × Obj) → Prop) → Nat → Value → (Str → Option Value) → List (Addr × Obj) → Heap → Nat → Obj → (Value → Shared → Prop) → Prop) : Prop
  | mk (I : Addr) (fp : List Addr) (n : Nat) (P : Nat → Value → Prop) (St : Nat → Heap → Prop) (m₀ : Str → Option Value) (news₀ : List (Addr × Obj)) (J : Nat → (Str → Option Value) → List (Addr × Obj) → Prop)
      (hit : it = .ref I) (W : Walks prog w A I fp [I] n P St) (hSt : ∀ i h, St i h → ∃ o, h.get? I = some o) (hst : St 0 s₂.heap) (F₀ : Fr h₀ L s₂.heap m₀) (N₀ : News h₀ L s₂.heap news₀) (hI0 : h₀.get? I = none) (hLI : L ≠ I) (hn₀ : ∀ p ∈ news₀, p.1 ≠ I)
      (hfp : ∀ b ∈ fp, b = I ∨ (∃ o, h₀.get? b = some o) ∨ ∃ o, ∀ i m news, J i m news → (b, o) ∈ news) (j0 : J 0 m₀ news₀)
      (turn : ∀ (i : Nat) (v : Value) (m : Str → Option Value) (news : List (Addr × Obj)) (h : Heap) (tk : Nat) (oI : Obj) (EE : Value → Shared → Prop), i < n → P i v → J i m news → (∀ p ∈ news, p.1 ≠ I) → T I J i v m news h tk oI EE)
      (done : ∀ (m : Str → Option Value) (news : List (Addr × Obj)) (h : Heap) (tk : Nat), J n m news → (∀ p ∈ news, p.1 ≠ I) → Fr h₀ L h m → News h₀ L h news → Q .next { s₂ with heap := h, toks := tk }) : ForH prog w A Q h₀ L it s₂ T

noncomputable def ForGH (prog : Program) (w : World) (A : Around) (env : Env) (x : Str) (px : Pos) (body : List Stmt) (Q : Flow → Shared → Prop) (h₀ : Heap) (L : Addr) (it : Value) (s₂ : Shared) : Prop :=
  ForH prog w A Q h₀ L it s₂ fun I J i v m news h tk oI EE => Fr h₀ L h m → News h₀ L h ((I, oI) :: news) →
        wpAny (model prog w) A (assign (.Name x px) env v) (fun _ s₃ => wpAny (model prog w) A (execs body env) (fun f s' => match f with
          | .next | .cont => FE h₀ L I oI s₂ (J (i + 1)) s'
          | .brk => Q .next s'
          | .ret v => Q (.ret v) s') EE s₃) EE { s₂ with heap := h, toks := tk }
noncomputable def ForWH (prog : Program) (w : World) (A : Around) (env : Env) (x : Str) (body : List Stmt) (Q : Flow → Shared → Prop) (h₀ : Heap) (L : Addr) (it : Value) (s₂ : Shared) : Prop :=
  ForH prog w A Q h₀ L it s₂ fun I J i v m news h tk oI EE => Fr h₀ L h (fun y => if y = x then some v else m y) → News h₀ L h ((I, oI) :: news) →
        wpAny (model prog w) A (execs body env) (fun f s' => match f with
          | .next | .cont => FE h₀ L I oI s₂ (J (i + 1)) s'
          | .brk => Q .next s'
          | .ret v => Q (.ret v) s') EE { s₂ with heap := h, toks := tk }
theorem normFG {env : Env} {x : Str} {px : Pos} {body : List Stmt} {Q : Flow → Shared → Prop} {h₀ : Heap} {L : Addr} {it : Value} {s : Shared} {h : Heap} {tk : Nat} (k : ForGH prog w A env x px body Q h₀ L it { s with heap := h, toks := tk }) : ForGH prog w A env x px body Q h₀ L it { s with heap := h, toks := tk } := k
theorem normFW {env : Env} {x : Str} {body : List Stmt} {Q : Flow → Shared → Prop} {h₀ : Heap} {L : Addr} {it : Value} {s : Shared} {h : Heap} {tk : Nat} (k : ForWH prog w A env x body Q h₀ L it { s with heap := h, toks := tk }) : ForWH prog w A env x body Q h₀ L it { s with heap := h, toks := tk } := k

theorem forWG {s : Shared} {h₀ : Heap} {L : Addr} {env : Env} {x : Str} {px pos : Pos} {iter : Expr} {body : List Stmt} {Q : Flow → Shared → Prop} (hL : env.locals = L)
    (h : wpAny (model prog w) A (eval iter env) (fun xv s₁ => wpAny (model prog w) A (pyIter xv) (fun it s₂ => ForGH prog w A env x px body Q h₀ L it s₂) E s₁) E s)
    (hs : ∀ x, foldedSetIterable iter env x = pure x := by intro _; rfl) :
    wpAny (model prog w) A (exec (.For (.Name x px) iter body [] pos) env) Q E s := by
  subst hL
  refine wpAny_For (wpAny_mono h (fun xv s₁ h₁ => wpAny_mono h₁ (fun it s₂ h₂ => ?_) fun _ _ e => e) fun _ _ e => e) hs
  obtain ⟨I, fp, n, P, St, m₀, news₀, J, rfl, W, hSt, hst, F₀, N₀, hI0, hLI, hn₀, hfp, j0, turn, done⟩ := h₂
  obtain ⟨oI₀, hoI₀⟩ := hSt _ _ hst
  have NI₀ : News h₀ env.locals s₂.heap ((I, oI₀) :: news₀) := fun p hp => by
    rcases List.mem_cons.mp hp with rfl | hp
    · exact ⟨hoI₀, hLI.symm, hI0⟩
    · exact N₀ p hp
  refine codeAny_forLoop
    (FI h₀ env.locals I n s₂ St J)
    ?_ n ⟨0, m₀, news₀, s₂.heap, s₂.toks, oI₀, rfl, Nat.zero_le _, rfl, hst, j0, hn₀, F₀, NI₀⟩
  rintro q s' ⟨i, m, news, h, tk, oI, rfl, hi, rfl, hst, hj, hn, F, N⟩
  by_cases hlt : i < n
  · refine W.item i _ _ _ hlt hst fun v h₁ tk₁ hPv hst₁ hk₁ => ?_
    have hk₁' : ∀ b o, b ≠ I → h.get? b = some o → h₁.get? b = some o := fun b o hb e => hk₁ b o (by simpa using hb) e
    obtain ⟨oI₁, hoI₁⟩ := hSt _ _ hst₁
    have F₁ := frBut F hk₁' hI0 hLI
    have N₁ : News h₀ env.locals h₁ ((I, oI₁) :: news) := fun p hp => by
      rcases List.mem_cons.mp hp with rfl | hp
      · exact ⟨hoI₁, hLI.symm, hI0⟩
      · exact ⟨hk₁' _ _ (hn p hp) (N p (.tail _ hp)).1, (N p (.tail _ hp)).2⟩
    have key : ∀ {hA hB : Heap} {nA nB : List (Addr × Obj)} {oA : Obj}, (∀ b o, h₀.get? b = some o → hA.get? b = some o) → (∀ b o, h₀.get? b = some o → hB.get? b = some o) → News h₀ env.locals hA ((I, oA) :: nA) → News h₀ env.locals hB ((I, oA) :: nB) →
        (∃ j m, J j m nA) → (∃ j m, J j m nB) → St (i + 1) hA → St (i + 1) hB := by
      intro hA hB nA nB oA FA FB NA NB jA jB hs
      refine W.frame _ _ _ hs fun b hb o e => ?_
      rcases hfp b hb with rfl | ⟨o', ho'⟩ | ⟨o', ho'⟩
      · have := (NA _ (.head _)).1; rw [e] at this; cases this; exact (NB _ (.head _)).1
      · have := FA _ _ ho'; rw [e] at this; cases this; exact FB _ _ ho'
      · obtain ⟨_, _, jA⟩ := jA
        obtain ⟨_, _, jB⟩ := jB
        have := (NA _ (.tail _ (ho' _ _ _ jA))).1; rw [e] at this; cases this; exact (NB _ (.tail _ (ho' _ _ _ jB))).1
    refine wpAny_mono (turn i v m news h₁ tk₁ oI₁ _ hlt hPv hj hn F₁ N₁) (fun _ s₃ h₃ => wpAny_mono h₃ (fun f s₃ h₃ => ?_) fun _ _ e => e) fun _ _ e => e
    cases f with
    | next =>
      obtain ⟨h', tk', m', news', rfl, F', N', hn', hj'⟩ := h₃
      exact ⟨n - (i + 1), Nat.sub_succ_lt_self _ _ hlt, i + 1, m', news', h', tk', oI₁, rfl, hlt, rfl, key F₁.keep F'.keep N₁ N' ⟨_, _, hj⟩ ⟨_, _, hj'⟩ hst₁, hj', hn', F', N'⟩
    | cont =>
      obtain ⟨h', tk', m', news', rfl, F', N', hn', hj'⟩ := h₃
      exact ⟨n - (i + 1), Nat.sub_succ_lt_self _ _ hlt, i + 1, m', news', h', tk', oI₁, rfl, hlt, rfl, key F₁.keep F'.keep N₁ N' ⟨_, _, hj⟩ ⟨_, _, hj'⟩ hst₁, hj', hn', F', N'⟩
    | brk => exact h₃
    | ret v => exact h₃
  · have hin : i = n := Nat.le_antisymm hi (Nat.not_lt.mp hlt)
    subst hin
    refine W.done _ _ _ hst fun h₁ tk₁ hk₁ => ?_
    have hk₁' : ∀ b o, b ≠ I → h.get? b = some o → h₁.get? b = some o := fun b o hb e => hk₁ b o (by simpa using hb) e
    exact wpAny_execs_nil (done m news h₁ tk₁ hj hn (frBut F hk₁' hI0 hLI) fun p hp => ⟨hk₁' _ _ (hn p hp) (N p (.tail _ hp)).1, (N p (.tail _ hp)).2⟩)
theorem forW {s : Shared} {h₀ : Heap} {L : Addr} {env : Env} {x : Str} {px pos : Pos} {iter : Expr} {body : List Stmt} {Q : Flow → Shared → Prop} (hL : env.locals = L) (hx : env.kindOf x = some .local)
    (hp : (env.scope.kind == .class || (env.scope.kind == .module && env.locals != env.globals)) = false)
    (h : wpAny (model prog w) A (eval iter env) (fun xv s₁ => wpAny (model prog w) A (pyIter xv) (fun it s₂ => ForWH prog w A env x body Q h₀ L it s₂) E s₁) E s)
    (hs : ∀ x, foldedSetIterable iter env x = pure x := by intro _; rfl) :
    wpAny (model prog w) A (exec (.For (.Name x px) iter body [] pos) env) Q E s := by
  refine forWG (h₀ := h₀) hL (wpAny_mono h (fun xv s₁ h₁ => wpAny_mono h₁ (fun it s₂ h₂ => ?_) fun _ _ e => e) fun _ _ e => e) hs
  obtain ⟨I, fp, n, P, St, m₀, news₀, J, e, W, hSt, hst, F₀, N₀, hI0, hLI, hn₀, hfp, j0, turn, done⟩ := h₂
  subst hL
  exact ⟨I, fp, n, P, St, m₀, news₀, J, e, W, hSt, hst, F₀, N₀, hI0, hLI, hn₀, hfp, j0, fun i v m news h tk oI EE hi hv hj hn F N =>
    wpAny_assign_Name (wpAny_storeName_local hx F.ns (fun h₂ hn₂ hs₂ => turn i v m news h₂ _ oI EE hi hv hj hn (F.set hn₂ hs₂) (N.set hs₂)) hp), done⟩
end
section
variable {w : World} {A : Around} {E : Value → Shared → Prop} {s : Shared} {h₀ : Heap} {L : Addr} {m : Str → Option Value} {news rest : List (Addr × Obj)} {dk ld : Addr} {od ol : Obj}
theorem drawN {k : Int} {tk : Tok} {Q : Value → Shared → Prop} (F : Fr h₀ L s.heap m) (N : News h₀ L s.heap news) (B : Base w h₀) (m1 : (dk, od) ∈ news) (m2 : (ld, ol) ∈ news) (hne : dk ≠ ld) (D : IsDeck w od ol ld)
    (hr : ∀ p ∈ rest, p ∈ news ∧ p.1 ≠ dk ∧ p.1 ≠ ld) (Rr : Rm A 1) (hk : 1 ≤ k) (hk2 : k ≤ 100)
    (h : ∀ i u od' ol' h' tk, 0 ≤ i → i < k → IsDeck w od' ol' ld → Fr h₀ L h' m → News h₀ L h' ((dk, od') :: (ld, ol') :: rest) → Q (.int i u) { s with heap := h', toks := tk }) :
    wpAny (model PR w) A (call (.ref 142) [.ref dk, .int k tk]) Q E s := by
  refine call_of (draw_spec B F.keep (N _ m1).1 (N _ m2).1 (N _ m1).2.2 (N _ m2).2.2 hne D Rr hk hk2) fun v h' tk hv => ?_
  obtain ⟨i, u, od', ol', rfl, h0, h1, D', e1, e2, kp⟩ := hv
  have hLd : L ≠ dk := (N _ m1).2.1.symm
  have hLl : L ≠ ld := (N _ m2).2.1.symm
  refine h i u od' ol' h' tk h0 h1 D' ⟨F.ns.at' fun o e => kp L o hLd hLl e, fun b o e => kp b o (fun q => by rw [q, (N _ m1).2.2] at e; cases e) (fun q => by rw [q, (N _ m2).2.2] at e; cases e) (F.keep b o e), F.above⟩ fun p hp => ?_
  rcases List.mem_cons.mp hp with rfl | hp
  · exact ⟨e1, (N _ m1).2⟩
  · rcases List.mem_cons.mp hp with rfl | hp
    · exact ⟨e2, (N _ m2).2⟩
    · exact ⟨kp _ _ (hr p hp).2.1 (hr p hp).2.2 (N p (hr p hp).1).1, (N p (hr p hp).1).2⟩
end

noncomputable def goodPart (x : By) : Prop := x = [97] ∨ x = [98, 97] ∨ x = [99]
theorem goodPart.free {x : By} (h : goodPart x) : 47 ∉ x := by rcases h with rfl | rfl | rfl <;> decide
theorem goodPart.ne {x : By} (h : goodPart x) : x ≠ [] := by rcases h with rfl | rfl | rfl <;> decide
theorem goodPart.len {x : By} (h : goodPart x) : x.length ≤ 2 := by rcases h with rfl | rfl | rfl <;> decide
structure SrcW (prog : Program) (w : World) (A : Around) (I : Addr) (fp : List Addr) (n : Nat) (P : Nat → Value → Prop) (St : Nat → Heap → Prop) : Prop where
  W : Walks prog w A I fp [I] n P St
  S : ∀ i h, St i h → ∃ o, h.get? I = some o

theorem smallR {k : Int} (h0 : 0 ≤ k) (h1 : k ≤ 1000) : Builtin.Range.small 0 k 1 = true := small_one (by decide) (by decide) (Int.le_trans (by decide) h0) (Int.lt_of_le_of_lt h1 (by decide))
theorem sizeR {k : Int} (h0 : 0 ≤ k) : Builtin.Range.rangeSize 0 k 1 = ((k.toNat : Nat) : Int) := by
  rw [rangeSize_one, Int.sub_zero, Int.toNat_of_nonneg h0]
  split
  · rfl
  · exact Int.le_antisymm h0 (Int.not_lt.mp (by assumption))
theorem toNat6 {i : Int} (h0 : 0 ≤ i) (h : i < 6) : (1 + i).toNat ≤ 6 ∧ 0 ≤ 1 + i ∧ 1 + i ≤ 1000 :=
  have h5 : 1 + i ≤ 6 := Int.add_le_add_left (Int.le_of_lt_add_one (show i < 5 + 1 from h)) 1
  ⟨Int.toNat_le.mpr h5, Int.add_nonneg (by decide) h0, Int.le_trans h5 (by decide)⟩
theorem toNat3 {i : Int} (h : i < 3) : i.toNat ≤ 2 ∧ i ≤ 1000 :=
  have h2 : i ≤ 2 := Int.le_of_lt_add_one (show i < 2 + 1 from h)
  ⟨Int.toNat_le.mpr h2, Int.le_trans h2 (by decide)⟩
section
variable {prog : Program} {w : World} {A : Around} {E : Value → Shared → Prop} {s : Shared} {Q : Value → Shared → Prop}
theorem iterList {a : Addr} {vs : List Value} (hh : A.handled = none) (hl : s.heap.IsList a vs.toArray)
    (h : ∀ I h' St, SrcW prog w A I [I, a] vs.length (fun i v => vs[i]? = some v) St → St 0 h' → Keeps s.heap h' → I = s.heap.objs.size → (∃ o, h' = s.heap.push o) → Q (.ref I) { s with heap := h' }) :
    wpAny (model prog w) A (pyIter (.ref a)) Q E s := by
  refine wpAny_pyIter_list hl ?_
  have W := Walks.list (prog := prog) (w := w) hh s.heap.objs.size a (let ⟨_, ho, _⟩ := hl; Nat.ne_of_lt (Heap.lt_size ho)) vs.toArray
  simp only [List.size_toArray, List.getElem?_toArray] at W
  refine h _ _ _ ⟨W, fun i h st => let ⟨o, ho, _⟩ := st.1; ⟨o, ho⟩⟩ ?_ (fun b o e => Heap.get?_push_of_some _ e) rfl ⟨_, rfl⟩
  exact ⟨⟨_, Heap.get?_push_size _ rfl, rfl, rfl⟩, hl.push _⟩
theorem iterTuple {a : Addr} {vs : List Value} (hh : A.handled = none) (hl : s.heap.IsTuple a vs.toArray)
    (h : ∀ I h' St, SrcW prog w A I [I, a] vs.length (fun i v => vs[i]? = some v) St → St 0 h' → Keeps s.heap h' → I = s.heap.objs.size → (∃ o, h' = s.heap.push o) → Q (.ref I) { s with heap := h' }) :
    wpAny (model prog w) A (pyIter (.ref a)) Q E s := by
  refine wpAny_pyIter_tuple hl ?_
  have W := Walks.tuple (prog := prog) (w := w) hh s.heap.objs.size a (let ⟨_, ho, _⟩ := hl; Nat.ne_of_lt (Heap.lt_size ho)) vs.toArray
  simp only [List.size_toArray, List.getElem?_toArray] at W
  refine h _ _ _ ⟨W, fun i h st => let ⟨o, ho, _⟩ := st.1; ⟨o, ho⟩⟩ ?_ (fun b o e => Heap.get?_push_of_some _ e) rfl ⟨_, rfl⟩
  exact ⟨⟨_, Heap.get?_push_size _ rfl, rfl, rfl⟩, hl.at fun o e => Heap.get?_push_of_some _ e⟩
theorem iterRange {r : Addr} {a b c : Int} {t u v : Tok} {n : Nat} (hh : A.handled = none) (hr : IsRange s.heap r a b c t u v) (hsm : Builtin.Range.small a b c = true) (hn : Builtin.Range.rangeSize a b c = (n : Int))
    (h : ∀ I h' St, SrcW prog w A I [I] n (fun i v => ∃ t, v = .int (a + i * c) t) St → St 0 h' → Keeps s.heap h' → I = s.heap.objs.size → (∃ o, h' = s.heap.push o) → Q (.ref I) { s with heap := h' }) :
    wpAny (model prog w) A (pyIter (.ref r)) Q E s := by
  refine wpAny_pyIter_range hr hsm ?_
  refine h _ _ _ ⟨Walks.range hh _ a c n, fun i h st => ⟨_, st⟩⟩ ?_ (fun b o e => Heap.get?_push_of_some _ e) rfl ⟨_, rfl⟩
  show IsRangeIter _ _ _ _ _
  rw [hn]; simpa using Heap.get?_push_size _ rfl
theorem iterDict {K : Type} [DecidableEq K] {knd : KeyKind prog w K} {d : Addr} {kvs : List (K × Value)} (hh : A.handled = none) (hs : (d == sysModules) = false) (hd : s.heap.DictOf knd d kvs)
    (h : ∀ I h' St, SrcW prog w A I [I, d] kvs.length (fun i v => ∃ k x, kvs[i]? = some (k, x) ∧ knd.is k v = true) St → St 0 h' → Keeps s.heap h' → I = s.heap.objs.size → (∃ o, h' = s.heap.push o) → Q (.ref I) { s with heap := h' }) :
    wpAny (model prog w) A (pyIter (.ref d)) Q E s := by
  obtain ⟨ep, hm⟩ := hd.dictAt
  refine wpAny_pyIter_dict hs hm ?_
  refine h _ _ _ ⟨Walks.dictKeys hh s.heap.objs.size d (Nat.ne_of_lt hm.lt_size) kvs ep, fun i h st => let ⟨o, ho, _⟩ := st.1; ⟨o, ho⟩⟩ ?_ (fun b o e => Heap.get?_push_of_some _ e) rfl ⟨_, rfl⟩
  exact ⟨⟨_, Heap.get?_push_size _ rfl, rfl, rfl⟩, hm.push _⟩
section
variable {h₀ : Heap} {L : Addr} {m : Str → Option Value} {news : List (Addr × Obj)}
theorem range1N {n : Int} {t : Tok} (F : Fr h₀ L s.heap m) (N : News h₀ L s.heap news)
    (h : ∀ D h' tk t0 t1, Fr h₀ L h' m → News h₀ L h' ((D, { cls := .type "range", data := .fields #[.int 0 t0, .int n t, .int 1 t1] }) :: news) → (∀ p ∈ news, p.1 ≠ D) → Q (.ref D) { s with heap := h', toks := tk }) :
    wpAny (model prog w) A (call (.type "range") [.int n t]) Q E s :=
  call_range_1 (h _ _ _ _ _ (F.push _) (N.push F _) fun p hp => Nat.ne_of_lt (Heap.lt_size (N p hp).1))
end
end

inductive Pick2 (a b : Addr) : List (Addr × Obj) → List (Addr × Obj) → Prop
  | nil : Pick2 a b [] []
  | dropA {o l r} : Pick2 a b l r → Pick2 a b ((a, o) :: l) r
  | dropB {o l r} : Pick2 a b l r → Pick2 a b ((b, o) :: l) r
  | keep {c o l r} : c ≠ a → c ≠ b → Pick2 a b l r → Pick2 a b ((c, o) :: l) ((c, o) :: r)
theorem Pick2.ok {a b : Addr} {l r : List (Addr × Obj)} (x : Pick2 a b l r) : ∀ p ∈ r, p ∈ l ∧ p.1 ≠ a ∧ p.1 ≠ b := by
  induction x with
  | nil => intro p hp; cases hp
  | dropA _ ih => exact fun p hp => ⟨.tail _ (ih p hp).1, (ih p hp).2⟩
  | dropB _ ih => exact fun p hp => ⟨.tail _ (ih p hp).1, (ih p hp).2⟩
  | keep h1 h2 _ ih =>
    intro p hp
    rcases List.mem_cons.mp hp with rfl | hp
    · exact ⟨.head _, h1, h2⟩
    · exact ⟨.tail _ (ih p hp).1, (ih p hp).2⟩
inductive Pick1 (a : Addr) : List (Addr × Obj) → List (Addr × Obj) → Prop
  | nil : Pick1 a [] []
  | drop {o l r} : Pick1 a l r → Pick1 a ((a, o) :: l) r
  | all {l} : (∀ p ∈ l, p.1 ≠ a) → Pick1 a l l
  | keep {c o l r} : c ≠ a → Pick1 a l r → Pick1 a ((c, o) :: l) ((c, o) :: r)
theorem Pick1.ok {a : Addr} {l r : List (Addr × Obj)} (x : Pick1 a l r) : ∀ p ∈ r, p ∈ l ∧ p.1 ≠ a := by
  induction x with
  | nil => intro p hp; cases hp
  | drop _ ih => exact fun p hp => ⟨.tail _ (ih p hp).1, (ih p hp).2⟩
  | all h => exact fun p hp => ⟨hp, h p hp⟩
  | keep h1 _ ih =>
    intro p hp
    rcases List.mem_cons.mp hp with rfl | hp
    · exact ⟨.head _, h1⟩
    · exact ⟨.tail _ (ih p hp).1, (ih p hp).2⟩
theorem neOf {l : List (Addr × Obj)} {a D : Addr} {o : Obj} (h : ∀ p ∈ l, p.1 ≠ D) (m : (a, o) ∈ l) : a ≠ D := h _ m

section
variable {prog : Program} {w : World} {A : Around} {E : Value → Shared → Prop} {s : Shared} {value slice : PySem.Expr} {l : Addr} {u : Tok} {i : Int} {ops : List Value} {Q : Value → Shared → Prop}
theorem item5 {a b c d e : Tok} (hl : s.heap.IsList l #[.int 1 a, .int 2 b, .int 3 c, .int 3 d, .int 4 e]) (h0 : 0 ≤ i) (h5 : i < 5)
    (h : ∀ (n : Nat) t, 1 ≤ n → n ≤ 4 → Q (.int n t) s) (hs : subscripted slice false (.ref l) (.int i u) = operate ops (getItem (.ref l) (.int i u))) :
    wpAny (model prog w) A (subscriptTail value slice (.ref l) (.int i u)) Q E s := by
  obtain ⟨k, rfl⟩ := Int.eq_ofNat_of_zero_le h0
  obtain ⟨n, t, hx, h1, h4⟩ : ∃ (n : Nat) (t : Tok), ([.int 1 a, .int 2 b, .int 3 c, .int 3 d, .int 4 e] : List Value)[k]? = some (.int n t) ∧ 1 ≤ n ∧ n ≤ 4 := by
    have : k < 5 := by (first | lia | omega)
    match k, this with
    | 0, _ => exact ⟨1, a, rfl, by decide, by decide⟩
    | 1, _ => exact ⟨2, b, rfl, by decide, by decide⟩
    | 2, _ => exact ⟨3, c, rfl, by decide, by decide⟩
    | 3, _ => exact ⟨3, d, rfl, by decide, by decide⟩
    | 4, _ => exact ⟨4, e, rfl, by decide, by decide⟩
  exact itemL (vs := [.int 1 a, .int 2 b, .int 3 c, .int 3 d, .int 4 e]) hl h0 (by (first | lia | omega)) hx (h n t h1 h4) hs
theorem item3 {a b c : Tok} (hl : s.heap.IsList l #[.bytes (List.toArray [97]) a, .bytes (List.toArray [98, 97]) b, .bytes (List.toArray [99]) c]) (h0 : 0 ≤ i) (h5 : i < 3)
    (h : ∀ (x : By) t, goodPart x → Q (.bytes x.toArray t) s) (hs : subscripted slice false (.ref l) (.int i u) = operate ops (getItem (.ref l) (.int i u))) :
    wpAny (model prog w) A (subscriptTail value slice (.ref l) (.int i u)) Q E s := by
  obtain ⟨k, rfl⟩ := Int.eq_ofNat_of_zero_le h0
  obtain ⟨n, t, hx, h1⟩ : ∃ (n : By) (t : Tok), ([.bytes (List.toArray [97]) a, .bytes (List.toArray [98, 97]) b, .bytes (List.toArray [99]) c] : List Value)[k]? = some (.bytes n.toArray t) ∧ goodPart n := by
    have : k < 3 := by (first | lia | omega)
    match k, this with
    | 0, _ => exact ⟨_, a, rfl, .inl rfl⟩
    | 1, _ => exact ⟨_, b, rfl, .inr (.inl rfl)⟩
    | 2, _ => exact ⟨_, c, rfl, .inr (.inr rfl)⟩
  exact itemL (vs := [.bytes (List.toArray [97]) a, .bytes (List.toArray [98, 97]) b, .bytes (List.toArray [99]) c]) hl h0 (by (first | lia | omega)) hx (h n t h1) hs
end

theorem noIfs {M : Model} {A : Around} {E : Value → Shared → Prop} {s : Shared} {f : Expr → Bool → Sem (ForInStep Bool)} {Q : Bool → Shared → Prop} (h : Q true s) : wpAny M A (forIn ([] : List Expr) true f) Q E s := wpAny_pure h
theorem joinP_len {k : Nat} : ∀ {ps : List By}, (∀ x ∈ ps, x.length ≤ k) → (joinP ps).length ≤ ps.length * (k + 1)
  | [], _ => by simp [joinP]
  | [x], h => by have := h x (by simp); simp [joinP]; (first | lia | omega)
  | x :: y :: r, h => by
    have h1 := h x (by simp)
    have h2 := joinP_len (k := k) (ps := y :: r) fun z hz => h z (.tail _ hz)
    rw [joinP, List.length_append, List.length_cons, List.length_cons, Nat.succ_mul]; (first | lia | omega)
theorem Base.hide {w : World} {h₀ h : Heap} {L : Addr} {m : Str → Option Value} {as : List Addr} (B : Base w h₀) (F : Fr h₀ L h m) (ha : ∀ a ∈ as, h₀.get? a = none) : Base w (hideAll h as) := B.keeps (Keeps.hide F.keep ha)
theorem frFresh {h₀ h : Heap} {L a : Addr} {m : Str → Option Value} (F : Fr h₀ L h m) (e : a = h.objs.size) : h₀.get? a = none := by
  subst e
  cases e : h₀.get? h.objs.size with
  | none => rfl
  | some o => exact absurd (Heap.lt_size (F.keep _ _ e)) (Nat.lt_irrefl _)
theorem listAt {h : Heap} {D : Addr} {vs : List Value} {k : Nat} (e : h.get? D = some (listOf vs.toArray k)) : h.IsList D vs.toArray := ⟨_, e, rfl, k, rfl⟩
inductive PathBack (w : World) (s : Shared) (dk ld : Addr) (v : Value) (h' : Heap) : Prop
  | mk (ps : List By) (u : Tok) (od' ol' : Obj) (e : v = .bytes (joinP ps).toArray u) (hn : ps ≠ []) (h4 : ps.length ≤ 4) (hg : ∀ x ∈ ps, goodPart x) (D : IsDeck w od' ol' ld) (gd : h'.get? dk = some od') (gl : h'.get? ld = some ol') (kp : ∀ b o, b ≠ dk → b ≠ ld → s.heap.get? b = some o → h'.get? b = some o) : PathBack w s dk ld v h'
inductive JP (w : World) (dk ld : Addr) (i : Nat) (vs : List Value) (led' : List (Addr × Obj)) : Prop
  | mk (ps : List By) (od' ol' : Obj) (hb : BysAre vs ps) (hl : ps.length = i) (hg : ∀ x ∈ ps, goodPart x) (e : led' = [(dk, od'), (ld, ol')]) (D : IsDeck w od' ol' ld) : JP w dk ld i vs led'
theorem path_spec {w : World} {A : Around} {s : Shared} {h₀ : Heap} {dk ld : Addr} {od ol : Obj} (B : Base w h₀) (kp : Keeps h₀ s.heap) (hdk : s.heap.get? dk = some od) (hld : s.heap.get? ld = some ol)
    (fdk : h₀.get? dk = none) (fld : h₀.get? ld = none) (hne : dk ≠ ld) (D : IsDeck w od ol ld) (Rr : Rm A 2) :
    codeAny (model PR w) A (.call (.ref 147) ⟨[.ref dk], []⟩) (Back s (PathBack w s dk ld)) s := by
  refine' enterC (led := [(dk, od), (ld, ol)]) (binds := [(Str.ofString "deck", .ref dk)]) B kp ?hled Rr ?ho ?hcd ?hb ?hki ?hnd ?_ ?c1 ?c2 ?c3
  case hled => exact allCons (⟨hdk, fdk⟩) (allCons (⟨hld, fld⟩) allNil)
  case ho => k_is
  case hcd => k_is
  case hb => exact BindsTo.of_eq rfl
  case hki => exact kindsX rfl
  case hnd => decide +kernel
  case c1 => exact rfl
  case c2 => exact rfl
  case c3 => exact rfl
  intro L h₁ tk cells F N Y B' R' hlt
  try k_extra "nt"
  obtain ⟨oc, rfl, hoc⟩ := CellsAre.one Y
  clear B Y
  simp only [List.map_cons, List.map_nil, List.cons_append, List.nil_append] at F N B'
  replace hoc : oc.data = .cell (some (.ref dk)) := hoc
  replace F : Fr (hideAll s.heap [dk, ld]) L h₁ (fun _ => none) := F
  have hd1 : dk ≠ L := Nat.ne_of_lt (hlt _ (.head _))
  have hd2 : ld ≠ L := Nat.ne_of_lt (hlt _ (.tail _ (.head _)))
  have hc1 : dk ≠ L + 1 := Nat.ne_of_lt (Nat.lt_succ_of_lt (hlt _ (.head _)))
  have hc2 : ld ≠ L + 1 := Nat.ne_of_lt (Nat.lt_succ_of_lt (hlt _ (.tail _ (.head _))))
  repeat k_extra "m"
  rename_i D1 h1 F1 N1 hD1 i u od1 ol1 h2 tk2 hi0 hi1 D2 F2 N2
  refine item5 (News.isList N2 (by k_extra "mem")) hi0 hi1 (fun n tn hn1 hn4 => ?_) (by with_unfolding_all rfl)
  repeat k_extra "m"
  rename_i h3 F3 N3
  refine' listCompW (cl := [(Str.ofString "deck", L + 1)]) ?g1 ?g2 ?g3 ?g4 ?g5 ?_ ?g6
  case g1 => exact rfl
  case g2 => decide
  case g3 => exact rfl
  case g4 => decide
  case g5 => exact rfl
  case g6 => intro _; exact rfl
  clear F1 N1 F2 N2
  repeat k_extra "m"
  rename_i D4 h4 tk4 t0 t1 F4 N4 hD4
  try k_extra "nt"
  refine iterRange (n := n) R'.hh (N4 _ (.head _)).1 (smallR (Int.natCast_nonneg n) (Int.ofNat_le.mpr (Nat.le_trans hn4 (by decide)))) (sizeR (Int.natCast_nonneg n)) fun I h5 St W st K5 hI _ => ?_
  try k_extra "nt"
  have F5 := frK F4 K5
  have N5 := newsK N4 K5
  have I0 := frFresh F4 hI
  have neI : ∀ a o, h4.get? a = some o → a ≠ I := fun a o e => by rw [hI]; exact Nat.ne_of_lt (Heap.lt_size e)
  have B6 : Base w (hideAll h5 (I :: [(dk, od1), (ld, ol1)].map (·.1))) := B'.hide F5 (by
    refine allCons ?_ (allCons ?_ (allCons ?_ allNil))
    · exact I0
    · exact (N5 _ (.tail _ (.head _))).2.2
    · exact (N5 _ (.tail _ (.tail _ (.head _)))).2.2)
  refine ⟨I, [I], n, _, St, [(dk, od1), (ld, ol1)], JP w dk ld, rfl, W.W, Nat.le_trans hn4 (by decide), W.S, st, ?_, ?_, ⟨[], od1, ol1, .nil, rfl, by simp, rfl, D2⟩, ?_, ?_⟩
  · refine allCons ?_ (allCons ?_ allNil)
    · exact ⟨(N5 _ (.tail _ (.head _))).1, neI _ _ (N4 _ (.tail _ (.head _))).1⟩
    · exact ⟨(N5 _ (.tail _ (.tail _ (.head _)))).1, neI _ _ (N4 _ (.tail _ (.tail _ (.head _)))).1⟩
  · intro b hb; exact .inl (List.mem_singleton.mp hb)
    try k_extra "nt"
  · intro C D i v vs led' h tk m oI k EE hC hD hi hv hj hlen hl F N
    try k_extra "nt"
    obtain ⟨ps, od', ol', hps, hln, hgood, rfl, D'⟩ := hj
    refine noIfs ?_
    refine ifTrue rfl ?_
    have X : (hideAll h5 (I :: [(dk, od1), (ld, ol1)].map (·.1))).IsCell (L + 1) (some (.ref dk)) := by
      refine ⟨oc, hideAll_get _ (N5 _ (.tail _ (.tail _ (.tail _ (.tail _ (.head _)))))).1 ?_, hoc⟩
      exact notCons (neI _ _ (N4 _ (.tail _ (.tail _ (.tail _ (.tail _ (.head _)))))).1) (notCons hc1.symm (notCons hc2.symm notNil))
    have hlI : ∀ p ∈ [(dk, od'), (ld, ol')], p.1 ≠ I := fun p hp => (hl p hp).1
    have hlD : ∀ p ∈ [(dk, od'), (ld, ol')], p.1 ≠ D := fun p hp => (hl p hp).2
    clear hl F5 N5 F4 N4 B' D2 hD4
    clear hC hD
    repeat k_extra "m"
    rename_i D6 h6 F6 N6 hD6 k u2 od2 ol2 h7 tk7 hk0 hk1 D7 F7 N7
    refine item3 (News.isList N7 (by k_extra "mem")) hk0 hk1 (fun x tx hx => ?_) (by with_unfolding_all rfl)
    refine ⟨h7, _, _, [(dk, od2), (ld, ol2)], rfl, F7, newsSub N7 ?_, ?_, ps ++ [x], od2, ol2, hps.append (.cons .nil), ?_, ?_, rfl, D7⟩
    · refine allCons ?_ (allCons ?_ (allCons ?_ (allCons ?_ allNil))) <;> k_extra "in"
    · refine allCons ?_ (allCons ?_ allNil)
      · exact ⟨hlI (dk, od') (.head _), hlD (dk, od') (.head _)⟩
      · exact ⟨hlI (ld, ol') (.tail _ (.head _)), hlD (ld, ol') (.tail _ (.head _))⟩
    · simp [hln]
    · intro y hy
      rcases List.mem_append.mp hy with hy | hy
      · exact hgood y hy
      · simp only [List.mem_singleton] at hy; subst hy; exact hx
  · intro D vs led' h tk k hj K hl hDo hDs
    try k_extra "nt"
    obtain ⟨ps, od', ol', hps, hln, hgood, rfl, D'⟩ := hj
    replace hDs : h5.objs.size ≤ D := hDs
    clear hD4
    have hz : (joinP ps).length ≤ 1000 := by
      have := joinP_len (k := 2) (ps := ps) fun x hx => (hgood x hx).len
      rw [hln] at this; omega
    have F8 := frHide F5 K (by
      refine allCons ?_ (allCons ?_ (allCons ?_ allNil))
      · exact I0
      · exact (N5 _ (.tail _ (.head _))).2.2
      · exact (N5 _ (.tail _ (.tail _ (.head _)))).2.2) (by
      refine notCons ?_ (notCons hd1.symm (notCons hd2.symm notNil))
      obtain ⟨o, _, _, ho, _⟩ := F4.ns
      exact neI _ _ ho)
    have hDL := listAt hDo
    have hz' : (joinP ps).length ≤ 1000000 := Nat.le_trans hz (by decide)
    repeat k_extra "m"
    refine ⟨_, _, _, rfl, rfl, ps, _, od', ol', rfl, ?_, ?_, hgood, D', (hl (dk, od') (.head _)).1, (hl (ld, ol') (.tail _ (.head _))).1, fun b o h1 h2 e => F8.keep b o (hideAll_get _ e (by simp [h1, h2]))⟩
    · intro e; rw [e] at hln; simp only [List.length_nil] at hln; exact absurd hln (Nat.ne_of_lt hn1)
      try k_extra "nt"
    · exact Nat.le_trans (Nat.le_of_eq hln) hn4

structure IsChg (es : List DictEntry) (vw vo vn vs : Value) : Prop where
  word : getL "word" es = some (some vw)
  old : getL "old_path" es = some (some vo)
  new : getL "new_path" es = some (some vn)
  score : getL "score" es = some (some vs)

theorem Rm.under {A : Around} {k : Nat} {C : Addr} {vals : List Value} (R : Rm A (k + 1)) : Rm (A.under (.builtin "type.__call__" ⟨.ref C :: vals, []⟩)) k :=
  ⟨R.hh, by have := R.hd; show A.depth + 1 + k < 900; (first | lia | omega), by have := R.hu; show A.units + 1 + 4 * k < 5000; (first | lia | omega)⟩


theorem init_spec {w : World} {A : Around} {s : Shared} {h₀ : Heap} {x dx : Addr} {R : Result → Shared → Prop} {a1 a2 a3 a4 a5 a6 a7 a8 : Value} (B : Base w h₀) (kp : Keeps h₀ s.heap) (hx : s.heap.get? x = some (instObj 112 dx)) (hdx : s.heap.get? dx = some (dictOf [] 0))
    (fx : h₀.get? x = none) (fdx : h₀.get? dx = none) (hne : x ≠ dx) (Rr : Rm A 1) (args : Args) (ha : args = ⟨[.ref x, a1, a2, a3, a4, a5, a6, a7, a8], []⟩ ∨ (args = ⟨[.ref x, a1, a2, a3, a4, a5, a6, a7], []⟩ ∧ a8 = .none))
    (h : ∀ es n h' tk, IsChg es a1 a4 a7 a8 → Keeps (hideAll s.heap [x, dx]) h' → h'.get? x = some (instObj 112 dx) → h'.get? dx = some (dictOf es n) → R (.ok (.ret .none)) { s with heap := h', toks := tk }) :
    codeAny (model PR w) A (.call (.ref 57) args) R s := by
  refine' enterH (led := [(x, instObj 112 dx), (dx, dictOf [] 0)]) B kp ?hled (binds := [(Str.ofString "self", .ref x), (Str.ofString "word", a1), (Str.ofString "old_mode", a2), (Str.ofString "old_id", a3), (Str.ofString "old_path", a4), (Str.ofString "new_mode", a5), (Str.ofString "new_id", a6), (Str.ofString "new_path", a7), (Str.ofString "score", a8)]) Rr ?ho ?hcd ?hb ?hl ?_ ?c1 ?c2 ?c3 ?c4
  case hled => exact allCons (⟨hx, fx⟩) (allCons (⟨hdx, fdx⟩) allNil)
  case ho => k_is
  case hcd => k_is
  case hb =>
    rcases ha with rfl | ⟨rfl, rfl⟩
    · exact binds_K (B.keeps kp).K rfl (by k_is) rfl rfl rfl
    · exact binds_K (B.keeps kp).K rfl (by k_is) rfl rfl rfl
  case hl => exact locs rfl
  case c1 => exact rfl
  case c2 => exact rfl
  case c3 => exact rfl
  case c4 => decide
  intro h₁ F N B' R'
  clear B
  simp only [List.map_cons, List.map_nil] at F N B'
  repeat (first | k_extra "m" | k_extra "fld")
  rename_i h2 F2 N2
  refine h _ _ h2 _ ⟨?_, ?_, ?_, ?_⟩ F2.keep (N2 _ (.head _)).1 (N2 _ (.tail _ (.head _))).1
  · k_get
  · k_get
  · k_get
  · k_get

section
variable {w : World} {A : Around} {E : Value → Shared → Prop} {s : Shared} {h₀ : Heap} {L : Addr} {m : Str → Option Value} {news : List (Addr × Obj)}
theorem makeN {a1 a2 a3 a4 a5 a6 a7 a8 : Value} {vals : List Value} {Q : Value → Shared → Prop} (F : Fr h₀ L s.heap m) (N : News h₀ L s.heap news) (B : Base w h₀) (Rr : Rm A 2)
    (ha : vals = [a1, a2, a3, a4, a5, a6, a7, a8] ∨ (vals = [a1, a2, a3, a4, a5, a6, a7] ∧ a8 = .none))
    (h : ∀ x dx es n h' tk, IsChg es a1 a4 a7 a8 → Fr h₀ L h' m → News h₀ L h' ((x, instObj 112 dx) :: (dx, dictOf es n) :: news) → (∀ p ∈ news, p.1 ≠ x) → (∀ p ∈ news, p.1 ≠ dx) → dx ≠ x → Q (.ref x) { s with heap := h', toks := tk }) :
    wpAny (model PR w) A (call (.ref 112) vals) Q E s := by
  refine' call_cls F B.K N ?hm ?hi ?hf ?_
  case hm => k_is
  case hi => k_is
  case hf => k_is
  intro x dx h1 F1 N1 hdx hxd
  have n1 : ∀ p ∈ news, p.1 ≠ dx := fun p hp => Nat.ne_of_lt (hdx p hp)
  have n2 : ∀ p ∈ news, p.1 ≠ x := fun p hp => Nat.ne_of_lt (Nat.lt_trans (hdx p hp) hxd)
  have n3 : dx ≠ x := Nat.ne_of_lt hxd
  have fx := (N1 _ (.head _)).2
  have fdx := (N1 _ (.tail _ (.head _))).2
  refine init_spec (s := { s with heap := h1 }) B F1.keep (N1 _ (.head _)).1 (N1 _ (.tail _ (.head _))).1 fx.2 fdx.2 n3.symm Rr.under _ (by rcases ha with rfl | ⟨rfl, rfl⟩; exact .inl rfl; exact .inr ⟨rfl, rfl⟩) fun es n h2 tk C K ex edx => ?_
  try k_extra "nt"
  refine ⟨rfl, h x dx es n h2 tk C (frHide F1 K ?_ ?_) ?_ n2 n1 n3⟩
  · refine allCons ?_ (allCons ?_ allNil)
    · exact fx.2
    · exact fdx.2
  · simp only [List.mem_cons, List.not_mem_nil, or_false, not_or]
    exact ⟨fx.1.symm, fdx.1.symm⟩
  · intro p hp
    rcases List.mem_cons.mp hp with rfl | hp
    · exact ⟨ex, fx⟩
    · rcases List.mem_cons.mp hp with rfl | hp
      · exact ⟨edx, fdx⟩
      · have := N1 p (.tail _ (.tail _ hp))
        exact ⟨K _ _ (hideAll_get _ this.1 (by simp only [List.mem_cons, List.not_mem_nil, or_false, not_or]; exact ⟨n2 p hp, n1 p hp⟩)), this.2⟩
end
section
variable {prog : Program} {w : World} {A : Around} {E : Value → Shared → Prop} {s : Shared} {h₀ : Heap} {L t : Addr} {m : Str → Option Value} {news : List (Addr × Obj)} {env : Env} {x y z : Str} {v1 v2 v3 : Value}
theorem unpackN {vs : List Value} {Q : List Value → Shared → Prop} (F : Fr h₀ L s.heap m) (N : News h₀ L s.heap ((t, tupOf vs) :: news)) (hh : A.handled = none)
    (h : ∀ h', Fr h₀ L h' m → News h₀ L h' news → Q vs { s with heap := h' }) : wpAny (model prog w) A (unpackItems (.ref t) vs.length none) Q E s := by
  have ht : IsTup s.heap t vs.toArray := ⟨_, (N _ (.head _)).1, rfl, 0, rfl⟩
  have := unpackItems_tuple (prog := prog) (w := w) (A := A) (E := E) (Q := Q) hh ht fun h' he => h h' (F.extBut he (Nat.le_refl _)) fun p hp => ⟨he _ _ (Nat.ne_of_lt (Heap.lt_size (N p (.tail _ hp)).1)) (N p (.tail _ hp)).1, (N p (.tail _ hp)).2⟩
  simpa using this
theorem swap2 {Q : Unit → Shared → Prop} (F : Fr h₀ L s.heap m) (N : News h₀ L s.heap ((t, tupOf [v1, v2]) :: news)) (hh : A.handled = none)
    (h : ∀ h', Fr h₀ L h' m → News h₀ L h' news → wpAny (model prog w) A (storeName env y v2) (fun _ s₁ => wpAny (model prog w) A (storeName env x v1) Q E s₁) E { s with heap := h' }) :
    wpAny (model prog w) A (unpackItems (.ref t) [x, y].length none) (fun items s₂ => wpAny (model prog w) A (assignInOrder ([x, y].reverse.map fun n => bindName env n) items.reverse) Q E s₂) E s := by
  refine unpackN (vs := [v1, v2]) F N hh fun h' F' N' => ?_
  refine assignInOrder_cons (bindName_ (wpAny_mono (h h' F' N') (fun _ s₁ h₁ => assignInOrder_cons (bindName_ (wpAny_mono h₁ (fun _ _ q => assignInOrder_nil q) fun _ _ e => e))) fun _ _ e => e))
theorem swap3 {Q : Unit → Shared → Prop} (F : Fr h₀ L s.heap m) (N : News h₀ L s.heap ((t, tupOf [v1, v2, v3]) :: news)) (hh : A.handled = none)
    (h : ∀ h', Fr h₀ L h' m → News h₀ L h' news → wpAny (model prog w) A (storeName env z v3) (fun _ s₁ => wpAny (model prog w) A (storeName env y v2) (fun _ s₂ => wpAny (model prog w) A (storeName env x v1) Q E s₂) E s₁) E { s with heap := h' }) :
    wpAny (model prog w) A (unpackItems (.ref t) [x, y, z].length none) (fun items s₂ => wpAny (model prog w) A (assignInOrder ([x, y, z].reverse.map fun n => bindName env n) items.reverse) Q E s₂) E s := by
  refine unpackN (vs := [v1, v2, v3]) F N hh fun h' F' N' => ?_
  refine assignInOrder_cons (bindName_ (wpAny_mono (h h' F' N') (fun _ s₁ h₁ => assignInOrder_cons (bindName_ (wpAny_mono h₁ (fun _ s₂ h₂ => assignInOrder_cons (bindName_ (wpAny_mono h₂ (fun _ _ q => assignInOrder_nil q) fun _ _ e => e))) fun _ _ e => e))) fun _ _ e => e))
theorem tupA2 {px py tp : Pos} {k} {Q : Unit → Shared → Prop} (F : Fr h₀ L s.heap m) (N : News h₀ L s.heap ((t, tupOf [v1, v2]) :: news)) (hh : A.handled = none)
    (h : ∀ h', Fr h₀ L h' m → News h₀ L h' news → wpAny (model prog w) A (storeName env x v1) (fun _ s₁ => wpAny (model prog w) A (storeName env y v2) Q E s₁) E { s with heap := h' }) :
    wpAny (model prog w) A (assign (.Tuple [.Name x px, .Name y py] k tp) env (.ref t)) Q E s := by
  have ht : IsTup s.heap t [v1, v2].toArray := ⟨_, (N _ (.head _)).1, rfl, 0, rfl⟩
  refine assign_Tuple_tuple hh ht rfl rfl fun h' he => ?_
  have h1 := h h' (F.extBut he (Nat.le_refl _)) fun p hp => ⟨he _ _ (Nat.ne_of_lt (Heap.lt_size (N p (.tail _ hp)).1)) (N p (.tail _ hp)).1, (N p (.tail _ hp)).2⟩
  exact assignInOrder_cons (assign_Name (wpAny_mono h1 (fun _ s₁ h₂ => assignInOrder_cons (assign_Name (wpAny_mono h₂ (fun _ _ q => assignInOrder_nil q) fun _ _ e => e))) fun _ _ e => e))
theorem addL {l b : Addr} {vs ws : List Value} {Q : Value → Shared → Prop} (F : Fr h₀ L s.heap m) (N : News h₀ L s.heap news) (hl : s.heap.IsList l vs.toArray) (hb : s.heap.IsList b ws.toArray) (hz : vs.length + ws.length ≤ 1000000)
    (h : ∀ D h', Fr h₀ L h' m → News h₀ L h' ((D, listOf (vs ++ ws).toArray 0) :: news) → (∀ p ∈ news, p.1 ≠ D) → Q (.ref D) { s with heap := h' }) : wpAny (model prog w) A (binaryOp .Add (.ref l) (.ref b)) Q E s :=
  add_lists F N hl hb (fun h' F' N' => h _ h' F' N' fun p hp => Nat.ne_of_lt (Heap.lt_size (N p hp).1)) (by rw [sizeLine_eq]; (first | lia | omega))
end

section
variable {w : World} {A : Around} {E : Value → Shared → Prop} {s : Shared} {h₀ : Heap} {L : Addr} {m : Str → Option Value} {news rest : List (Addr × Obj)} {dk ld : Addr} {od ol : Obj} {Q : Value → Shared → Prop}
theorem pathN (F : Fr h₀ L s.heap m) (N : News h₀ L s.heap news) (B : Base w h₀) (m1 : (dk, od) ∈ news) (m2 : (ld, ol) ∈ news) (hne : dk ≠ ld) (D : IsDeck w od ol ld)
    (hr : ∀ p ∈ rest, p ∈ news ∧ p.1 ≠ dk ∧ p.1 ≠ ld) (Rr : Rm A 2)
    (h : ∀ ps u od' ol' h' tk, ps ≠ [] → ps.length ≤ 4 → (∀ x ∈ ps, goodPart x) → (joinP ps).length ≤ 100 → IsDeck w od' ol' ld → Fr h₀ L h' m → News h₀ L h' ((dk, od') :: (ld, ol') :: rest) → Q (.bytes (joinP ps).toArray u) { s with heap := h', toks := tk }) :
    wpAny (model PR w) A (call (.ref 147) [.ref dk]) Q E s := by
  refine call_of (path_spec B F.keep (N _ m1).1 (N _ m2).1 (N _ m1).2.2 (N _ m2).2.2 hne D Rr) fun v h' tk hv => ?_
  obtain ⟨ps, u, od', ol', rfl, h1, h2, h3, D', e1, e2, kp⟩ := hv
  have hLd : L ≠ dk := (N _ m1).2.1.symm
  have hLl : L ≠ ld := (N _ m2).2.1.symm
  have hz : (joinP ps).length ≤ 100 := by
    have := joinP_len (k := 2) (ps := ps) fun x hx => (h3 x hx).len
    (first | lia | omega)
  refine h ps u od' ol' h' tk h1 h2 h3 hz D' ⟨F.ns.at' fun o e => kp L o hLd hLl e, fun b o e => kp b o (fun q => by rw [q, (N _ m1).2.2] at e; cases e) (fun q => by rw [q, (N _ m2).2.2] at e; cases e) (F.keep b o e), F.above⟩ fun p hp => ?_
  rcases List.mem_cons.mp hp with rfl | hp
  · exact ⟨e1, (N _ m1).2⟩
  · rcases List.mem_cons.mp hp with rfl | hp
    · exact ⟨e2, (N _ m2).2⟩
    · exact ⟨kp _ _ (hr p hp).2.1 (hr p hp).2.2 (N p (hr p hp).1).1, (N p (hr p hp).1).2⟩
theorem folderN {b : By} {t : Tok} (F : Fr h₀ L s.heap m) (N : News h₀ L s.heap news) (B : Base w h₀) (Rr : Rm A 1) (hz : b.length ≤ 1000)
    (h : ∀ u h' tk, Fr h₀ L h' m → News h₀ L h' news → Q (.bytes (folderB b).toArray u) { s with heap := h', toks := tk }) : wpAny (model PR w) A (call (.ref 35) [.bytes b.toArray t]) Q E s :=
  call_of (folder_spec (B.keeps F.keep) Rr hz) fun v h' tk ⟨k, u, e⟩ => e ▸ h u h' tk (frK F k) (newsK N k)
theorem nameN {b : By} {t : Tok} (F : Fr h₀ L s.heap m) (N : News h₀ L s.heap news) (B : Base w h₀) (Rr : Rm A 1) (hz : b.length ≤ 1000)
    (h : ∀ u h' tk, Fr h₀ L h' m → News h₀ L h' news → Q (.bytes (nameB b).toArray u) { s with heap := h', toks := tk }) : wpAny (model PR w) A (call (.ref 42) [.bytes b.toArray t]) Q E s :=
  call_of (name_spec (B.keeps F.keep) Rr hz) fun v h' tk ⟨k, u, e⟩ => e ▸ h u h' tk (frK F k) (newsK N k)
theorem joinedN {b f : By} {t t' : Tok} (F : Fr h₀ L s.heap m) (N : News h₀ L s.heap news) (B : Base w h₀) (Rr : Rm A 1) (hz : b.length ≤ 1000) (hf : f.length ≤ 1000)
    (h : ∀ u h' tk, Fr h₀ L h' m → News h₀ L h' news → Q (.bytes (if f = [] then b else f ++ 47 :: b).toArray u) { s with heap := h', toks := tk }) : wpAny (model PR w) A (call (.ref 28) [.bytes f.toArray t', .bytes b.toArray t]) Q E s :=
  call_of (joined_spec (B.keeps F.keep) Rr hz hf) fun v h' tk ⟨k, u, e⟩ => e ▸ h u h' tk (frK F k) (newsK N k)
theorem partsN {b : By} {t : Tok} (F : Fr h₀ L s.heap m) (N : News h₀ L s.heap news) (B : Base w h₀) (Rr : Rm A 1) (hz : b.length ≤ 1000)
    (h : ∀ D vs h' tk, BysAre vs (splitP b).dropLast → vs.length ≤ 1001 → Fr h₀ L h' m → News h₀ L h' ((D, listOf vs.toArray 0) :: news) → (∀ p ∈ news, p.1 ≠ D) → Q (.ref D) { s with heap := h', toks := tk }) : wpAny (model PR w) A (call (.ref 154) [.bytes b.toArray t]) Q E s :=
  call_of (parts_spec (B.keeps F.keep) Rr hz) fun v h' tk ⟨k, D, vs, e, e1, e2, hv⟩ => by
    subst e
    have F' := frK F k
    have hl : vs.length ≤ 1001 := by
      have h1 := hv.length
      have h2 : (splitP b).length ≤ b.length + 1 := splitA_len b []
      rw [List.length_dropLast] at h1
      rw [h1]; exact Nat.le_trans (Nat.sub_le _ _) (Nat.le_trans h2 (Nat.succ_le_succ hz))
    refine h D vs h' tk hv hl F' (fun p hp => ?_) fun p hp q => by rw [← q, (N p hp).1] at e2; cases e2
    rcases List.mem_cons.mp hp with rfl | hp
    · refine ⟨e1, fun q => ?_, ?_⟩
      · obtain ⟨o, _, _, ho, _⟩ := F.ns
        have q' : D = L := q
        rw [← q', e2] at ho; cases ho
      · cases q : h₀.get? D with
        | none => rfl
        | some o => have := F.keep _ _ q; rw [e2] at this; cases this
    · exact newsK N k p hp
end

theorem Rm.le {A : Around} {k k' : Nat} (R : Rm A k) (h : k' ≤ k) : Rm A k' := ⟨R.hh, Nat.lt_of_le_of_lt (Nat.add_le_add_left h _) R.hd, Nat.lt_of_le_of_lt (Nat.add_le_add_left (Nat.mul_le_mul_left 4 h) _) R.hu⟩

structure Chg where
  word : Str
  old : Option By
  new : Option By
  score : Option Int
inductive OptB : Value → Option By → Prop
  | none : OptB .none none
  | some (b : By) (u : Tok) : OptB (.bytes b.toArray u) (some b)
inductive OptI : Value → Option Int → Prop
  | none : OptI .none none
  | some (i : Int) (u : Tok) : OptI (.int i u) (some i)
noncomputable def GP (b : By) : Prop := ∃ ps z, b = joinP (ps ++ [z]) ∧ (∀ x ∈ ps, goodPart x) ∧ 47 ∉ z ∧ b.length ≤ 200 ∧ ps.length ≤ 4
noncomputable def ChgIs (es : List DictEntry) (c : Chg) : Prop := ∃ tw vo vn vs, IsChg es (.str c.word tw) vo vn vs ∧ OptB vo c.old ∧ OptB vn c.new ∧ OptI vs c.score
noncomputable def ChgOk (c : Chg) : Prop := c.word = Str.ofString "R" → ∃ o n, c.old = some o ∧ c.new = some n ∧ GP o ∧ GP n
theorem GP.ext {ps : List By} {z : By} (h0 : ps ≠ []) (h4 : ps.length ≤ 4) (h : ∀ x ∈ ps, goodPart x) (hz : 47 ∉ z) (h1 : z.length ≤ 1) (hl : (joinP ps).length ≤ 100) : GP (joinP ps ++ z) := by
  obtain ⟨qs, x, rfl⟩ : ∃ qs x, ps = qs ++ [x] := ⟨ps.dropLast, ps.getLast h0, (List.dropLast_concat_getLast h0).symm⟩
  refine ⟨qs, x ++ z, ?_, fun y hy => h y (List.mem_append_left _ hy), ?_, by rw [List.length_append]; (first | lia | omega), by rw [List.length_append, List.length_singleton] at h4; (first | lia | omega)⟩
  · cases qs with
    | nil => simp [joinP]
    | cons q r => rw [joinP_snoc _ _ (by simp), joinP_snoc _ _ (by simp)]; simp
  · have := (h x (by simp)).free
    simp [this, hz]
theorem GP.split {b : By} (h : GP b) : ∃ ps z, splitP b = ps ++ [z] ∧ b = joinP (ps ++ [z]) ∧ (∀ x ∈ ps, goodPart x) ∧ ps.length ≤ 4 ∧ 47 ∉ z := by
  obtain ⟨ps, z, e, h1, h2, _, h4⟩ := h
  refine ⟨ps, z, ?_, e, h1, h4, h2⟩
  rw [e]
  refine split_join (by simp) fun x hx => ?_
  rcases List.mem_append.mp hx with hx | hx
  · exact (h1 x hx).free
  · simp only [List.mem_singleton] at hx; subst hx; exact h2

section
variable {M : Model} {A : Around} {E : Value → Shared → Prop} {s : Shared} {env : Env}
theorem Assign_sw2 {x y : Str} {px py tpos pos : Pos} {k value} {Q : Flow → Shared → Prop}
    (h : wpAny M A (eval value env) (fun v s₁ => wpAny M A (unpackItems v [x, y].length none) (fun items s₂ => wpAny M A (assignInOrder ([x, y].reverse.map fun n => bindName env n) items.reverse) (fun _ => Q .next) E s₂) E s₁) E s)
    (hs : swapsWithSole [.Tuple [.Name x px, .Name y py] k tpos] value pos.line env = pure false) (hw : swappedStores [.Tuple [.Name x px, .Name y py] k tpos] value env = pure (some [x, y])) :
    wpAny M A (exec (.Assign [.Tuple [.Name x px, .Name y py] k tpos] value pos) env) Q E s := Assign_Tuple_swapped h hs hw
theorem Assign_sw3 {x y z : Str} {px py pz tpos pos : Pos} {k value} {Q : Flow → Shared → Prop}
    (h : wpAny M A (eval value env) (fun v s₁ => wpAny M A (unpackItems v [x, y, z].length none) (fun items s₂ => wpAny M A (assignInOrder ([x, y, z].reverse.map fun n => bindName env n) items.reverse) (fun _ => Q .next) E s₂) E s₁) E s)
    (hs : swapsWithSole [.Tuple [.Name x px, .Name y py, .Name z pz] k tpos] value pos.line env = pure false) (hw : swappedStores [.Tuple [.Name x px, .Name y py, .Name z pz] k tpos] value env = pure (some [x, y, z])) :
    wpAny M A (exec (.Assign [.Tuple [.Name x px, .Name y py, .Name z pz] k tpos] value pos) env) Q E s := Assign_Tuple_swapped h hs hw
end

theorem normS {s : Shared} {h : Heap} {α : Type} {M : Model} {A : Around} {t : Sem α} {Q : α → Shared → Prop} {E : Value → Shared → Prop} {tk : Nat} (k : ∀ tk, wpAny M A t Q E { s with heap := h, toks := tk }) : wpAny M A t Q E { s with heap := h, toks := tk } := k tk
theorem joinZ {qs : List By} (h : ∀ x ∈ qs, goodPart x) (h4 : qs.length ≤ 4) : (joinP (qs ++ [[122]])).length ≤ 200 := by
  have := joinP_len (k := 2) (ps := qs ++ [[122]]) fun x hx => by
    rcases List.mem_append.mp hx with hx | hx
    · exact (h x hx).len
    · simp only [List.mem_singleton] at hx; subst hx; decide
  rw [List.length_append, List.length_singleton] at this
  (first | lia | omega)
theorem neCR : Str.ofString "C" ≠ Str.ofString "R" := by decide
theorem neAR : Str.ofString "A" ≠ Str.ofString "R" := by decide
theorem neDR : Str.ofString "D" ≠ Str.ofString "R" := by decide
theorem unhide {h : Heap} {a : Addr} {as : List Addr} (e : (hideAll h as).get? a = none) (hn : a ∉ as) : h.get? a = none := by
  cases q : h.get? a with
  | none => rfl
  | some o => rw [hideAll_get _ q hn] at e; cases e
inductive ChgBack (w : World) (s : Shared) (dk ld : Addr) (v : Value) (h' : Heap) : Prop
  | mk (x dx : Addr) (es : List DictEntry) (n : Nat) (c : Chg) (od' ol' : Obj) (e : v = .ref x) (ci : ChgIs es c) (ok : ChgOk c) (gx : h'.get? x = some (instObj 112 dx)) (gdx : h'.get? dx = some (dictOf es n)) (fx : s.heap.get? x = none) (fdx : s.heap.get? dx = none) (hne : dx ≠ x)
      (D : IsDeck w od' ol' ld) (gd : h'.get? dk = some od') (gl : h'.get? ld = some ol') (kp : ∀ b o, b ≠ dk → b ≠ ld → s.heap.get? b = some o → h'.get? b = some o) : ChgBack w s dk ld v h'
theorem changeEnd {w : World} {s : Shared} {dk ld L x dx : Addr} {h' : Heap} {m : Str → Option Value} {news : List (Addr × Obj)} {es : List DictEntry} {n : Nat} {wd : Str} {tw : Tok} {vo vn vs : Value} {co cn : Option By} {cs : Option Int} {od' ol' : Obj}
    (F : Fr (hideAll s.heap [dk, ld]) L h' m) (N : News (hideAll s.heap [dk, ld]) L h' ((x, instObj 112 dx) :: (dx, dictOf es n) :: news)) (C : IsChg es (.str wd tw) vo vn vs) (ho : OptB vo co) (hn : OptB vn cn) (hs : OptI vs cs) (ok : ChgOk ⟨wd, co, cn, cs⟩)
    (nx : ∀ p ∈ news, p.1 ≠ x) (ndx : ∀ p ∈ news, p.1 ≠ dx) (hne : dx ≠ x) (D : IsDeck w od' ol' ld) (m1 : (dk, od') ∈ news) (m2 : (ld, ol') ∈ news) : ChgBack w s dk ld (.ref x) h' := by
  refine ⟨x, dx, es, n, ⟨wd, co, cn, cs⟩, od', ol', rfl, ⟨tw, vo, vn, vs, C, ho, hn, hs⟩, ok, (N _ (.head _)).1, (N _ (.tail _ (.head _))).1, unhide (N _ (.head _)).2.2 ?_, unhide (N _ (.tail _ (.head _))).2.2 ?_, hne, D, (N _ (.tail _ (.tail _ m1))).1, (N _ (.tail _ (.tail _ m2))).1,
    fun b o h1 h2 e => F.keep b o (hideAll_get _ e (by simp [h1, h2]))⟩
  · exact notCons (fun e => nx _ m1 e.symm) (notOne (fun e => nx _ m2 e.symm))
  · exact notCons (fun e => ndx _ m1 e.symm) (notOne (fun e => ndx _ m2 e.symm))
theorem change_spec {w : World} {A : Around} {s : Shared} {h₀ : Heap} {dk ld : Addr} {od ol : Obj} (B : Base w h₀) (kp : Keeps h₀ s.heap) (hdk : s.heap.get? dk = some od) (hld : s.heap.get? ld = some ol)
    (fdk : h₀.get? dk = none) (fld : h₀.get? ld = none) (hne : dk ≠ ld) (D : IsDeck w od ol ld) (Rr : Rm A 4) :
    codeAny (model PR w) A (.call (.ref 161) ⟨[.ref dk], []⟩) (Back s (ChgBack w s dk ld)) s := by
  refine' enterH (led := [(dk, od), (ld, ol)]) (binds := [(Str.ofString "deck", .ref dk)]) B kp ?hled Rr ?ho ?hcd ?hb ?hl ?_ ?c1 ?c2 ?c3 ?c4
  case hled => exact allCons (⟨hdk, fdk⟩) (allCons (⟨hld, fld⟩) allNil)
  case ho => k_is
  case hcd => k_is
  case hb => exact BindsTo.of_eq rfl
  case hl => exact locs rfl
  case c1 => exact rfl
  case c2 => exact rfl
  case c3 => exact rfl
  case c4 => decide
  intro h₁ F N B' R'
  try k_extra "nt"
  clear B
  simp only [List.map_cons, List.map_nil] at F N B'
  repeat k_extra "m"
  rename_i i u _ _ _ _ hi0 hi1 _ _ _ ps1 _ _ _ _ _ p0 p4 pg pz _ _ _ t1 _ ps2 _ od3 ol3 _ _ q0 q4 qg qz D3 _ _ t2 _ _ _ _ _ _ _ _ _ _ _ _ _ _ _ _ _ _ _
  have o1 : GP (joinP ps1 ++ [49]) := GP.ext p0 p4 pg (by decide) (by decide) pz
  have o2 : GP (joinP ps2 ++ [50]) := GP.ext q0 q4 qg (by decide) (by decide) qz
  have s1 : (joinP ps1 ++ [49]).length ≤ 1000 := by rw [List.length_append]; exact Nat.le_trans (Nat.add_le_add_right pz 1) (by decide)
  by_cases h5 : i < 5
  · refine ifTrue (by simpa using h5) ?_
    repeat k_extra "m"
    by_cases h4 : i = 4
    · refine ifTrue (by simpa using h4) ?_
      repeat k_extra "m"
      rename_i Dp vs _ _ hv hvl _ _ _ Dz _ _ _ _ Dl _ _ N8 _
      obtain ⟨qs, z, hq, hqe, hqg, hql, hqz⟩ := o1.split
      have hv2 : BysAre vs qs := by rw [hq, List.dropLast_concat] at hv; exact hv
      have hv3 : ∀ u, BysAre (vs ++ [.bytes (List.toArray [122]) u]) (qs ++ [[122]]) := fun u => hv2.append (.cons .nil)
      have hjz := joinZ hqg hql
      have o3 : GP (joinP (qs ++ [[122]])) := ⟨qs, [122], rfl, hqg, by decide, hjz, hql⟩
      with_reducible refine' joinN ?l (hv3 _) ?hz ?_
      case l => k_extra "isl"
      case hz => k_extra "size"
      intro _ _
      repeat k_extra "m"
      rename_i x dx es n h9 tk9 C F9 N9 nx ndx hne9
      exact ⟨_, _, _, rfl, rfl, changeEnd F9 N9 C (.some _ _) (.some _ _) (.some _ _) (fun _ => ⟨_, _, rfl, rfl, o1, o3⟩) nx ndx hne9 D3 (by k_extra "mem") (by k_extra "mem")⟩
    · refine ifFalse (by simpa using h4) ?_
      repeat k_extra "m"
      rename_i x dx es n h9 tk9 C F9 N9 nx ndx hne9
      exact ⟨_, _, _, rfl, rfl, changeEnd F9 N9 C (.some _ _) (.some _ _) (.some _ _) (fun _ => ⟨_, _, rfl, rfl, o1, o2⟩) nx ndx hne9 D3 (by k_extra "mem") (by k_extra "mem")⟩
  · refine ifFalse (by simpa using h5) ?_
    repeat k_extra "m"
    by_cases h6 : i = 5
    · refine ifTrue (by simpa using h6) ?_
      repeat k_extra "m"
      rename_i x dx es n h9 tk9 C F9 N9 nx ndx hne9
      exact ⟨_, _, _, rfl, rfl, changeEnd F9 N9 C (.some _ _) (.some _ _) (.some _ _) (fun e => absurd e neCR) nx ndx hne9 D3 (by k_extra "mem") (by k_extra "mem")⟩
    · refine ifFalse (by simpa using h6) ?_
      repeat k_extra "m"
      by_cases h7 : i = 6
      · refine ifTrue (by simpa using h7) ?_
        repeat k_extra "m"
        rename_i x dx es n h9 tk9 C F9 N9 nx ndx hne9
        exact ⟨_, _, _, rfl, rfl, changeEnd F9 N9 C .none (.some _ _) .none (fun e => absurd e neAR) nx ndx hne9 D3 (by k_extra "mem") (by k_extra "mem")⟩
      · refine ifFalse (by simpa using h7) ?_
        repeat k_extra "m"
        rename_i x dx es n h9 tk9 C F9 N9 nx ndx hne9
        exact ⟨_, _, _, rfl, rfl, changeEnd F9 N9 C (.some _ _) .none .none (fun e => absurd e neDR) nx ndx hne9 D3 (by k_extra "mem") (by k_extra "mem")⟩
section
variable {prog : Program} {w : World} {K : Type} [DecidableEq K] {A : Around} {E : Value → Shared → Prop} {s : Shared} {d : Addr} {k : K} {kvs : List (K × Value)} {Q : Value → Shared → Prop}
theorem setdefault_pairs {knd : KeyKind prog w K} {key dflt : Value} (hkey : knd.is k key = true) (hd0 : (d == sysModules) = false) (hm : s.heap.DictOf knd d kvs) (hsz : kvs.length ≤ sizeLine)
    (h1 : ∀ v, valueAt kvs k = some v → Q v { s with toks := s.toks + 1 })
    (h2 : valueAt kvs k = none → ∀ h', h'.DictOf knd d (stored kvs k dflt) → Heap.SameBut d s.heap h' → Q dflt { s with heap := h', toks := s.toks + 1 }) :
    wpAny (model prog w) A (call (.builtin "dict.setdefault") [.ref d, key, dflt]) Q E s := by
  refine wpAny_call_entry PySem.F.slot_dict_setdefault hm.typeIs PySem.F.entry_dict_setdefault ?_ (PySem.F.args_dict_setdefault_3 _ _ _)
  obtain ⟨o, es, ep, ho, hc, hd, hk, hp, hn⟩ := id hm
  have hes : es.size ≤ sizeLine := by have e1 := hp.length; have e2 : es.toList.length = es.size := by simp
                                      (first | lia | omega)
  unfold Builtin.«dict.setdefault»
  refine wpAny_bind ?_
  unfold Builtin.Dict.keyAndDefault
  refine wpAny_bind (wpAny_notOrdered_dict hm.typeIs ?_)
  refine wpAny_pure ?_
  show wpAny _ _ (if (d == sysModules) = true then _ else (dictSetDefault d key dflt >>= _)) _ _ s
  first | refine wpIfN (by rw [hd0]; exact Bool.false_ne_true) ?_ | rw [if_neg (by rw [hd0]; exact Bool.false_ne_true)]
  unfold dictSetDefault
  refine wpAny_bind ?_
  try with_reducible refine wpAny_holding ?_
  refine wpAny_bind (knd.pyHash hkey ?_)
  refine wpAny_bind (wpAny_dictFind_of (s := { s with toks := s.toks + 1 }) hkey ho hd hk ?_)
  have hidx : (es.findIdx? fun e => knd.is k e.key) = kvs.findIdx? fun kv => decide (kv.1 = k) := by
    rw [← hp.findIdx k]; obtain ⟨l⟩ := es; simp
  have hf := hm.mapOf
  obtain ⟨o2, es2, ep2, ho2, _, hd2, _, hf2⟩ := hf
  rw [ho] at ho2; cases ho2
  rw [hd] at hd2; cases hd2
  cases hi : es.findIdx? fun e => knd.is k e.key with
  | some i =>
    have hfk : valueAt kvs k = (es[i]?).map (·.val) := by rw [← hf2 k, findBy_of_findIdx?, hi]
    refine wpAny_bind (wpAny_dictEntries (s := { s with toks := s.toks + 1 }) ho hd ?_)
    cases he : es[i]? with
    | none =>
      exfalso
      have := Array.findIdx?_eq_some_iff_findIdx_eq.mp hi
      have hlt : i < es.size := this.1
      rw [Array.getElem?_eq_getElem hlt] at he
      exact nomatch he
    | some e =>
      rw [he] at hfk
      exact wpAny_bind (wpAny_rule (wpAny_pure (wpAny_pure ⟨_, rfl, h1 e.val hfk⟩)))
  | none =>
    have hfk : valueAt kvs k = none := by rw [← hf2 k, findBy_of_findIdx?, hi]
    have hnot : k ∉ kvs.map (·.1) := not_mem_of_findIdx_none (hidx ▸ hi)
    have hany : ¬ (kvs.any fun kv => decide (kv.1 = k)) = true := by
      rw [List.any_eq_true]; rintro ⟨kv, hkv, he⟩
      exact hnot (List.mem_map.mpr ⟨kv, hkv, of_decide_eq_true he⟩)
    refine wpAny_bind (wpAny_rule (wpAny_bind (wpAny_updateDictKeys (hz := hes) (s := { s with toks := s.toks + 1 }) ho hd (wpAny_pure (wpAny_pure ⟨_, rfl, h2 hfk _ ⟨_, _, ep + 1, Heap.get?_update_self _ ho (Obj.isFreed_of_dict (Obj.data_mapDictKeys hd _)),
      hc.mapDictKeys _, Obj.data_mapDictKeys hd _, hk.push hkey _, ?_, ?_⟩ (Heap.SameBut.update ..)⟩)))))
    · rw [stored, if_neg hany]
      have := hp.append hkey (knd.hash k) dflt
      obtain ⟨l⟩ := es
      simpa using this
    · rw [stored, if_neg hany, List.map_append, List.nodup_append]
      refine ⟨hn, by simp, ?_⟩
      intro a ha b hb
      simp only [List.map_cons, List.map_nil, List.mem_singleton] at hb
      subst hb
      exact fun e => hnot (e ▸ ha)
theorem setdefault_heap {knd : HeapKind prog w K} {a : Addr} {dflt : Value} {xs : List (K × Addr × Value)} (hu : knd.room A.in1) (hkey : knd.is s.heap k a) (hd0 : (d == sysModules) = false) (hm : s.heap.DictOfH knd d xs) (hsz : xs.length ≤ sizeLine)
    (h1 : ∀ v tk, (atKey xs k).map (·.2) = some v → Q v { s with toks := tk })
    (h2 : atKey xs k = none → ∀ h' tk, h'.DictOfH knd d (storedH xs k a dflt) → Heap.SameBut d s.heap h' → Q dflt { s with heap := h', toks := tk }) :
    wpAny (model prog w) A (call (.builtin "dict.setdefault") [.ref d, .ref a, dflt]) Q E s := by
  refine wpAny_call_entry PySem.F.slot_dict_setdefault hm.typeIs PySem.F.entry_dict_setdefault ?_ (PySem.F.args_dict_setdefault_3 _ _ _)
  obtain ⟨o, es, ep, ho, hc, hd, he, his, hn⟩ := id hm
  unfold Builtin.«dict.setdefault»
  refine wpAny_bind ?_
  unfold Builtin.Dict.keyAndDefault
  refine wpAny_bind (wpAny_notOrdered_dict hm.typeIs ?_)
  refine wpAny_pure ?_
  show wpAny _ _ (if (d == sysModules) = true then _ else (dictSetDefault d (.ref a) dflt >>= _)) _ _ s
  first | refine wpIfN (by rw [hd0]; exact Bool.false_ne_true) ?_ | rw [if_neg (by rw [hd0]; exact Bool.false_ne_true)]
  unfold dictSetDefault
  refine wpAny_bind ?_
  try with_reducible refine wpAny_holding ?_
  refine wpAny_bind (knd.pyHash hu hkey ?_)
  refine wpAny_bind (wpAny_dictFind_heap (s := { s with toks := s.toks + knd.draws k }) hu hkey ho hd he his hn ?_ ?_)
  · intro hno
    have hnot : k ∉ xs.map (·.1) := not_mem_keys_of_get hno
    refine wpAny_bind (wpAny_rule (wpAny_bind (wpAny_updateDictKeys (hz := by have e := size_of_entries he; (first | lia | omega)) (s := { s with toks := s.toks + knd.draws k }) ho hd (wpAny_pure (wpAny_pure ⟨_, rfl, h2 (atKey_none_of_get hno) _ _ ⟨_, _, ep + 1, Heap.get?_update_self _ ho (Obj.isFreed_of_dict (Obj.data_mapDictKeys hd _)),
      hc.mapDictKeys _, Obj.data_mapDictKeys hd _, ?_, ?_, ?_⟩ (Heap.SameBut.update ..)⟩)))))
    · rw [storedH_new (atKey_none_of_get hno)]
      simp [he, entryOfKey]
    · rw [storedH_new (atKey_none_of_get hno)]
      intro x hx
      rcases List.mem_append.mp hx with hx | hx
      · exact knd.keeps (his x hx) ho hd (Heap.SameBut.update ..)
      · simp only [List.mem_singleton] at hx
        subst hx
        exact knd.keeps hkey ho hd (Heap.SameBut.update ..)
    · rw [storedH_new (atKey_none_of_get hno)]
      rw [List.map_append, List.nodup_append]
      refine ⟨hn, by simp, ?_⟩
      intro x hx y hy
      simp only [List.map_cons, List.map_nil, List.mem_singleton] at hy
      subst hy
      exact fun e => hnot (e ▸ hx)
  · intro j p hj
    refine wpAny_bind (wpAny_dictEntries (s := { s with toks := s.toks + knd.draws k }) ho hd ?_)
    rw [entry_at he j, hj]
    exact wpAny_bind (wpAny_rule (wpAny_pure (wpAny_pure ⟨_, rfl, h1 p.2 _ (by rw [atKey_of_get hn hj]; rfl)⟩)))
end

noncomputable abbrev Led (h : Heap) (news : List (Addr × Obj)) : Prop := ∀ p ∈ news, h.get? p.1 = some p.2
theorem News.led {h₀ h : Heap} {L : Addr} {news : List (Addr × Obj)} (N : News h₀ L h news) : Led h news := fun p hp => (N p hp).1

structure DK (w : World) (K : Type) [DecidableEq K] where
  DO : List (Addr × Obj) → Obj → List (K × Value) → Prop
  KeyIn : List (Addr × Obj) → K → Value → Prop
  ex : ∀ {led o kvs}, DO led o kvs → o.ExactDict
  monoD : ∀ {led led' : List (Addr × Obj)} {o kvs}, (∀ p ∈ led, p.2.cls = .type "tuple" → p ∈ led') → DO led o kvs → DO led' o kvs
  monoK : ∀ {led led' : List (Addr × Obj)} {k v}, (∀ p ∈ led, p.2.cls = .type "tuple" → p ∈ led') → KeyIn led k v → KeyIn led' k v
  nodup : ∀ {led o kvs}, DO led o kvs → (kvs.map (·.1)).Nodup
  empty : ∀ {led}, DO led { cls := .type "dict", data := .dict #[] } []
  getD : ∀ {A : Around} {E : Value → Shared → Prop} {s : Shared} {news : List (Addr × Obj)} {d o kvs k key dflt} {Q : Value → Shared → Prop}, A.units + 1 < cLine → Led s.heap news → (d, o) ∈ news → DO news o kvs → (d == sysModules) = false → KeyIn news k key →
    (∀ tk, Q ((valueAt kvs k).getD dflt) { s with toks := tk }) → wpAny (model PR w) A (call (.builtin "dict.get") [.ref d, key, dflt]) Q E s
  item : ∀ {A : Around} {E : Value → Shared → Prop} {s : Shared} {news : List (Addr × Obj)} {d o kvs k key v} {Q : Value → Shared → Prop}, A.units + 1 < cLine → Led s.heap news → (d, o) ∈ news → DO news o kvs → KeyIn news k key → valueAt kvs k = some v →
    (∀ tk, Q v { s with toks := tk }) → wpAny (model PR w) A (getItem (.ref d) key) Q E s
  set : ∀ {A : Around} {E : Value → Shared → Prop} {s : Shared} {news : List (Addr × Obj)} {d o kvs k key v} {Q : Unit → Shared → Prop}, A.units + 1 < cLine → Led s.heap news → (d, o) ∈ news → DO news o kvs → KeyIn news k key → kvs.length ≤ 1000000 →
    (∀ h' o' tk, h'.get? d = some o' → Heap.SameBut d s.heap h' → DO news o' (stored kvs k v) → Q () { s with heap := h', toks := tk }) → wpAny (model PR w) A (setItem (.ref d) key v) Q E s
  setdef : ∀ {A : Around} {E : Value → Shared → Prop} {s : Shared} {news : List (Addr × Obj)} {d o kvs k key dflt} {Q : Value → Shared → Prop}, A.units + 1 < cLine → Led s.heap news → (d, o) ∈ news → DO news o kvs → (d == sysModules) = false → KeyIn news k key → kvs.length ≤ 1000000 →
    (∀ v tk, valueAt kvs k = some v → Q v { s with toks := tk }) →
    (valueAt kvs k = none → ∀ h' o' tk, h'.get? d = some o' → Heap.SameBut d s.heap h' → DO news o' (stored kvs k dflt) → Q dflt { s with heap := h', toks := tk }) →
    wpAny (model PR w) A (call (.builtin "dict.setdefault") [.ref d, key, dflt]) Q E s

theorem DK.cls {w : World} {K : Type} [DecidableEq K] (dk : DK w K) {led o kvs} (h : dk.DO led o kvs) : o.cls = .type "dict" := (dk.ex h).1
noncomputable abbrev bk (w : World) : KeyKind PR w By := bytesKind PR w
noncomputable def DB (w : World) : DK w By where
  DO := fun _ o kvs => o.IsDictOf (bk w) kvs
  KeyIn := fun _ k v => (bk w).is k v = true
  ex := fun ⟨_, _, h, _⟩ => h
  monoD := fun _ h => h
  monoK := fun _ h => h
  nodup := fun ⟨_, _, _, _, _, _, h⟩ => h
  empty := ⟨#[], 0, ⟨rfl, rfl, rfl⟩, rfl, fun _ he => by simp at he, Pairs.nil, List.nodup_nil⟩
  getD := fun {A E s news d o kvs k key dflt Q} _ L m D lo hk h => by
    have hm := Heap.dictOf_iff.mpr ⟨o, L _ m, D⟩
    exact call_meetsIn PySem.F.slot_dict_get hm.typeIs PySem.F.entry_dict_get (PySem.F.args_dict_get_3 _ _ _) (meets_dict_get_default (bk w) d hk lo dflt) ⟨_, hm.mapOf, h _⟩
  item := fun {A E s news d o kvs k key v Q} _ L m D hk hv h => wpAny_getItem_of hk (Heap.dictOf_iff.mpr ⟨o, L _ m, D⟩).mapOf hv (h _)
  set := fun {A E s news d o kvs k key v Q} _ L m D hk hz h => wpAny_setItem_pairs (hsz := by rw [sizeLine_eq]; (first | lia | omega)) hk (Heap.dictOf_iff.mpr ⟨o, L _ m, D⟩) fun h' hm hs => let ⟨o', e, D'⟩ := Heap.dictOf_iff.mp hm; h h' o' _ e hs D'
  setdef := fun {A E s news d o kvs k key dflt Q} _ L m D lo hk hz h1 h2 => setdefault_pairs hk lo (Heap.dictOf_iff.mpr ⟨o, L _ m, D⟩) (by rw [sizeLine_eq]; (first | lia | omega)) (fun v hv => h1 v _ hv) fun hn h' hm hs => let ⟨o', e, D'⟩ := Heap.dictOf_iff.mp hm; h2 hn h' o' _ e hs D'

noncomputable def TupIn (w : World) (led : List (Addr × Obj)) (k : List By) (a : Addr) : Prop := ∃ o, (a, o) ∈ led ∧ o.cls = .type "tuple" ∧ ∃ items n, o.data = .seq items n ∧ ItemsAre (bk w) k items.toList
theorem TupIn.key {w : World} {h : Heap} {led : List (Addr × Obj)} {k : List By} {a : Addr} (x : TupIn w led k a) (L : Led h led) : (tupleKind (bk w)).is h k a := let ⟨o, m, c, items, n, d, i⟩ := x; ⟨o, items, n, L _ m, c, d, i⟩
theorem TupIn.mono {w : World} {led led' : List (Addr × Obj)} {k : List By} {a : Addr} (m : ∀ p ∈ led, p.2.cls = .type "tuple" → p ∈ led') (x : TupIn w led k a) : TupIn w led' k a := let ⟨o, h, c, r⟩ := x; ⟨o, m _ h c, c, r⟩
noncomputable def TabIn (w : World) (led : List (Addr × Obj)) (o : Obj) (xs : List (List By × Addr × Value)) : Prop :=
  o.ExactDict ∧ (∃ es ep, o.data = .dict es ep ∧ es.toList = xs.map (entryOfKey (tupleKind (bk w)))) ∧ (xs.map (·.1)).Nodup ∧ ∀ x ∈ xs, TupIn w led x.1 x.2.1
theorem TabIn.at {w : World} {h : Heap} {led : List (Addr × Obj)} {d : Addr} {o : Obj} {xs : List (List By × Addr × Value)} (x : TabIn w led o xs) (L : Led h led) (m : (d, o) ∈ led) : h.DictOfH (tupleKind (bk w)) d xs :=
  let ⟨c, ⟨es, ep, hd, he⟩, hn, hk⟩ := x
  ⟨o, es, ep, L _ m, c, hd, he, fun y hy => (hk y hy).key L, hn⟩
theorem TabIn.back {w : World} {h : Heap} {led : List (Addr × Obj)} {d a : Addr} {k : List By} {v : Value} {xs : List (List By × Addr × Value)} (hm : h.DictOfH (tupleKind (bk w)) d (storedH xs k a v)) (hk : ∀ x ∈ xs, TupIn w led x.1 x.2.1) (ha : TupIn w led k a) :
    ∃ o, h.get? d = some o ∧ TabIn w led o (storedH xs k a v) := by
  obtain ⟨o, es, ep, ho, c, hd, he, _, hn⟩ := hm
  refine ⟨o, ho, c, ⟨es, ep, hd, he⟩, hn, fun x hx => ?_⟩
  rcases mem_storedH hx with ⟨y, hy, e1, e2⟩ | ⟨e1, e2⟩
  · rw [e1, e2]; exact hk y hy
  · rw [e1, e2]; exact ha
theorem kvsOf_len {K : Type} [DecidableEq K] (xs : List (K × Addr × Value)) : (kvsOf xs).length = xs.length := by simp [kvsOf]
noncomputable def DT (w : World) : DK w (List By) where
  DO := fun led o kvs => ∃ xs, TabIn w led o xs ∧ kvs = kvsOf xs
  KeyIn := fun led k v => ∃ a, v = .ref a ∧ TupIn w led k a
  ex := fun ⟨_, h, _⟩ => h.1
  monoD := fun m ⟨xs, ⟨c, e, n, k⟩, q⟩ => ⟨xs, ⟨c, e, n, fun x hx => (k x hx).mono m⟩, q⟩
  monoK := fun m ⟨a, e, k⟩ => ⟨a, e, k.mono m⟩
  nodup := fun ⟨xs, h, e⟩ => by rw [e, kvsOf, List.map_map]; exact h.2.2.1
  empty := ⟨[], ⟨⟨rfl, rfl, rfl⟩, ⟨#[], 0, rfl, rfl⟩, List.nodup_nil, fun _ h => nomatch h⟩, rfl⟩
  getD := fun {A E s news d o kvs k key dflt Q} hu L m D lo hk h => by
    obtain ⟨xs, T, rfl⟩ := D
    obtain ⟨a, rfl, hk⟩ := hk
    have hm := T.at L m
    refine call_meetsIn PySem.F.slot_dict_get hm.typeIs PySem.F.entry_dict_get (PySem.F.args_dict_get_3 _ _ _) (meetsH_dict_get_default (tupleKind (bk w)) d a lo dflt) ⟨tupleKind_room_in1 hu, k, xs, hk.key L, hm, ?_⟩
    have := h (s.toks + (tupleKind (bk w)).draws k)
    rw [valueAt_kvsOf] at this
    exact this
  item := fun {A E s news d o kvs k key v Q} hu L m D hk hv h => by
    obtain ⟨xs, T, rfl⟩ := D
    obtain ⟨a, rfl, hk⟩ := hk
    rw [valueAt_kvsOf] at hv
    obtain ⟨p, hp, rfl⟩ := Option.map_eq_some_iff.mp hv
    exact wpAny_getItem_heap (tupleKind_room_in1 hu) (hk.key L) (T.at L m) hp (h _)
  set := fun {A E s news d o kvs k key v Q} hu L m D hk hz h => by
    obtain ⟨xs, T, rfl⟩ := D
    obtain ⟨a, rfl, hk⟩ := hk
    refine wpAny_setItem_heap (hsz := by rw [kvsOf_len] at hz; rw [sizeLine_eq]; (first | lia | omega)) (tupleKind_room_in1 hu) (hk.key L) (T.at L m) fun h' hm hs => ?_
    obtain ⟨o', e, D'⟩ := TabIn.back hm T.2.2.2 hk
    exact h h' o' _ e hs ⟨_, D', (kvsOf_storedH ..).symm⟩
  setdef := fun {A E s news d o kvs k key dflt Q} hu L m D lo hk hz h1 h2 => by
    obtain ⟨xs, T, rfl⟩ := D
    obtain ⟨a, rfl, hk⟩ := hk
    refine setdefault_heap (tupleKind_room_in1 hu) (hk.key L) lo (T.at L m) (by rw [kvsOf_len] at hz; rw [sizeLine_eq]; (first | lia | omega)) (fun v tk e => h1 v tk (by rw [valueAt_kvsOf, e])) fun hn h' tk hm hs => ?_
    obtain ⟨o', e, D'⟩ := TabIn.back hm T.2.2.2 hk
    exact h2 (by rw [valueAt_kvsOf, hn]; rfl) h' o' tk e hs ⟨_, D', (kvsOf_storedH ..).symm⟩
theorem nodup_inj {α β : Type} {f : α → β} : ∀ {l : List α}, (l.map f).Nodup → ∀ {a b : α}, a ∈ l → b ∈ l → f a = f b → a = b
  | [], _, _, _, h, _, _ => nomatch h
  | x :: l, hn, a, b, ha, hb, e => by
    rw [List.map_cons, List.nodup_cons] at hn
    rcases List.mem_cons.mp ha with h1 | h1 <;> rcases List.mem_cons.mp hb with h2 | h2
    · rw [h1, h2]
    · subst h1; exact absurd (e ▸ List.mem_map_of_mem h2) hn.1
    · subst h2; exact absurd (e ▸ List.mem_map_of_mem h1) hn.1
    · exact nodup_inj hn.2 h1 h2 e
noncomputable def updL (d : Addr) (o' : Obj) (led : List (Addr × Obj)) : List (Addr × Obj) := led.map fun p => if p.1 = d then (d, o') else p
theorem updL_addr {d : Addr} {o' : Obj} {led : List (Addr × Obj)} {p : Addr × Obj} (h : p ∈ updL d o' led) : ∃ q ∈ led, q.1 = p.1 := by
  obtain ⟨q, hq, rfl⟩ := List.mem_map.mp h
  refine ⟨q, hq, ?_⟩
  split
  · assumption
  · rfl
theorem updL_mem {d : Addr} {o' : Obj} {led : List (Addr × Obj)} {p : Addr × Obj} (h : p ∈ led) (hn : p.1 ≠ d) : p ∈ updL d o' led := List.mem_map.mpr ⟨p, h, by rw [if_neg hn]⟩
theorem updL_self {d : Addr} {o o' : Obj} {led : List (Addr × Obj)} (h : (d, o) ∈ led) : (d, o') ∈ updL d o' led := List.mem_map.mpr ⟨_, h, by simp⟩
theorem updL_tup {h : Heap} {d : Addr} {o o' : Obj} {led : List (Addr × Obj)} (L : Led h led) (m : (d, o) ∈ led) (c : o.cls = .type "dict") : ∀ p ∈ led, p.2.cls = .type "tuple" → p ∈ updL d o' led := by
  intro p hp hc
  refine updL_mem hp fun e => ?_
  have h1 := L _ hp
  have h2 := L _ m
  rw [e, h2] at h1
  obtain rfl := Option.some.inj h1
  rw [c] at hc
  exact absurd hc (by decide)
theorem updL_news {h₀ h h' : Heap} {L d : Addr} {o' : Obj} {led : List (Addr × Obj)} (N : News h₀ L h led) (hs : Heap.SameBut d h h') (e : h'.get? d = some o') : News h₀ L h' (updL d o' led) := by
  intro p hp
  obtain ⟨q, hq, rfl⟩ := List.mem_map.mp hp
  by_cases hd : q.1 = d
  · rw [if_pos hd]
    exact ⟨e, hd ▸ (N q hq).2⟩
  · rw [if_neg hd]
    exact ⟨hs.extBut _ _ hd (N q hq).1, (N q hq).2⟩

section
variable {K : Type} [DecidableEq K]
noncomputable abbrev Row (K : Type) := List (K × Nat)
noncomputable abbrev TB (K : Type) := List (K × Addr × Row K)
noncomputable def cntR (row : Row K) (g : K) : Nat := ((row.find? fun r => decide (r.1 = g)).map (·.2)).getD 0
noncomputable def bumpR (row : Row K) (g : K) : Row K := if row.any (fun r => decide (r.1 = g)) then row.map (fun r => if r.1 = g then (r.1, r.2 + 1) else r) else row ++ [(g, 1)]
noncomputable def bumpT (tb : TB K) (f g : K) : TB K := tb.map fun t => if t.1 = f then (t.1, t.2.1, bumpR t.2.2 g) else t
inductive RowV : List (K × Value) → Row K → Prop
  | nil : RowV [] []
  | cons {k : K} {c : Nat} {u : Tok} {kvs : List (K × Value)} {row : Row K} : RowV kvs row → RowV ((k, .int c u) :: kvs) ((k, c) :: row)
theorem RowV.length {kvs : List (K × Value)} {row : Row K} (h : RowV kvs row) : kvs.length = row.length := by induction h with | nil => rfl | cons _ ih => simp [ih]
theorem RowV.keys {kvs : List (K × Value)} {row : Row K} (h : RowV kvs row) : kvs.map (·.1) = row.map (·.1) := by induction h with | nil => rfl | cons _ ih => simp [ih]
theorem RowV.any {kvs : List (K × Value)} {row : Row K} (h : RowV kvs row) (g : K) : (kvs.any fun kv => decide (kv.1 = g)) = row.any fun r => decide (r.1 = g) := by induction h with | nil => rfl | cons _ ih => simp [ih]
theorem RowV.app {kvs k2 : List (K × Value)} {row r2 : Row K} (h : RowV kvs row) (h2 : RowV k2 r2) : RowV (kvs ++ k2) (row ++ r2) := by induction h with | nil => exact h2 | cons _ ih => exact .cons ih
theorem RowV.at {kvs : List (K × Value)} {row : Row K} (h : RowV kvs row) (g : K) : (valueAt kvs g = none ∧ row.find? (fun r => decide (r.1 = g)) = none) ∨ ∃ c u, valueAt kvs g = some (.int (c : Nat) u) ∧ row.find? (fun r => decide (r.1 = g)) = some (g, c) := by
  induction h with
  | nil => exact .inl ⟨rfl, rfl⟩
  | @cons k c u kvs row h ih =>
    by_cases e : k = g
    · subst e; exact .inr ⟨c, u, by simp [valueAt], by simp⟩
    · unfold valueAt at ih ⊢
      simpa [e] using ih
theorem RowV.set {kvs : List (K × Value)} {row : Row K} (h : RowV kvs row) (hn : (kvs.map (·.1)).Nodup) (g : K) (u : Tok) : RowV (stored kvs g (.int (cntR row g + 1 : Nat) u)) (bumpR row g) := by
  unfold stored bumpR
  rw [h.any g]
  split
  · rename_i hany
    have key : ∀ {kvs : List (K × Value)} {row : Row K}, RowV kvs row → (kvs.map (·.1)).Nodup → ∀ c, (∀ r ∈ row, r.1 = g → r.2 + 1 = c) → RowV (kvs.map fun kv => if kv.1 = g then (kv.1, .int (c : Nat) u) else kv) (row.map fun r => if r.1 = g then (r.1, r.2 + 1) else r) := by
      intro kvs row h
      induction h with
      | nil => intro _ c _; exact .nil
      | @cons k c' u' kvs row h ih =>
        intro hn c hc
        rw [List.map_cons, List.nodup_cons] at hn
        have := ih hn.2 c fun r hr => hc r (.tail _ hr)
        by_cases e : k = g
        · have e2 := hc (k, c') (.head _) e
          simp only at e2
          simp only [List.map_cons, e, if_true]
          rw [e2]; exact .cons this
        · simp only [List.map_cons, e, if_false]
          exact .cons this
    refine key h hn _ fun r hr e => ?_
    have hrn : (row.map (·.1)).Nodup := h.keys ▸ hn
    have : row.find? (fun r => decide (r.1 = g)) = some r := by
      clear h hany hn key
      induction row with
      | nil => cases hr
      | cons x row ih =>
        rw [List.map_cons, List.nodup_cons] at hrn
        rcases List.mem_cons.mp hr with rfl | hr
        · simp [e]
        · have hx : x.1 ≠ g := fun q => hrn.1 (by rw [q, ← e]; exact List.mem_map_of_mem hr)
          simp [List.find?_cons, hx, ih hr hrn.2]
    unfold cntR
    rw [this]; rfl
  · rename_i hany
    refine h.app ?_
    have : row.find? (fun r => decide (r.1 = g)) = none := by
      rw [List.find?_eq_none]
      intro x hx hc
      exact hany (List.any_eq_true.mpr ⟨x, hx, hc⟩)
    unfold cntR
    rw [this]
    exact .cons .nil

structure VTab {w : World} (dk : DK w K) (led : List (Addr × Obj)) (Dv : Addr) (ov : Obj) (tb : TB K) : Prop where
  inl : (Dv, ov) ∈ led
  main : dk.DO led ov (tb.map fun t => (t.1, .ref t.2.1))
  rows : ∀ t ∈ tb, ∃ o kvs, (t.2.1, o) ∈ led ∧ dk.DO led o kvs ∧ RowV kvs t.2.2
  ne : ∀ t ∈ tb, t.2.1 ≠ Dv ∧ (t.2.1 == sysModules) = false
  nd : (tb.map (·.2.1)).Nodup
  lo : (Dv == sysModules) = false
theorem VTab.sub {w : World} {dk : DK w K} {led led' : List (Addr × Obj)} {Dv : Addr} {ov : Obj} {tb : TB K} (V : VTab dk led Dv ov tb) (hs : ∀ p ∈ led, p ∈ led') : VTab dk led' Dv ov tb :=
  ⟨hs _ V.inl, dk.monoD (fun p hp _ => hs p hp) V.main, fun t ht => let ⟨o, kvs, m, d, r⟩ := V.rows t ht; ⟨o, kvs, hs _ m, dk.monoD (fun p hp _ => hs p hp) d, r⟩, V.ne, V.nd, V.lo⟩
theorem VTab.keys {w : World} {dk : DK w K} {led : List (Addr × Obj)} {Dv : Addr} {ov : Obj} {tb : TB K} (V : VTab dk led Dv ov tb) : (tb.map (·.1)).Nodup := by
  have := dk.nodup V.main
  rwa [List.map_map] at this
theorem VTab.row {w : World} {dk : DK w K} {h : Heap} {led : List (Addr × Obj)} {Dv a : Addr} {ov o o' : Obj} {tb : TB K} {f g : K} {row : Row K} {kvs : List (K × Value)} {u : Tok} (V : VTab dk led Dv ov tb) (L : Led h led) (ht : (f, a, row) ∈ tb) (m : (a, o) ∈ led) (c : dk.DO led o kvs) (r : RowV kvs row)
    (d : dk.DO led o' (stored kvs g (.int (cntR row g + 1 : Nat) u))) : VTab dk (updL a o' led) Dv ov (bumpT tb f g) := by
  have mono := updL_tup (o' := o') L m (dk.cls c)
  have hkeys := V.keys
  have addr : (bumpT tb f g).map (fun t => (t.1, Value.ref t.2.1)) = tb.map fun t => (t.1, .ref t.2.1) := by
    unfold bumpT
    rw [List.map_map]
    refine List.map_congr_left fun t _ => ?_
    simp only [Function.comp]
    split <;> rfl
  refine ⟨updL_mem V.inl (V.ne _ ht).1.symm, by rw [addr]; exact dk.monoD mono V.main, ?_, ?_, ?_, V.lo⟩
  · intro t' ht'
    obtain ⟨t, ht0, rfl⟩ := List.mem_map.mp ht'
    by_cases e : t.1 = f
    · rw [if_pos e]
      have : t = (f, a, row) := by
        have := nodup_inj (f := (·.1)) hkeys ht0 ht e
        exact this
      subst this
      exact ⟨o', _, updL_self m, dk.monoD mono d, r.set (dk.nodup c) g u⟩
    · rw [if_neg e]
      obtain ⟨o2, k2, m2, d2, r2⟩ := V.rows t ht0
      refine ⟨o2, k2, updL_mem m2 fun q => ?_, dk.monoD mono d2, r2⟩
      have := nodup_inj (f := fun t : K × Addr × Row K => t.2.1) V.nd ht0 ht q
      rw [this] at e; exact e rfl
  · intro t' ht'
    obtain ⟨t, ht0, rfl⟩ := List.mem_map.mp ht'
    split
    · exact V.ne t ht0
    · exact V.ne t ht0
  · have : (bumpT tb f g).map (fun t => t.2.1) = tb.map fun t => t.2.1 := by
      unfold bumpT
      rw [List.map_map]
      refine List.map_congr_left fun t _ => ?_
      simp only [Function.comp]
      split <;> rfl
    rw [this]; exact V.nd
end

section
variable {K : Type} [DecidableEq K]
theorem cntR_none {row : Row K} {g : K} (h : ¬ (row.any fun r => decide (r.1 = g)) = true) : row.find? (fun r => decide (r.1 = g)) = none := by
  rw [List.find?_eq_none]
  intro x hx hc
  exact h (List.any_eq_true.mpr ⟨x, hx, hc⟩)
theorem cntR_bump (row : Row K) (g g' : K) : cntR (bumpR row g) g' = cntR row g' + if g' = g then 1 else 0 := by
  unfold bumpR
  split
  · rename_i hany
    unfold cntR
    have e : ((fun r : K × Nat => decide (r.1 = g')) ∘ fun r : K × Nat => if r.1 = g then (r.1, r.2 + 1) else r) = fun r => decide (r.1 = g') := by
      funext r; simp only [Function.comp]; split <;> rfl
    rw [List.find?_map, e]
    cases hf : row.find? (fun r => decide (r.1 = g')) with
    | none =>
      have : g' ≠ g := by
        rintro rfl
        obtain ⟨x, hx, hc⟩ := List.any_eq_true.mp hany
        have := List.find?_eq_none.mp hf x hx
        exact this hc
      rw [if_neg this]; rfl
    | some r =>
      have hr : r.1 = g' := by simpa using List.find?_some hf
      simp only [Option.map_some, Option.getD_some]
      by_cases h : g' = g
      · rw [if_pos h, if_pos (hr.trans h)]
      · rw [if_neg h, if_neg (fun q => h (hr.symm.trans q))]; rfl
  · rename_i hany
    unfold cntR
    rw [List.find?_append]
    by_cases h : g' = g
    · subst h
      rw [cntR_none hany]; simp
    · have : List.find? (fun r : K × Nat => decide (r.1 = g')) [(g, 1)] = none := by simp [Ne.symm h]
      rw [this, if_neg h]; simp

noncomputable def Opened (tb : TB K) (f : K) (tb0 : TB K) (a : Addr) (row : Row K) : Prop := (tb0 = tb ∧ (f, a, row) ∈ tb) ∨ (tb0 = tb ++ [(f, a, [])] ∧ row = [] ∧ f ∉ tb.map (·.1))
theorem Opened.mem {tb tb0 : TB K} {f : K} {a : Addr} {row : Row K} (h : Opened tb f tb0 a row) : (f, a, row) ∈ tb0 := by
  rcases h with ⟨rfl, h⟩ | ⟨rfl, rfl, _⟩
  · exact h
  · simp
structure Tally (bs : List (K × K)) (tb : TB K) : Prop where
  cnt : ∀ t ∈ tb, ∀ g, bs.count (t.1, g) = cntR t.2.2 g
  out : ∀ f, f ∉ tb.map (·.1) → ∀ g, bs.count (f, g) = 0
  pos : ∀ t ∈ tb, t.2.2 ≠ [] ∧ ∀ r ∈ t.2.2, 0 < r.2
  len : tb.length ≤ bs.length ∧ ∀ t ∈ tb, t.2.2.length ≤ bs.length
theorem bumpR_ne (row : Row K) (g : K) : bumpR row g ≠ [] := by
  unfold bumpR
  split
  · rename_i h
    obtain ⟨x, hx, _⟩ := List.any_eq_true.mp h
    intro e
    rw [List.map_eq_nil_iff] at e
    rw [e] at hx; cases hx
  · simp
theorem bumpR_pos {row : Row K} {g : K} (h : ∀ r ∈ row, 0 < r.2) : ∀ r ∈ bumpR row g, 0 < r.2 := by
  unfold bumpR
  split
  · intro r hr
    obtain ⟨x, hx, rfl⟩ := List.mem_map.mp hr
    have := h x hx
    split
    · exact Nat.succ_pos _
    · exact this
  · intro r hr
    rcases List.mem_append.mp hr with hr | hr
    · exact h r hr
    · simp only [List.mem_singleton] at hr; subst hr; exact Nat.one_pos
theorem bumpR_len (row : Row K) (g : K) : (bumpR row g).length ≤ row.length + 1 := by
  unfold bumpR
  split <;> simp
theorem Tally.step {bs : List (K × K)} {tb tb0 : TB K} {f g : K} {a : Addr} {row : Row K} (T : Tally bs tb) (hk : (tb.map (·.1)).Nodup) (O : Opened tb f tb0 a row) : Tally (bs ++ [(f, g)]) (bumpT tb0 f g) := by
  have count : ∀ f' g', (bs ++ [(f, g)]).count (f', g') = bs.count (f', g') + if f' = f ∧ g' = g then 1 else 0 := by
    intro f' g'
    rw [List.count_append]
    congr 1
    by_cases h : f' = f ∧ g' = g
    · rw [if_pos h, h.1, h.2]; simp
    · rw [if_neg h]
      rw [List.count_eq_zero]
      simp only [List.mem_singleton, Prod.mk.injEq]
      exact h
  -- what stands in the opened table
  have old : ∀ t ∈ tb0, (∀ g', bs.count (t.1, g') = cntR t.2.2 g') ∧ (∀ r ∈ t.2.2, 0 < r.2) ∧ (t.1 ≠ f → t.2.2 ≠ []) ∧ t.2.2.length ≤ bs.length := by
    rcases O with ⟨rfl, _⟩ | ⟨rfl, rfl, hn⟩
    · exact fun t ht => ⟨T.cnt t ht, (T.pos t ht).2, fun _ => (T.pos t ht).1, T.len.2 t ht⟩
    · intro t ht
      rcases List.mem_append.mp ht with ht | ht
      · exact ⟨T.cnt t ht, (T.pos t ht).2, fun _ => (T.pos t ht).1, T.len.2 t ht⟩
      · simp only [List.mem_singleton] at ht; subst ht
        exact ⟨fun g' => T.out f hn g', (fun _ h => nomatch h), fun h => absurd rfl h, Nat.zero_le _⟩
  have keys : (bumpT tb0 f g).map (·.1) = tb0.map (·.1) := by
    unfold bumpT
    rw [List.map_map]
    refine List.map_congr_left fun t _ => ?_
    simp only [Function.comp]
    split <;> rfl
  refine ⟨fun t' ht' g' => ?_, fun f' hf' g' => ?_, fun t' ht' => ?_, ?_, fun t' ht' => ?_⟩
  · obtain ⟨t, ht, rfl⟩ := List.mem_map.mp ht'
    rw [count]
    by_cases e : t.1 = f
    · simp only [e, if_true, true_and]
      rw [cntR_bump, ← (old t ht).1 g', e]
    · simp only [e, if_false, false_and]
      rw [(old t ht).1 g']; rfl
  · rw [keys] at hf'
    rw [count]
    have hff : f' ≠ f := fun e => hf' (e ▸ List.mem_map_of_mem (f := fun t : K × Addr × Row K => t.1) O.mem)
    rw [if_neg (fun h => hff h.1)]
    refine T.out f' (fun h => hf' ?_) g'
    rcases O with ⟨rfl, _⟩ | ⟨rfl, _, _⟩
    · exact h
    · rw [List.map_append]; exact List.mem_append_left _ h
  · obtain ⟨t, ht, rfl⟩ := List.mem_map.mp ht'
    by_cases e : t.1 = f
    · rw [if_pos e]
      exact ⟨bumpR_ne _ _, bumpR_pos (old t ht).2.1⟩
    · rw [if_neg e]
      exact ⟨(old t ht).2.2.1 e, (old t ht).2.1⟩
  · rw [List.length_append, List.length_singleton]
    have : (bumpT tb0 f g).length = tb0.length := by simp [bumpT]
    rw [this]
    have hT := T.len.1
    rcases O with ⟨rfl, _⟩ | ⟨rfl, _, _⟩
    · exact Nat.le_succ_of_le hT
    · rw [List.length_append, List.length_singleton]; exact Nat.succ_le_succ hT
  · obtain ⟨t, ht, rfl⟩ := List.mem_map.mp ht'
    rw [List.length_append, List.length_singleton]
    have h1 := (old t ht).2.2.2
    split
    · have := bumpR_len t.2.2 g
      show (bumpR t.2.2 g).length ≤ _
      exact Nat.le_trans this (Nat.succ_le_succ h1)
    · exact Nat.le_succ_of_le h1
theorem Tally.nil : Tally (K := K) [] [] := ⟨(fun _ h => nomatch h), (fun _ _ _ => rfl), (fun _ h => nomatch h), Nat.le_refl _, (fun _ h => nomatch h)⟩
end

section
variable {w : World} {K : Type} [DecidableEq K] {dk : DK w K} {A : Around} {E : Value → Shared → Prop} {s : Shared} {h₀ : Heap} {L Dv D a : Addr} {m : Str → Option Value} {news led : List (Addr × Obj)} {ov : Obj} {tb : TB K} {f g : K} {key : Value} {row : Row K}
theorem Rm.units1 {A : Around} {k : Nat} (R : Rm A k) : A.units + 1 < cLine := by
  have h := R.hu; unfold cLine
  exact Nat.lt_trans (Nat.lt_of_le_of_lt (Nat.add_le_add_right (Nat.le_add_right _ (4 * k)) 1) (Nat.succ_lt_succ h)) (by decide)
theorem updL_id {h : Heap} {d : Addr} {o : Obj} {led : List (Addr × Obj)} (L : Led h led) (m : (d, o) ∈ led) : updL d o led = led := by
  unfold updL
  conv => rhs; rw [← List.map_id led]
  refine List.map_congr_left fun p hp => ?_
  split
  · rename_i e
    have h1 := L _ hp
    rw [e, L _ m] at h1
    have := Option.some.inj h1
    exact Prod.ext e.symm this
  · rfl
theorem newsLed {h₀ h : Heap} {L : Addr} {news led : List (Addr × Obj)} (N : News h₀ L h news) (hs : ∀ p ∈ led, p ∈ news) : Led h led := fun p hp => (N p (hs p hp)).1
theorem updL_sub {d : Addr} {o' : Obj} {led news : List (Addr × Obj)} (hs : ∀ p ∈ led, p ∈ news) : ∀ p ∈ updL d o' led, p ∈ updL d o' news := fun p hp => by
  obtain ⟨q, hq, rfl⟩ := List.mem_map.mp hp
  exact List.mem_map.mpr ⟨q, hs q hq, rfl⟩
theorem setdefN {k : Nat} {Q : Value → Shared → Prop} (F : Fr h₀ L s.heap m) (N : News h₀ L s.heap news) (hs0 : ∀ p ∈ led, p ∈ news) (R : Rm A k) (V : VTab dk led Dv ov tb) (hk : dk.KeyIn led f key) (hz : tb.length ≤ 1000000)
    (hD : (D, ({ cls := .type "dict", data := .dict #[] } : Obj)) ∈ led) (lo : (D == sysModules) = false) (ne : D ≠ Dv) (nt : ∀ t ∈ tb, t.2.1 ≠ D)
    (h : ∀ a row tb0 ov' h' tk, Opened tb f tb0 a row → VTab dk (updL Dv ov' led) Dv ov' tb0 → Fr h₀ L h' m → News h₀ L h' (updL Dv ov' news) → Q (.ref a) { s with heap := h', toks := tk }) :
    wpAny (model PR w) A (call (.builtin "dict.setdefault") [.ref Dv, key, .ref D]) Q E s := by
  have NL := newsLed N hs0
  have hDv := N _ (hs0 _ V.inl)
  refine dk.setdef R.units1 NL V.inl V.main V.lo hk (by simpa using hz) (fun v tk hv => ?_) fun hn h' o' tk e hs d => ?_
  · obtain ⟨t, ht, rfl, rfl⟩ : ∃ t ∈ tb, t.1 = f ∧ v = .ref t.2.1 := by
      unfold valueAt at hv
      obtain ⟨kv, h1, h2⟩ := Option.map_eq_some_iff.mp hv
      have h3 := List.mem_of_find?_eq_some h1
      obtain ⟨t, ht, rfl⟩ := List.mem_map.mp h3
      exact ⟨t, ht, by simpa using List.find?_some h1, h2.symm⟩
    refine h t.2.1 t.2.2 tb ov s.heap tk (.inl ⟨rfl, ht⟩) ?_ F ?_
    · rw [updL_id NL V.inl]; exact V
    · rw [updL_id (News.led N) (hs0 _ V.inl)]; exact N
  · have hnot : f ∉ tb.map (·.1) := by
      intro hm
      obtain ⟨t, ht, e⟩ := List.mem_map.mp hm
      unfold valueAt at hn
      rw [Option.map_eq_none_iff, List.find?_eq_none] at hn
      exact hn _ (List.mem_map_of_mem ht) (by simpa using e)
    have hst : stored (tb.map fun t => (t.1, Value.ref t.2.1)) f (.ref D) = (tb ++ [(f, D, ([] : Row K))]).map fun t : K × Addr × Row K => (t.1, Value.ref t.2.1) := by
      unfold stored
      rw [if_neg, List.map_append]
      · rfl
      · intro hc
        obtain ⟨x, hx, hc⟩ := List.any_eq_true.mp hc
        obtain ⟨t, ht, rfl⟩ := List.mem_map.mp hx
        exact hnot (List.mem_map.mpr ⟨t, ht, of_decide_eq_true hc⟩)
    rw [hst] at d
    have mono := updL_tup (o' := o') NL V.inl (dk.cls V.main)
    refine h D [] (tb ++ [(f, D, [])]) o' h' tk (.inr ⟨rfl, rfl, hnot⟩) ⟨updL_self V.inl, dk.monoD mono d, ?_, ?_, ?_, V.lo⟩ (frBut F (fun b o hb e => hs.extBut b o hb e) hDv.2.2 hDv.2.1.symm) (updL_news N hs e)
    · intro t ht
      rcases List.mem_append.mp ht with ht | ht
      · obtain ⟨o, kvs, m1, d1, r1⟩ := V.rows t ht
        exact ⟨o, kvs, updL_mem m1 (V.ne t ht).1, dk.monoD mono d1, r1⟩
      · simp only [List.mem_singleton] at ht; subst ht
        exact ⟨_, [], updL_mem hD ne, dk.empty, .nil⟩
    · intro t ht
      rcases List.mem_append.mp ht with ht | ht
      · exact V.ne t ht
      · simp only [List.mem_singleton] at ht; subst ht; exact ⟨ne, lo⟩
    · rw [List.map_append, List.nodup_append]
      refine ⟨V.nd, by simp, ?_⟩
      intro x hx y hy
      simp only [List.map_cons, List.map_nil, List.mem_singleton] at hy
      subst hy
      obtain ⟨t, ht, rfl⟩ := List.mem_map.mp hx
      exact nt t ht
theorem rowGetN {k : Nat} {t0 : Tok} {Q : Value → Shared → Prop} (N : News h₀ L s.heap news) (hs0 : ∀ p ∈ led, p ∈ news) (R : Rm A k) (V : VTab dk led Dv ov tb) (ht : (f, a, row) ∈ tb) (hk : dk.KeyIn led g key)
    (h : ∀ u tk, Q (.int (cntR row g : Nat) u) { s with toks := tk }) : wpAny (model PR w) A (call (.builtin "dict.get") [.ref a, key, .int 0 t0]) Q E s := by
  have NL := newsLed N hs0
  obtain ⟨o, kvs, m1, d1, r1⟩ := V.rows _ ht
  refine dk.getD R.units1 NL m1 d1 (V.ne _ ht).2 hk fun tk => ?_
  rcases r1.at g with ⟨e1, e2⟩ | ⟨c, u, e1, e2⟩
  · rw [e1]
    have := h t0 tk
    unfold cntR at this
    rw [e2] at this; exact this
  · rw [e1]
    have := h u tk
    unfold cntR at this
    rw [e2] at this; exact this
theorem rowSetN {k : Nat} {i : Int} {u : Tok} {Q : Unit → Shared → Prop} (F : Fr h₀ L s.heap m) (N : News h₀ L s.heap news) (hs0 : ∀ p ∈ led, p ∈ news) (R : Rm A k) (V : VTab dk led Dv ov tb) (ht : (f, a, row) ∈ tb) (hk : dk.KeyIn led g key) (hz : row.length ≤ 1000000) (hi : i = ((cntR row g + 1 : Nat) : Int))
    (h : ∀ o' h' tk, VTab dk (updL a o' led) Dv ov (bumpT tb f g) → Fr h₀ L h' m → News h₀ L h' (updL a o' news) → Q () { s with heap := h', toks := tk }) : wpAny (model PR w) A (setItem (.ref a) key (.int i u)) Q E s := by
  subst hi
  have NL := newsLed N hs0
  obtain ⟨o, kvs, m1, d1, r1⟩ := V.rows _ ht
  have hm := N _ (hs0 _ m1)
  refine dk.set R.units1 NL m1 d1 hk (by rw [r1.length]; exact hz) fun h' o' tk e hs d => ?_
  exact h o' h' tk (V.row NL ht m1 d1 r1 d) (frBut F (fun b o hb e => hs.extBut b o hb e) hm.2.2 hm.2.1.symm) (updL_news N hs e)
end
inductive WE (h₀ : Heap) (L : Addr) (s : Shared) (k : Nat) (Inv : Nat → (Str → Option Value) → List (Addr × Obj) → Prop) (s₃ : Shared) : Prop
  | mk (n' : Nat) (h' : Heap) (tk' : Nat) (m' : Str → Option Value) (news' : List (Addr × Obj)) (hn : n' < k) (e : s₃ = { s with heap := h', toks := tk' }) (F : Fr h₀ L h' m') (N : News h₀ L h' news') (j : Inv n' m' news') : WE h₀ L s k Inv s₃
inductive WI (h₀ : Heap) (L : Addr) (s : Shared) (Inv : Nat → (Str → Option Value) → List (Addr × Obj) → Prop) (n : Nat) (s' : Shared) : Prop
  | mk (h : Heap) (tk : Nat) (m : Str → Option Value) (news : List (Addr × Obj)) (e : s' = { s with heap := h, toks := tk }) (F : Fr h₀ L h m) (N : News h₀ L h news) (j : Inv n m news) : WI h₀ L s Inv n s'
section
variable {prog : Program} {w : World} {A : Around} {E : Value → Shared → Prop} {s : Shared} {h₀ : Heap} {L : Addr} {m : Str → Option Value} {news : List (Addr × Obj)}
theorem eqAt_bytes {b c : By} {t u : Tok} : PySem.SeqAt.EqAt A s (.bytes b.toArray t) (.bytes c.toArray u) (decide (b = c)) := fun prog w E Q h => eqBool_bytes (by simpa using h)
noncomputable def itemEq (ps qs : List By) (j : Nat) : Bool := decide (ps[j]? = qs[j]?)
theorem itemEq_all {ps qs : List By} (h : ps.length = qs.length) : (List.range ps.length).all (itemEq ps qs) = decide (ps = qs) := by
  rw [Bool.eq_iff_iff]
  simp only [List.all_eq_true, List.mem_range, itemEq, decide_eq_true_eq]
  constructor
  · intro x
    apply List.ext_getElem? fun j => ?_
    rcases Nat.lt_or_ge j ps.length with hj | hj
    · exact x j hj
    · rw [List.getElem?_eq_none hj, List.getElem?_eq_none (h ▸ hj)]
  · rintro rfl j _; rfl
theorem BysAre.eqAt {xs ys : List Value} {ps qs : List By} (hx : BysAre xs ps) (hy : BysAre ys qs) (j : Nat) (h1 : j < xs.toArray.size) (h2 : j < ys.toArray.size) : PySem.SeqAt.EqAt A s xs.toArray[j] ys.toArray[j] (itemEq ps qs j) := by
  have l1 := hx.length
  have l2 := hy.length
  rw [List.size_toArray] at h1 h2
  have e1 : ps[j]? = some ps[j] := List.getElem?_eq_getElem (by omega)
  have e2 : qs[j]? = some qs[j] := List.getElem?_eq_getElem (by omega)
  obtain ⟨t, f1⟩ := hx.get e1
  obtain ⟨u, f2⟩ := hy.get e2
  rw [List.getElem?_eq_getElem h1] at f1
  rw [List.getElem?_eq_getElem h2] at f2
  rw [List.getElem_toArray, List.getElem_toArray, Option.some.inj f1, Option.some.inj f2]
  have : itemEq ps qs j = decide (ps[j] = qs[j]) := by unfold itemEq; rw [e1, e2]; simp
  rw [this]; exact eqAt_bytes
variable {a b : Addr} {xs ys : List Value} {ps qs : List By}
theorem eqL {k : Nat} {Q : Value → Shared → Prop} (ha : s.heap.IsList a xs.toArray) (hb : s.heap.IsList b ys.toArray) (hx : BysAre xs ps) (hy : BysAre ys qs) (R : Rm A k) (h : Q (.bool (decide (ps = qs))) s) : wpAny (model prog w) A (compareOp .Eq (.ref a) (.ref b)) Q E s := by
  have l1 := hx.length
  have l2 := hy.length
  by_cases hl : ps.length = qs.length
  · refine PySem.SeqAt.eq_listAt ha hb (by simp only [List.size_toArray]; (first | lia | omega)) R.units (hx.eqAt hy) ?_
    rw [List.size_toArray, l1, itemEq_all hl]; exact h
  · refine PySem.SeqAt.eq_list_lengthsAt ha hb (by simp only [List.size_toArray, bne_iff_ne, ne_eq]; (first | lia | omega)) R.units ?_
    rw [decide_eq_false (fun e => hl (by rw [e]))] at h; exact h
theorem neL {k : Nat} {Q : Value → Shared → Prop} (ha : s.heap.IsList a xs.toArray) (hb : s.heap.IsList b ys.toArray) (hx : BysAre xs ps) (hy : BysAre ys qs) (R : Rm A k) (h : Q (.bool (!decide (ps = qs))) s) : wpAny (model prog w) A (compareOp .NotEq (.ref a) (.ref b)) Q E s := by
  have l1 := hx.length
  have l2 := hy.length
  by_cases hl : ps.length = qs.length
  · refine PySem.SeqAt.RcNeAt.lists ha hb (by simp only [List.size_toArray]; (first | lia | omega)) R.units (hx.eqAt hy) prog w E Q ?_
    rw [List.size_toArray, l1, itemEq_all hl]; exact h
  · refine PySem.SeqAt.RcNeAt.lists_lengths ha hb (by simp only [List.size_toArray, bne_iff_ne, ne_eq]; (first | lia | omega)) R.units prog w E Q ?_
    rw [decide_eq_false (fun e => hl (by rw [e]))] at h; exact h
theorem notInT {x : By} {t : Tok} {Q : Value → Shared → Prop} (ha : s.heap.IsTuple a xs.toArray) (hx : BysAre xs ps) (h : Q (.bool (!decide (x ∈ ps))) s) : wpAny (model prog w) A (compareOp .NotIn (.bytes x.toArray t) (.ref a)) Q E s := by
  refine PySem.SeqAt.notIn_tupleAt (fun v => match v with | .bytes b _ => decide (b.toList = x) | _ => false) ha (fun y hy => ?_) ?_
  · have hy2 : y ∈ xs := by simpa using hy
    have : ∃ p u, y = .bytes (List.toArray p) u := by
      clear h ha hy
      induction hx with
      | nil => cases hy2
      | cons _ ih =>
        rcases List.mem_cons.mp hy2 with rfl | hy
        · exact ⟨_, _, rfl⟩
        · exact ih hy
    obtain ⟨p, u, rfl⟩ := this
    exact eqAt_bytes (A := A.in1) (s := s) (b := p) (c := x) (t := u) (u := t)
  · have : (xs.toArray.any fun v => match v with | .bytes b _ => decide (b.toList = x) | _ => false) = decide (x ∈ ps) := by
      rw [List.any_toArray]
      clear h ha
      induction hx with
      | nil => rfl
      | @cons p u vs ps _ ih =>
        rw [List.any_cons, ih]
        show (decide (p = x) || decide (x ∈ ps)) = _
        by_cases e : p = x
        · subst e; simp
        · have e' : ¬ x = p := fun q => e q.symm
          simp [e, e']
    rw [this]; exact h
theorem lastL {value slice : PySem.Expr} {ops : List Value} {v : Value} {u : Tok} {Q : Value → Shared → Prop} (hl : s.heap.IsList a (xs ++ [v]).toArray) (hz : xs.length ≤ 1000000) (h : Q v s)
    (hs : subscripted slice false (.ref a) (.int (-1) u) = operate ops (getItem (.ref a) (.int (-1) u))) : wpAny (model prog w) A (subscriptTail value slice (.ref a) (.int (-1) u)) Q E s := by
  refine subT hl.typeIs list_getitem_lookup (wpAny_getItem_list_neg (k := -1) hl (by decide) (by simp only [List.size_toArray, List.length_append, List.length_singleton]; (first | lia | omega)) (by decide) (x := v) ?_ h) hs
  simp only [List.size_toArray, List.length_append, List.length_singleton]
  rw [show ((-1 : Int) + ((xs.length + 1 : Nat) : Int)).toNat = xs.length by (first | lia | omega)]
  simp
theorem tupleN {Q : Value → Shared → Prop} (F : Fr h₀ L s.heap m) (N : News h₀ L s.heap news) (hl : s.heap.IsList a xs.toArray) (hz : xs.length ≤ 1000000)
    (h : ∀ D h', Fr h₀ L h' m → News h₀ L h' ((D, tupOf xs) :: news) → (∀ p ∈ news, p.1 ≠ D) → Q (.ref D) { s with heap := h' }) : wpAny (model prog w) A (call (.type "tuple") [.ref a]) Q E s := by
  refine call_tuple_list hl (fun h' k => ?_) (by rw [List.size_toArray, sizeLine_eq]; (first | lia | omega))
  have F' := frK F k
  have N' := newsK N k
  exact h _ _ (F'.push _) (N'.push F' _) fun p hp => Nat.ne_of_lt (Heap.lt_size (N' p hp).1)
theorem dictN {env : Env} {pos : Pos} {Q : Value → Shared → Prop} (F : Fr h₀ L s.heap m) (N : News h₀ L s.heap news) (B : Base w h₀)
    (h : ∀ D h', Fr h₀ L h' m → News h₀ L h' ((D, { cls := .type "dict", data := .dict #[] }) :: news) → (∀ p ∈ news, p.1 ≠ D) → (D == sysModules) = false → Q (.ref D) { s with heap := h' }) : wpAny (model prog w) A (eval (.Dict [] [] pos) env) Q E s := by
  obtain ⟨mg, mb, T⟩ := B.T
  exact wpAny_Dict_empty (h _ _ (F.push _) (N.push F _) (fun p hp => Nat.ne_of_lt (Heap.lt_size (N p hp).1)) (F.notModules (modules_low T.nolimit)))
theorem methD {d : Addr} {o : Obj} {name : Str} {id : String} {pl : Sem Bool} {Q : Value × List Value → Shared → Prop} (N : News h₀ L s.heap news) (hm : (d, o) ∈ news) (c : o.ExactDict) (slot : Slot "dict" name id) (ty : typeOf (.builtin id) = pure (.type "method_descriptor"))
    (h : Q (.builtin id, [.ref d]) s) : wpAny (model prog w) A (getMethod (.ref d) name pl) Q E s :=
  getMethod_builtin ⟨o, (N _ hm).1, c.1⟩ PySem.F.plainAttrs_dict slot ty (fun a e => by injection e with e; subst e; exact ⟨o, (N _ hm).1, c.2.1⟩) h

theorem whileW {env : Env} {test : PySem.Expr} {body : List Stmt} {pos : Pos} {Q : Flow → Shared → Prop} (Inv : Nat → (Str → Option Value) → List (Addr × Obj) → Prop) (n : Nat) (F : Fr h₀ L s.heap m) (N : News h₀ L s.heap news) (hI : Inv n m news)
    (turn : ∀ n m news h tk (EE : Value → Shared → Prop), Inv n m news → Fr h₀ L h m → News h₀ L h news →
      wpAny (model prog w) A (isTrue test env (eval test env)) (fun b s₂ => if b = true then wpAny (model prog w) A (execs body env) (fun f s₃ => match f with
          | .next | .cont => WE h₀ L s n Inv s₃
          | .brk => Q .next s₃
          | .ret v => Q (.ret v) s₃) EE s₂
        else Q .next s₂) EE { s with heap := h, toks := tk }) :
    wpAny (model prog w) A (exec (.While test body [] pos) env) Q E s := by
  refine wpAny_While (codeAny_whileLoop (WI h₀ L s Inv) ?_ n ⟨s.heap, s.toks, m, news, rfl, F, N, hI⟩)
  rintro n s' ⟨h, tk, m, news, rfl, F, N, hI⟩
  refine wpAny_mono (turn n m news h tk _ hI F N) (fun b s₂ h₂ => ?_) fun _ _ e => e
  cases b with
  | true =>
    rw [if_pos rfl] at h₂
    refine wpAny_mono h₂ (fun f s₃ h₃ => ?_) fun _ _ e => e
    cases f with
    | next => obtain ⟨n', h', tk', m', news', hlt, rfl, F', N', hI'⟩ := h₃; exact ⟨n', hlt, h', tk', m', news', rfl, F', N', hI'⟩
    | cont => obtain ⟨n', h', tk', m', news', hlt, rfl, F', N', hI'⟩ := h₃; exact ⟨n', hlt, h', tk', m', news', rfl, F', N', hI'⟩
    | brk => exact h₃
    | ret v => exact h₃
  | false =>
    rw [if_neg (by decide)] at h₂
    exact wpAny_execs_nil h₂
theorem varEq {x : Str} {v : Value} {r : Option Value} : (if x = x then some v else r) = some v := if_pos rfl
theorem varNe {x y : Str} {u v : Value} {r : Option Value} (h : x ≠ y) (k : r = some v) : (if x = y then some u else r) = some v := (if_neg h).trans k
end

noncomputable def ChgAt (h : Heap) (x : Addr) (c : Chg) : Prop := ∃ dx es n, h.get? x = some (instObj 112 dx) ∧ h.get? dx = some (dictOf es n) ∧ ChgIs es c ∧ ChgOk c
inductive ChgsAt (h : Heap) : List Value → List Chg → Prop
  | nil : ChgsAt h [] []
  | cons {x : Addr} {c : Chg} {vs : List Value} {cs : List Chg} : ChgAt h x c → ChgsAt h vs cs → ChgsAt h (.ref x :: vs) (c :: cs)
theorem ChgAt.keep {h h' : Heap} {x : Addr} {c : Chg} (k : Keeps h h') (C : ChgAt h x c) : ChgAt h' x c := let ⟨dx, es, n, a, b, r⟩ := C; ⟨dx, es, n, k _ _ a, k _ _ b, r⟩
theorem ChgsAt.keep {h h' : Heap} {vs : List Value} {cs : List Chg} (k : Keeps h h') (C : ChgsAt h vs cs) : ChgsAt h' vs cs := by induction C with | nil => exact .nil | cons c _ ih => exact .cons (c.keep k) ih
theorem ChgsAt.length {h : Heap} {vs : List Value} {cs : List Chg} (C : ChgsAt h vs cs) : vs.length = cs.length := by induction C with | nil => rfl | cons _ _ ih => simp [ih]
theorem ChgsAt.get {h : Heap} {vs : List Value} {cs : List Chg} (C : ChgsAt h vs cs) : ∀ {i : Nat} {v : Value}, vs[i]? = some v → ∃ x c, v = .ref x ∧ cs[i]? = some c ∧ ChgAt h x c := by
  induction C with
  | nil => intro i v h; simp at h
  | cons c _ ih =>
    intro i v h
    cases i with
    | zero => simp only [List.getElem?_cons_zero, Option.some.injEq] at h; subst h; exact ⟨_, _, rfl, rfl, c⟩
    | succ i => simpa using ih (by simpa using h)
theorem ChgsAt.rev {h : Heap} {vs : List Value} {cs : List Chg} (C : ChgsAt h vs cs) : ChgsAt h vs.reverse cs.reverse := by
  have app : ∀ {us ws : List Value} {as bs : List Chg}, ChgsAt h us as → ChgsAt h ws bs → ChgsAt h (us ++ ws) (as ++ bs) := by
    intro us ws as bs x y
    induction x with
    | nil => exact y
    | cons c _ ih => exact .cons c ih
  induction C with
  | nil => exact .nil
  | cons c _ ih => rw [List.reverse_cons, List.reverse_cons]; exact app ih (.cons c .nil)

section
variable {w : World} {A : Around} {E : Value → Shared → Prop} {s : Shared} {h₀ : Heap} {L x dx : Addr} {m : Str → Option Value} {es : List DictEntry} {n : Nat} {v : Value} {expr : Bool} {Q : Value → Shared → Prop}
theorem attrW (F : Fr h₀ L s.heap m) (B : Base w h₀) (hx : h₀.get? x = some (instObj 112 dx)) (hdx : h₀.get? dx = some (dictOf es n)) (hl : getL "word" es = some (some v)) (hv : handedIn v = true) (h : Q v { s with toks := s.toks + 1 }) : wpAny (model PR w) A (getAttr (.ref x) "word" expr) Q E s := by
  refine' get_own (K := hd.heap_39 w.params) F B.K ⟨F.keep _ _ hx, rfl, rfl, F.keep _ _ hdx⟩ ?a ?b ?c ?d hl hv h
  case a => k_is
  case b => k_is
  case c => k_is
  case d => k_is
theorem attrO (F : Fr h₀ L s.heap m) (B : Base w h₀) (hx : h₀.get? x = some (instObj 112 dx)) (hdx : h₀.get? dx = some (dictOf es n)) (hl : getL "old_path" es = some (some v)) (hv : handedIn v = true) (h : Q v { s with toks := s.toks + 1 }) : wpAny (model PR w) A (getAttr (.ref x) "old_path" expr) Q E s := by
  refine' get_own (K := hd.heap_39 w.params) F B.K ⟨F.keep _ _ hx, rfl, rfl, F.keep _ _ hdx⟩ ?a ?b ?c ?d hl hv h
  case a => k_is
  case b => k_is
  case c => k_is
  case d => k_is
theorem attrN (F : Fr h₀ L s.heap m) (B : Base w h₀) (hx : h₀.get? x = some (instObj 112 dx)) (hdx : h₀.get? dx = some (dictOf es n)) (hl : getL "new_path" es = some (some v)) (hv : handedIn v = true) (h : Q v { s with toks := s.toks + 1 }) : wpAny (model PR w) A (getAttr (.ref x) "new_path" expr) Q E s := by
  refine' get_own (K := hd.heap_39 w.params) F B.K ⟨F.keep _ _ hx, rfl, rfl, F.keep _ _ hdx⟩ ?a ?b ?c ?d hl hv h
  case a => k_is
  case b => k_is
  case c => k_is
  case d => k_is
theorem attrS (F : Fr h₀ L s.heap m) (B : Base w h₀) (hx : h₀.get? x = some (instObj 112 dx)) (hdx : h₀.get? dx = some (dictOf es n)) (hl : getL "score" es = some (some v)) (hv : handedIn v = true) (h : Q v { s with toks := s.toks + 1 }) : wpAny (model PR w) A (getAttr (.ref x) "score" expr) Q E s := by
  refine' get_own (K := hd.heap_39 w.params) F B.K ⟨F.keep _ _ hx, rfl, rfl, F.keep _ _ hdx⟩ ?a ?b ?c ?d hl hv h
  case a => k_is
  case b => k_is
  case c => k_is
  case d => k_is
end
section
variable {prog : Program} {w : World} {A : Around} {E : Value → Shared → Prop} {s : Shared} {x y : Str} {t u : Tok} {Q : Value → Shared → Prop}
theorem strDec : (x.cps.toList == y.cps.toList) = decide (x = y) := by
  rw [Bool.eq_iff_iff]
  simp only [beq_iff_eq, decide_eq_true_eq]
  constructor
  · intro h
    cases x; cases y
    congr 1
    exact Array.toList_inj.mp h
  · rintro rfl; rfl
theorem strEq (h : Q (.bool (decide (x = y))) s) : wpAny (model prog w) A (compareOp .Eq (.str x t) (.str y u)) Q E s := PySem.P.eq_str (by rw [strDec]; exact h)
theorem strNe (h : Q (.bool (!decide (x = y))) s) : wpAny (model prog w) A (compareOp .NotEq (.str x t) (.str y u)) Q E s := PySem.P.ne_str (by rw [bne, strDec]; exact h)
end
theorem neCls {h : Heap} {led : List (Addr × Obj)} {p q : Addr × Obj} (L : Led h led) (hp : p ∈ led) (hq : q ∈ led) (hc : p.2.cls ≠ q.2.cls) : p.1 ≠ q.1 := fun e => by
  have h1 := L _ hp
  rw [e, L _ hq] at h1
  exact hc (congrArg Obj.cls (Option.some.inj h1).symm)
theorem itemsAre {w : World} : ∀ {vs : List Value} {ps : List By}, BysAre vs ps → ItemsAre (bk w) ps vs
  | _, _, .nil => .nil
  | _, _, .cons h => .cons (bytesKind_is _ _ _ _) (itemsAre h)
theorem tupIn {w : World} {led : List (Addr × Obj)} {a : Addr} {vs : List Value} {ps : List By} (m : (a, tupOf vs) ∈ led) (h : BysAre vs ps) : (DT w).KeyIn led ps (.ref a) := ⟨a, rfl, _, m, rfl, _, _, rfl, itemsAre h⟩
theorem dropOne {vs : List Value} {ps : List By} (h : BysAre vs ps) : BysAre (kms_pick vs none (some (-1))) ps.dropLast := by
  have e : kms_pick vs none (some (-1)) = vs.take (vs.length - 1) := by
    unfold kms_pick kms_lo kms_hi; simp
  rw [e, List.dropLast_eq_take, ← h.length]
  exact h.take _
theorem dropOne_len {vs : List Value} {n : Nat} (h : vs.length ≤ n) : (kms_pick vs none (some (-1))).length ≤ n := by
  have e : kms_pick vs none (some (-1)) = vs.take (vs.length - 1) := by
    unfold kms_pick kms_lo kms_hi; simp
  rw [e, List.length_take]; exact Nat.le_trans (Nat.min_le_right _ _) h
theorem BysAre.snoc {vs : List Value} {ps : List By} (h : BysAre vs ps) (hne : ps ≠ []) : ∃ us qs x t, vs = us ++ [.bytes x.toArray t] ∧ ps = qs ++ [x] ∧ BysAre us qs := by
  induction h with
  | nil => exact absurd rfl hne
  | @cons x t vs ps h ih =>
    cases ps with
    | nil => cases h; exact ⟨[], [], x, t, rfl, rfl, .nil⟩
    | cons p ps =>
      obtain ⟨us, qs, y, u, e1, e2, h'⟩ := ih (by simp)
      exact ⟨_ :: us, x :: qs, y, u, by rw [e1]; rfl, by rw [e2]; rfl, .cons h'⟩

noncomputable def climbT : Nat → List By → List By → List (List By × List By)
  | 0, _, _ => []
  | n + 1, o, g => if o = g ∨ o = [] then [] else (o, g) :: (if g = [] ∨ o.getLast? ≠ g.getLast? then [] else climbT n o.dropLast g.dropLast)
noncomputable def climbB : Nat → By → By → List (By × By)
  | 0, _, _ => []
  | n + 1, o, g => if o = g ∨ o = [] then [] else (o, g) :: (if g = [] ∨ nameB o ≠ nameB g then [] else climbB n (folderB o) (folderB g))
theorem climbT_len : ∀ n o g, (climbT n o g).length ≤ n
  | 0, _, _ => Nat.le_refl _
  | n + 1, o, g => by
    unfold climbT
    split
    · simp
    · rw [List.length_cons]
      split
      · simp
      · exact Nat.succ_le_succ (climbT_len n _ _)
theorem climbT_stop {n : Nat} {o g : List By} (h : o = g ∨ o = []) : climbT n o g = [] := by
  cases n with
  | zero => rfl
  | succ n => unfold climbT; rw [if_pos h]
theorem climbT_last {n : Nat} {o g : List By} (h1 : o ≠ g) (h2 : o ≠ []) (h : g = [] ∨ o.getLast? ≠ g.getLast?) : climbT (n + 1) o g = [(o, g)] := by
  unfold climbT; rw [if_neg (by simp [h1, h2]), if_pos h]
theorem climbT_next {n : Nat} {o g : List By} (h1 : o ≠ g) (h2 : o ≠ []) (h3 : g ≠ []) (h : o.getLast? = g.getLast?) : climbT (n + 1) o g = (o, g) :: climbT n o.dropLast g.dropLast := by
  rw [climbT, if_neg (by simp [h1, h2]), if_neg (by simp [h3, h])]
theorem climbB_stop {n : Nat} {o g : By} (h : o = g ∨ o = []) : climbB n o g = [] := by
  cases n with
  | zero => rfl
  | succ n => unfold climbB; rw [if_pos h]
theorem climbB_last {n : Nat} {o g : By} (h1 : o ≠ g) (h2 : o ≠ []) (h : g = [] ∨ nameB o ≠ nameB g) : climbB (n + 1) o g = [(o, g)] := by
  unfold climbB; rw [if_neg (by simp [h1, h2]), if_pos h]
theorem climbB_next {n : Nat} {o g : By} (h1 : o ≠ g) (h2 : o ≠ []) (h3 : g ≠ []) (h : nameB o = nameB g) : climbB (n + 1) o g = (o, g) :: climbB n (folderB o) (folderB g) := by
  rw [climbB, if_neg (by simp [h1, h2]), if_neg (by simp [h3, h])]
noncomputable def partsOf (b : By) : List By := (splitP b).dropLast
noncomputable def bT (c : Chg) : List (List By × List By) := match c.old, c.new with
  | some o, some n => if c.word = Str.ofString "R" then climbT (partsOf o).length (partsOf o) (partsOf n) else []
  | _, _ => []
noncomputable def bB (c : Chg) : List (By × By) := match c.old, c.new with
  | some o, some n => if c.word = Str.ofString "R" then climbB (folderB o).length (folderB o) (folderB n) else []
  | _, _ => []
theorem GP.parts {b : By} (h : GP b) : (partsOf b).length ≤ 4 := by
  obtain ⟨ps, z, e, _, _, h4, _⟩ := h.split
  unfold partsOf; rw [e, List.dropLast_concat]; exact h4
theorem bT_len {c : Chg} (ok : ChgOk c) : (bT c).length ≤ 4 := by
  unfold bT
  split
  · rename_i o n eo en
    split
    · rename_i hw
      obtain ⟨o', n', e1, e2, g1, _⟩ := ok hw
      rw [eo] at e1; cases e1
      exact Nat.le_trans (climbT_len _ _ _) g1.parts
    · simp
  · simp
theorem bT_not {c : Chg} (h : c.word ≠ Str.ofString "R") : bT c = [] := by
  unfold bT; split
  · rw [if_neg h]
  · rfl
theorem bB_not {c : Chg} (h : c.word ≠ Str.ofString "R") : bB c = [] := by
  unfold bB; split
  · rw [if_neg h]
  · rfl
theorem folderB_len (b : By) : (folderB b).length ≤ b.length := by
  unfold folderB
  rcases lastCut_cases b with ⟨_, e⟩ | ⟨p, q, h, _, e⟩ <;> rw [e]
  · exact Nat.zero_le _
  · subst h; simp only [List.length_append, List.length_cons]; (first | lia | omega)
theorem folderB_lt {b : By} (h : b ≠ []) : (folderB b).length < b.length := by
  unfold folderB
  rcases lastCut_cases b with ⟨_, e⟩ | ⟨p, q, h, _, e⟩ <;> rw [e]
  · cases b with
    | nil => exact absurd rfl h
    | cons _ _ => simp
  · subst h; simp only [List.length_append, List.length_cons]; (first | lia | omega)
theorem flat_len {α : Type} {f : Chg → List α} {k : Nat} : ∀ {cs : List Chg}, (∀ c ∈ cs, (f c).length ≤ k) → (cs.flatMap f).length ≤ cs.length * k
  | [], _ => by simp
  | c :: cs, h => by
    rw [List.flatMap_cons, List.length_append, List.length_cons, Nat.succ_mul]
    have h1 := h c (.head _)
    have h2 := flat_len (cs := cs) fun x hx => h x (.tail _ hx)
    rw [Nat.add_comm]
    exact Nat.add_le_add h2 h1
theorem take_flat {α : Type} {f : Chg → List α} {cs : List Chg} {i : Nat} {c : Chg} (h : cs[i]? = some c) : (cs.take (i + 1)).flatMap f = (cs.take i).flatMap f ++ f c := by
  rw [List.take_add_one, h, List.flatMap_append]; simp
theorem ChgsAt.ok {h : Heap} {vs : List Value} {cs : List Chg} (C : ChgsAt h vs cs) : ∀ c ∈ cs, ChgOk c := by
  induction C with
  | nil => intro c hc; cases hc
  | cons c _ ih =>
    intro c' hc'
    rcases List.mem_cons.mp hc' with rfl | hc'
    · exact let ⟨_, _, _, _, _, _, ok⟩ := c; ok
    · exact ih c' hc'

inductive VoteBack (w : World) (s : Shared) (cs : List Chg) (v : Value) (h' : Heap) : Prop
  | mk (k : Keeps s.heap h') (Dv : Addr) (ov : Obj) (news : List (Addr × Obj)) (tb : TB (List By)) (L : Addr) (e : v = .ref Dv) (N : News s.heap L h' news) (V : VTab (DT w) news Dv ov tb) (T : Tally (cs.flatMap bT) tb) : VoteBack w s cs v h'
structure VInv (w : World) (I : Addr) (oI : Obj) (Dv : Addr) (total : List (List By × List By)) (k : Nat) (m : Str → Option Value) (nw : List (Addr × Obj)) (led : List (Addr × Obj)) (ov : Obj) (tb : TB (List By)) (bs : List (List By × List By)) (ao an : Addr) (vso vsn : List Value) (o g : List By) : Prop where
  mI : (I, oI) ∈ nw
  sub : ∀ p ∈ led, p ∈ nw
  nI : ∀ p ∈ led, p.1 ≠ I
  V : VTab (DT w) led Dv ov tb
  T : Tally bs tb
  tot : bs ++ climbT k o g = total
  len : o.length ≤ k
  mo : (ao, listOf vso.toArray 0) ∈ nw
  mn : (an, listOf vsn.toArray 0) ∈ nw
  ho : BysAre vso o
  hn : BysAre vsn g
  lo : vso.length ≤ 1001
  ln : vsn.length ≤ 1001
  vf : m (Str.ofString "found") = some (.ref Dv)
  vo : m (Str.ofString "old") = some (.ref ao)
  vn : m (Str.ofString "new") = some (.ref an)

inductive WT (w : World) (I : Addr) (oI : Obj) (Dv : Addr) (total : List (List By × List By)) (k : Nat) (m : Str → Option Value) (nw : List (Addr × Obj)) : Prop
  | mk (led : List (Addr × Obj)) (ov : Obj) (tb : TB (List By)) (bs : List (List By × List By)) (ao an : Addr) (vso vsn : List Value) (o g : List By) (X : VInv w I oI Dv total k m nw led ov tb bs ao an vso vsn o g) : WT w I oI Dv total k m nw
inductive JT (w : World) (Dv : Addr) (cs : List Chg) (i : Nat) (m : Str → Option Value) (news : List (Addr × Obj)) : Prop
  | mk (vf : m (Str.ofString "found") = some (.ref Dv)) (ov : Obj) (tb : TB (List By)) (V : VTab (DT w) news Dv ov tb) (T : Tally ((cs.take i).flatMap bT) tb) : JT w Dv cs i m news
theorem updPack {I d : Addr} {oI o' o : Obj} {nw led : List (Addr × Obj)} (mI : (I, oI) ∈ nw) (sub : ∀ p ∈ led, p ∈ nw) (nI : ∀ p ∈ led, p.1 ≠ I) (md : (d, o) ∈ led) :
    (I, oI) ∈ updL d o' nw ∧ (∀ p ∈ updL d o' led, p ∈ updL d o' nw) ∧ ∀ p ∈ updL d o' led, p.1 ≠ I :=
  ⟨updL_mem mI (fun e => nI _ md e.symm), updL_sub sub, fun p hp => let ⟨q, hq, e⟩ := updL_addr hp; e ▸ nI q hq⟩
theorem listNeDict : Value.type "list" ≠ Value.type "dict" := by decide
theorem updKeep {h : Heap} {d x : Addr} {o o' : Obj} {its : Array Value} {k : Nat} {nw : List (Addr × Obj)} (L : Led h nw) (m : (x, listOf its k) ∈ nw) (md : (d, o) ∈ nw) (c : o.cls = .type "dict") : (x, listOf its k) ∈ updL d o' nw :=
  updL_mem m (neCls L m md (by rw [c]; exact listNeDict))

theorem feEnd {h₀ h : Heap} {L I : Addr} {oI : Obj} {s₂ : Shared} {J : (Str → Option Value) → List (Addr × Obj) → Prop} {m : Str → Option Value} {nw led : List (Addr × Obj)} {tk : Nat} (F : Fr h₀ L h m) (N : News h₀ L h nw) (mI : (I, oI) ∈ nw) (sub : ∀ p ∈ led, p ∈ nw) (nI : ∀ p ∈ led, p.1 ≠ I) (j : J m led) :
    FE h₀ L I oI s₂ J { s₂ with heap := h, toks := tk } :=
  ⟨h, tk, m, led, rfl, F, fun p hp => N p (by rcases List.mem_cons.mp hp with rfl | hp; exact mI; exact sub p hp), nI, j⟩

theorem votes_spec {w : World} {A : Around} {s : Shared} {a : Addr} {vs : List Value} {cs : List Chg} (B : Base w s.heap) (Rr : Rm A 3) (hl : s.heap.IsList a vs.toArray) (C : ChgsAt s.heap vs cs) (hz : vs.length ≤ 10) :
    codeAny (model PR w) A (.call (.ref 175) ⟨[.ref a], []⟩) (Back s (VoteBack w s cs)) s := by
  refine' enter (binds := [(Str.ofString "changes", .ref a)]) B Rr ?ho ?hcd ?hb ?hl ?_ ?c1 ?c2 ?c3 ?c4
  case ho => k_is
  case hcd => k_is
  case hb => exact BindsTo.of_eq rfl
  case hl => exact locs rfl
  case c1 => exact rfl
  case c2 => exact rfl
  case c3 => exact rfl
  case c4 => decide
  intro h₁ F N0
  try k_extra "nt"
  rename Rm _ _ => R'
  have N : News s.heap s.heap.objs.size h₁ [] := News.nil
  have hfl : ∀ i, ((cs.take i).flatMap bT).length ≤ 40 := fun i => by
    have h1 := flat_len (f := bT) (k := 4) (cs := cs.take i) fun c hc => bT_len (C.ok c (List.mem_of_mem_take hc))
    have h2 : (cs.take i).length ≤ cs.length := by rw [List.length_take]; exact Nat.min_le_right _ _
    have h3 := C.length
    exact Nat.le_trans h1 (Nat.mul_le_mul_right 4 (Nat.le_trans h2 (h3 ▸ hz)))
  repeat k_extra "m"
  rename_i Dv h2 F2 N2 hDn lo h3 F3 N3 tk3
  refine forW (h₀ := s.heap) (L := s.heap.objs.size) rfl ?hx ?hp ?_ ?hs
  case hx => exact rfl
  case hp => exact rfl
  case hs => intro _; exact rfl
  repeat k_extra "m"
  try k_extra "nt"
  refine iterList R'.hh (listKeep hl F3.keep) fun I h4 St W st K4 hI _ => ?_
  try k_extra "nt"
  have I0 := frFresh F3 hI
  have neI : ∀ a o, h3.get? a = some o → a ≠ I := fun a o e => by rw [hI]; exact Nat.ne_of_lt (Heap.lt_size e)
  have LI : s.heap.objs.size ≠ I := by obtain ⟨o, _, _, ho, _⟩ := F3.ns; exact neI _ _ ho
  refine ⟨I, [I, a], vs.length, _, St, _, _, JT w Dv cs, rfl, W.W, W.S, st, frK F3 K4, newsK N3 K4, I0, LI, ?_, ?_, ?_, ?_, ?_⟩
  · intro p hp; exact neI _ _ (N3 p hp).1
    try k_extra "nt"
  · intro b hb
    revert b
    refine allCons ?_ (allCons ?_ allNil)
    · exact .inl rfl
    · exact .inr (.inl (let ⟨o, ho, _⟩ := hl; ⟨o, ho⟩))
  · refine ⟨by k_extra "var", _, [], ⟨.head _, (DT w).empty, (fun _ h => nomatch h), (fun _ h => nomatch h), List.nodup_nil, lo⟩, ?_⟩
    simpa using Tally.nil
  · intro i v m news h tk oI EE hi hP hJ hnI F5 N5
    try k_extra "nt"
    obtain ⟨vf, ov, tb, V, T⟩ := hJ
    obtain ⟨x, c, rfl, hc, dx, es, n, hx0, hdx0, ⟨tw, vo, vn, vsc, hC, hO, hNn, hS⟩, ok⟩ := C.get hP
    have hCw := hC.word
    repeat k_extra "m"
    by_cases hw : c.word = Str.ofString "R"
    · refine ifTrue (by simpa using hw) ?_
      obtain ⟨o0, n0, eo, en, go, gn⟩ := ok hw
      rw [eo] at hO
      rw [en] at hNn
      cases hO
      cases hNn
      rename_i uo un
      have hCo := hC.old
      have hCn := hC.new
      have so : o0.length ≤ 1000 := by obtain ⟨_, _, _, _, _, h, _⟩ := go; exact Nat.le_trans h (by decide)
      have sn : n0.length ≤ 1000 := by obtain ⟨_, _, _, _, _, h, _⟩ := gn; exact Nat.le_trans h (by decide)
      have hbt : bT c = climbT (partsOf o0).length (partsOf o0) (partsOf n0) := by unfold bT; rw [eo, en]; simp only [hw, if_true]
      repeat k_extra "m"
      rename_i tk5 Do vso _ _ hvo hlo _ _ neo Dn vsn _ _ hvn hln _ _ nen _ _ _ _ _ _ _ _ _ _ _ h6 F6 N6 tk6
      refine whileW (h₀ := s.heap) (L := s.heap.objs.size) (Inv := WT w I oI Dv ((cs.take (i + 1)).flatMap bT)) (n := (partsOf o0).length) F6 N6 ?_ ?_
      · refine ⟨news, ov, tb, (cs.take i).flatMap bT, Do, Dn, vso, vsn, partsOf o0, partsOf n0, ?_⟩
        refine ⟨.tail _ (.tail _ (.head _)), fun p hp => .tail _ (.tail _ (.tail _ hp)), hnI, V, T, ?_, Nat.le_refl _, .tail _ (.head _), .head _, hvo, hvn, hlo, hln, ?_, ?_, ?_⟩
        · rw [take_flat hc, hbt]
        · k_extra "var"
        · k_extra "var"
        · k_extra "var"
      · clear V T F6 N6 F5 N5 hvo hvn hlo hln neo nen
        intro k m' nw h7 tk7 EE hX F7 N7
        try k_extra "nt"
        obtain ⟨led, ov, tb, bs, ao, an, vso, vsn, o, g, X⟩ := hX
        have mI := X.mI
        have mo := X.mo
        have mn := X.mn
        have ho := X.ho
        have hn := X.hn
        have lo1 := X.lo
        have ln1 := X.ln
        have vf := X.vf
        have vo1 := X.vo
        have vn1 := X.vn
        have hbl : bs.length ≤ 40 := Nat.le_trans (by rw [← X.tot, List.length_append]; exact Nat.le_add_right _ _) (hfl (i + 1))
        repeat k_extra "m"
        by_cases e1 : o = g
        · refine ifFalse (by simp [e1]) ?_
          repeat k_extra "m"
          exact feEnd F7 N7 mI X.sub X.nI ⟨vf, ov, tb, X.V, by rw [← X.tot, climbT_stop (.inl e1), List.append_nil]; exact X.T⟩
        refine ifTrue (by simp [e1]) ?_
        repeat k_extra "m"
        rename_i Dx h8 F8 N8 neDx
        by_cases e2 : o = []
        · refine ifFalse (by simp [e2]) ?_
          repeat k_extra "m"
          exact feEnd F8 N8 (.tail _ mI) (fun p hp => .tail _ (X.sub p hp)) X.nI ⟨vf, ov, tb, X.V, by rw [← X.tot, climbT_stop (.inr e2), List.append_nil]; exact X.T⟩
        refine ifTrue (by simp [e2]) ?_
        cases k with
        | zero => exact absurd (List.length_eq_zero_iff.mp (Nat.le_zero.mp X.len)) e2
        | succ k =>
        repeat k_extra "m"
        refine methD N8 (.tail _ (X.sub _ X.V.inl)) ((DT w).ex X.V.main) PySem.F.slot_dict_setdefault PySem.F.type_dict_setdefault ?_
        repeat k_extra "m"
        rename_i tk8 T1 h9 F9 N9 ne9 D h10 F10 N10 ne10 loD
        have mDv : (Dv, ov) ∈ led := X.V.inl
        have sub1 : ∀ p ∈ (D, ({ cls := .type "dict", data := .dict #[] } : Obj)) :: (T1, tupOf vso) :: led, p ∈ (D, ({ cls := .type "dict", data := .dict #[] } : Obj)) :: (T1, tupOf vso) :: (Dx, listOf (List.toArray []) 0) :: nw := fun p hp => by
          rcases List.mem_cons.mp hp with rfl | hp
          · exact .head _
          · rcases List.mem_cons.mp hp with rfl | hp
            · exact .tail _ (.head _)
            · exact .tail _ (.tail _ (.tail _ (X.sub p hp)))
        have nI1 : ∀ p ∈ (D, ({ cls := .type "dict", data := .dict #[] } : Obj)) :: (T1, tupOf vso) :: led, p.1 ≠ I := fun p hp => by
          rcases List.mem_cons.mp hp with rfl | hp
          · exact (ne10 (I, oI) (.tail _ (.tail _ mI))).symm
          · rcases List.mem_cons.mp hp with rfl | hp
            · exact (ne9 (I, oI) (.tail _ mI)).symm
            · exact X.nI p hp
        have tbl : tb.length ≤ 1000000 := Nat.le_trans X.T.len.1 (Nat.le_trans hbl (by decide))
        refine setdefN (led := (D, ({ cls := .type "dict", data := .dict #[] } : Obj)) :: (T1, tupOf vso) :: led) F10 N10 sub1 R' (X.V.sub fun p hp => .tail _ (.tail _ hp)) (tupIn (.tail _ (.head _)) ho) tbl (.head _) loD
          (ne10 (Dv, ov) (.tail _ (.tail _ (X.sub _ mDv)))).symm (fun t ht => by obtain ⟨o1, _, m1, _⟩ := X.V.rows t ht; exact ne10 (t.2.1, o1) (.tail _ (.tail _ (X.sub _ m1)))) fun ar row tb0 ov' h11 tk11 O V2 F11 N11 => ?_
        try k_extra "nt"
        have N10L := News.led N10
        have hob : ∃ led2 nw2, VTab (DT w) led2 Dv ov' tb0 ∧ News s.heap s.heap.objs.size h11 nw2 ∧ (I, oI) ∈ nw2 ∧ (∀ p ∈ led2, p ∈ nw2) ∧ (∀ p ∈ led2, p.1 ≠ I) ∧ (ao, listOf vso.toArray 0) ∈ nw2 ∧ (an, listOf vsn.toArray 0) ∈ nw2 := by
          have hp := updPack (o' := ov') (.tail _ (.tail _ (.tail _ mI)) : (I, oI) ∈ (D, ({ cls := .type "dict", data := .dict #[] } : Obj)) :: (T1, tupOf vso) :: (Dx, listOf (List.toArray []) 0) :: nw) sub1 nI1 (.tail _ (.tail _ mDv))
          have c1 := (DT w).cls X.V.main
          exact ⟨_, _, V2, N11, hp.1, hp.2.1, hp.2.2, updKeep N10L (.tail _ (.tail _ (.tail _ mo))) (.tail _ (.tail _ (.tail _ (X.sub _ mDv)))) c1, updKeep N10L (.tail _ (.tail _ (.tail _ mn))) (.tail _ (.tail _ (.tail _ (X.sub _ mDv)))) c1⟩
        obtain ⟨led2, nw2, V2, N11, mI2, sub2, nI2, mo2, mn2⟩ := hob
        clear N10L
        repeat k_extra "m"
        obtain ⟨orow, kvs, mr, dr, rr⟩ := V2.rows _ O.mem
        rename_i h12 F12 N12 tk12
        refine methD N12 (sub2 _ mr) ((DT w).ex dr) PySem.F.slot_dict_get PySem.F.type_dict_get ?_
        repeat k_extra "m"
        rename_i T2 h13 F13 N13 ne13
        have cons_sub : ∀ {q : Addr × Obj} {l1 l2 : List (Addr × Obj)}, (∀ p ∈ l1, p ∈ l2) → ∀ p ∈ q :: l1, p ∈ q :: l2 := fun h p hp => by
          rcases List.mem_cons.mp hp with rfl | hp
          · exact .head _
          · exact .tail _ (h p hp)
        have rl : row.length ≤ 1000000 := by
          rcases O with ⟨_, hm⟩ | ⟨_, rfl, _⟩
          · exact Nat.le_trans (X.T.len.2 _ hm) (Nat.le_trans hbl (by decide))
          · exact Nat.zero_le _
        refine rowGetN (led := (T2, tupOf vsn) :: led2) N13 (cons_sub sub2) R' (V2.sub fun p hp => .tail _ hp) O.mem (tupIn (.head _) hn) fun u14 tk14 => ?_
        try k_extra "nt"
        repeat k_extra "m"
        rename_i T3 h15 F15 N15 ne15
        refine rowSetN (led := (T3, tupOf vsn) :: (T2, tupOf vsn) :: led2) F15 N15 (cons_sub (cons_sub sub2)) R' (V2.sub fun p hp => .tail _ (.tail _ hp)) O.mem (tupIn (.head _) hn) rl rfl fun o' h16 tk16 V5 F16 N16 => ?_
        try k_extra "nt"
        have T5 := X.T.step (g := g) X.V.keys O
        have N15L := News.led N15
        have hob : ∃ led3 nw3, VTab (DT w) led3 Dv ov' (bumpT tb0 o g) ∧ News s.heap s.heap.objs.size h16 nw3 ∧ (I, oI) ∈ nw3 ∧ (∀ p ∈ led3, p ∈ nw3) ∧ (∀ p ∈ led3, p.1 ≠ I) ∧ (ao, listOf vso.toArray 0) ∈ nw3 ∧ (an, listOf vsn.toArray 0) ∈ nw3 := by
          have nI : ∀ p ∈ (T3, tupOf vsn) :: (T2, tupOf vsn) :: led2, p.1 ≠ I := fun p hp => by
            rcases List.mem_cons.mp hp with rfl | hp
            · exact (ne15 (I, oI) (.tail _ mI2)).symm
            · rcases List.mem_cons.mp hp with rfl | hp
              · exact (ne13 (I, oI) mI2).symm
              · exact nI2 p hp
          have hp := updPack (o' := o') (.tail _ (.tail _ mI2) : (I, oI) ∈ (T3, tupOf vsn) :: (T2, tupOf vsn) :: nw2) (cons_sub (cons_sub sub2)) nI (.tail _ (.tail _ mr))
          have c1 := (DT w).cls dr
          exact ⟨_, _, V5, N16, hp.1, hp.2.1, hp.2.2, updKeep N15L (.tail _ (.tail _ mo2)) (.tail _ (.tail _ (sub2 _ mr))) c1, updKeep N15L (.tail _ (.tail _ mn2)) (.tail _ (.tail _ (sub2 _ mr))) c1⟩
        obtain ⟨led3, nw3, V3, N17, mI3, sub3, nI3, mo3, mn3⟩ := hob
        clear N15L mo2 mn2 mI2 N11 N16
        repeat k_extra "m"
        rename_i tk17 Dy h18 F18 N18 ne18
        by_cases e3 : g = []
        · refine ifTrue (by simp [e3]) ?_
          repeat k_extra "m"
          exact feEnd F18 N18 (.tail _ mI3) (fun p hp => .tail _ (sub3 p hp)) nI3 ⟨by k_extra "var", ov', _, V3, by rw [← X.tot, climbT_last e1 e2 (.inl e3)]; exact T5⟩
        refine ifFalse (by simp [e3]) ?_
        repeat k_extra "m"
        obtain ⟨us, qs, x1, t1, rfl, rfl, hus⟩ := ho.snoc e2
        obtain ⟨ws, rs, y1, t2, rfl, rfl, hws⟩ := hn.snoc e3
        have uz : us.length ≤ 1000000 := by rw [List.length_append] at lo1; exact Nat.le_trans (Nat.le_add_right _ _) (Nat.le_trans lo1 (by decide))
        have wz : ws.length ≤ 1000000 := by rw [List.length_append] at ln1; exact Nat.le_trans (Nat.le_add_right _ _) (Nat.le_trans ln1 (by decide))
        have loz := Nat.le_trans lo1 (show 1001 ≤ 1000000 by decide)
        have lnz := Nat.le_trans ln1 (show 1001 ≤ 1000000 by decide)
        refine lastL (News.isList N18 (.tail _ mo3)) uz ?_ (by with_unfolding_all rfl)
        repeat k_extra "m"
        refine lastL (News.isList N18 (.tail _ mn3)) wz ?_ (by with_unfolding_all rfl)
        repeat k_extra "m"
        by_cases e4 : x1 = y1
        · refine ifFalse (by simp [e4]) ?_
          repeat k_extra "m"
          rename_i tk19 Da h20 F20 N20 na Db h21 F21 N21 nb Dt h22 F22 N22 nt h23 F23 N23 h24 F24 N24 h25 F25 N25
          subst e4
          refine ⟨k, h25, _, _, _, Nat.lt_succ_self k, rfl, F25, N25, led3, ov', bumpT tb0 (qs ++ [x1]) (rs ++ [x1]), bs ++ [(qs ++ [x1], rs ++ [x1])], Da, Db, kms_pick (us ++ [.bytes x1.toArray t1]) none (some (-1)), kms_pick (ws ++ [.bytes x1.toArray t2]) none (some (-1)), (qs ++ [x1]).dropLast, (rs ++ [x1]).dropLast, ?_⟩
          exact {
            mI := .tail _ (.tail _ (.tail _ mI3))
            sub := fun p hp => .tail _ (.tail _ (.tail _ (sub3 p hp)))
            nI := nI3
            V := V3
            T := T5
            tot := by rw [← X.tot, climbT_next e1 e2 e3 (by simp), List.append_assoc]; rfl
            len := by have := X.len; rw [List.length_dropLast]; exact Nat.sub_le_of_le_add this
            mo := .tail _ (.head _)
            mn := .head _
            ho := dropOne ho
            hn := dropOne hn
            lo := dropOne_len lo1
            ln := dropOne_len ln1
            vf := by k_extra "var"
            vo := by k_extra "var"
            vn := by k_extra "var" }
        refine ifTrue (by simp [e4]) ?_
        repeat k_extra "m"
        exact feEnd F18 N18 (.tail _ mI3) (fun p hp => .tail _ (sub3 p hp)) nI3 ⟨by k_extra "var", ov', _, V3, by rw [← X.tot, climbT_last e1 e2 (.inr (by simp [e4]))]; exact T5⟩
    · refine ifFalse (by simpa using hw) ?_
      repeat k_extra "m"
      exact feEnd F5 N5 (.head _) (fun p hp => .tail _ hp) hnI ⟨by k_extra "var", ov, tb, V, by rw [take_flat hc, bT_not hw, List.append_nil]; exact T⟩
  · intro m news h tk hJ hnI F5 N5
    try k_extra "nt"
    obtain ⟨vf, ov, tb, V, T⟩ := hJ
    repeat k_extra "m"
    refine ⟨_, _, _, rfl, rfl, F5.keep, Dv, ov, news, tb, _, rfl, N5, V, ?_⟩
    have : cs.take vs.length = cs := by rw [C.length]; exact List.take_length
    rw [this] at T; exact T
theorem slot_bytes_lt : Slot "bytes" "__lt__" "bytes.__lt__" :=
  .of (owner := "bytes") (n := "__lt__") (by rw [typeLookup_type, builtinLookup_eq_fast]; kernel_rfl) (by decide +kernel) (by decide +kernel) (by decide +kernel)
    (by first | exact .inl (by decide +kernel) | exact .inr (by decide +kernel)) (by rw [isSubtype_type]; kernel_rfl)
theorem entry_bytes_lt : entryFor table "bytes.__lt__" = some Builtin.«bytes.__lt__» := entryFor_of_tree (by kernel_rfl)
theorem args_bytes_lt_2 (a b : Value) : argsOk "bytes.__lt__" ⟨[a, b], []⟩ := by
  unfold argsOk; rw [signature?_of (id := "bytes.__lt__") (n := ['_', '_', 't', 'l', '_', '_']) (o := ['s', 'e', 't', 'y', 'b']) (by kernel_rfl) FB.owner_bytes]; kernel_rfl
noncomputable abbrev natsOf (a : By) : List Nat := a.map UInt8.toNat
theorem order_lt : ∀ a b : By, (Builtin.Bytes.order a b == .lt) = decide (natsOf a < natsOf b)
  | [], [] => by simp [Builtin.Bytes.order, natsOf]
  | [], y :: b => by simp [Builtin.Bytes.order, natsOf]
  | x :: a, [] => by simp [Builtin.Bytes.order, natsOf]
  | x :: a, y :: b => by
    have ih := order_lt a b
    simp only [natsOf, List.map_cons, List.cons_lt_cons_iff, Builtin.Bytes.order] at ih ⊢
    by_cases h1 : x < y
    · have : x.toNat < y.toNat := UInt8.lt_iff_toNat_lt.mp h1
      simp [h1, this]
    · have n1 : ¬ x.toNat < y.toNat := fun e => h1 (UInt8.lt_iff_toNat_lt.mpr e)
      by_cases h2 : x > y
      · have : y.toNat < x.toNat := UInt8.lt_iff_toNat_lt.mp h2
        have n2 : ¬ x.toNat = y.toNat := fun e => absurd (e ▸ this) (Nat.lt_irrefl _)
        simp [h1, h2, n1, n2]
      · have n2 : x.toNat = y.toNat := by
          have : ¬ y.toNat < x.toNat := fun e => h2 (UInt8.lt_iff_toNat_lt.mpr e)
          exact Nat.le_antisymm (Nat.not_lt.mp this) (Nat.not_lt.mp n1)
        rw [if_neg h1, if_neg h2, ih, Bool.eq_iff_iff]
        simp only [decide_eq_true_eq]
        constructor
        · intro h; exact .inr ⟨n2, h⟩
        · rintro (h | ⟨_, h⟩)
          · exact absurd h n1
          · exact h
theorem gives_bytes_lt (b c : Array UInt8) (t u : Tok) : Gives (Builtin.«bytes.__lt__» ⟨[.bytes b t, .bytes c u], []⟩) (.val (.bool (decide (natsOf b.toList < natsOf c.toList)))) := by
  refine .of_wp fun M A E s Q hq => ?_
  show wpAny M A (isInstance (.bytes c u) (.type "bytes") >>= fun r => _) _ E s
  refine wpAny_bind (wpAny_isInstance (typeIs_bytes s c u) PySem.F.sub_bytes_bytes ?_)
  exact wpAny_pure ⟨_, rfl, by rw [← order_lt] at hq; exact hq⟩

@[reducible] noncomputable def byKind : PyProof.Rows.KeyKind where
  α := List Nat
  blt a b := decide (a < b)
  irrefl a := by simp [List.lt_irrefl]
  trans a b c h1 h2 := by simp only [decide_eq_true_eq] at *; exact List.lt_trans h1 h2
  negTrans a b c h := by
    simp only [decide_eq_true_eq] at *
    by_cases hab : a < b
    · exact .inl hab
    · exact .inr (List.lt_of_le_of_lt (List.not_lt.mp hab) h)
  total a b h1 h2 := by simp only [decide_eq_false_iff_not] at *; exact List.le_antisymm (List.not_lt.mp h2) (List.not_lt.mp h1)
  keyOf v := match v with | .bytes x _ => some (natsOf x.toList) | _ => none
  dflt := []

section
variable {prog : Program} {w : World} {A : Around} {E : Value → Shared → Prop} {s : Shared}
theorem oneLt_by {a b : Array UInt8} {t u : Tok} {Q : Bool → Shared → Prop} (h : Q (decide (natsOf a.toList < natsOf b.toList)) s) : wpAny (model prog w) A (oneLt' true (.bytes a t) (.bytes b u)) Q E s := by
  rw [oneLt'_eq]
  simp only [if_true]
  refine wpAny_bind (wpAny_cRoomFor_byValue rfl ?_)
  refine wpAny_bind (wpAny_callSpecialIfBound?_slot (typeIs_bytes s a t) slot_bytes_lt ?_)
  refine call_gives slot_bytes_lt (typeIs_bytes s a t) entry_bytes_lt (args_bytes_lt_2 _ _) (gives_bytes_lt a b t u) ?_
  exact wpAny_truthy_bool h
end
theorem byKind_oneLt : byKind.OneLt := by
  intro prog w A E s x y a b Q ha hb h
  cases x <;> simp only [byKind, reduceCtorEq, Option.some.injEq] at ha
  cases y <;> simp only [byKind, reduceCtorEq, Option.some.injEq] at hb
  cases ha; cases hb
  exact oneLt_by h

noncomputable def byOf : Value → By
  | .bytes x _ => x.toList
  | _ => []
theorem BysAre.all : ∀ {vs : List Value} {ps : List By}, BysAre vs ps → ∀ v, v ∈ vs → ∃ (x : By) (t : Tok), v = .bytes x.toArray t
  | _, _, .nil, v, hv => by simp at hv
  | _, _, .cons h, v, hv => by
    rcases List.mem_cons.mp hv with rfl | hv
    · exact ⟨_, _, rfl⟩
    · exact h.all v hv
theorem BysAre.bys : ∀ {vs : List Value} {ps : List By}, BysAre vs ps → vs.map byOf = ps
  | _, _, .nil => rfl
  | _, _, .cons h => by rw [List.map_cons, h.bys]; rfl
theorem bysAre_map : ∀ (vs : List Value), (∀ v, v ∈ vs → ∃ (x : By) (t : Tok), v = .bytes x.toArray t) → BysAre vs (vs.map byOf)
  | [], _ => .nil
  | v :: vs, h => by
    obtain ⟨x, t, rfl⟩ := h v (List.mem_cons_self ..)
    exact .cons (bysAre_map vs fun u hu => h u (List.mem_cons_of_mem _ hu))
theorem BysAre.keysOf {vs : List Value} {ps : List By} (hS : BysAre vs ps) : PyProof.Rows.KeysOf byKind (pairsOf vs) := by
  intro p hp
  rw [pairsOf_toList] at hp
  obtain ⟨x, t, e⟩ := hS.all _ (mem_zip_self hp).2
  exact ⟨natsOf x, by rw [e]⟩
theorem firstOfTuple_by (x : Array UInt8) (t : Tok) : firstOfTuple' (.bytes x t) = pure none := rfl
theorem mapM_first_bys : ∀ {vs : List Value} {ps : List By}, BysAre vs ps → vs.mapM firstOfTuple' = pure (vs.map fun _ => none)
  | _, _, .nil => by simp
  | _, _, .cons h => by rw [List.mapM_cons, firstOfTuple_by, mapM_first_bys h]; simp
theorem mapM_typeOf_bys : ∀ {vs : List Value} {ps : List By}, BysAre vs ps → vs.mapM typeOf = pure (vs.map fun _ => Value.type "bytes")
  | _, _, .nil => by simp
  | _, _, .cons h => by
    rw [List.mapM_cons, mapM_typeOf_bys h]
    show (pure (Value.type "bytes") >>= fun b => pure _ >>= fun bs => pure (b :: bs)) = _
    simp
theorem keyKind_bys {v₁ v₂ : Value} {vs : List Value} {ps : List By} (hS : BysAre (v₁ :: v₂ :: vs) ps) : keyKind' (v₁ :: v₂ :: vs).toArray = pure oneType' := by
  rw [keyKind'_eq, List.mapM_toArray, mapM_first_bys hS]
  simp only [map_pure, pure_bind]
  rw [if_neg (by simp), if_neg (by simp)]
  rw [oneTypeOnly'_eq, List.mapM_toArray, mapM_typeOf_bys hS]
  simp only [map_pure, pure_bind]
  have hall : ((List.map (fun _ => Value.type "bytes") (v₁ :: v₂ :: vs)).toArray.all fun x => x == Value.type "bytes") = true := by
    simp only [List.all_toArray, List.all_map, List.all_eq_true]
    intro _ _
    rfl
  have h0 : (List.map (fun _ => Value.type "bytes") (v₁ :: v₂ :: vs)).toArray[0]? = some (Value.type "bytes") := by simp
  rw [h0]
  simp only [hall, if_true, pure_bind, Option.isSome_some]
theorem sorted_out_by {vs : List Value} {ps : List By} (hS : BysAre vs ps) {xs : Array Keyed} (hp : xs.Perm (pairsOf vs)) : ∃ ps', BysAre (xs.map (·.2)).toList ps' ∧ ps'.Perm ps := by
  have hl : xs.toList.Perm (vs.zip vs) := by rw [← pairsOf_toList]; exact Array.perm_iff_toList_perm.mp hp
  have hmem : ∀ p, p ∈ xs.toList → p.1 = p.2 ∧ p.1 ∈ vs := fun p hp' => mem_zip_self (hl.mem_iff.mp hp')
  refine ⟨xs.toList.map (fun p => byOf p.1), ?_, ?_⟩
  · have e : (xs.map (·.2)).toList = xs.toList.map (·.1) := by
      rw [Array.toList_map]; exact List.map_congr_left fun p hp' => (hmem p hp').1.symm
    rw [e]
    have h1 := bysAre_map (xs.toList.map (·.1)) (by
      intro v hv
      obtain ⟨p, hp', rfl⟩ := List.mem_map.mp hv
      exact hS.all _ (hmem p hp').2)
    rwa [List.map_map] at h1
  · have h1 := hl.map (fun p => byOf p.1)
    have e2 : (vs.zip vs).map (fun p => byOf p.1) = ps := by
      have : (vs.zip vs).map (fun p => byOf p.1) = ((vs.zip vs).map Prod.fst).map byOf := by rw [List.map_map]; rfl
      rw [this, List.map_fst_zip (Nat.le_refl _), hS.bys]
    rwa [e2] at h1

section
variable {prog : Program} {w : World} {A : Around} {E : Value → Shared → Prop} {s : Shared} {h₀ : Heap} {L : Addr} {m : Str → Option Value} {news : List (Addr × Obj)} {Q : Value → Shared → Prop}
theorem sortSrcN {T : String} {r d : Addr} {n : Nat} {P : Nat → Value → Prop} {OK : Heap → Prop} (K : KdlSrc prog w T r d n P OK) (hh : A.handled = none) (F : Fr h₀ L s.heap m) (N : News h₀ L s.heap news) (hok : OK s.heap) (hn : n < 64)
    (hP : ∀ vs : List Value, vs.length = n → (∀ (j : Nat) (v : Value), vs[j]? = some v → P j v) → ∃ ps, BysAre vs ps)
    (h : ∀ D h' tk vs vs' ps ps' k, vs.length = n → (∀ (j : Nat) (v : Value), vs[j]? = some v → P j v) → BysAre vs ps → BysAre vs' ps' → ps'.Perm ps → Fr h₀ L h' m → News h₀ L h' ((D, listOf vs'.toArray k) :: news) → (∀ p ∈ news, p.1 ≠ D) → Q (.ref D) { s with heap := h', toks := tk }) :
    wpAny (model prog w) A (call (.builtin "sorted") [.ref r]) Q E s := by
  refine kdu_sorted K hh F N hok (by rw [sizeLine_eq]; (first | lia | omega)) fun D h1 tk vs F1 N1 lt hl hv => ?_
  obtain ⟨ps, hps⟩ := hP vs hl hv
  have ho : h1.get? D = some (seqObj "list" vs.toArray 0) := (N1 _ (.head _)).1
  refine wpAny_call_entry slot_list_sort ⟨_, ho, rfl⟩ entry_list_sort (list_sort_treeK byKind_oneLt ho hps.keysOf (fun v₁ v₂ rest e => keyKind_bys (by rw [← e]; exact hps)) (by (first | lia | omega)) fun st' a1 a2 => ⟨_, rfl, ?_⟩) (args_list_sort _)
  obtain ⟨ps', h2, h3⟩ := sorted_out_by hps a1
  obtain ⟨e, he⟩ := sortedHeap_at (out := (arrOf st').map (·.2)) ho
  have old : ∀ b o, b ≠ D → h1.get? b = some o → (sortedHeap h1 D vs ((arrOf st').map (·.2))).get? b = some o := fun b o hb q => by rw [sortedHeap_old hb (Heap.lt_size q)]; exact q
  have hD := N1 _ (.head _)
  have ne : ∀ p ∈ news, p.1 ≠ D := fun p hp => Nat.ne_of_lt (lt p hp)
  refine h D _ tk vs _ ps ps' e hl hv hps h2 h3 (frBut F1 old hD.2.2 hD.2.1.symm) (fun p hp => ?_) ne
  rcases List.mem_cons.mp hp with rfl | hp
  · exact ⟨he, hD.2⟩
  · exact ⟨old _ _ (ne p hp) (N1 p (.tail _ hp)).1, (N1 p (.tail _ hp)).2⟩
end
section
variable {K : Type} [DecidableEq K]
noncomputable def Win (bs : List (K × K)) (f g : K) : Prop := 0 < bs.count (f, g) ∧ ∀ g', g' ≠ g → bs.count (f, g') < bs.count (f, g)
theorem Win.uniq {bs : List (K × K)} {f g g' : K} (h : Win bs f g) (h' : Win bs f g') : g = g' := by
  by_cases e : g = g'
  · exact e
  · have h1 := h.2 g' (Ne.symm e)
    have h2 := h'.2 g e
    exact absurd (Nat.lt_trans h1 h2) (Nat.lt_irrefl _)
theorem Win.perm {bs bs' : List (K × K)} {f g : K} (p : bs.Perm bs') : Win bs f g ↔ Win bs' f g := by
  unfold Win
  simp only [p.count_eq]
theorem valueAt_mem {kvs : List (K × Value)} (hn : (kvs.map (·.1)).Nodup) {k : K} {v : Value} (h : (k, v) ∈ kvs) : valueAt kvs k = some v := by
  induction kvs with
  | nil => cases h
  | cons x r ih =>
    rw [List.map_cons, List.nodup_cons] at hn
    unfold valueAt
    rw [List.find?_cons]
    rcases List.mem_cons.mp h with rfl | h
    · simp
    · have : x.1 ≠ k := fun e => hn.1 (e ▸ List.mem_map_of_mem (f := fun x : K × Value => x.1) h)
      simp only [this, decide_false]
      exact ih hn.2 h
theorem mem_of_valueAt {kvs : List (K × Value)} {k : K} {v : Value} (h : valueAt kvs k = some v) : (k, v) ∈ kvs := by
  unfold valueAt at h
  obtain ⟨x, h1, h2⟩ := Option.map_eq_some_iff.mp h
  have h3 := List.mem_of_find?_eq_some h1
  have h4 : x.1 = k := by simpa using List.find?_some h1
  rw [← h4, ← h2]; exact h3
theorem valueAt_stored (kvs : List (K × Value)) (k k' : K) (v : Value) : valueAt (stored kvs k v) k' = if k' = k then some v else valueAt kvs k' := by
  unfold stored valueAt
  split
  · rename_i hany
    rw [List.find?_map]
    have e : ((fun kv : K × Value => decide (kv.1 = k')) ∘ fun kv : K × Value => if kv.1 = k then (kv.1, v) else kv) = fun kv => decide (kv.1 = k') := by
      funext r; simp only [Function.comp]; split <;> rfl
    rw [e]
    cases hf : kvs.find? (fun kv => decide (kv.1 = k')) with
    | none =>
      have : k' ≠ k := by
        rintro rfl
        obtain ⟨x, hx, hc⟩ := List.any_eq_true.mp hany
        exact List.find?_eq_none.mp hf x hx hc
      rw [if_neg this]; rfl
    | some r =>
      have hr : r.1 = k' := by simpa using List.find?_some hf
      simp only [Option.map_some]
      by_cases h : k' = k
      · rw [if_pos h, if_pos (hr.trans h)]
      · rw [if_neg h, if_neg (fun q => h (hr.symm.trans q))]
  · rename_i hany
    rw [List.find?_append]
    by_cases h : k' = k
    · subst h
      have : kvs.find? (fun kv => decide (kv.1 = k')) = none := by
        rw [List.find?_eq_none]
        intro x hx hc
        exact hany (List.any_eq_true.mpr ⟨x, hx, hc⟩)
      rw [this]; simp
    · have : List.find? (fun r : K × Value => decide (r.1 = k')) [(k, v)] = none := by simp [Ne.symm h]
      rw [this, if_neg h]; simp

theorem cntR_mem {row : Row K} (hn : (row.map (·.1)).Nodup) {g : K} {c : Nat} (h : (g, c) ∈ row) : cntR row g = c := by
  unfold cntR
  have : row.find? (fun r => decide (r.1 = g)) = some (g, c) := by
    induction row with
    | nil => cases h
    | cons x row ih =>
      rw [List.map_cons, List.nodup_cons] at hn
      rcases List.mem_cons.mp h with rfl | h
      · simp
      · have hx : x.1 ≠ g := fun q => hn.1 (q ▸ List.mem_map_of_mem (f := fun x : K × Nat => x.1) h)
        simp [List.find?_cons, hx, ih hn.2 h]
  rw [this]; rfl
theorem cntR_out {row : Row K} {g : K} (h : g ∉ row.map (·.1)) : cntR row g = 0 := by
  unfold cntR
  rw [List.find?_eq_none.mpr]
  · rfl
  · intro x hx hc
    exact h (List.mem_map.mpr ⟨x, hx, by simpa using hc⟩)
noncomputable def topsOf (row : Row K) (top : Int) : List K := (row.filter fun r => decide ((r.2 : Int) = top)).map (·.1)
theorem tops_win {bs : List (K × K)} {f : K} {row : Row K} {top : Int} (hn : (row.map (·.1)).Nodup) (hpos : ∀ r ∈ row, 0 < r.2) (hc : ∀ g, bs.count (f, g) = cntR row g) (hle : ∀ r ∈ row, (r.2 : Int) ≤ top) (hex : ∃ r ∈ row, (r.2 : Int) = top) (g : K) :
    topsOf row top = [g] ↔ Win bs f g := by
  unfold Win
  simp only [hc]
  have mem : ∀ x, x ∈ topsOf row top ↔ ∃ c : Nat, (x, c) ∈ row ∧ (c : Int) = top := by
    intro x
    unfold topsOf
    simp only [List.mem_map, List.mem_filter, decide_eq_true_eq]
    constructor
    · rintro ⟨r, ⟨h1, h2⟩, rfl⟩; exact ⟨r.2, h1, h2⟩
    · rintro ⟨c, h1, h2⟩; exact ⟨(x, c), ⟨h1, h2⟩, rfl⟩
  constructor
  · intro e
    obtain ⟨c, h1, h2⟩ := (mem g).mp (by rw [e]; simp)
    rw [cntR_mem hn h1]
    refine ⟨hpos _ h1, fun g' hg' => ?_⟩
    by_cases hm : g' ∈ row.map (·.1)
    · obtain ⟨r, hr, rfl⟩ := List.mem_map.mp hm
      rw [cntR_mem hn hr]
      have h3 := hle r hr
      have h4 : (r.2 : Int) ≠ top := fun q => by
        have := (mem r.1).mpr ⟨r.2, hr, q⟩
        rw [e] at this
        exact hg' (by simpa using this)
      (first | lia | omega)
    · rw [cntR_out hm]; exact hpos _ h1
  · rintro ⟨h1, h2⟩
    have hg : g ∈ row.map (·.1) := by
      by_cases hm : g ∈ row.map (·.1)
      · exact hm
      · rw [cntR_out hm] at h1; exact absurd h1 (Nat.lt_irrefl 0)
    obtain ⟨r, hr, rfl⟩ := List.mem_map.mp hg
    rw [cntR_mem hn hr] at h1 h2
    have htop : (r.2 : Int) = top := by
      obtain ⟨r', hr', e⟩ := hex
      by_cases q : r'.1 = r.1
      · have : r' = r := nodup_inj hn hr' hr q
        rw [← this]; exact e
      · have := h2 r'.1 q
        rw [cntR_mem hn hr'] at this
        have := hle r hr
        (first | lia | omega)
    have nd : (topsOf row top).Nodup := by
      unfold topsOf
      exact hn.sublist ((List.filter_sublist).map _)
    have all : ∀ x ∈ topsOf row top, x = r.1 := by
      intro x hx
      obtain ⟨c, h3, h4⟩ := (mem x).mp hx
      by_cases q : x = r.1
      · exact q
      · have := h2 x q
        rw [cntR_mem hn h3] at this
        (first | lia | omega)
    have hin : r.1 ∈ topsOf row top := (mem r.1).mpr ⟨r.2, hr, htop⟩
    cases ht : topsOf row top with
    | nil => rw [ht] at hin; cases hin
    | cons x l =>
      rw [ht] at nd all
      have hx := all x (.head _)
      cases l with
      | nil => rw [hx]
      | cons y l =>
        have hy := all y (.tail _ (.head _))
        rw [List.nodup_cons] at nd
        exact absurd (by rw [hx, hy]; simp) nd.1
end

theorem nodup_len {α : Type} [DecidableEq α] : ∀ {l l' : List α}, l.Nodup → (∀ x ∈ l, x ∈ l') → l.length ≤ l'.length
  | [], _, _, _ => Nat.zero_le _
  | x :: l, l', hn, h => by
    rw [List.nodup_cons] at hn
    have hx := h x (.head _)
    have p := List.perm_cons_erase hx
    have := nodup_len (l := l) (l' := l'.erase x) hn.2 fun y hy => (List.mem_erase_of_ne (fun e : y = x => hn.1 (by rw [← e]; exact hy))).mpr (h y (.tail _ hy))
    have e := p.length_eq
    simp only [List.length_cons] at e ⊢
    rw [e]; exact Nat.succ_le_succ this
structure FoundOf (bs : List (By × By)) (still : List By) (kvs : List (By × Value)) : Prop where
  sound : ∀ f v, valueAt kvs f = some v → ∃ g u, v = .bytes (List.toArray g) u ∧ Win bs f g ∧ f ∉ still
  compl : ∀ f g, Win bs f g → f ∉ still → ∃ u, valueAt kvs f = some (.bytes g.toArray u)
theorem FoundOf.perm {bs bs' : List (By × By)} {still : List By} {kvs : List (By × Value)} (p : bs.Perm bs') (h : FoundOf bs still kvs) : FoundOf bs' still kvs :=
  ⟨fun f v e => let ⟨g, u, h1, h2, h3⟩ := h.sound f v e; ⟨g, u, h1, (Win.perm p).mp h2, h3⟩, fun f g h1 h2 => h.compl f g ((Win.perm p).mpr h1) h2⟩

section
variable {prog : Program} {w : World} {A : Around} {E : Value → Shared → Prop} {s : Shared}
theorem found_hits {bs : List (By × By)} {still : List By} {ka kb : List (By × Value)} (ha : FoundOf bs still ka) (hb : FoundOf bs still kb) : ∀ r : List (By × Value), (∀ p ∈ r, valueAt ka p.1 = some p.2) → KeqHits A s kb r true
  | [], _ => .nil
  | (k, v) :: r, h => by
    obtain ⟨g, u, e, hw, hs⟩ := ha.sound k v (h (k, v) (.head _))
    obtain ⟨u', e'⟩ := hb.compl k g hw hs
    subst e
    have := KeqHits.hit (A := A) (s := s) (v := .bytes g.toArray u) e' (by have := eqAt_bytes (A := A) (s := s) (b := g) (c := g) (t := u) (u := u'); rwa [decide_eq_true rfl] at this) (found_hits ha hb r fun p hp => h p (.tail _ hp))
    simpa using this
theorem found_len {bs : List (By × By)} {still : List By} {ka kb : List (By × Value)} (ha : FoundOf bs still ka) (hb : FoundOf bs still kb) (na : (ka.map (·.1)).Nodup) (nb : (kb.map (·.1)).Nodup) : ka.length = kb.length := by
  have key : ∀ {k : By} {l l' : List (By × Value)}, FoundOf bs still l → FoundOf bs still l' → (l.map (·.1)).Nodup → k ∈ l.map (·.1) → k ∈ l'.map (·.1) := by
    intro k l l' h h' hn hk
    obtain ⟨p, hp, rfl⟩ := List.mem_map.mp hk
    obtain ⟨g, u, e, hw, hs⟩ := h.sound p.1 p.2 (valueAt_mem hn hp)
    obtain ⟨u', e'⟩ := h'.compl p.1 g hw hs
    exact List.mem_map.mpr ⟨_, mem_of_valueAt e', rfl⟩
  have h1 := nodup_len na fun k hk => key ha hb na hk
  have h2 := nodup_len nb fun k hk => key hb ha nb hk
  simp only [List.length_map] at h1 h2
  exact Nat.le_antisymm h1 h2
theorem found_eq {a b : Addr} {oa ob : Obj} {bs : List (By × By)} {still : List By} {ka kb : List (By × Value)} {Q : Value → Shared → Prop} {k : Nat} (hA : (a == sysModules) = false) (hB : (b == sysModules) = false) (ea : s.heap.get? a = some oa) (eb : s.heap.get? b = some ob)
    (da : oa.IsDictOf (bytesKind prog w) ka) (db : ob.IsDictOf (bytesKind prog w) kb) (R : Rm A k) (fa : FoundOf bs still ka) (fb : FoundOf bs still kb) (h : Q (.bool true) s) : wpAny (model prog w) A (compareOp .Eq (.ref a) (.ref b)) Q E s := by
  have na : (ka.map (·.1)).Nodup := let ⟨_, _, _, _, _, _, n⟩ := da; n
  have nb : (kb.map (·.1)).Nodup := let ⟨_, _, _, _, _, _, n⟩ := db; n
  refine keq_eq (knd := bytesKind prog w) hA hB (Heap.dictOf_iff.mpr ⟨oa, ea, da⟩) (Heap.dictOf_iff.mpr ⟨ob, eb, db⟩) R.units (fun _ => found_hits fa fb ka fun p hp => valueAt_mem na hp) ?_
  rw [found_len fa fb na nb]; simpa using h
theorem found_ne {a b : Addr} {oa ob : Obj} {bs : List (By × By)} {still : List By} {ka kb : List (By × Value)} {Q : Value → Shared → Prop} {k : Nat} (hA : (a == sysModules) = false) (hB : (b == sysModules) = false) (ea : s.heap.get? a = some oa) (eb : s.heap.get? b = some ob)
    (da : oa.IsDictOf (bytesKind prog w) ka) (db : ob.IsDictOf (bytesKind prog w) kb) (R : Rm A k) (fa : FoundOf bs still ka) (fb : FoundOf bs still kb) (h : Q (.bool false) s) : wpAny (model prog w) A (compareOp .NotEq (.ref a) (.ref b)) Q E s := by
  have na : (ka.map (·.1)).Nodup := let ⟨_, _, _, _, _, _, n⟩ := da; n
  have nb : (kb.map (·.1)).Nodup := let ⟨_, _, _, _, _, _, n⟩ := db; n
  refine keq_ne (knd := bytesKind prog w) hA hB (Heap.dictOf_iff.mpr ⟨oa, ea, da⟩) (Heap.dictOf_iff.mpr ⟨ob, eb, db⟩) R.units (fun _ => found_hits fa fb ka fun p hp => valueAt_mem na hp) ?_
  rw [found_len fa fb na nb]; simpa using h
end

section
variable {w : World} {K : Type} [DecidableEq K] {A : Around} {E : Value → Shared → Prop} {s : Shared} {led : List (Addr × Obj)} {d : Addr} {o : Obj} {kvs : List (K × Value)} {k : K} {key v : Value}
theorem itemD (dk : DK w K) {value slice : PySem.Expr} {ops : List Value} {Q : Value → Shared → Prop} {n : Nat} (R : Rm A n) (L : Led s.heap led) (m : (d, o) ∈ led) (D : dk.DO led o kvs) (hk : dk.KeyIn led k key) (hv : valueAt kvs k = some v)
    (h : ∀ tk, Q v { s with toks := tk }) (hs : subscripted slice false (.ref d) key = operate ops (getItem (.ref d) key)) : wpAny (model PR w) A (subscriptTail value slice (.ref d) key) Q E s :=
  subT (T := "dict") ⟨o, L _ m, dk.cls D⟩ slot_dict_getitem.lookup (dk.item R.units1 L m D hk hv h) hs
theorem oneIf {prog : Program} {c : PySem.Expr} {env : Env} {Q : Bool → Shared → Prop} (h : wpAny (model prog w) A (isTrue c env (eval c env)) Q E s) :
    wpAny (model prog w) A (forIn [c] true fun c r => if r = true then do let ok ← isTrue c env (eval c env); pure (ForInStep.yield ok) else pure (ForInStep.yield r)) Q E s := wpAny_tests_one h
end
noncomputable def Pt (x : By) : Prop := 47 ∉ x ∧ x ≠ []
theorem goodPart.pt {x : By} (h : goodPart x) : Pt x := ⟨h.free, h.ne⟩
theorem joinP_nil {F : List By} (h : ∀ x ∈ F, Pt x) : joinP F = [] ↔ F = [] := by
  constructor
  · intro e
    cases F with
    | nil => rfl
    | cons x r =>
      rw [joinP_cons] at e
      exact absurd (List.append_eq_nil_iff.mp e).1 (h x (.head _)).2
  · rintro rfl; rfl
theorem joinP_inj {F G : List By} (hF : ∀ x ∈ F, Pt x) (hG : ∀ x ∈ G, Pt x) (e : joinP F = joinP G) : F = G := by
  by_cases h : F = []
  · subst h
    have := (joinP_nil hG).mp e.symm
    rw [this]
  · have h2 : G ≠ [] := fun q => h ((joinP_nil hF).mp (by rw [e, q]; rfl))
    have e1 := split_join h fun x hx => (hF x hx).1
    have e2 := split_join h2 fun x hx => (hG x hx).1
    rw [← e1, ← e2, e]
theorem folder_join (F : List By) (x : By) (hx : 47 ∉ x) : folderB (joinP (F ++ [x])) = joinP F := by
  cases F with
  | nil =>
    unfold folderB
    rw [show joinP ([] ++ [x]) = x from rfl, lastCut_none hx]; rfl
  | cons y r =>
    unfold folderB
    rw [joinP_snoc _ _ (by simp), lastCut_app _ hx]
theorem name_join (F : List By) (x : By) (hx : 47 ∉ x) : nameB (joinP (F ++ [x])) = x := by
  cases F with
  | nil =>
    unfold nameB
    rw [show joinP ([] ++ [x]) = x from rfl, lastCut_none hx]
  | cons y r =>
    unfold nameB
    rw [joinP_snoc _ _ (by simp), lastCut_app _ hx]
noncomputable abbrev j2 (p : List By × List By) : By × By := (joinP p.1, joinP p.2)
theorem snoc_of {α : Type} {l : List α} (h : l ≠ []) : ∃ r x, l = r ++ [x] := ⟨l.dropLast, l.getLast h, (List.dropLast_concat_getLast h).symm⟩
theorem climb_join : ∀ (n m : Nat) (F G : List By), (∀ x ∈ F, Pt x) → (∀ x ∈ G, Pt x) → F.length ≤ m → (joinP F).length ≤ n → climbB n (joinP F) (joinP G) = (climbT m F G).map j2
  | n, m, F, G, hF, hG, hm, hn => by
    by_cases h1 : F = G ∨ F = []
    · rw [climbT_stop h1, climbB_stop]
      · rfl
      · rcases h1 with rfl | rfl
        · exact .inl rfl
        · exact .inr rfl
    · have n1 : F ≠ G := fun e => h1 (.inl e)
      have n2 : F ≠ [] := fun e => h1 (.inr e)
      have b1 : joinP F ≠ joinP G := fun e => n1 (joinP_inj hF hG e)
      have b2 : joinP F ≠ [] := fun e => n2 ((joinP_nil hF).mp e)
      cases m with
      | zero => exact absurd (List.length_eq_zero_iff.mp (Nat.le_zero.mp hm)) n2
      | succ m =>
      cases n with
      | zero => exact absurd (List.length_eq_zero_iff.mp (Nat.le_zero.mp hn)) b2
      | succ n =>
      obtain ⟨F', x, rfl⟩ := snoc_of n2
      have hx := hF x (by simp)
      have hF' : ∀ y ∈ F', Pt y := fun y hy => hF y (List.mem_append_left _ hy)
      by_cases h3 : G = []
      · rw [climbT_last n1 n2 (.inl h3), climbB_last b1 b2 (.inl (by rw [h3]; rfl))]; rfl
      · obtain ⟨G', y, rfl⟩ := snoc_of h3
        have hy := hG y (by simp)
        have b3 : joinP (G' ++ [y]) ≠ [] := fun e => h3 ((joinP_nil hG).mp e)
        have hG' : ∀ z ∈ G', Pt z := fun z hz => hG z (List.mem_append_left _ hz)
        by_cases h4 : x = y
        · subst h4
          rw [climbT_next n1 n2 h3 (by simp), climbB_next b1 b2 b3 (by rw [name_join _ _ hx.1, name_join _ _ hx.1]), folder_join _ _ hx.1, folder_join _ _ hx.1, List.dropLast_concat, List.dropLast_concat, List.map_cons,
            climb_join n m F' G' hF' hG' (by simp only [List.length_append, List.length_singleton] at hm; (first | lia | omega)) (by
              have := folderB_lt b2
              rw [folder_join _ _ hx.1] at this; (first | lia | omega))]
        · rw [climbT_last n1 n2 (.inr (by simp [h4])), climbB_last b1 b2 (.inr (by rw [name_join _ _ hx.1, name_join _ _ hy.1]; exact h4))]; rfl
termination_by n _ _ _ => n
theorem GP.folder {b : By} (h : GP b) : folderB b = joinP (partsOf b) ∧ ∀ x ∈ partsOf b, Pt x := by
  obtain ⟨ps, z, e1, e2, e3, _, e5⟩ := h.split
  unfold partsOf
  rw [e1, List.dropLast_concat, e2, folder_join _ _ e5]
  exact ⟨rfl, fun x hx => (e3 x hx).pt⟩
theorem bB_bT {c : Chg} (ok : ChgOk c) : bB c = (bT c).map j2 := by
  unfold bB bT
  split
  · rename_i o n eo en
    split
    · rename_i hw
      obtain ⟨o', n', e1, e2, g1, g2⟩ := ok hw
      rw [eo] at e1; rw [en] at e2; cases e1; cases e2
      obtain ⟨f1, p1⟩ := g1.folder
      obtain ⟨f2, p2⟩ := g2.folder
      rw [f1, f2]
      exact climb_join _ _ _ _ p1 p2 (Nat.le_refl _) (Nat.le_refl _)
    · rfl
  · rfl
theorem flat_bB : ∀ {cs : List Chg}, (∀ c ∈ cs, ChgOk c) → cs.flatMap bB = (cs.flatMap bT).map j2
  | [], _ => rfl
  | c :: cs, h => by rw [List.flatMap_cons, List.flatMap_cons, List.map_append, bB_bT (h c (.head _)), flat_bB fun x hx => h x (.tail _ hx)]
theorem bB_len4 {c : Chg} (ok : ChgOk c) : (bB c).length ≤ 4 := by rw [bB_bT ok, List.length_map]; exact bT_len ok
theorem climbT_pt : ∀ (m : Nat) (F G : List By), (∀ x ∈ F, Pt x) → (∀ x ∈ G, Pt x) → ∀ p ∈ climbT m F G, (∀ x ∈ p.1, Pt x) ∧ ∀ x ∈ p.2, Pt x
  | 0, _, _, _, _, p, hp => nomatch hp
  | m + 1, F, G, hF, hG, p, hp => by
    unfold climbT at hp
    split at hp
    · cases hp
    · rcases List.mem_cons.mp hp with rfl | hp
      · exact ⟨hF, hG⟩
      · split at hp
        · cases hp
        · exact climbT_pt m _ _ (fun x hx => hF x (List.dropLast_subset _ hx)) (fun x hx => hG x (List.dropLast_subset _ hx)) p hp
theorem bT_pt {c : Chg} (ok : ChgOk c) : ∀ p ∈ bT c, (∀ x ∈ p.1, Pt x) ∧ ∀ x ∈ p.2, Pt x := by
  unfold bT
  split
  · rename_i o n eo en
    split
    · rename_i hw
      obtain ⟨o', n', e1, e2, g1, g2⟩ := ok hw
      rw [eo] at e1; rw [en] at e2; cases e1; cases e2
      exact climbT_pt _ _ _ g1.folder.2 g2.folder.2
    · intro p hp; cases hp
  · intro p hp; cases hp
noncomputable def cnt {K : Type} [DecidableEq K] (bs : List (K × K)) (f g : K) : Nat := bs.count (f, g)
theorem win_iff {K : Type} [DecidableEq K] {bs : List (K × K)} {f g : K} : Win bs f g ↔ 0 < cnt bs f g ∧ ∀ g', g' ≠ g → cnt bs f g' < cnt bs f g := Iff.rfl
theorem cnt_pos {K : Type} [DecidableEq K] {bs : List (K × K)} {f g : K} : 0 < cnt bs f g ↔ (f, g) ∈ bs := List.count_pos_iff
theorem cnt_zero {K : Type} [DecidableEq K] {bs : List (K × K)} {f g : K} (h : (f, g) ∉ bs) : cnt bs f g = 0 := List.count_eq_zero.mpr h
theorem cnt_map {K K' : Type} [DecidableEq K] [DecidableEq K'] {φ : K × K → K' × K'} {f g : K} {f' g' : K'} (e : φ (f, g) = (f', g')) : ∀ {bs : List (K × K)}, (∀ p ∈ bs, φ p = (f', g') → p = (f, g)) → cnt (bs.map φ) f' g' = cnt bs f g
  | [], _ => rfl
  | p :: bs, h => by
    have ih := cnt_map e (bs := bs) fun q hq => h q (.tail _ hq)
    unfold cnt at ih ⊢
    rw [List.map_cons, List.count_cons, List.count_cons, ih]
    congr 1
    by_cases q : p = (f, g)
    · subst q; rw [e]; simp
    · have : φ p ≠ (f', g') := fun x => q (h p (.head _) x)
      simp [q, this]
theorem count_j2 {bs : List (List By × List By)} (h : ∀ p ∈ bs, (∀ x ∈ p.1, Pt x) ∧ ∀ x ∈ p.2, Pt x) {F G : List By} (hF : ∀ x ∈ F, Pt x) (hG : ∀ x ∈ G, Pt x) : cnt (bs.map j2) (joinP F) (joinP G) = cnt bs F G :=
  cnt_map (φ := j2) (f := F) (g := G) rfl fun p hp e => by
    simp only [j2, Prod.mk.injEq] at e
    exact Prod.ext (joinP_inj (h p hp).1 hF e.1) (joinP_inj (h p hp).2 hG e.2)
theorem win_j2 {bs : List (List By × List By)} (h : ∀ p ∈ bs, (∀ x ∈ p.1, Pt x) ∧ ∀ x ∈ p.2, Pt x) {f g : By} : Win (bs.map j2) f g ↔ ∃ F G, f = joinP F ∧ g = joinP G ∧ Win bs F G ∧ (∀ x ∈ F, Pt x) ∧ ∀ x ∈ G, Pt x := by
  simp only [win_iff]
  constructor
  · rintro ⟨h1, h2⟩
    obtain ⟨p, hp, e⟩ := List.mem_map.mp (cnt_pos.mp h1)
    obtain ⟨F, G⟩ := p
    simp only [j2, Prod.mk.injEq] at e
    obtain ⟨rfl, rfl⟩ := e
    obtain ⟨pF, pG⟩ := h _ hp
    refine ⟨F, G, rfl, rfl, ⟨cnt_pos.mpr hp, fun g' hg' => ?_⟩, pF, pG⟩
    by_cases q : (F, g') ∈ bs
    · have hq := (h _ q).2
      have := h2 (joinP g') fun e => hg' (joinP_inj hq pG e)
      rwa [count_j2 h pF hq, count_j2 h pF pG] at this
    · rw [cnt_zero q]; exact cnt_pos.mpr hp
  · rintro ⟨F, G, rfl, rfl, ⟨h1, h2⟩, hF, hG⟩
    refine ⟨by rw [count_j2 h hF hG]; exact h1, fun g' hg' => ?_⟩
    rw [count_j2 h hF hG]
    by_cases q : (joinP F, g') ∈ bs.map j2
    · obtain ⟨p, hp, e⟩ := List.mem_map.mp q
      obtain ⟨F', G'⟩ := p
      simp only [j2, Prod.mk.injEq] at e
      obtain ⟨e1, rfl⟩ := e
      obtain ⟨pF, pG⟩ := h _ hp
      obtain rfl := joinP_inj pF hF e1
      rw [count_j2 h hF pG]
      exact h2 G' fun e => hg' (by rw [e])
    · rw [cnt_zero q]; exact h1

theorem bk_is {w : World} {k : By} {v : Value} (h : (bk w).is k v = true) : ∃ t : Tok, v = .bytes (List.toArray k) t := by
  cases v <;> simp [bk, bytesKind, isBytes] at h
  · rename_i b t
    refine ⟨t, ?_⟩
    congr 1
    first
      | (rw [← h])
      | (rw [h])
theorem bysOfKeys {w : World} {kvs : List (By × Value)} : ∀ {vs : List Value}, vs.length = kvs.length → (∀ (j : Nat) (v : Value), vs[j]? = some v → ∃ k x, kvs[j]? = some (k, x) ∧ (bk w).is k v = true) → BysAre vs (kvs.map (·.1)) := by
  induction kvs with
  | nil => intro vs h _; rw [List.length_eq_zero_iff.mp h]; exact .nil
  | cons p r ih =>
    intro vs h hv
    cases vs with
    | nil => cases h
    | cons v vs =>
      obtain ⟨k, x, e, hk⟩ := hv 0 v rfl
      simp only [List.getElem?_cons_zero, Option.some.injEq] at e
      subst e
      obtain ⟨t, rfl⟩ := bk_is hk
      exact .cons (ih (by simpa using h) fun j v hj => by simpa using hv (j + 1) v (by simpa using hj))
theorem BysAre.get' {vs : List Value} {ps : List By} (h : BysAre vs ps) : ∀ {i : Nat} {v : Value}, vs[i]? = some v → ∃ (x : By) (t : Tok), v = .bytes x.toArray t ∧ ps[i]? = some x := by
  induction h with
  | nil => intro i v e; simp at e
  | cons _ ih =>
    intro i v e
    cases i with
    | zero => simp only [List.getElem?_cons_zero, Option.some.injEq] at e; exact ⟨_, _, e.symm, rfl⟩
    | succ i => simpa using ih (by simpa using e)
structure FoundPart (bs : List (By × By)) (still : List By) (ps : List By) (i : Nat) (kvs : List (By × Value)) : Prop where
  sound : ∀ f v, valueAt kvs f = some v → ∃ g u, v = .bytes (List.toArray g) u ∧ Win bs f g ∧ f ∉ still
  compl : ∀ f ∈ ps.take i, ∀ g, Win bs f g → f ∉ still → ∃ u, valueAt kvs f = some (.bytes g.toArray u)
  len : kvs.length ≤ i
theorem FoundPart.skip {bs : List (By × By)} {still ps : List By} {i : Nat} {kvs : List (By × Value)} {f : By} (h : FoundPart bs still ps i kvs) (hf : ps[i]? = some f) (hn : ∀ g, Win bs f g → f ∈ still) : FoundPart bs still ps (i + 1) kvs := by
  refine ⟨h.sound, fun f' hf' g hg hs => ?_, Nat.le_succ_of_le h.len⟩
  rw [List.take_add_one, hf] at hf'
  rcases List.mem_append.mp hf' with hf' | hf'
  · exact h.compl f' hf' g hg hs
  · simp at hf'; subst hf'; exact absurd (hn g hg) hs
theorem FoundPart.add {bs : List (By × By)} {still ps : List By} {i : Nat} {kvs : List (By × Value)} {f g : By} {u : Tok} (h : FoundPart bs still ps i kvs) (hf : ps[i]? = some f) (hw : Win bs f g) (hs : f ∉ still) : FoundPart bs still ps (i + 1) (stored kvs f (.bytes g.toArray u)) := by
  refine ⟨fun f' v e => ?_, fun f' hf' g' hg' hs' => ?_, ?_⟩
  · rw [valueAt_stored] at e
    split at e
    · rename_i q; subst q; cases e; exact ⟨g, u, rfl, hw, hs⟩
    · exact h.sound f' v e
  · rw [valueAt_stored]
    split
    · rename_i q; subst q
      rw [hg'.uniq hw]; exact ⟨u, rfl⟩
    · rename_i q
      rw [List.take_add_one, hf] at hf'
      rcases List.mem_append.mp hf' with hf' | hf'
      · exact h.compl f' hf' g' hg' hs'
      · simp at hf'; exact absurd hf' q
  · have := h.len
    unfold stored
    split <;> simp <;> (first | lia | omega)

theorem compOut {h₀ h₁ h' : Heap} {L I D : Addr} {oD : Obj} {m : Str → Option Value} {news : List (Addr × Obj)} (F : Fr h₀ L h₁ m) (N : News h₀ L h₁ news) (fI : h₀.get? I = none) (nI : ∀ p ∈ news, p.1 ≠ I) (lI : L ≠ I)
    (K : Keeps (hideAll h₁ [I]) h') (hD : h'.get? D = some oD) (hs : h₁.objs.size ≤ D) : Fr h₀ L h' m ∧ News h₀ L h' ((D, oD) :: news) ∧ ∀ p ∈ news, p.1 ≠ D := by
  have F' := frHide F K (by simpa using fI) (by simpa using lI)
  have none1 : ∀ o, h₁.get? D ≠ some o := fun o e => absurd (Heap.lt_size e) (Nat.not_lt.mpr hs)
  refine ⟨F', fun p hp => ?_, fun p hp e => none1 p.2 (e ▸ (N p hp).1)⟩
  rcases List.mem_cons.mp hp with rfl | hp
  · refine ⟨hD, fun e => ?_, ?_⟩
    · obtain ⟨o, _, _, ho, _⟩ := F.ns
      have e : D = L := e
      exact none1 o (e ▸ ho)
    · cases q : h₀.get? D with
      | none => rfl
      | some o => exact absurd (F.keep _ _ q) (none1 o)
  · exact ⟨K _ _ (hideAll_get _ (N p hp).1 (by simpa using nI p hp)), (N p hp).2⟩
theorem RowV.get {K : Type} [DecidableEq K] {kvs : List (K × Value)} {row : Row K} (h : RowV kvs row) : ∀ {i : Nat} {k : K} {x : Value}, kvs[i]? = some (k, x) → ∃ (c : Nat) (u : Tok), x = .int c u ∧ row[i]? = some (k, c) := by
  induction h with
  | nil => intro i k x e; simp at e
  | cons _ ih =>
    intro i k x e
    cases i with
    | zero => simp only [List.getElem?_cons_zero, Option.some.injEq, Prod.mk.injEq] at e; obtain ⟨rfl, rfl⟩ := e; exact ⟨_, _, rfl, rfl⟩
    | succ i => simpa using ih (by simpa using e)
theorem intsSnoc : ∀ {vs : List Value} {ns : List Int} {n : Int} {u : Tok}, IntsAre vs ns → IntsAre (vs ++ [.int n u]) (ns ++ [n])
  | _, _, n, u, .nil => .cons n u .nil
  | _, _, _, _, .cons n t h => .cons n t (intsSnoc h)
inductive CompA (prog : Program) (w : World) (A : Around) (h₀ : Heap) (L : Addr) (it : Value) (s₂ : Shared)
    (T : (I : Addr) → List (Addr × Obj) → (Nat → List Value → List (Addr × Obj) → Prop) → Addr → Addr → Nat → Value → List Value → List (Addr × Obj) → Heap → Nat → (Str → Option Value) → Obj → Nat → (Value → Shared → Prop) → Prop)
    (Z : (I : Addr) → List (Addr × Obj) → (Str → Option Value) → Addr → List Value → List (Addr × Obj) → Heap → Nat → Nat → Prop) : Prop
  | mk (I : Addr) (fp : List Addr) (n : Nat) (P : Nat → Value → Prop) (St : Nat → Heap → Prop) (led : List (Addr × Obj)) (J : Nat → List Value → List (Addr × Obj) → Prop) (mL : Str → Option Value) (hit : it = .ref I) (FL : Fr h₀ L s₂.heap mL) (hfr : ∀ a ∈ I :: led.map (·.1), h₀.get? a = none ∧ a ≠ L) (W : Walks prog w A I fp [I] n P St) (hn : n ≤ 1000000)
      (hSt : ∀ i h, St i h → ∃ o, h.get? I = some o) (hst : St 0 s₂.heap) (hled : ∀ p ∈ led, s₂.heap.get? p.1 = some p.2 ∧ p.1 ≠ I) (hfp : ∀ b ∈ fp, b = I ∨ ((∃ o, s₂.heap.get? b = some o) ∧ b ∉ I :: led.map (·.1))) (j0 : J 0 [] led)
      (turn : ∀ (C D : Addr) (i : Nat) (v : Value) (vs : List Value) (led' : List (Addr × Obj)) (h : Heap) (tk : Nat) (m : Str → Option Value) (oI : Obj) (k : Nat) (EE : Value → Shared → Prop), s₂.heap.objs.size ≤ C → s₂.heap.objs.size ≤ D → i < n → P i v → J i vs led' → vs.length ≤ i → (∀ p ∈ led', p.1 ≠ I ∧ p.1 ≠ D) → T I led J C D i v vs led' h tk m oI k EE)
      (done : ∀ (D : Addr) (vs : List Value) (led' : List (Addr × Obj)) (h : Heap) (tk k : Nat), J n vs led' → Z I led mL D vs led' h tk k) : CompA prog w A h₀ L it s₂ T Z
section
variable {prog : Program} {w : World} {A : Around} {E : Value → Shared → Prop}
noncomputable def CompAH (prog : Program) (w : World) (A : Around) (env : Env) (elt : Expr) (x y : Str) (ifs : List Expr) (scope : Scope) (cl : List (Str × Addr)) (Q : Flow → Shared → Prop) (h₀ : Heap) (L : Addr) (it : Value) (s₂ : Shared) : Prop :=
  CompA prog w A h₀ L it s₂ (fun I led J C D i v vs led' h tk m oI k EE =>
        Fr (hideAll s₂.heap (I :: led.map (·.1))) C h (fun y => if y = x then some v else m y) → News (hideAll s₂.heap (I :: led.map (·.1))) C h ((I, oI) :: (D, listOf vs.toArray k) :: led') →
        wpAny (model prog w) A (forIn ifs true fun c r => if r = true then do let ok ← isTrue c (compEnvC scope cl C env) (eval c (compEnvC scope cl C env)); pure (ForInStep.yield ok) else pure (ForInStep.yield r)) (fun ok s₃ =>
          if ok = true then wpAny (model prog w) A (eval elt (compEnvC scope cl C env)) (fun y s₄ => CE (hideAll s₂.heap (I :: led.map (·.1))) C I D oI (listOf vs.toArray k) s₂ (J (i + 1) (vs ++ [y])) s₄) EE s₃
          else CE (hideAll s₂.heap (I :: led.map (·.1))) C I D oI (listOf vs.toArray k) s₂ (J (i + 1) vs) s₃) EE { s₂ with heap := h, toks := tk })
      (fun I led mL D vs led' h tk k => Fr h₀ L h (fun z => if z = y then some (.ref D) else mL z) → Keeps (hideAll s₂.heap (L :: I :: led.map (·.1))) h → (∀ p ∈ led', h.get? p.1 = some p.2 ∧ (hideAll s₂.heap (I :: led.map (·.1))).get? p.1 = none ∧ p.1 ≠ D ∧ p.1 ≠ I) → h.get? D = some (listOf vs.toArray k) → s₂.heap.objs.size ≤ D →
        Q .next { s₂ with heap := h, toks := tk })
theorem normCA {env : Env} {elt : Expr} {x y : Str} {ifs : List Expr} {scope : Scope} {cl : List (Str × Addr)} {Q : Flow → Shared → Prop} {h₀ : Heap} {L : Addr} {it : Value} {s : Shared} {h : Heap} {tk : Nat} (k : CompAH prog w A env elt x y ifs scope cl Q h₀ L it { s with heap := h, toks := tk }) : CompAH prog w A env elt x y ifs scope cl Q h₀ L it { s with heap := h, toks := tk } := k

theorem compAssignW {s : Shared} {env : Env} {elt iter : Expr} {x y : Str} {px py spos : Pos} {ifs : List Expr} {scope : Scope} {cl : List (Str × Addr)} {pos : Pos} {Q : Flow → Shared → Prop} {h₀ : Heap} {L : Addr}
    (hsw : swapsWith (.ListComp elt [⟨.Name x px, iter, ifs, 0⟩] scope pos) (some (.Name y py)) spos.line env = pure true) (hy : env.kindOf y = some .local) (hp : (env.scope.kind == .class || (env.scope.kind == .module && env.locals != env.globals)) = false) (hL : env.locals = L)
    (hclos : closureFor scope env = pure cl) (hcell : ∀ y ∈ scope.names, y.2 ≠ .cell) (hkind : scope.kind = .function)
    (hnames : ∀ y ∈ scope.names, y.2 = .local → scope.names.lookup y.1 = some .local) (hx : scope.names.lookup x = some .local)
    (h : wpAny (model prog w) A (eval iter env) (fun xv s₁ => wpAny (model prog w) A (pyIter xv) (fun it s₂ => CompAH prog w A env elt x y ifs scope cl Q h₀ L it s₂) E s₁) E s)
    (hs : ∀ x, foldedSetIterable iter env x = pure x := by intro _; rfl) :
    wpAny (model prog w) A (exec (.Assign [.Name y py] (.ListComp elt [⟨.Name x px, iter, ifs, 0⟩] scope pos) spos) env) Q E s := by
  subst hL
  rw [exec_Assign_Name_used _ _ _ _ hsw]
  refine wpAny_bind (wpAny_standAt (wpAny_bind ?_))
  show wpAny _ A (do let _ ← comprehension (.ListComp elt [⟨.Name x px, iter, ifs, 0⟩] scope pos) scope env _ (newList []) false (eval iter env) (some (assign (.Name y py) env))) _ _ s
  refine wpAny_bind (wpAny_mono (wpAny_comprehension_free (Q := fun _ s' => Q .next s') rfl hs hclos hkind hnames (wpAny_mono h (fun xv s₁ h₁ => wpAny_mono h₁ (fun it s₂ h₂ => ?_) fun _ _ e => e) fun _ _ e => e)) (fun _ s' hq => wpAny_pure (wpAny_pure hq)) fun _ _ e => e)
  obtain ⟨I, fp, n, P, St, led, J, mL, rfl, FL, hfr, W, hn, hSt, hst, hled, hfp, j0, turn, done⟩ := h₂
  refine wpAny_newObj_type (wpAny_newFunctionEnv hcell (by intro y hy; simp at hy) (fun h₁ hns₁ hsb₁ => ?_) hkind)
  dsimp only at hns₁ hsb₁ ⊢
  generalize hH2 : s₂.heap.push { cls := .type "list", dict := none, data := .seq ([] : List Value).toArray } = H2 at hns₁ hsb₁ ⊢
  have hCs : H2.objs.size = s₂.heap.objs.size + 1 := by rw [← hH2, Heap.size_push]
  have old : ∀ b o, s₂.heap.get? b = some o → h₁.get? b = some o := fun b o e =>
    hsb₁.extBut b o (by rw [hCs]; exact Nat.ne_of_lt (Nat.lt_succ_of_lt (Heap.lt_size e))) (Heap.get?_push_of_some _ (hH2 ▸ Heap.get?_push_of_some _ e))
  obtain ⟨oI, hoI⟩ := hSt _ _ hst
  have hIlt : I < s₂.heap.objs.size := Heap.lt_size hoI
  have hDo : h₁.get? s₂.heap.objs.size = some (listOf #[] 0) := hsb₁.extBut _ _ (by rw [hCs]; exact Nat.ne_of_lt (Nat.lt_succ_self _)) (Heap.get?_push_of_some _ (hH2 ▸ Heap.get?_push_size _ rfl))
  have hCn : (hideAll s₂.heap (I :: led.map (·.1))).get? H2.objs.size = none := by
    cases e : (hideAll s₂.heap (I :: led.map (·.1))).get? H2.objs.size with
    | none => rfl
    | some o => have := Heap.lt_size (of_hideAll _ e); rw [hCs] at this; exact absurd this (Nat.not_lt.mpr (Nat.le_succ _))
  have hDn : (hideAll s₂.heap (I :: led.map (·.1))).get? s₂.heap.objs.size = none := by
    cases e : (hideAll s₂.heap (I :: led.map (·.1))).get? s₂.heap.objs.size with
    | none => rfl
    | some o => have := Heap.lt_size (of_hideAll _ e); exact absurd this (Nat.lt_irrefl _)
  have F₀ : Fr (hideAll s₂.heap (I :: led.map (·.1))) H2.objs.size h₁ (fun x => List.lookup x ([] : List (Str × Value)).reverse) :=
    ⟨hns₁, fun b o e => old b o (of_hideAll _ e), by rw [hideAll_size, hCs]; exact Nat.le_succ _⟩
  have N₀ : News (hideAll s₂.heap (I :: led.map (·.1))) H2.objs.size h₁ ((I, oI) :: (s₂.heap.objs.size, listOf #[] 0) :: led) := by
    intro p hp
    rcases List.mem_cons.mp hp with rfl | hp
    · exact ⟨old _ _ hoI, by rw [hCs]; exact Nat.ne_of_lt (Nat.lt_succ_of_lt hIlt), hideAll_none _ (.head _)⟩
    · rcases List.mem_cons.mp hp with rfl | hp
      · exact ⟨hDo, by rw [hCs]; exact Nat.ne_of_lt (Nat.lt_succ_self _), hDn⟩
      · have := (hled p hp).1
        exact ⟨old _ _ this, by rw [hCs]; exact Nat.ne_of_lt (Nat.lt_succ_of_lt (Heap.lt_size this)), hideAll_none _ (.tail _ (List.mem_map_of_mem hp))⟩
  have hl₀ : ∀ p ∈ led, p.1 ≠ I ∧ p.1 ≠ s₂.heap.objs.size := fun p hp => ⟨(hled p hp).2, Nat.ne_of_lt (Heap.lt_size (hled p hp).1)⟩
  have hst₁ : St 0 h₁ := W.frame _ _ _ hst fun b _ o e => old b o e
  have loop : codeAny (model prog w) A (.compLoop (.ListComp elt [⟨.Name x px, iter, ifs, 0⟩] scope pos) 0 (.ref I) (.ref s₂.heap.objs.size) (compEnvC scope cl H2.objs.size env))
      (compPost (model prog w) A E (some (assign (.Name y py) env)) (fun _ s' => Q .next s') (.ref s₂.heap.objs.size) H2.objs.size) { s₂ with heap := h₁, toks := s₂.toks + ([] : List (Str × Value)).length } := by
    refine compLoopW (cenv := compEnvC scope cl H2.objs.size env) W hSt ?_ (lookup_relabel_local hx) (by simp [compEnvC, relabel, hkind]) J (Nat.ne_of_lt hIlt) F₀ N₀ hl₀ hst₁ j0 ?_ ?_ hn
    · intro b hb
      rcases hfp b hb with e | ⟨⟨o, ho⟩, hnb⟩
      · exact .inl e
      · exact .inr ⟨o, hideAll_get _ ho hnb⟩
    · intro i v vs led' h tk m oI' k hi hP hJ hv hl F N
      exact turn _ _ i v vs led' h tk m oI' k _ (by rw [hCs]; exact Nat.le_succ _) (Nat.le_refl _) hi hP hJ hv hl F N
    · intro vs led' h tk k m hJ hl F N
      obtain ⟨oL, eL, pL, hoL, rL⟩ := id FL.ns
      have hLC : env.locals ≠ H2.objs.size := by rw [hCs]; exact Nat.ne_of_lt (Nat.lt_succ_of_lt (Heap.lt_size hoL))
      have hLD : env.locals ≠ s₂.heap.objs.size := Nat.ne_of_lt (Heap.lt_size hoL)
      have hLh : (hideAll s₂.heap (I :: led.map (·.1))).get? env.locals = some oL := hideAll_get _ hoL fun hm => (hfr _ hm).2 rfl
      have hkL : h.get? env.locals = some oL := F.keep _ _ hLh
      refine wpAny_assign_Name (wpAny_storeName_local hy ⟨oL, eL, pL, hkL, rL⟩ (fun h₂ hn₂ hs₂ => ?_) hp)
      refine ⟨m, F.ns.at' fun o e => hs₂.extBut _ _ (Ne.symm hLC) e, fun h₃ hs₃ => ?_⟩
      have up : ∀ b o, b ≠ env.locals → b ≠ H2.objs.size → h.get? b = some o → h₃.get? b = some o := fun b o h1 h2 e => hs₃.extBut _ _ h2 (hs₂.extBut _ _ h1 e)
      have hCb : ∀ {b o}, (hideAll s₂.heap (I :: led.map (·.1))).get? b = some o → b ≠ H2.objs.size := fun e q => by rw [q, hCn] at e; cases e
      have ledL : ∀ p ∈ led', p.1 ≠ env.locals := fun p hp q => by
        have := (N p (.tail _ hp)).2.2
        rw [q, hLh] at this; cases this
      refine done _ vs led' h₃ _ k hJ ⟨hn₂.at' fun o e => hs₃.extBut _ _ hLC e, fun b o e => ?_, FL.above⟩ (fun b o e => ?_) (fun p hp => ⟨up _ _ (ledL p hp) (N p (.tail _ hp)).2.1 (N p (.tail _ hp)).1, (N p (.tail _ hp)).2.2, (hl p hp).2, (hl p hp).1⟩) (up _ _ (Ne.symm hLD) (by rw [hCs]; exact Nat.ne_of_lt (Nat.lt_succ_self _)) (N _ (.head _)).1) (Nat.le_refl _)
      · have e1 : (hideAll s₂.heap (I :: led.map (·.1))).get? b = some o := hideAll_get _ (FL.keep b o e) fun hm => by rw [(hfr _ hm).1] at e; cases e
        refine up b o (fun q => ?_) (hCb e1) (F.keep _ _ e1)
        subst q
        exact absurd (Heap.lt_size e) (Nat.not_lt.mpr FL.above)
      · have hb : b ≠ env.locals := fun q => by rw [q, hideAll_none _ (.head _)] at e; cases e
        have e1 : (hideAll s₂.heap (I :: led.map (·.1))).get? b = some o := hideAll_get _ (of_hideAll _ e) fun hm => by rw [hideAll_none _ (.tail _ hm)] at e; cases e
        exact up b o hb (hCb e1) (F.keep _ _ e1)
  exact codeAny_compStart_list loop (W.self 0 _ _ _ hst₁ loop)
end

section
variable {w : World} {A : Around} {E : Value → Shared → Prop} {s : Shared} {h₀ : Heap} {L a : Addr} {m : Str → Option Value} {news rest : List (Addr × Obj)}
theorem lenL {vs : List Value} {prog : Program} {Q : Value → Shared → Prop} (hl : s.heap.IsList a vs.toArray) (hz : vs.length ≤ 1000000) (h : ∀ t tk, Q (.int vs.length t) { s with toks := tk }) : wpAny (model prog w) A (call (.builtin "len") [.ref a]) Q E s :=
  call_len_list hl (by simp only [List.size_toArray]; (first | lia | omega)) (by simpa using h _ _)
theorem setDN {d : Addr} {o : Obj} {kvs : List (By × Value)} {k : By} {tk : Tok} {v : Value} {n : Nat} {Q : Unit → Shared → Prop} (F : Fr h₀ L s.heap m) (N : News h₀ L s.heap news) (R : Rm A n) (hm : (d, o) ∈ news) (D : o.IsDictOf (bk w) kvs) (hz : kvs.length ≤ 1000000) (hr : ∀ p ∈ rest, p ∈ news ∧ p.1 ≠ d)
    (h : ∀ h' o' tk, Fr h₀ L h' m → News h₀ L h' ((d, o') :: rest) → o'.IsDictOf (bk w) (stored kvs k v) → Q () { s with heap := h', toks := tk }) : wpAny (model PR w) A (setItem (.ref d) (.bytes k.toArray tk) v) Q E s := by
  have hmem := N _ hm
  refine (DB w).set (news := news) R.units1 (News.led N) hm D (bytesKind_is _ _ k _) hz fun h' o' tk e hs D' => h h' o' tk (frBut F (fun b o hb e => hs.extBut b o hb e) hmem.2.2 hmem.2.1.symm) (fun p hp => ?_) D'
  rcases List.mem_cons.mp hp with rfl | hp
  · exact ⟨e, hmem.2⟩
  · exact ⟨hs.extBut _ _ (hr p hp).2 (N p (hr p hp).1).1, (N p (hr p hp).1).2⟩
end
theorem BysAre.one {vs : List Value} {ps : List By} (h : BysAre vs ps) (hl : vs.length = 1) : ∃ (x : By) (t : Tok), vs = [.bytes x.toArray t] ∧ ps = [x] := by
  cases h with
  | nil => cases hl
  | cons h =>
    cases h with
    | nil => exact ⟨_, _, rfl, rfl⟩
    | cons _ => simp at hl

structure BInv (w : World) (I : Addr) (oI : Obj) (cR cT : Addr) (Dv : Addr) (total : List (By × By)) (k : Nat) (m : Str → Option Value) (nw : List (Addr × Obj)) (led : List (Addr × Obj)) (oR oT ov : Obj) (vR vT : Option Value) (tb : TB By) (bs : List (By × By)) (o g : By) (uo ug : Tok) : Prop where
  mI : (I, oI) ∈ nw
  mR : (cR, oR) ∈ nw
  mT : (cT, oT) ∈ nw
  dR : oR.data = .cell vR
  dT : oT.data = .cell vT
  sub : ∀ p ∈ led, p ∈ nw
  nI : ∀ p ∈ led, p.1 ≠ I ∧ p.1 ≠ cR ∧ p.1 ≠ cT
  V : VTab (DB w) led Dv ov tb
  T : Tally bs tb
  tot : bs ++ climbB k o g = total
  len : o.length ≤ k
  lo : o.length ≤ 1000
  ln : g.length ≤ 1000
  vf : m (Str.ofString "votes") = some (.ref Dv)
  vo : m (Str.ofString "old") = some (.bytes o.toArray uo)
  vn : m (Str.ofString "new") = some (.bytes g.toArray ug)

inductive DictBack (w : World) (s : Shared) (cs : List Chg) (still : List By) (v : Value) (h' : Heap) : Prop
  | mk (k : Keeps s.heap h') (D : Addr) (od : Obj) (kvs : List (By × Value)) (e : v = .ref D) (g : h'.get? D = some od) (f : s.heap.get? D = none) (lo : (D == sysModules) = false) (hd : od.IsDictOf (bk w) kvs) (hf : FoundOf (cs.flatMap bB) still kvs) : DictBack w s cs still v h'
inductive JF (w : World) (L Dv st Df Ds : Addr) (vs2 : List Value) (ke : Nat) (bs : List (By × By)) (still ps2 : List By) (led : List (Addr × Obj)) (i : Nat) (m : Str → Option Value) (news : List (Addr × Obj)) : Prop
  | mk (v1 : m (Str.ofString "votes") = some (.ref Dv)) (v2 : m (Str.ofString "still") = some (.ref st)) (v3 : m (Str.ofString "found") = some (.ref Df)) (oR oT : Obj) (vR vT : Option Value) (ofd : Obj) (kvs : List (By × Value)) (e : news = (L + 1, oR) :: (L + 1 + 1, oT) :: (Ds, listOf vs2.toArray ke) :: (Df, ofd) :: led) (dR : oR.data = .cell vR) (dT : oT.data = .cell vT) (hf : ofd.IsDictOf (bk w) kvs) (FP : FoundPart bs still ps2 i kvs) : JF w L Dv st Df Ds vs2 ke bs still ps2 led i m news
theorem feF {w : World} {h₀ h : Heap} {L Dv st Df Ds I : Addr} {oI oR oT ofd : Obj} {vR vT : Option Value} {vs2 : List Value} {ke i : Nat} {bs : List (By × By)} {still ps2 : List By} {s₂ : Shared} {m : Str → Option Value} {nw led : List (Addr × Obj)} {kvs : List (By × Value)} {tk : Nat} (F : Fr h₀ L h m) (N : News h₀ L h nw)
    (mI : (I, oI) ∈ nw) (mR : (L + 1, oR) ∈ nw) (mT : (L + 1 + 1, oT) ∈ nw) (mS : (Ds, listOf vs2.toArray ke) ∈ nw) (mF : (Df, ofd) ∈ nw) (sub : ∀ p ∈ led, p ∈ nw) (dR : oR.data = .cell vR) (dT : oT.data = .cell vT) (IR : I ≠ L + 1) (IT : I ≠ L + 1 + 1) (IS : I ≠ Ds) (IF : I ≠ Df) (nI : ∀ p ∈ led, p.1 ≠ I)
    (hf : ofd.IsDictOf (bk w) kvs) (FP : FoundPart bs still ps2 i kvs) (v1 : m (Str.ofString "votes") = some (.ref Dv)) (v2 : m (Str.ofString "still") = some (.ref st)) (v3 : m (Str.ofString "found") = some (.ref Df)) :
    FE h₀ L I oI s₂ (JF w L Dv st Df Ds vs2 ke bs still ps2 led i) { s₂ with heap := h, toks := tk } := by
  refine feEnd (led := (L + 1, oR) :: (L + 1 + 1, oT) :: (Ds, listOf vs2.toArray ke) :: (Df, ofd) :: led) F N mI (fun p hp => ?_) (fun p hp => ?_) ⟨v1, v2, v3, oR, oT, vR, vT, ofd, kvs, rfl, dR, dT, hf, FP⟩
  · revert p
    refine allCons ?_ (allCons ?_ (allCons ?_ (allCons ?_ (fun p hp => ?_))))
    · exact mR
    · exact mT
    · exact mS
    · exact mF
    · exact sub p hp
  · revert p
    refine allCons ?_ (allCons ?_ (allCons ?_ (allCons ?_ (fun p hp => ?_))))
    · exact IR.symm
    · exact IT.symm
    · exact IS.symm
    · exact IF.symm
    · exact nI p hp
inductive JB (w : World) (L Dv st : Addr) (cs : List Chg) (i : Nat) (m : Str → Option Value) (news : List (Addr × Obj)) : Prop
  | mk (v1 : m (Str.ofString "votes") = some (.ref Dv)) (v2 : m (Str.ofString "still") = some (.ref st)) (led : List (Addr × Obj)) (oR oT : Obj) (vR vT : Option Value) (ov : Obj) (tb : TB By) (e : news = (L + 1, oR) :: (L + 1 + 1, oT) :: led) (dR : oR.data = .cell vR) (dT : oT.data = .cell vT) (hn : ∀ p ∈ led, p.1 ≠ L + 1 ∧ p.1 ≠ L + 1 + 1) (V : VTab (DB w) led Dv ov tb) (T : Tally ((cs.take i).flatMap bB) tb) : JB w L Dv st cs i m news
inductive WB (st : Addr) (w : World) (I : Addr) (oI : Obj) (cR cT Dv : Addr) (total : List (By × By)) (k : Nat) (m : Str → Option Value) (nw : List (Addr × Obj)) : Prop
  | mk (vst : m (Str.ofString "still") = some (.ref st)) (led : List (Addr × Obj)) (oR oT ov : Obj) (vR vT : Option Value) (tb : TB By) (bs : List (By × By)) (o g : By) (uo ug : Tok) (X : BInv w I oI cR cT Dv total k m nw led oR oT ov vR vT tb bs o g uo ug) : WB st w I oI cR cT Dv total k m nw
theorem feB {w : World} {h₀ h : Heap} {L Dv st I : Addr} {oI oR oT ov : Obj} {vR vT : Option Value} {cs : List Chg} {i : Nat} {s₂ : Shared} {m : Str → Option Value} {nw led : List (Addr × Obj)} {tb : TB By} {tk : Nat} (F : Fr h₀ L h m) (N : News h₀ L h nw) (mI : (I, oI) ∈ nw) (mR : (L + 1, oR) ∈ nw) (mT : (L + 1 + 1, oT) ∈ nw)
    (dR : oR.data = .cell vR) (dT : oT.data = .cell vT) (IR : I ≠ L + 1) (IT : I ≠ L + 1 + 1) (sub : ∀ p ∈ led, p ∈ nw) (nI : ∀ p ∈ led, p.1 ≠ I ∧ p.1 ≠ L + 1 ∧ p.1 ≠ L + 1 + 1) (V : VTab (DB w) led Dv ov tb) (T : Tally ((cs.take i).flatMap bB) tb)
    (vf : m (Str.ofString "votes") = some (.ref Dv)) (vs : m (Str.ofString "still") = some (.ref st)) : FE h₀ L I oI s₂ (JB w L Dv st cs i) { s₂ with heap := h, toks := tk } := by
  refine feEnd (led := (L + 1, oR) :: (L + 1 + 1, oT) :: led) F N mI (fun p hp => ?_) (fun p hp => ?_) ⟨vf, vs, led, oR, oT, vR, vT, ov, tb, rfl, dR, dT, fun p hp => (nI p hp).2, V, T⟩
  · rcases List.mem_cons.mp hp with rfl | hp
    · exact mR
    · rcases List.mem_cons.mp hp with rfl | hp
      · exact mT
      · exact sub p hp
  · rcases List.mem_cons.mp hp with rfl | hp
    · exact IR.symm
    · rcases List.mem_cons.mp hp with rfl | hp
      · exact IT.symm
      · exact (nI p hp).1
theorem updPackB {I cR cT d : Addr} {oI oR oT o' o : Obj} {nw led : List (Addr × Obj)} (mI : (I, oI) ∈ nw) (mR : (cR, oR) ∈ nw) (mT : (cT, oT) ∈ nw) (sub : ∀ p ∈ led, p ∈ nw) (nI : ∀ p ∈ led, p.1 ≠ I ∧ p.1 ≠ cR ∧ p.1 ≠ cT) (md : (d, o) ∈ led) :
    (I, oI) ∈ updL d o' nw ∧ (cR, oR) ∈ updL d o' nw ∧ (cT, oT) ∈ updL d o' nw ∧ (∀ p ∈ updL d o' led, p ∈ updL d o' nw) ∧ ∀ p ∈ updL d o' led, p.1 ≠ I ∧ p.1 ≠ cR ∧ p.1 ≠ cT :=
  ⟨updL_mem mI (fun e => (nI _ md).1 e.symm), updL_mem mR (fun e => (nI _ md).2.1 e.symm), updL_mem mT (fun e => (nI _ md).2.2 e.symm), updL_sub sub, fun p hp => let ⟨q, hq, e⟩ := updL_addr hp; e ▸ nI q hq⟩
section
variable {M : Model} {A : Around} {E : Value → Shared → Prop} {s : Shared} {h₀ : Heap} {L c : Addr} {m : Str → Option Value} {news : List (Addr × Obj)} {env : Env} {x : Str} {v : Value} {o : Obj}
theorem storeCU {Q : Unit → Shared → Prop} {v₀ : Option Value} (F : Fr h₀ L s.heap m) (N : News h₀ L s.heap news) (hm : (c, o) ∈ news) (hd : o.data = .cell v₀)
    (h : ∀ h' o', Fr h₀ L h' m → News h₀ L h' (updL c o' news) → o'.data = .cell (some v) → Q () { s with heap := h' }) (hc : env.cells.lookup x = some c)
    (hk : env.scope.kind = .function) (hl : env.kindOf x = some .cell) : wpAny M A (storeName env x v) Q E s := by
  have hmem := N (c, o) hm
  refine wpAny_storeName_cell hk hl hc ⟨o, hmem.1, hd⟩ fun h' hv hs => ?_
  try k_extra "nt"
  obtain ⟨o', ho', hd'⟩ := hv
  exact h h' o' (frBut F (fun b o hb e => hs.extBut b o hb e) hmem.2.2 (Ne.symm hmem.2.1)) (updL_news N hs ho') hd'
end
theorem renames_spec {w : World} {A : Around} {s : Shared} {a st : Addr} {vs ws : List Value} {cs : List Chg} {still : List By} {args : Args} (B : Base w s.heap) (Rr : Rm A 3) (hl : s.heap.IsList a vs.toArray) (C : ChgsAt s.heap vs cs) (hz : vs.length ≤ 10)
    (hst : s.heap.IsTuple st ws.toArray) (hws : BysAre ws still) (ha : args = ⟨[.ref a, .ref st], []⟩ ∨ args = ⟨[.ref a], [(Str.ofString "still", .ref st)]⟩ ∨ (args = ⟨[.ref a], []⟩ ∧ st = 117)) :
    codeAny (model PR w) A (.call (.ref 123) args) (Back s (DictBack w s cs still)) s := by
  refine' enterC (led := []) (h₀ := s.heap) (binds := [(Str.ofString "changes", .ref a), (Str.ofString "still", .ref st)]) B (Keeps.refl _) ?hled Rr ?ho ?hcd ?hb ?hki ?hnd ?_ ?c1 ?c2 ?c3
  case hled => intro p hp; cases hp
  case ho => k_is
  case hcd => k_is
  case hb =>
    rcases ha with rfl | rfl | ⟨rfl, rfl⟩
    · exact binds_K B.K rfl (by k_is) rfl rfl rfl
    · exact binds_K B.K rfl (by k_is) rfl rfl rfl
    · exact binds_K B.K rfl (by k_is) rfl rfl rfl
  case hki => exact kindsX rfl
  case hnd => decide +kernel
  case c1 => exact rfl
  case c2 => exact rfl
  case c3 => exact rfl
  intro L h₁ tk cells F N Y B' R' _
  try k_extra "nt"
  obtain ⟨oT, oR, rfl, hoT, hoR⟩ := CellsAre.two Y
  clear B' Y
  replace hoR : oR.data = .cell none := hoR
  replace hoT : oT.data = .cell none := hoT
  replace N : News s.heap L h₁ [(L + 1 + 1, oT), (L + 1, oR)] := N
  replace F : Fr s.heap L h₁ (fun y => if y = Str.ofString "still" then some (.ref st) else if y = Str.ofString "changes" then some (.ref a) else none) := F
  have hRT : L + 1 ≠ L + 1 + 1 := Nat.ne_of_lt (Nat.lt_succ_self _)
  have hfl : ∀ i, ((cs.take i).flatMap bB).length ≤ 40 := fun i => by
    have h1 := flat_len (f := bB) (k := 4) (cs := cs.take i) fun c hc => bB_len4 (C.ok c (List.mem_of_mem_take hc))
    have h2 : (cs.take i).length ≤ cs.length := by rw [List.length_take]; exact Nat.min_le_right _ _
    have h3 := C.length
    exact Nat.le_trans h1 (Nat.mul_le_mul_right 4 (Nat.le_trans h2 (h3 ▸ hz)))
  repeat k_extra "m"
  rename_i tk1 Dv h2 F2 N2 hDn lo h3 F3 N3 tk3
  refine forW (h₀ := s.heap) (L := L) rfl ?hx ?hp ?_ ?hs
  case hx => exact rfl
  case hp => exact rfl
  case hs => intro _; exact rfl
  repeat k_extra "m"
  try k_extra "nt"
  refine iterList R'.hh (listKeep hl F3.keep) fun I h4 St W stt K4 hI _ => ?_
  try k_extra "nt"
  have I0 := frFresh F3 hI
  have neI : ∀ a o, h3.get? a = some o → a ≠ I := fun a o e => by rw [hI]; exact Nat.ne_of_lt (Heap.lt_size e)
  have LI : L ≠ I := by obtain ⟨o, _, _, ho, _⟩ := F3.ns; exact neI _ _ ho
  have IR : I ≠ L + 1 := (neI _ _ (N3 (L + 1, oR) (.tail _ (.tail _ (.head _)))).1).symm
  have IT : I ≠ L + 1 + 1 := (neI _ _ (N3 (L + 1 + 1, oT) (.tail _ (.head _))).1).symm
  have N4 : News s.heap L h4 [(L + 1, oR), (L + 1 + 1, oT), (Dv, emptyDict)] := newsK (newsSub N3 (by
    refine allCons ?_ (allCons ?_ (allCons ?_ allNil)) <;> k_extra "in")) K4
  refine ⟨I, [I, a], vs.length, _, St, _, _, JB w L Dv st cs, rfl, W.W, W.S, stt, frK F3 K4, N4, I0, LI, ?_, ?_, ?_, ?_, ?_⟩
  · refine allCons ?_ (allCons ?_ (allCons ?_ allNil))
    · exact IR.symm
    · exact IT.symm
    · exact neI _ _ (N3 (Dv, emptyDict) (.head _)).1
  · intro b hb
    revert b
    refine allCons ?_ (allCons ?_ allNil)
    · exact .inl rfl
    · exact .inr (.inl (let ⟨o, ho, _⟩ := hl; ⟨o, ho⟩))
  · refine ⟨by k_extra "var", by k_extra "var", [(Dv, emptyDict)], oR, oT, none, none, emptyDict, [], rfl, hoR, hoT, ?_, ⟨.head _, (DB w).empty, (fun _ h => nomatch h), (fun _ h => nomatch h), List.nodup_nil, lo⟩, ?_⟩
    · refine allCons ?_ allNil
      exact ⟨(hDn (L + 1, oR) (.tail _ (.head _))).symm, (hDn (L + 1 + 1, oT) (.head _)).symm⟩
    · simpa using Tally.nil
  · clear N4 N3 F3 N2 F2 N F
    intro i v m news h tk oI EE hi hP hJ hnI F5 N5
    try k_extra "nt"
    obtain ⟨vf, vst, led, oR, oT, vR, vT, ov, tb, rfl, dR, dT, hnC, V, T⟩ := hJ
    obtain ⟨x, c, rfl, hc, dx, es, n, hx0, hdx0, ⟨tw, vo, vn, vsc, hC, hO, hNn, hS⟩, ok⟩ := C.get hP
    have hCw := hC.word
    repeat k_extra "m"
    by_cases hw : c.word = Str.ofString "R"
    · refine ifFalse (by simp [hw]) ?_
      obtain ⟨o0, n0, eo, en, go, gn⟩ := ok hw
      rw [eo] at hO
      rw [en] at hNn
      cases hO
      cases hNn
      rename_i uo un
      have hCo := hC.old
      have hCn := hC.new
      have so : o0.length ≤ 1000 := by obtain ⟨_, _, _, _, _, h, _⟩ := go; exact Nat.le_trans h (by decide)
      have sn : n0.length ≤ 1000 := by obtain ⟨_, _, _, _, _, h, _⟩ := gn; exact Nat.le_trans h (by decide)
      have hbt : bB c = climbB (folderB o0).length (folderB o0) (folderB n0) := by unfold bB; rw [eo, en]; simp only [hw, if_true]
      repeat k_extra "m"
      rename_i tk5 uo1 _ _ _ _ un1 _ _ _ _ _ _ _ _ _ _ _ _ _ _ _ h6 F6 N6 tk6
      refine whileW (h₀ := s.heap) (L := L) (Inv := WB st w I oI (L + 1) (L + 1 + 1) Dv ((cs.take (i + 1)).flatMap bB)) (n := (folderB o0).length) F6 N6 ?_ ?_
      · refine ⟨by k_extra "var", led, oR, oT, ov, vR, vT, tb, (cs.take i).flatMap bB, folderB o0, folderB n0, uo1, un1, ?_⟩
        exact {
          mI := .head _
          mR := .tail _ (.head _)
          mT := .tail _ (.tail _ (.head _))
          dR := dR
          dT := dT
          sub := fun p hp => .tail _ (.tail _ (.tail _ hp))
          nI := fun p hp => ⟨hnI p (.tail _ (.tail _ hp)), hnC p hp⟩
          V := V
          T := T
          tot := by rw [take_flat hc, hbt]
          len := Nat.le_refl _
          lo := Nat.le_trans (folderB_len _) so
          ln := Nat.le_trans (folderB_len _) sn
          vf := by k_extra "var"
          vo := by k_extra "var"
          vn := by k_extra "var" }
      · clear V T F6 N6 F5 N5 vf vst hnC dR dT hnI
        intro k m' nw h7 tk7 EE hX F7 N7
        try k_extra "nt"
        obtain ⟨vst, led, oR, oT, ov, vR, vT, tb, bs, o, g, uo, ug, X⟩ := hX
        have mI := X.mI
        have mR := X.mR
        have mT := X.mT
        have dR := X.dR
        have dT := X.dT
        have lo1 := X.lo
        have ln1 := X.ln
        have vf := X.vf
        have vo1 := X.vo
        have vn1 := X.vn
        have hbl : bs.length ≤ 40 := Nat.le_trans (by rw [← X.tot, List.length_append]; exact Nat.le_add_right _ _) (hfl (i + 1))
        repeat k_extra "m"
        by_cases e1 : o = g
        · refine ifFalse (by simp [e1]) ?_
          repeat k_extra "m"
          exact feB F7 N7 mI mR mT dR dT IR IT X.sub X.nI X.V (by rw [← X.tot, climbB_stop (.inl e1), List.append_nil]; exact X.T) (by k_extra "var") (by k_extra "var")
        refine ifTrue (by simp [e1]) ?_
        repeat k_extra "m"
        by_cases e2 : o = []
        · refine ifFalse (by simp [e2]) ?_
          repeat k_extra "m"
          exact feB F7 N7 mI mR mT dR dT IR IT X.sub X.nI X.V (by rw [← X.tot, climbB_stop (.inr e2), List.append_nil]; exact X.T) (by k_extra "var") (by k_extra "var")
        refine ifTrue (by simp [e2]) ?_
        cases k with
        | zero => exact absurd (List.length_eq_zero_iff.mp (Nat.le_zero.mp X.len)) e2
        | succ k =>
        have mDv : (Dv, ov) ∈ led := X.V.inl
        repeat k_extra "m"
        refine methD N7 (X.sub _ mDv) ((DB w).ex X.V.main) PySem.F.slot_dict_setdefault PySem.F.type_dict_setdefault ?_
        repeat k_extra "m"
        rename_i tk8 D h10 F10 N10 ne10 loD
        have cons_sub : ∀ {q : Addr × Obj} {l1 l2 : List (Addr × Obj)}, (∀ p ∈ l1, p ∈ l2) → ∀ p ∈ q :: l1, p ∈ q :: l2 := fun h p hp => by
          rcases List.mem_cons.mp hp with rfl | hp
          · exact .head _
          · exact .tail _ (h p hp)
        have nI1 : ∀ p ∈ (D, emptyDict) :: led, p.1 ≠ I ∧ p.1 ≠ L + 1 ∧ p.1 ≠ L + 1 + 1 := fun p hp => by
          rcases List.mem_cons.mp hp with rfl | hp
          · exact ⟨(ne10 (I, oI) mI).symm, (ne10 (L + 1, oR) mR).symm, (ne10 (L + 1 + 1, oT) mT).symm⟩
          · exact X.nI p hp
        have tbl : tb.length ≤ 1000000 := Nat.le_trans X.T.len.1 (Nat.le_trans hbl (by decide))
        refine setdefN (dk := DB w) (led := (D, emptyDict) :: led) F10 N10 (cons_sub X.sub) R' (X.V.sub fun p hp => .tail _ hp) (bytesKind_is _ _ o _) tbl (.head _) loD
          (ne10 (Dv, ov) (X.sub _ mDv)).symm (fun t ht => by obtain ⟨o1, _, m1, _⟩ := X.V.rows t ht; exact ne10 (t.2.1, o1) (X.sub _ m1)) fun ar row tb0 ov' h11 tk11 O V2 F11 N11 => ?_
        try k_extra "nt"
        obtain ⟨mI2, mR2, mT2, sub2, nI2⟩ := updPackB (o' := ov') (.tail _ mI : (I, oI) ∈ (D, emptyDict) :: nw) (.tail _ mR) (.tail _ mT) (cons_sub X.sub) nI1 (.tail _ mDv)
        have hob : ∃ led2 nw2, VTab (DB w) led2 Dv ov' tb0 ∧ News s.heap L h11 nw2 ∧ (I, oI) ∈ nw2 ∧ (L + 1, oR) ∈ nw2 ∧ (L + 1 + 1, oT) ∈ nw2 ∧ (∀ p ∈ led2, p ∈ nw2) ∧ (∀ p ∈ led2, p.1 ≠ I ∧ p.1 ≠ L + 1 ∧ p.1 ≠ L + 1 + 1) := ⟨_, _, V2, N11, mI2, mR2, mT2, sub2, nI2⟩
        obtain ⟨led2, nw2, V2, N11, mI2, mR2, mT2, sub2, nI2⟩ := hob
        k_extra "cel"
        rename_i h12 oR3 F12 N12 dR3
        have hob : ∃ nw3, News s.heap L h12 nw3 ∧ (I, oI) ∈ nw3 ∧ (L + 1, oR3) ∈ nw3 ∧ (L + 1 + 1, oT) ∈ nw3 ∧ (∀ p ∈ led2, p ∈ nw3) :=
          ⟨_, N12, updL_mem mI2 IR, updL_self mR2, updL_mem mT2 hRT.symm, fun p hp => updL_mem (sub2 p hp) (nI2 p hp).2.1⟩
        obtain ⟨nw3, N12, mI3, mR3, mT3, sub3⟩ := hob
        repeat k_extra "m"
        obtain ⟨orow, kvs, mr, dr, rr⟩ := V2.rows _ O.mem
        refine methD N12 (sub3 _ mr) ((DB w).ex dr) PySem.F.slot_dict_get PySem.F.type_dict_get ?_
        repeat k_extra "m"
        have rl : row.length ≤ 1000000 := by
          rcases O with ⟨_, hm⟩ | ⟨_, rfl, _⟩
          · exact Nat.le_trans (X.T.len.2 _ hm) (Nat.le_trans hbl (by decide))
          · exact Nat.zero_le _
        refine rowGetN (dk := DB w) N12 sub3 R' V2 O.mem (bytesKind_is _ _ g _) fun u14 tk14 => ?_
        try k_extra "nt"
        repeat k_extra "m"
        refine rowSetN (dk := DB w) F12 N12 sub3 R' V2 O.mem (bytesKind_is _ _ g _) rl rfl fun o' h16 tk16 V5 F16 N16 => ?_
        try k_extra "nt"
        have T5 := X.T.step (g := g) X.V.keys O
        obtain ⟨mI4, mR4, mT4, sub4, nI4⟩ := updPackB (o' := o') mI3 mR3 mT3 sub3 nI2 mr
        have hob : ∃ led3 nw4, VTab (DB w) led3 Dv ov' (bumpT tb0 o g) ∧ News s.heap L h16 nw4 ∧ (I, oI) ∈ nw4 ∧ (L + 1, oR3) ∈ nw4 ∧ (L + 1 + 1, oT) ∈ nw4 ∧ (∀ p ∈ led3, p ∈ nw4) ∧ (∀ p ∈ led3, p.1 ≠ I ∧ p.1 ≠ L + 1 ∧ p.1 ≠ L + 1 + 1) := ⟨_, _, V5, N16, mI4, mR4, mT4, sub4, nI4⟩
        obtain ⟨led3, nw4, V3, N17, mI4, mR4, mT4, sub4, nI4⟩ := hob
        clear N16 N12 N11 N10
        repeat k_extra "m"
        by_cases e3 : g = []
        · refine ifTrue (by simp [e3]) ?_
          repeat k_extra "m"
          exact feB F16 N17 mI4 mR4 mT4 dR3 dT IR IT sub4 nI4 V3 (by rw [← X.tot, climbB_last e1 e2 (.inl e3)]; exact T5) (by k_extra "var") (by k_extra "var")
        refine ifFalse (by simp [e3]) ?_
        repeat k_extra "m"
        rename_i tk18 u18 h18 tk18b F18 N18 u19 h19 tk19 F19 N19
        by_cases e4 : nameB o = nameB g
        · refine ifFalse (by simp [e4]) ?_
          repeat k_extra "m"
          rename_i tk20 ua _ _ _ _ ub _ _ _ _ _ _ _ _ _ _ _ _ _ _ _ h25 F25 N25
          refine ⟨k, h25, _, _, _, Nat.lt_succ_self k, rfl, F25, N25, by k_extra "var", led3, oR3, oT, ov', some (.ref ar), vT, bumpT tb0 o g, bs ++ [(o, g)], folderB o, folderB g, ua, ub, ?_⟩
          exact {
            mI := mI4
            mR := mR4
            mT := mT4
            dR := dR3
            dT := dT
            sub := sub4
            nI := nI4
            V := V3
            T := T5
            tot := by rw [← X.tot, climbB_next e1 e2 e3 e4, List.append_assoc]; rfl
            len := Nat.le_of_lt_succ (Nat.lt_of_lt_of_le (folderB_lt e2) X.len)
            lo := Nat.le_trans (folderB_len _) lo1
            ln := Nat.le_trans (folderB_len _) ln1
            vf := by k_extra "var"
            vo := by k_extra "var"
            vn := by k_extra "var" }
        refine ifTrue (by simp [e4]) ?_
        repeat k_extra "m"
        exact feB F19 N19 mI4 mR4 mT4 dR3 dT IR IT sub4 nI4 V3 (by rw [← X.tot, climbB_last e1 e2 (.inr e4)]; exact T5) (by k_extra "var") (by k_extra "var")
    · refine ifTrue (by simp [hw]) ?_
      repeat k_extra "m"
      exact feEnd F5 N5 (.head _) (fun p hp => .tail _ hp) hnI ⟨by k_extra "var", by k_extra "var", led, oR, oT, vR, vT, ov, tb, rfl, dR, dT, hnC, V, by rw [take_flat hc, bB_not hw, List.append_nil]; exact T⟩
  · clear N4 N3 F3 N2 F2 N F
    intro m news h tk hJ hnI F5 N5
    try k_extra "nt"
    obtain ⟨vf, vst, led, oR, oT, vR, vT, ov, tb, rfl, dR, dT, hnC, V, T⟩ := hJ
    have hcs : cs.take vs.length = cs := by rw [C.length]; exact List.take_length
    have htb : tb.length ≤ 40 := Nat.le_trans T.len.1 (hfl vs.length)
    rw [hcs] at T
    have mV : (Dv, ov) ∈ (L + 1, oR) :: (L + 1 + 1, oT) :: led := .tail _ (.tail _ V.inl)
    repeat k_extra "m"
    rename_i tk6 Df h6 F6 N6 nDf loDf h7 F7 N7 tk7
    refine forW (h₀ := s.heap) (L := L) rfl ?hx2 ?hp2 ?_ ?hs2
    case hx2 => exact rfl
    case hp2 => exact rfl
    case hs2 => intro _; exact rfl
    repeat k_extra "m"
    obtain ⟨odv, hodv, hdv⟩ := (⟨ov, (N7 (Dv, ov) (.tail _ (.tail _ (.tail _ V.inl)))).1, V.main⟩ : ∃ o, h7.get? Dv = some o ∧ o.IsDictOf (bk w) (tb.map fun t => (t.1, Value.ref t.2.1)))
    obtain ⟨ep, hat⟩ := (Heap.dictOf_iff.mpr ⟨odv, hodv, hdv⟩ : h7.DictOf (bk w) Dv _).dictAt
    try k_extra "nt"
    refine sortSrcN (kdl_dict (knd := bk w) lo) R'.hh F7 N7 hat (by simp only [List.length_map]; exact Nat.lt_of_le_of_lt htb (by decide)) (fun vs hl hv => ⟨_, bysOfKeys hl hv⟩) fun Ds h8 tk8 vs1 vs2 ps1 ps2 ke hl1 hv1 hb1 hb2 hperm F8 N8 nDs => ?_
    try k_extra "nt"
    have hps1 : ps1 = tb.map (·.1) := by
      have := (bysOfKeys (w := w) hl1 hv1).bys
      rw [hb1.bys, List.map_map] at this
      exact this
    repeat k_extra "m"
    try k_extra "nt"
    refine iterList R'.hh (News.isList N8 (.head _)) fun I2 h9 St2 W2 st2 K9 hI2 _ => ?_
    try k_extra "nt"
    have I02 := frFresh F8 hI2
    have neI2 : ∀ a o, h8.get? a = some o → a ≠ I2 := fun a o e => by rw [hI2]; exact Nat.ne_of_lt (Heap.lt_size e)
    have LI2 : L ≠ I2 := by obtain ⟨o, _, _, ho, _⟩ := F8.ns; exact neI2 _ _ ho
    have IR2 : I2 ≠ L + 1 := (neI2 _ _ (N8 (L + 1, oR) (.tail _ (.tail _ (.head _)))).1).symm
    have IT2 : I2 ≠ L + 1 + 1 := (neI2 _ _ (N8 (L + 1 + 1, oT) (.tail _ (.tail _ (.tail _ (.head _))))).1).symm
    have IDs : I2 ≠ Ds := (neI2 _ _ (N8 (Ds, _) (.head _)).1).symm
    have IDf : I2 ≠ Df := (neI2 _ _ (N8 (Df, _) (.tail _ (.head _))).1).symm
    have dfR : Df ≠ L + 1 := (nDf (L + 1, oR) (.head _)).symm
    have dfT : Df ≠ L + 1 + 1 := (nDf (L + 1 + 1, oT) (.tail _ (.head _))).symm
    have dsR : Ds ≠ L + 1 := (nDs (L + 1, oR) (.tail _ (.head _))).symm
    have dsT : Ds ≠ L + 1 + 1 := (nDs (L + 1 + 1, oT) (.tail _ (.tail _ (.head _)))).symm
    have dsf : Ds ≠ Df := (nDs (Df, _) (.head _)).symm
    have ledR : ∀ p ∈ led, p.1 ≠ L + 1 := fun p hp => (hnC p hp).1
    have ledT : ∀ p ∈ led, p.1 ≠ L + 1 + 1 := fun p hp => (hnC p hp).2
    have ledF : ∀ p ∈ led, p.1 ≠ Df := fun p hp => nDf p (.tail _ (.tail _ hp))
    have ledS : ∀ p ∈ led, p.1 ≠ Ds := fun p hp => nDs p (.tail _ (.tail _ (.tail _ hp)))
    have ledI : ∀ p ∈ led, p.1 ≠ I2 := fun p hp => neI2 _ _ (N8 p (.tail _ (.tail _ (.tail _ (.tail _ hp))))).1
    have N9 : News s.heap L h9 [(L + 1, oR), (L + 1 + 1, oT), (Ds, listOf vs2.toArray ke), (Df, emptyDict)] := newsK (newsSub N8 (by
      refine allCons ?_ (allCons ?_ (allCons ?_ (allCons ?_ allNil))) <;> k_extra "in")) K9
    have N9 : News s.heap L h9 ((L + 1, oR) :: (L + 1 + 1, oT) :: (Ds, listOf vs2.toArray ke) :: (Df, emptyDict) :: led) := fun p hp => by
      by_cases q : p ∈ led
      · exact newsK N8 K9 p (.tail _ (.tail _ (.tail _ (.tail _ q))))
      · refine N9 p ?_
        simp only [List.mem_cons, q, or_false, List.not_mem_nil] at hp ⊢
        exact hp
    refine ⟨I2, [I2, Ds], vs2.length, _, St2, _, _, JF w L Dv st Df Ds vs2 ke (cs.flatMap bB) still ps2 led, rfl, W2.W, W2.S, st2, frK F8 K9, N9, I02, LI2, ?_, ?_, ?_, ?_, ?_⟩
    · intro p hp
      revert p
      refine allCons ?_ (allCons ?_ (allCons ?_ (allCons ?_ (fun p hp => ?_))))
      · exact IR2.symm
      · exact IT2.symm
      · exact IDs.symm
      · exact IDf.symm
      · exact ledI p hp
    · intro b hb
      revert b
      refine allCons ?_ (allCons ?_ allNil)
      · exact .inl rfl
      · exact .inr (.inr ⟨listOf vs2.toArray ke, fun i m news hJ => by obtain ⟨_, _, _, oR, oT, vR, vT, ofd, kvs, rfl, _⟩ := hJ; simp⟩)
    · exact ⟨by k_extra "var", by k_extra "var", by k_extra "var", oR, oT, vR, vT, emptyDict, [], rfl, dR, dT, (DB w).empty (led := []), (fun f v e => by simp [valueAt] at e), (fun f hf => by simp at hf), Nat.le_refl _⟩
    · clear N9 N8 N7 N6 N5 F8 F7 F6 F5 dR dT hI2 vf vst hat hodv hdv
      intro i v m news h tk oI EE hi hP hJ hnI F N
      try k_extra "nt"
      obtain ⟨vf, vst, vfd, oR, oT, vR, vT, ofd, kvs, rfl, dR, dT, hfd, FP⟩ := hJ
      obtain ⟨f, tf, rfl, hf⟩ := hb2.get' hP
      obtain ⟨t, ht, htf⟩ := List.mem_map.mp (hps1 ▸ hperm.mem_iff.mp (List.mem_of_getElem? hf))
      obtain ⟨f0, ar, row⟩ := t
      simp only at htf
      subst htf
      have hval : valueAt (tb.map fun t => (t.1, Value.ref t.2.1)) f0 = some (.ref ar) := valueAt_mem ((DB w).nodup V.main) (List.mem_map_of_mem (f := fun t : By × Addr × Row By => (t.1, Value.ref t.2.1)) ht)
      obtain ⟨orow, kr, mr, dr, rr⟩ := V.rows _ ht
      have Nl : Led h led := newsLed N fun p hp => .tail _ (.tail _ (.tail _ (.tail _ (.tail _ hp))))
      repeat k_extra "m"
      refine itemD (DB w) (led := led) R' Nl V.inl V.main (bytesKind_is _ _ f0 _) hval (fun tk10 => ?_) (by with_unfolding_all rfl)
      repeat k_extra "m"
      rename_i h10 oR1 F10 N10 dR1 tk11
      refine' listCompW (cl := [(Str.ofString "row", L + 1)]) ?g1 ?g2 ?g3 ?g4 ?g5 ?_ ?g6
      case g1 => exact rfl
      case g2 => decide
      case g3 => exact rfl
      case g4 => decide
      case g5 => exact rfl
      case g6 => intro _; exact rfl
      repeat k_extra "m"
      have mar : (ar, orow) ∈ (L + 1, oR1) :: (I2, oI) :: (L + 1 + 1, oT) :: (Ds, listOf vs2.toArray ke) :: (Df, ofd) :: led := .tail _ (.tail _ (.tail _ (.tail _ (.tail _ mr))))
      try k_extra "nt"
      refine iterDict (knd := bk w) R'.hh (V.ne _ ht).2 (Heap.dictOf_iff.mpr ⟨orow, (N10 _ mar).1, dr⟩) fun I3 h11 St3 W3 st3 K11 hI3 _ => ?_
      try k_extra "nt"
      have F11 := frK F10 K11
      have N11 := newsK N10 K11
      have I03 := frFresh F10 hI3
      have neI3 : ∀ a o, h10.get? a = some o → a ≠ I3 := fun a o e => by rw [hI3]; exact Nat.ne_of_lt (Heap.lt_size e)
      have LI3 : L ≠ I3 := by obtain ⟨o, _, _, ho, _⟩ := F10.ns; exact neI3 _ _ ho
      have krn : (kr.map (·.1)).Nodup := (DB w).nodup dr
      have rown : (row.map (·.1)).Nodup := rr.keys ▸ krn
      have rowl : row.length ≤ 1000000 := Nat.le_trans (T.len.2 _ ht) (Nat.le_trans (by have := hfl vs.length; rw [hcs] at this; exact this) (by decide))
      have arI3 : ar ≠ I3 := neI3 _ _ (N10 _ mar).1
      have fpI : ∀ b ∈ [I3, ar], b = I3 ∨ ((∃ o, h11.get? b = some o) ∧ b ∉ I3 :: ([] : List (Addr × Obj)).map (·.1)) := by
        refine allCons ?_ (allCons ?_ allNil)
        · exact .inl rfl
        · exact .inr ⟨⟨orow, (N11 _ mar).1⟩, fun q => arI3 (List.mem_singleton.mp q)⟩
      have XR : (hideAll h11 (I3 :: ([] : List (Addr × Obj)).map (·.1))).IsCell (L + 1) (some (.ref ar)) := ⟨oR1, hideAll_get _ (N11 (L + 1, oR1) (.head _)).1 (notOne (neI3 _ _ (N10 (L + 1, oR1) (.head _)).1)), dR1⟩
      have hrow : (hideAll h11 (I3 :: ([] : List (Addr × Obj)).map (·.1))).get? ar = some orow := hideAll_get _ (N11 _ mar).1 (notOne arI3)
      refine ⟨I3, [I3, ar], kr.length, _, St3, [], fun i vs led' => led' = [] ∧ IntsAre vs ((row.take i).map fun r => (r.2 : Int)), rfl, W3.W, by rw [rr.length]; exact rowl, W3.S, st3, (fun p hp => nomatch hp), fpI, ⟨rfl, .nil⟩, ?_, ?_⟩
      · intro C D j v vs led' h tk m oI3 k EE hC hD hj hPj hJ hlen hl Fc Nc
        try k_extra "nt"
        obtain ⟨rfl, hvs⟩ := hJ
        clear hC hD
        obtain ⟨kk, x, ekk, hkk⟩ := hPj
        obtain ⟨c, u, rfl, ec⟩ := rr.get ekk
        refine noIfs ?_
        refine ifTrue rfl ?_
        repeat k_extra "m"
        refine dictItem (knd := bk w) (Heap.dictOf_iff.mpr ⟨orow, Fc.keep _ _ hrow, dr⟩) hkk (valueAt_mem krn (List.mem_of_getElem? ekk)) ?_ (by with_unfolding_all rfl)
        refine ⟨h, _, _, [], rfl, Fc, Nc, (fun p hp => nomatch hp), rfl, ?_⟩
        rw [List.take_add_one, ec, List.map_append]
        exact intsSnoc hvs
      · intro D1 vs led' h12 tk12 k12 hJ Kc hlD hDo hDs
        try k_extra "nt"
        obtain ⟨rfl, hvs⟩ := hJ
        replace hDs : h11.objs.size ≤ D1 := hDs
        have htk : row.take kr.length = row := by rw [rr.length]; exact List.take_length
        rw [htk] at hvs
        obtain ⟨F12, N12, nD1⟩ := compOut F11 N11 I03 (fun p hp => neI3 _ _ (N10 p hp).1) LI3 Kc hDo hDs
        repeat k_extra "m"
        have rne : 0 < (row.map fun r => (r.2 : Int)).length := by
          rw [List.length_map]
          exact List.length_pos_iff.mpr (T.pos _ ht).1
        refine max_list_N R'.hh F12 N12 (listAt hDo) hvs rne fun h13 M tM tk13 F13 N13 hM hMle => ?_
        try k_extra "nt"
        repeat k_extra "m"
        rename_i h14 oT1 F14 N14 dT1 tk14
        have mar2 : (ar, orow) ∈ (L + 1 + 1, oT1) :: (D1, listOf vs.toArray k12) :: (L + 1, oR1) :: (I2, oI) :: (Ds, listOf vs2.toArray ke) :: (Df, ofd) :: led := .tail _ (.tail _ (.tail _ (.tail _ (.tail _ (.tail _ mr)))))
        refine' compAssignW (h₀ := s.heap) (L := L) (cl := [(Str.ofString "top", L + 1 + 1), (Str.ofString "row", L + 1)]) ?sw ?hy3 ?hp3 ?hL3 ?g1 ?g2 ?g3 ?g4 ?g5 ?_ ?g6
        case sw => exact rfl
        case hy3 => exact rfl
        case hp3 => exact rfl
        case hL3 => exact rfl
        case g1 => exact rfl
        case g2 => decide
        case g3 => exact rfl
        case g4 => decide
        case g5 => exact rfl
        case g6 => intro _; exact rfl
        repeat k_extra "m"
        try k_extra "nt"
        refine iterDict (knd := bk w) R'.hh (V.ne _ ht).2 (Heap.dictOf_iff.mpr ⟨orow, (N14 _ mar2).1, dr⟩) fun I4 h15 St4 W4 st4 K15 hI4 _ => ?_
        try k_extra "nt"
        have F15 := frK F14 K15
        have N15 := newsK N14 K15
        have I04 := frFresh F14 hI4
        have neI4 : ∀ a o, h14.get? a = some o → a ≠ I4 := fun a o e => by rw [hI4]; exact Nat.ne_of_lt (Heap.lt_size e)
        have LI4 : L ≠ I4 := by obtain ⟨o, _, _, ho, _⟩ := F14.ns; exact neI4 _ _ ho
        have arI4 : ar ≠ I4 := neI4 _ _ (N14 _ mar2).1
        have fpI4 : ∀ b ∈ [I4, ar], b = I4 ∨ ((∃ o, h15.get? b = some o) ∧ b ∉ I4 :: ([] : List (Addr × Obj)).map (·.1)) := by
          refine allCons ?_ (allCons ?_ allNil)
          · exact .inl rfl
          · exact .inr ⟨⟨orow, (N15 _ mar2).1⟩, fun q => arI4 (List.mem_singleton.mp q)⟩
        have XR4 : (hideAll h15 (I4 :: ([] : List (Addr × Obj)).map (·.1))).IsCell (L + 1) (some (.ref ar)) := ⟨oR1, hideAll_get _ (N15 (L + 1, oR1) (.tail _ (.tail _ (.head _)))).1 (by simpa using neI4 _ _ (N14 (L + 1, oR1) (.tail _ (.tail _ (.head _)))).1), dR1⟩
        have XT4 : (hideAll h15 (I4 :: ([] : List (Addr × Obj)).map (·.1))).IsCell (L + 1 + 1) (some (.int M tM)) := ⟨oT1, hideAll_get _ (N15 (L + 1 + 1, oT1) (.head _)).1 (notOne (neI4 _ _ (N14 (L + 1 + 1, oT1) (.head _)).1)), dT1⟩
        have hrow4 : (hideAll h15 (I4 :: ([] : List (Addr × Obj)).map (·.1))).get? ar = some orow := hideAll_get _ (N15 _ mar2).1 (notOne arI4)
        have hfr4 : ∀ a ∈ I4 :: ([] : List (Addr × Obj)).map (·.1), s.heap.get? a = none ∧ a ≠ L := by
          exact allCons (⟨I04, LI4.symm⟩) allNil
        refine ⟨I4, [I4, ar], kr.length, _, St4, [], fun i vs led' => led' = [] ∧ BysAre vs (topsOf (row.take i) M), _, rfl, F15, hfr4, W4.W, by rw [rr.length]; exact rowl, W4.S, st4, (fun p hp => nomatch hp), fpI4, ⟨rfl, .nil⟩, ?_, ?_⟩
        · intro C D j v vs led' h tk m oI3 k EE hC hD hj hPj hJ hlen hl Fc Nc
          try k_extra "nt"
          obtain ⟨rfl, hvs⟩ := hJ
          clear hC hD
          obtain ⟨kk, x, ekk, hkk⟩ := hPj
          obtain ⟨c, u, rfl, ec⟩ := rr.get ekk
          have htop : topsOf (row.take (j + 1)) M = topsOf (row.take j) M ++ (if (c : Int) = M then [kk] else []) := by
            unfold topsOf
            rw [List.take_add_one, ec, List.filter_append, List.map_append]
            congr 1
            by_cases q : (c : Int) = M <;> simp [q]
          refine oneIf ?_
          repeat k_extra "m"
          refine dictItem (knd := bk w) (Heap.dictOf_iff.mpr ⟨orow, Fc.keep _ _ hrow4, dr⟩) hkk (valueAt_mem krn (List.mem_of_getElem? ekk)) ?_ (by with_unfolding_all rfl)
          repeat k_extra "m"
          by_cases q : (c : Int) = M
          · refine ifTrue (by simpa using q) ?_
            obtain ⟨tkk, rfl⟩ := bk_is hkk
            repeat k_extra "m"
            refine ⟨h, _, _, [], rfl, Fc, Nc, (fun p hp => nomatch hp), rfl, ?_⟩
            rw [htop, if_pos q]
            exact hvs.append (.cons .nil)
          · refine ifFalse (by simpa using q) ?_
            refine ⟨h, _, _, [], rfl, Fc, Nc, (fun p hp => nomatch hp), rfl, ?_⟩
            rw [htop, if_neg q, List.append_nil]
            exact hvs
        · intro D2 vs3 led' h16 tk16 k16 hJ F16 Kc hlD2 hDo2 hDs2
          try k_extra "nt"
          obtain ⟨rfl, hvs3⟩ := hJ
          replace hDs2 : h15.objs.size ≤ D2 := hDs2
          rw [htk] at hvs3
          have fD2 : ∀ o, h15.get? D2 ≠ some o := fun o e => absurd (Heap.lt_size e) (Nat.not_lt.mpr hDs2)
          have nD2 : ∀ p ∈ (L + 1 + 1, oT1) :: (D1, listOf vs.toArray k12) :: (L + 1, oR1) :: (I2, oI) :: (Ds, listOf vs2.toArray ke) :: (Df, ofd) :: led, p.1 ≠ D2 := fun p hp e => fD2 p.2 (e ▸ (N15 p hp).1)
          have N16 : News s.heap L h16 ((D2, listOf vs3.toArray k16) :: (L + 1 + 1, oT1) :: (D1, listOf vs.toArray k12) :: (L + 1, oR1) :: (I2, oI) :: (Ds, listOf vs2.toArray ke) :: (Df, ofd) :: led) := fun p hp => by
            rcases List.mem_cons.mp hp with rfl | hp
            · refine ⟨hDo2, fun e => ?_, ?_⟩
              · obtain ⟨o, _, _, ho, _⟩ := F15.ns
                have e : D2 = L := e
                exact fD2 o (e ▸ ho)
              · cases q : s.heap.get? D2 with
                | none => rfl
                | some o => exact absurd (F15.keep _ _ q) (fD2 o)
            · refine ⟨Kc _ _ (hideAll_get _ (N15 p hp).1 ?_), (N15 p hp).2⟩
              exact notCons ((N15 p hp).2.1) (notOne (neI4 _ _ (N14 p hp).1))
          have hlz : vs3.length ≤ 1000000 := by
            rw [hvs3.length]
            unfold topsOf
            rw [List.length_map]
            exact Nat.le_trans (List.length_filter_le _ _) rowl
          have hle : ∀ r ∈ row, (r.2 : Int) ≤ M := fun r hr => hMle _ (List.mem_map_of_mem hr)
          have hex : ∃ r ∈ row, (r.2 : Int) = M := by obtain ⟨r, hr, e⟩ := List.mem_map.mp hM; exact ⟨r, hr, e⟩
          have htw := fun g => tops_win (f := f0) rown (T.pos _ ht).2 (T.cnt _ ht) hle hex g
          have hkl : kvs.length ≤ 1000000 := Nat.le_trans FP.len (by have := hb2.length; have := hperm.length_eq; rw [hps1, List.length_map] at this; omega)
          repeat k_extra "m"
          by_cases h1 : vs3.length = 1
          · refine ifTrue (by simp [h1]) ?_
            obtain ⟨g, tg, rfl, etop⟩ := hvs3.one h1
            have hwin := (htw g).mp etop
            have hst16 : h16.IsTuple st ws.toArray := let ⟨o, ho, r⟩ := hst; ⟨o, F16.keep _ _ ho, r⟩
            repeat k_extra "m"
            by_cases hs : f0 ∈ still
            · refine ifFalse (by simp [hs]) ?_
              repeat k_extra "m"
              exact feF F16 N16 (by k_extra "mem") (by k_extra "mem") (by k_extra "mem") (by k_extra "mem") (by k_extra "mem") (fun p hp => .tail _ (.tail _ (.tail _ (.tail _ (.tail _ (.tail _ (.tail _ hp))))))) dR1 dT1 IR2 IT2 IDs IDf ledI hfd (FP.skip hf fun _ _ => hs) (by k_extra "var") (by k_extra "var") (by k_extra "var")
            · refine ifTrue (by simp [hs]) ?_
              repeat k_extra "m"
              refine itemL (vs := [.bytes g.toArray tg]) (News.isList N16 (.head _)) (by decide) (by decide) rfl ?_ (by with_unfolding_all rfl)
              repeat k_extra "m"
              refine' setDN F16 N16 R' ?sm hfd hkl (Pick1.ok ?pk) ?_
              case sm => k_extra "mem"
              case pk => k_extra "pick"
              intro h17 of2 tk17 F17 N17 hfd2
              try k_extra "nt"
              repeat k_extra "m"
              exact feF F17 N17 (by k_extra "mem") (by k_extra "mem") (by k_extra "mem") (by k_extra "mem") (by k_extra "mem") (fun p hp => .tail _ (.tail _ (.tail _ (.tail _ (.tail _ (.tail _ (.tail _ hp))))))) dR1 dT1 IR2 IT2 IDs IDf ledI hfd2 (FP.add hf hwin hs) (by k_extra "var") (by k_extra "var") (by k_extra "var")
          · refine ifFalse (by simpa using fun e : (vs3.length : Int) = 1 => h1 (Int.ofNat.inj e)) ?_
            repeat k_extra "m"
            have hno : ∀ g, Win (cs.flatMap bB) f0 g → f0 ∈ still := fun g hg => by
              have := (htw g).mpr hg
              rw [this] at hvs3
              exact absurd hvs3.length h1
            exact feF F16 N16 (by k_extra "mem") (by k_extra "mem") (by k_extra "mem") (by k_extra "mem") (by k_extra "mem") (fun p hp => .tail _ (.tail _ (.tail _ (.tail _ (.tail _ (.tail _ (.tail _ hp))))))) dR1 dT1 IR2 IT2 IDs IDf ledI hfd (FP.skip hf hno) (by k_extra "var") (by k_extra "var") (by k_extra "var")
    · intro m news h tk hJ hnI F N
      try k_extra "nt"
      obtain ⟨vf, vst, vfd, oR, oT, vR, vT, ofd, kvs, rfl, dR, dT, hfd, FP⟩ := hJ
      repeat k_extra "m"
      have hlen2 : ps2.take vs2.length = ps2 := by rw [hb2.length]; exact List.take_length
      have mDf := N (Df, ofd) (.tail _ (.tail _ (.tail _ (.head _))))
      refine ⟨_, _, _, rfl, rfl, F.keep, Df, ofd, kvs, rfl, mDf.1, mDf.2.2, loDf, hfd, FP.sound, fun f g hw hs => ?_⟩
      refine FP.compl f ?_ g hw hs
      rw [hlen2, hperm.mem_iff, hps1]
      by_cases q : f ∈ tb.map (·.1)
      · exact q
      · have := T.out f q g
        have h0 := hw.1
        rw [this] at h0
        exact absurd h0 (Nat.lt_irrefl _)
noncomputable def itT (b : Bool) : String := if b then "dict_valueiterator" else "dict_keyiterator"
noncomputable def RIter (h : Heap) (b : Bool) (it d : Addr) (i n ep : Nat) : Prop := ∃ o, h.get? it = some o ∧ o.cls = .type (itT b) ∧ o.data = .fields #[.ref d, .int i 0, .int n 0, .int ep 0]
noncomputable def RDict (h : Heap) (d : Addr) (es : Array DictEntry) (ep : Nat) : Prop := ∃ o, h.get? d = some o ∧ o.ExactDict ∧ o.data = .dict es ep
noncomputable def partOf (b : Bool) (e : DictEntry) : Value := if b then e.val else e.key
theorem RIter.typeIs {s : Shared} {b : Bool} {it d : Addr} {i n ep : Nat} (x : RIter s.heap b it d i n ep) : s.TypeIs (.ref it) (itT b) := let ⟨o, ho, hc, _⟩ := x; ⟨o, ho, hc⟩
theorem RIter.at {h h' : Heap} {b : Bool} {it d : Addr} {i n ep : Nat} (x : RIter h b it d i n ep) (e : ∀ o, h.get? it = some o → h'.get? it = some o) : RIter h' b it d i n ep := let ⟨o, ho, r⟩ := x; ⟨o, e _ ho, r⟩
theorem RDict.at {h h' : Heap} {d : Addr} {es : Array DictEntry} {ep : Nat} (x : RDict h d es ep) (e : ∀ o, h.get? d = some o → h'.get? d = some o) : RDict h' d es ep := let ⟨o, ho, r⟩ := x; ⟨o, e _ ho, r⟩

section
variable {prog : Program} {w : World} {A : Around} {E : Value → Shared → Prop} {s : Shared}
theorem rawSelf {b : Bool} {it d : Addr} {i n ep : Nat} {Q : Value → Shared → Prop} (hit : RIter s.heap b it d i n ep) (h : Q (.ref it) s) : wpAny (model prog w) A (pyIter (.ref it)) Q E s := by
  cases b with
  | false => exact wpAny_pyIter_keyiter (i := i) (n := n) (ep := ep) (d := d) hit h
  | true => exact wpAny_pyIter_valiter (i := i) (n := n) (ep := ep) (d := d) hit h
theorem baseIt {b : Bool} {it : Addr} {Q : Nat → Shared → Prop} (hT : s.TypeIs (.ref it) (itT b)) (h : Q 0 s) :
    wpAny (model prog w) A (typeNameOfWhole (.ref it) >>= fun ty => pure (if Builtin.Dict_items.ownsTuple ty = true then 2 else 0)) Q E s := by
  cases b with
  | false => exact wpAny_bind (wpAny_typeNameOfWhole_keyiter hT (wpAny_pure h))
  | true => exact wpAny_bind (wpAny_typeNameOfWhole_valiter hT (wpAny_pure h))
theorem oneIt {b : Bool} {it : Addr} {types : List String} {Q : Bool → Shared → Prop} (v : Bool) (hT : s.TypeIs (.ref it) (itT b))
    (hv : (types.any fun t => [Value.type (itT b), Value.type "object"].contains (.type t)) = v) (h : Q v s) : wpAny (model prog w) A (Builtin.Dict_items.isOneOf (.ref it) types) Q E s := by
  subst hv
  cases b with
  | false => exact wpAny_isOneOf_keyiter hT h
  | true => exact wpAny_isOneOf_valiter hT h
theorem stopNew {α β : Type} {B : Around} {Q : α → Shared → Prop} {Q' : Option β → Shared → Prop} (hh : A.handled = none) (h : ∀ o₁ o₂, Q' none { s with heap := (s.heap.push o₁).push o₂ }) :
    wpAny (model prog w) A (newExc (.type "StopIteration") [] >>= fun e => raiseNew e) Q
      (fun e s' => wpAny (model prog w) B (isInstance e (.type "StopIteration") >>= fun b => if b = true then pure none else throw e) Q' E s') s := by
  refine wpAny_bind (wpAny_bind (wpAny_newObj_type ?_ (by size_fits)))
  refine wpAny_bind (m := firstArgMember _ _) (wpAny_of_eq (a := Value.none) (by first | rfl | (simp only [firstArgMember]; rfl)) (wpAny_newObj_type ?_ (by size_fits)))
  exact wpAny_raiseNew_none hh (wpAny_bind (wpAny_isInstance (T := "StopIteration") (b := true) ⟨_, Heap.get?_push_size _ rfl, rfl⟩ isSubtype_stop (wpAny_pure (h _ _))))
noncomputable def nextB (b : Bool) : String := if b then "dict_valueiterator.__next__" else "dict_keyiterator.__next__"
theorem rawBoth : ∃ F : String → Builtin, Builtin.«dict_keyiterator.__next__» = F (nextB false) ∧ Builtin.«dict_valueiterator.__next__» = F (nextB true) ∧
    ∀ {prog : Program} {w : World} {A B : Around} {E : Value → Shared → Prop} {s : Shared} (nm : String) {b : Bool} {it d : Addr} {i ep : Nat} {es : Array DictEntry} {Q : Option Value → Shared → Prop}
    (_ : A.handled = none) (_ : RIter s.heap b it d i es.size ep) (_ : RDict s.heap d es ep)
    (_ : ∀ e h', es[i]? = some e → RIter h' b it d (i + 1) es.size ep → Heap.SameBut it s.heap h' → Q (some (partOf b e)) { s with heap := h' })
    (_ : ∀ h', es.size ≤ i → Heap.ExtBut it s.heap h' → Q none { s with heap := h' }),
    wpAny (model prog w) A (F nm ⟨[.ref it], []⟩) (fun v s' => ∃ x, v = .done (.ret x) ∧ wpAny (model prog w) B (pure (some x)) Q E s')
      (fun e s' => wpAny (model prog w) B (isInstance e (.type "StopIteration") >>= fun b => if b = true then pure none else throw e) Q E s') s := by
  refine ⟨_, rfl, rfl, fun {prog w A B E s} nm {b it d i ep es Q} hh hit hm hI hD => ?_⟩
  obtain ⟨o, ho, hc, hd⟩ := id hit
  obtain ⟨od, hod, hcd, hdd⟩ := hm
  have hT : s.TypeIs (.ref it) (itT b) := hit.typeIs
  refine wpAny_bind (wpAny_pure (wpAny_bind (wpAny_bind (baseIt hT (wpAny_bind (wpAny_fieldsOf ho hd ?_))))))
  show wpAny _ _ (if (Value.ref d == Value.none) = true then _ else _) _ _ s
  refine wpIfN (show ¬ ((Value.ref d == Value.none) = true) from Bool.false_ne_true) ?_
  refine wpAny_bind (wpAny_pure (wpAny_bind (wpAny_dictEntries hod hdd (wpIfN (by simp) (wpAny_bind (wpAny_pure (wpAny_bind (wpAny_dictEpoch hod hdd (wpIfN (by simp) (wpAny_pure ?_)))))))))) 
  have hz : (if (i : Int) < 0 then none else es[(i : Int).toNat]?) = es[i]? := (if_neg (Int.not_lt.mpr (Int.natCast_nonneg i))).trans (by rw [Int.toNat_natCast])
  dsimp only
  rw [hz]
  generalize hx : es[i]? = o'
  cases o' with
  | some e =>
    refine wpAny_bind (baseIt hT (wpAny_bind (oneIt false hT (by cases b <;> rfl) ?_)))
    have hit' : RIter (s.heap.update it (Obj.mapFields (·.setIfInBounds 1 (rawInt ((i : Int) + 1))))) b it d (i + 1) es.size ep :=
      ⟨_, Heap.get?_update_self _ ho (Obj.isFreed_of_fields (Obj.data_mapFields hd _)), (Obj.cls_mapFields ..).trans hc, by rw [Obj.data_mapFields hd]; simp [rawInt]⟩
    have hT' := RIter.typeIs (s := { s with heap := _ }) hit'
    refine wpAny_bind (wpAny_setField ho hd (by simp) (wpAny_bind (wpAny_holding ?_)))
    have fin := hI e _ hx hit' (Heap.SameBut.update ..)
    cases b with
    | false => exact wpAny_bind (wpAny_isOneOf_keyiter hT' (wpAny_pure (wpAny_pure ⟨_, rfl, wpAny_pure fin⟩)))
    | true => exact wpAny_bind (wpAny_isOneOf_valiter hT' (wpAny_bind (wpAny_isOneOf_valiter hT' (wpAny_pure (wpAny_pure ⟨_, rfl, wpAny_pure fin⟩)))))
  | none =>
    refine wpAny_bind (baseIt hT (wpAny_bind (wpAny_setField ho hd (by simp) (stopNew hh fun o₁ o₂ => ?_))))
    exact hD _ (Array.getElem?_eq_none_iff.mp hx) (((Heap.SameBut.update ..).extBut.push _).push _)
theorem rawNext {b : Bool} {it d : Addr} {i ep : Nat} {es : Array DictEntry} {Q : Option Value → Shared → Prop} (hh : A.handled = none) (hit : RIter s.heap b it d i es.size ep) (hm : RDict s.heap d es ep)
    (hI : ∀ e h', es[i]? = some e → RIter h' b it d (i + 1) es.size ep → Heap.SameBut it s.heap h' → Q (some (partOf b e)) { s with heap := h' })
    (hD : ∀ h', es.size ≤ i → Heap.ExtBut it s.heap h' → Q none { s with heap := h' }) : wpAny (model prog w) A (pyNext (.ref it)) Q E s := by
  obtain ⟨F, h1, h2, hF⟩ := rawBoth
  have hT := hit.typeIs
  cases b with
  | false => exact wpAny_bind (wpAny_attempt (wpAny_callSpecial?_slot (name := Str.ofString "__next__") hT PySem.F.slot_dict_keyiterator_next (wpAny_call_entry PySem.F.slot_dict_keyiterator_next hT (PySem.F.entry_dict_keyiterator_next.trans (congrArg some h1)) (hF _ hh hit hm hI hD) (PySem.F.args_dict_keyiterator_next_1 _))))
  | true => exact wpAny_bind (wpAny_attempt (wpAny_callSpecial?_slot (name := Str.ofString "__next__") hT PySem.F.slot_dict_valueiterator_next (wpAny_call_entry PySem.F.slot_dict_valueiterator_next hT (PySem.F.entry_dict_valueiterator_next.trans (congrArg some h2)) (hF _ hh hit hm hI hD) (PySem.F.args_dict_valueiterator_next_1 _))))
theorem rawWalk (hh : A.handled = none) (b : Bool) (I d : Addr) (hne : d ≠ I) (es : Array DictEntry) (ep : Nat) :
    Walks prog w A I [I, d] [I] es.size (fun i v => ∃ e, es[i]? = some e ∧ v = partOf b e) (fun i h => RIter h b I d i es.size ep ∧ RDict h d es ep) where
  sub := fun b hb => by simp at hb; simp [hb]
  frame := fun _ _ _ st hk => ⟨st.1.at fun o e => hk I (by simp) o e, st.2.at fun o e => hk d (by simp) o e⟩
  item := fun i s Q E hi st hQ => rawNext hh st.1 st.2 (fun e h' he hit' hs' => hQ _ h' s.toks ⟨e, he, rfl⟩ ⟨hit', st.2.at fun o e => hs'.extBut d o hne e⟩ fun b o hb e => hs'.extBut b o (fun h => hb (by simp [h])) e) fun _ hx => absurd hi (Nat.not_lt.mpr hx)
  done := fun s Q E st hQ => rawNext hh st.1 st.2 (fun e _ he => absurd he (by simp)) fun h' _ he' => hQ h' s.toks fun b o hb e => he' b o (fun h => hb (by simp [h])) e
  self := fun _ _ _ _ st hQ => rawSelf st.1 hQ
theorem rdictTypeIs {d : Addr} {es : Array DictEntry} {ep : Nat} (h : RDict s.heap d es ep) : s.TypeIs (.ref d) "dict" := let ⟨o, ho, hc, _⟩ := h; ⟨o, ho, hc.1⟩
theorem iterRaw {d : Addr} {es : Array DictEntry} {ep : Nat} {Q : Value → Shared → Prop} (hh : A.handled = none) (hs : (d == sysModules) = false) (hd : RDict s.heap d es ep)
    (h : ∀ I h' St, SrcW prog w A I [I, d] es.size (fun i v => ∃ e, es[i]? = some e ∧ v = e.key) St → St 0 h' → Keeps s.heap h' → I = s.heap.objs.size → (∃ o, h' = s.heap.push o) → Q (.ref I) { s with heap := h' }) :
    wpAny (model prog w) A (pyIter (.ref d)) Q E s := by
  have hT := rdictTypeIs hd
  have W := rawWalk (prog := prog) (w := w) hh false s.heap.objs.size d (let ⟨_, ho, _⟩ := hd; Nat.ne_of_lt (Heap.lt_size ho)) es ep
  obtain ⟨o, ho, hc, hdat⟩ := id hd
  refine wpAny_pyIter_slot hT PySem.F.slot_dict_iter (wpAny_call_entry PySem.F.slot_dict_iter hT PySem.F.entry_dict_iter ?_ (PySem.F.args_dict_iter_1 _))
  unfold Builtin.«dict.__iter__»
  refine wpAny_bind ?_
  unfold Builtin.Dict.dictSlotNone
  refine wpAny_bind (wpAny_notOrdered_dict hT ?_)
  show wpAny _ _ (pure (Value.ref d)) _ _ s
  refine wpAny_pure ?_
  show wpAny _ _ (Builtin.Dict.showsAll d >>= _) _ _ s
  unfold Builtin.Dict.showsAll
  first | refine wpIfN (by rw [hs]; exact Bool.false_ne_true) ?_ | rw [if_neg (by rw [hs]; exact Bool.false_ne_true)]
  refine wpAny_bind (wpAny_pure (wpAny_bind (wpAny_dictEntries ho hdat (wpAny_bind (wpAny_dictEpoch ho hdat ?_)))))
  refine wpAny_bind (wpAny_newObj_type (wpAny_pure ⟨_, rfl, "dict_keyiterator", _, ⟨_, Heap.get?_push_size _ rfl, rfl⟩, PySem.F.slot_dict_keyiterator_next.lookup, ?_⟩))
  refine h _ _ _ ⟨W, fun i h st => let ⟨o, ho, _⟩ := st.1; ⟨o, ho⟩⟩ ?_ (fun b o e => Heap.get?_push_of_some _ e) rfl ⟨_, rfl⟩
  exact ⟨⟨_, Heap.get?_push_size _ rfl, rfl, rfl⟩, hd.at fun o e => Heap.get?_push_of_some _ e⟩
theorem callValues {d : Addr} {es : Array DictEntry} {ep : Nat} {Q : Value → Shared → Prop} (hs : (d == sysModules) = false) (hd : RDict s.heap d es ep)
    (h : Q (.ref s.heap.objs.size) { s with heap := s.heap.push { cls := .type "dict_values", data := .fields #[.ref d] } }) : wpAny (model prog w) A (call (.builtin "dict.values") [.ref d]) Q E s := by
  have hT := rdictTypeIs hd
  refine wpAny_call_entry PySem.F.slot_dict_values hT PySem.F.entry_dict_values ?_ (PySem.F.args_dict_values_1 _)
  unfold Builtin.«dict.values»
  refine wpAny_bind ?_
  unfold Builtin.Dict.noArgs
  refine wpAny_bind (wpAny_notOrdered_dict hT ?_)
  refine wpAny_pure ?_
  show wpAny _ _ (Builtin.Dict.showsAll d >>= _) _ _ s
  unfold Builtin.Dict.showsAll
  first | refine wpIfN (by rw [hs]; exact Bool.false_ne_true) ?_ | rw [if_neg (by rw [hs]; exact Bool.false_ne_true)]
  exact wpAny_bind (wpAny_pure (wpAny_bind (wpAny_newObj_type (wpAny_pure ⟨_, rfl, h⟩))))
theorem iterVals {v d : Addr} {es : Array DictEntry} {ep : Nat} {Q : Value → Shared → Prop} (hh : A.handled = none) (hv : s.heap.get? v = some { cls := .type "dict_values", data := .fields #[.ref d] }) (hd : RDict s.heap d es ep)
    (h : ∀ I h' St, SrcW prog w A I [I, d] es.size (fun i v => ∃ e, es[i]? = some e ∧ v = e.val) St → St 0 h' → Keeps s.heap h' → I = s.heap.objs.size → (∃ o, h' = s.heap.push o) → Q (.ref I) { s with heap := h' }) :
    wpAny (model prog w) A (pyIter (.ref v)) Q E s := by
  have hT : s.TypeIs (.ref v) "dict_values" := ⟨_, hv, rfl⟩
  have W := rawWalk (prog := prog) (w := w) hh true s.heap.objs.size d (let ⟨_, ho, _⟩ := hd; Nat.ne_of_lt (Heap.lt_size ho)) es ep
  obtain ⟨o, ho, hc, hdat⟩ := id hd
  refine wpAny_pyIter_slot hT PySem.F.slot_dict_values_iter (wpAny_call_entry PySem.F.slot_dict_values_iter hT PySem.F.entry_dict_values_iter ?_ (PySem.F.args_dict_values_iter_1 _))
  unfold Builtin.«dict_values.__iter__»
  refine wpAny_bind (wpAny_pure ?_)
  refine wpAny_bind ?_
  unfold Builtin.Dict_items.dictOf
  refine wpAny_bind (wpAny_field hv rfl (x := .ref d) rfl (wpAny_pure ?_))
  refine wpAny_bind ?_
  unfold Builtin.Dict_items.newIterator
  refine wpAny_bind (wpAny_dictEntries ho hdat (wpAny_bind (wpAny_dictEpoch ho hdat ?_)))
  refine wpAny_newObj_type (wpAny_pure ⟨_, rfl, "dict_valueiterator", _, ⟨_, Heap.get?_push_size _ rfl, rfl⟩, PySem.F.slot_dict_valueiterator_next.lookup, ?_⟩) (show sizeOk (.fields #[.ref d, rawInt 0, rawInt es.size, rawInt ep]) by size_fits)
  refine h _ _ _ ⟨W, fun i h st => let ⟨o, ho, _⟩ := st.1; ⟨o, ho⟩⟩ ?_ (fun b o e => Heap.get?_push_of_some _ e) rfl ⟨_, rfl⟩
  exact ⟨⟨_, Heap.get?_push_size _ rfl, rfl, rfl⟩, hd.at fun o e => Heap.get?_push_of_some _ e⟩
end

section
variable {prog : Program} {w : World} {A : Around} {E : Value → Shared → Prop} {s : Shared}
theorem maxVals {K : Type} [DecidableEq K] {v d : Addr} {es : Array DictEntry} {ep : Nat} {row : Row K} {Q : Value → Shared → Prop} (hh : A.handled = none) (hv : s.heap.get? v = some { cls := .type "dict_values", data := .fields #[.ref d] }) (hd : RDict s.heap d es ep)
    (hsz : es.size = row.length) (hval : ∀ (i : Nat) (e : DictEntry), es[i]? = some e → ∃ (k : K) (c : Nat) (u : Tok), e.val = .int c u ∧ row[i]? = some (k, c)) (hne : row ≠ [])
    (h : ∀ h' tk (M : Int) t, Keeps s.heap h' → (∃ r ∈ row, (r.2 : Int) = M) → (∀ r ∈ row, (r.2 : Int) ≤ M) → Q (.int M t) { s with heap := h', toks := tk }) :
    wpAny (model prog w) A (call (.builtin "max") [.ref v]) Q E s := by
  have hpos : 0 < row.length := List.length_pos_iff.mpr hne
  obtain ⟨val, vd⟩ : ∃ val : Nat → Int, ∀ i, val i = ((row[i]?).map fun r => (r.2 : Int)).getD 0 := ⟨_, fun _ => rfl⟩
  refine call_max_walk ?_
  refine iterVals (A := A.in1) hh hv hd fun I h₁ St W st K₁ hI _ => ?_
  have hP : ∀ (i : Nat) (x : Value), (∃ e, es[i]? = some e ∧ x = e.val) → ∃ t, x = .int (val i) t := by
    rintro i x ⟨e, he, rfl⟩
    obtain ⟨k, c, u, e1, e2⟩ := hval i e he
    exact ⟨u, by rw [e1, vd, e2]; rfl⟩
  refine ⟨I, [I, d], [I], es.size, _, St, _, rfl, W.W, st, ?_, (hsz ▸ hpos : 0 < es.size), CmpOf.ints_gt val hP, fun x h' tk hx hk => ?_⟩
  · simp only [List.mem_cons, List.not_mem_nil, or_false]
    have hId := W.S 0 _ st
    rintro b (rfl | rfl)
    · obtain ⟨o, ho⟩ := hId; exact Heap.lt_size ho
    · obtain ⟨o, ho, _⟩ := hd; exact Heap.lt_size (K₁ _ _ ho)
  · obtain ⟨t, rfl⟩ := hP _ x hx
    obtain ⟨h1, h2⟩ := argBest_gt val (es.size - 1)
    generalize argBest (fun i j => decide (val i > val j)) (es.size - 1) = b at h1 h2 ⊢
    have hlt : b < row.length := hsz ▸ Nat.lt_of_le_of_lt h1 (Nat.sub_lt (hsz ▸ hpos) Nat.one_pos)
    refine h h' tk _ t (fun b o e => ?_) ⟨row[b], List.getElem_mem hlt, ?_⟩ fun r hr => ?_
    · refine hk b o ?_ (K₁ b o e)
      simp only [List.mem_singleton]
      rw [hI]; exact Nat.ne_of_lt (Heap.lt_size e)
    · rw [vd, List.getElem?_eq_getElem hlt]; rfl
    · obtain ⟨j, hj, rfl⟩ := List.getElem_of_mem hr
      have := h2 j (Nat.le_sub_one_of_lt (hsz ▸ hj))
      rw [vd j, List.getElem?_eq_getElem hj] at this
      exact this
end
section
variable {prog : Program} {w : World} {A : Around} {E : Value → Shared → Prop}
end
theorem climbB_size : ∀ (n : Nat) (o g : By), ∀ p ∈ climbB n o g, p.1.length ≤ o.length ∧ p.2.length ≤ g.length
  | 0, _, _, p, hp => nomatch hp
  | n + 1, o, g, p, hp => by
    unfold climbB at hp
    split at hp
    · cases hp
    · rcases List.mem_cons.mp hp with rfl | hp
      · exact ⟨Nat.le_refl _, Nat.le_refl _⟩
      · split at hp
        · cases hp
        · have := climbB_size n _ _ p hp
          exact ⟨Nat.le_trans this.1 (folderB_len _), Nat.le_trans this.2 (folderB_len _)⟩
theorem bB_size {c : Chg} (ok : ChgOk c) : ∀ p ∈ bB c, p.1.length ≤ 200 ∧ p.2.length ≤ 200 := by
  unfold bB
  split
  · rename_i o n eo en
    split
    · rename_i hw
      obtain ⟨o', n', e1, e2, ⟨_, _, _, _, _, hl, _⟩, ⟨_, _, _, _, _, hl2, _⟩⟩ := ok hw
      rw [eo] at e1; cases e1
      rw [en] at e2; cases e2
      intro p hp
      have := climbB_size _ _ _ p hp
      exact ⟨Nat.le_trans this.1 (Nat.le_trans (folderB_len _) hl), Nat.le_trans this.2 (Nat.le_trans (folderB_len _) hl2)⟩
    · intro p hp; cases hp
  · intro p hp; cases hp
theorem flat_size {cs : List Chg} (ok : ∀ c ∈ cs, ChgOk c) : ∀ p ∈ cs.flatMap bB, p.1.length ≤ 200 ∧ p.2.length ≤ 200 := by
  intro p hp
  obtain ⟨c, hc, h⟩ := List.mem_flatMap.mp hp
  exact bB_size (ok c hc) p h
theorem flat_pt {cs : List Chg} (ok : ∀ c ∈ cs, ChgOk c) : ∀ p ∈ cs.flatMap bT, (∀ x ∈ p.1, Pt x) ∧ ∀ x ∈ p.2, Pt x := by
  intro p hp
  obtain ⟨c, hc, h⟩ := List.mem_flatMap.mp hp
  exact bT_pt (ok c hc) p h
theorem flat_sizeT {cs : List Chg} (ok : ∀ c ∈ cs, ChgOk c) {F G : List By} (h : (F, G) ∈ cs.flatMap bT) : (joinP F).length ≤ 200 ∧ (joinP G).length ≤ 200 :=
  flat_size ok (joinP F, joinP G) (by rw [flat_bB ok]; exact List.mem_map_of_mem (f := j2) h)
theorem Tally.ballot {K : Type} [DecidableEq K] {bs : List (K × K)} {tb : TB K} (T : Tally bs tb) {f : K} {a : Addr} {row : Row K} (ht : (f, a, row) ∈ tb) (hn : (row.map (·.1)).Nodup) : ∃ g, (f, g) ∈ bs := by
  obtain ⟨hne, hp⟩ := T.pos _ ht
  cases row with
  | nil => exact absurd rfl hne
  | cons r rs =>
    refine ⟨r.1, List.count_pos_iff.mp ?_⟩
    rw [T.cnt _ ht r.1, cntR_mem (c := r.2) hn (.head _)]
    exact hp _ (.head _)
theorem win_mem {K : Type} [DecidableEq K] {bs : List (K × K)} {f g : K} (h : Win bs f g) : (f, g) ∈ bs := List.count_pos_iff.mp h.1
theorem winB {cs : List Chg} (ok : ∀ c ∈ cs, ChgOk c) {F G : List By} (h : Win (cs.flatMap bT) F G) : Win (cs.flatMap bB) (joinP F) (joinP G) := by
  rw [flat_bB ok]
  have := flat_pt ok _ (win_mem h)
  exact (win_j2 (flat_pt ok)).mpr ⟨F, G, rfl, rfl, h, this.1, this.2⟩
theorem winT {cs : List Chg} (ok : ∀ c ∈ cs, ChgOk c) {f g : By} (h : Win (cs.flatMap bB) f g) : ∃ F G, f = joinP F ∧ g = joinP G ∧ Win (cs.flatMap bT) F G ∧ (∀ x ∈ F, Pt x) ∧ ∀ x ∈ G, Pt x := by
  rw [flat_bB ok] at h
  exact (win_j2 (flat_pt ok)).mp h
theorem bysAre {w : World} : ∀ {vs : List Value} {ps : List By}, ItemsAre (bk w) ps vs → BysAre vs ps
  | _, _, .nil => .nil
  | _, _, .cons h r => by
    obtain ⟨t, rfl⟩ := bk_is h
    exact .cons (bysAre r)
section
variable {w : World} {A : Around} {E : Value → Shared → Prop} {s : Shared} {h₀ : Heap} {L : Addr} {m : Str → Option Value} {news : List (Addr × Obj)} {u : Tok} {Q : Value → Shared → Prop}
theorem joinTN {prog : Program} {a : Addr} {ps : List By} {led : List (Addr × Obj)} (Nl : Led s.heap led) (hk : TupIn w led ps a) (hz : (joinP ps).length ≤ 1000000) (h : ∀ t' k, Q (.bytes (joinP ps).toArray t') { s with toks := k }) :
    wpAny (model prog w) A (call (.builtin "bytes.join") [.bytes (List.toArray [47]) u, .ref a]) Q E s := by
  obtain ⟨o, m, hc, items, n, hd, hi⟩ := hk
  exact call_join (vs := items.toList) (n := n) (Nl _ m) (.inr hc) (by simpa using hd) (bysAre hi) hz h
end
inductive TupsIn (w : World) (led : List (Addr × Obj)) : List Value → List (List By) → Prop
  | nil : TupsIn w led [] []
  | cons {a : Addr} {k : List By} {vs : List Value} {ks : List (List By)} : TupIn w led k a → TupsIn w led vs ks → TupsIn w led (.ref a :: vs) (k :: ks)
theorem TupsIn.snoc {w : World} {led : List (Addr × Obj)} {a : Addr} {k : List By} {vs : List Value} {ks : List (List By)} (h : TupsIn w led vs ks) (x : TupIn w led k a) : TupsIn w led (vs ++ [.ref a]) (ks ++ [k]) := by
  induction h with
  | nil => exact .cons x .nil
  | cons y _ ih => exact .cons y ih
theorem TupsIn.length {w : World} {led : List (Addr × Obj)} {vs : List Value} {ks : List (List By)} (h : TupsIn w led vs ks) : vs.length = ks.length := by
  induction h with
  | nil => rfl
  | cons _ _ ih => simp [ih]
theorem TupsIn.one {w : World} {led : List (Addr × Obj)} {vs : List Value} {ks : List (List By)} (h : TupsIn w led vs ks) (hl : vs.length = 1) : ∃ a k, vs = [.ref a] ∧ ks = [k] ∧ TupIn w led k a := by
  cases h with
  | nil => cases hl
  | cons x h =>
    cases h with
    | nil => exact ⟨_, _, rfl, rfl, x⟩
    | cons _ _ => simp at hl
inductive JD (w : World) (L st Df : Addr) (ov1 : Obj) (bs : List (By × By)) (still ps : List By) (led : List (Addr × Obj)) (i : Nat) (m : Str → Option Value) (news : List (Addr × Obj)) : Prop
  | mk (v2 : m (Str.ofString "still") = some (.ref st)) (v3 : m (Str.ofString "found") = some (.ref Df)) (o2 o3 : Obj) (w2 w3 : Option Value) (ofd : Obj) (kvs : List (By × Value)) (e : news = (L + 1, ov1) :: (L + 1 + 1, o2) :: (L + 1 + 1 + 1, o3) :: (Df, ofd) :: led) (d2 : o2.data = .cell w2) (d3 : o3.data = .cell w3) (hf : ofd.IsDictOf (bk w) kvs) (FP : FoundPart bs still ps i kvs) : JD w L st Df ov1 bs still ps led i m news
noncomputable def ledR (kvs : List (By × Value)) (qs : List By) : Nat → Option By
  | 0 => none
  | n + 1 => match valueAt kvs (joinP (qs.take (n + 1))) with
    | some (.bytes g _) => some (if g.toList = [] then joinP (qs.drop (n + 1)) else g.toList ++ 47 :: joinP (qs.drop (n + 1)))
    | _ => ledR kvs qs n
noncomputable def MovOk (kvs : List (By × Value)) : Prop := ∀ f v, valueAt kvs f = some v → ∃ g u, v = .bytes (List.toArray g) u ∧ g.length ≤ 200
theorem FoundOf.mov {cs : List Chg} {still : List By} {kvs : List (By × Value)} (ok : ∀ c ∈ cs, ChgOk c) (h : FoundOf (cs.flatMap bB) still kvs) : MovOk kvs := fun f v e => by
  obtain ⟨g, u, rfl, hw, _⟩ := h.sound f v e
  exact ⟨g, u, rfl, (flat_size ok _ (win_mem hw)).2⟩
theorem ledR_none {kvs : List (By × Value)} {qs : List By} {n : Nat} (h : valueAt kvs (joinP (qs.take (n + 1))) = none) : ledR kvs qs (n + 1) = ledR kvs qs n := by
  conv => lhs; unfold ledR
  rw [h]
theorem ledR_some {kvs : List (By × Value)} {qs : List By} {n : Nat} {g : By} {u : Tok} (h : valueAt kvs (joinP (qs.take (n + 1))) = some (.bytes g.toArray u)) : ledR kvs qs (n + 1) = some (if g = [] then joinP (qs.drop (n + 1)) else g ++ 47 :: joinP (qs.drop (n + 1))) := by
  conv => lhs; unfold ledR
  rw [h]
theorem joinP_two {F G : List By} (hF : F ≠ []) (hG : G ≠ []) : joinP (F ++ G) = joinP F ++ 47 :: joinP G := by
  cases F with
  | nil => exact absurd rfl hF
  | cons x F =>
    cases G with
    | nil => exact absurd rfl hG
    | cons y G =>
      rw [List.cons_append, joinP_cons, joinP_cons, joinP_cons]
      simp
theorem take_ne {qs : List By} {n : Nat} (h0 : 0 < n) (h : n < qs.length) : qs.take n ≠ [] := by
  cases qs with
  | nil => simp at h
  | cons x r => cases n with | zero => exact absurd h0 (Nat.lt_irrefl 0) | succ n => simp
theorem drop_ne {qs : List By} {n : Nat} (h : n < qs.length) : qs.drop n ≠ [] := by
  intro e
  have := List.drop_eq_nil_iff.mp e
  exact absurd h (Nat.not_lt.mpr this)
theorem joinP_cut {qs : List By} {n : Nat} (h0 : 0 < n) (h : n < qs.length) : joinP qs = joinP (qs.take n) ++ 47 :: joinP (qs.drop n) := by
  conv => lhs; rw [← List.take_append_drop n qs]
  exact joinP_two (take_ne h0 h) (drop_ne h)
theorem joinP_tail {qs : List By} {n : Nat} (h0 : 0 < n) (h : n < qs.length) : (joinP qs).drop ((joinP (qs.take n)).length + 1) = joinP (qs.drop n) := by
  rw [joinP_cut h0 h]
  rw [show joinP (qs.take n) ++ 47 :: joinP (qs.drop n) = (joinP (qs.take n) ++ [47]) ++ joinP (qs.drop n) by simp]
  rw [List.drop_left' (by simp)]
theorem folder_take {qs : List By} {n : Nat} (h : n < qs.length) (hp : ∀ x ∈ qs, Pt x) : folderB (joinP (qs.take (n + 1))) = joinP (qs.take n) := by
  rw [List.take_add_one, List.getElem?_eq_getElem h]
  exact folder_join _ _ (hp _ (List.getElem_mem h)).1
theorem joinP_take_len {qs : List By} (n : Nat) : (joinP (qs.take n)).length ≤ (joinP qs).length := by
  by_cases h : n < qs.length
  · by_cases h0 : 0 < n
    · rw [joinP_cut h0 h, List.length_append]; exact Nat.le_add_right _ _
    · have : n = 0 := by (first | lia | omega)
      subst this; simp [joinP]
  · rw [List.take_of_length_le (by (first | lia | omega))]; exact Nat.le_refl _
theorem joinP_drop_len {qs : List By} (n : Nat) : (joinP (qs.drop n)).length ≤ (joinP qs).length := by
  by_cases h : n < qs.length
  · by_cases h0 : 0 < n
    · rw [joinP_cut h0 h, List.length_append, List.length_cons]; exact Nat.le_trans (Nat.le_succ _) (Nat.le_add_left _ _)
    · have : n = 0 := by (first | lia | omega)
      subst this; simp
  · rw [List.drop_of_length_le (by (first | lia | omega))]; simp [joinP]
section
variable {w : World} {A : Around} {E : Value → Shared → Prop} {s : Shared} {h₀ : Heap} {L : Addr} {m : Str → Option Value} {news : List (Addr × Obj)} {Q : Value → Shared → Prop}
theorem lenB {b : By} {t : Tok} {prog : Program} (hz : b.length ≤ 1000000) (h : ∀ tk t', Q (.int b.length t') { s with toks := tk }) : wpAny (model prog w) A (call (.builtin "len") [.bytes b.toArray t]) Q E s :=
  len_bytes (by simp only [List.size_toArray]; (first | lia | omega)) (by simpa using h _ _)
theorem neB {b c : By} {t u : Tok} {prog : Program} (h : Q (.bool (!decide (b = c))) s) : wpAny (model prog w) A (compareOp .NotEq (.bytes b.toArray t) (.bytes c.toArray u)) Q E s := by
  refine ne_bytes ?_
  have : (b.toArray.toList != c.toArray.toList) = !decide (b = c) := by
    by_cases e : b = c
    · subst e; simp
    · simp [e]
  rw [this]; exact h
theorem OptB.ne {prog : Program} {v v' : Value} {o : Option By} (h1 : OptB v o) (h2 : OptB v' o) (h : Q (.bool false) s) : wpAny (model prog w) A (compareOp .NotEq v v') Q E s := by
  cases h1 with
  | none => cases h2 with | none => exact PySem.SeqAt.RcNeAt.none_none prog w E Q h
  | some b u => cases h2 with | some _ u' => exact neB (by simpa using h)
theorem inD {prog : Program} {w : World} {Q : Value → Shared → Prop} {d : Addr} {kvs : List (By × Value)} {b : By} {t : Tok} (hd : s.heap.DictOf (bytesKind prog w) d kvs) (lo : (d == sysModules) = false) (h : ∀ tk, Q (.bool (valueAt kvs b).isSome) { s with toks := tk }) :
    wpAny (model prog w) A (compareOp .In (.bytes b.toArray t) (.ref d)) Q E s := wpAny_in_of (bytesKind_is prog w b t) lo hd.mapOf (h _)
end
theorem feD {w : World} {h₀ h : Heap} {L st Df I : Addr} {oI ov1 o2 o3 ofd : Obj} {v2 v3 : Option Value} {i : Nat} {bs : List (By × By)} {still ps : List By} {s₂ : Shared} {m : Str → Option Value} {nw led : List (Addr × Obj)} {kvs : List (By × Value)} {tk : Nat} (F : Fr h₀ L h m) (N : News h₀ L h nw)
    (mI : (I, oI) ∈ nw) (m1 : (L + 1, ov1) ∈ nw) (m2 : (L + 1 + 1, o2) ∈ nw) (m3 : (L + 1 + 1 + 1, o3) ∈ nw) (mF : (Df, ofd) ∈ nw) (sub : ∀ p ∈ led, p ∈ nw) (d2 : o2.data = .cell v2) (d3 : o3.data = .cell v3) (I1 : I ≠ L + 1) (I2 : I ≠ L + 1 + 1) (I3 : I ≠ L + 1 + 1 + 1) (IF : I ≠ Df) (nI : ∀ p ∈ led, p.1 ≠ I)
    (hf : ofd.IsDictOf (bk w) kvs) (FP : FoundPart bs still ps i kvs) (vv2 : m (Str.ofString "still") = some (.ref st)) (vv3 : m (Str.ofString "found") = some (.ref Df)) :
    FE h₀ L I oI s₂ (JD w L st Df ov1 bs still ps led i) { s₂ with heap := h, toks := tk } := by
  refine feEnd (led := (L + 1, ov1) :: (L + 1 + 1, o2) :: (L + 1 + 1 + 1, o3) :: (Df, ofd) :: led) F N mI (fun p hp => ?_) (fun p hp => ?_) ⟨vv2, vv3, o2, o3, v2, v3, ofd, kvs, rfl, d2, d3, hf, FP⟩
  · revert p
    refine allCons ?_ (allCons ?_ (allCons ?_ (allCons ?_ (fun p hp => ?_))))
    · exact m1
    · exact m2
    · exact m3
    · exact mF
    · exact sub p hp
  · revert p
    refine allCons ?_ (allCons ?_ (allCons ?_ (allCons ?_ (fun p hp => ?_))))
    · exact I1.symm
    · exact I2.symm
    · exact I3.symm
    · exact IF.symm
    · exact nI p hp
theorem due_spec {w : World} {A : Around} {s : Shared} {a st : Addr} {vs ws : List Value} {cs : List Chg} {still : List By} (B : Base w s.heap) (Rr : Rm A 5) (hl : s.heap.IsList a vs.toArray) (C : ChgsAt s.heap vs cs) (hz : vs.length ≤ 10)
    (hst : s.heap.IsTuple st ws.toArray) (hws : BysAre ws still) :
    codeAny (model PR w) A (.call (.ref 180) ⟨[.ref a, .ref st], []⟩) (Back s (DictBack w s cs still)) s := by
  refine' enterC (led := []) (h₀ := s.heap) (binds := [(Str.ofString "changes", .ref a), (Str.ofString "still", .ref st)]) B (Keeps.refl _) ?hled Rr ?ho ?hcd ?hb ?hki ?hnd ?_ ?c1 ?c2 ?c3
  case hled => intro p hp; cases hp
  case ho => k_is
  case hcd => k_is
  case hb => exact BindsTo.of_eq rfl
  case hki => exact kindsX rfl
  case hnd => decide +kernel
  case c1 => exact rfl
  case c2 => exact rfl
  case c3 => exact rfl
  have hfl : (cs.flatMap bT).length ≤ 1000000 := by
    have h1 := flat_len (f := bT) (k := 4) (cs := cs) fun c hc => bT_len (C.ok c hc)
    have h3 := C.length
    exact Nat.le_trans h1 (Nat.le_trans (Nat.mul_le_mul_right 4 (show cs.length ≤ 10 from h3 ▸ hz)) (by decide))
  intro L h₁ tk cells F N Y B' R' _
  try k_extra "nt"
  obtain ⟨o3, o2, o1, rfl, ho3, ho2, ho1⟩ := CellsAre.three Y
  clear B' Y
  replace ho1 : o1.data = .cell none := ho1
  replace ho2 : o2.data = .cell none := ho2
  replace ho3 : o3.data = .cell none := ho3
  replace N : News s.heap L h₁ [(L + 1 + 1 + 1, o3), (L + 1 + 1, o2), (L + 1, o1)] := N
  replace F : Fr s.heap L h₁ (fun y => if y = Str.ofString "still" then some (.ref st) else if y = Str.ofString "changes" then some (.ref a) else none) := F
  repeat k_extra "m"
  refine call_of (votes_spec (B.keeps F.keep) (Rm.le R' (by decide)) (listKeep hl F.keep) (C.keep F.keep) hz) fun v h2 tk2 hv => ?_
  try k_extra "nt"
  obtain ⟨K2, Dv, ov, led, tb, Lv, rfl, Nv, V, T⟩ := hv
  have F2 := frK F K2
  have fr2 : ∀ p ∈ led, ∀ a o, h₁.get? a = some o → p.1 ≠ a := fun p hp a o e q => by have := (Nv p hp).2.2; rw [q] at this; rw [this] at e; cases e
  have led1 : ∀ p ∈ led, p.1 ≠ L + 1 := fun p hp => fr2 p hp _ _ (N (L + 1, o1) (.tail _ (.tail _ (.head _)))).1
  have led2 : ∀ p ∈ led, p.1 ≠ L + 1 + 1 := fun p hp => fr2 p hp _ _ (N (L + 1 + 1, o2) (.tail _ (.head _))).1
  have led3 : ∀ p ∈ led, p.1 ≠ L + 1 + 1 + 1 := fun p hp => fr2 p hp _ _ (N (L + 1 + 1 + 1, o3) (.head _)).1
  have N2 : News s.heap L h2 ((L + 1 + 1 + 1, o3) :: (L + 1 + 1, o2) :: (L + 1, o1) :: led) := fun p hp => by
    by_cases q : p ∈ led
    · refine ⟨(Nv p q).1, ?_, ?_⟩
      · obtain ⟨o, _, _, ho, _⟩ := F.ns
        exact fr2 p q _ _ ho
      · cases e : s.heap.get? p.1 with
        | none => rfl
        | some o => exact absurd rfl (fr2 p q _ _ (F.keep _ _ e))
    · refine newsK N K2 p ?_
      simp only [List.mem_cons, q, or_false, List.not_mem_nil] at hp ⊢
      exact hp
  have h12 : L + 1 ≠ L + 1 + 1 := Nat.ne_of_lt (Nat.lt_succ_self _)
  have h23 : L + 1 + 1 ≠ L + 1 + 1 + 1 := Nat.ne_of_lt (Nat.lt_succ_self _)
  have h13 : L + 1 ≠ L + 1 + 1 + 1 := Nat.ne_of_lt (Nat.lt_succ_of_lt (Nat.lt_succ_self _))
  repeat k_extra "m"
  rename_i Df h3 F3 N3 nDf loDf Dt h4 F4 N4 nDt h5 F5 N5 h6 ov1 F6 N6 dv1 h7 F7 N7 tk7
  obtain ⟨xs, Tx, ekv⟩ := V.main
  obtain ⟨hxc, ⟨es, ep, hde, hes⟩, hxn, hxk⟩ := Tx
  have mDv : (Dv, ov) ∈ led := V.inl
  have m7 : (Dv, ov) ∈ (L + 1, ov1) :: (Df, emptyDict) :: (L + 1 + 1 + 1, o3) :: (L + 1 + 1, o2) :: led := .tail _ (.tail _ (.tail _ (.tail _ mDv)))
  have hRD : RDict h7 Dv es ep := ⟨ov, (N7 _ m7).1, hxc, hde⟩
  refine forWG (h₀ := s.heap) (L := L) rfl ?_ ?hs
  case hs => intro _; exact rfl
  repeat k_extra "m"
  refine iterRaw R'.hh V.lo hRD fun I h8 St W stt K8 hI _ => ?_
  try k_extra "nt"
  have I0 := frFresh F7 hI
  have neI : ∀ a o, h7.get? a = some o → a ≠ I := fun a o e => by rw [hI]; exact Nat.ne_of_lt (Heap.lt_size e)
  have LI : L ≠ I := by obtain ⟨o, _, _, ho, _⟩ := F7.ns; exact neI _ _ ho
  have I1 : I ≠ L + 1 := (neI _ _ (N7 (L + 1, ov1) (.head _)).1).symm
  have I2 : I ≠ L + 1 + 1 := (neI _ _ (N7 (L + 1 + 1, o2) (.tail _ (.tail _ (.tail _ (.head _))))).1).symm
  have I3 : I ≠ L + 1 + 1 + 1 := (neI _ _ (N7 (L + 1 + 1 + 1, o3) (.tail _ (.tail _ (.head _)))).1).symm
  have IDf : I ≠ Df := (neI _ _ (N7 (Df, emptyDict) (.tail _ (.head _))).1).symm
  have ledI : ∀ p ∈ led, p.1 ≠ I := fun p hp => neI _ _ (N7 p (.tail _ (.tail _ (.tail _ (.tail _ hp))))).1
  have df1 : Df ≠ L + 1 := (nDf (L + 1, o1) (.tail _ (.tail _ (.head _)))).symm
  have df2 : Df ≠ L + 1 + 1 := (nDf (L + 1 + 1, o2) (.tail _ (.head _))).symm
  have df3 : Df ≠ L + 1 + 1 + 1 := (nDf (L + 1 + 1 + 1, o3) (.head _)).symm
  have ledF : ∀ p ∈ led, p.1 ≠ Df := fun p hp => nDf p (.tail _ (.tail _ (.tail _ hp)))
  have N8 : News s.heap L h8 ((L + 1, ov1) :: (L + 1 + 1, o2) :: (L + 1 + 1 + 1, o3) :: (Df, emptyDict) :: led) := fun p hp => by
    refine newsK N7 K8 p ?_
    revert p
    refine allCons ?_ (allCons ?_ (allCons ?_ (allCons ?_ (fun p h => ?_))))
    · exact .head _
    · exact .tail _ (.tail _ (.tail _ (.head _)))
    · exact .tail _ (.tail _ (.head _))
    · exact .tail _ (.head _)
    · exact .tail _ (.tail _ (.tail _ (.tail _ h)))
  refine ⟨I, [I, Dv], es.size, _, St, _, _, JD w L st Df ov1 (cs.flatMap bB) still (tb.map fun t => joinP t.1) led, rfl, W.W, W.S, stt, frK F7 K8, N8, I0, LI, ?_, ?_, ?_, ?_, ?_⟩
  · intro p hp
    revert p
    refine allCons ?_ (allCons ?_ (allCons ?_ (allCons ?_ (fun p hp => ?_))))
    · exact I1.symm
    · exact I2.symm
    · exact I3.symm
    · exact IDf.symm
    · exact ledI p hp
  · intro b hb
    revert b
    refine allCons ?_ (allCons ?_ allNil)
    · exact .inl rfl
    · exact .inr (.inr ⟨ov, fun i m news hJ => by obtain ⟨_, _, o2, o3, v2, v3, ofd, kvs, rfl, _⟩ := hJ; exact .tail _ (.tail _ (.tail _ (.tail _ mDv)))⟩)
  · exact ⟨by k_extra "var", by k_extra "var", o2, o3, none, none, emptyDict, [], rfl, ho2, ho3, (DB w).empty (led := []), (fun f v e => by simp [valueAt] at e), (fun f hf => by simp at hf), Nat.le_refl _⟩
  · intro i v m news h tk oI EE hi hP hJ hnI F N
    try k_extra "nt"
    obtain ⟨vst, vfd, o2, o3, v2, v3, ofd, kvs, rfl, d2, d3, hfd, FP⟩ := hJ
    obtain ⟨e, he, rfl⟩ := hP
    rw [entry_at hes i] at he
    obtain ⟨⟨f0, ka, xv⟩, hx, rfl⟩ := Option.map_eq_some_iff.mp he
    have hkv : (tb.map fun t => (t.1, Value.ref t.2.1))[i]? = some (f0, xv) := by rw [ekv]; unfold kvsOf; rw [List.getElem?_map, hx]; rfl
    rw [List.getElem?_map] at hkv
    obtain ⟨⟨f1, ar, row⟩, hti, ht0⟩ := Option.map_eq_some_iff.mp hkv
    simp only [Prod.mk.injEq] at ht0
    obtain ⟨rfl, rfl⟩ := ht0
    have ht := List.mem_of_getElem? hti
    have hkey : TupIn w led f1 ka := hxk _ (List.mem_of_getElem? hx)
    have hval : valueAt (tb.map fun t => (t.1, Value.ref t.2.1)) f1 = some (.ref ar) := valueAt_mem ((DT w).nodup V.main) (List.mem_map_of_mem (f := fun t : List By × Addr × Row (List By) => (t.1, Value.ref t.2.1)) ht)
    obtain ⟨orow, kr, mr, dr, rr⟩ := V.rows _ ht
    have ps : (tb.map fun t => joinP t.1)[i]? = some (joinP f1) := by rw [List.getElem?_map, hti]; rfl
    show wpAny _ _ (assign (.Name _ _) _ (.ref ka)) _ _ _
    refine assign_Name ?_
    repeat k_extra "m"
    rename_i h10 o4 F10 N10 d4 tk10
    have Nl : Led h10 led := newsLed N10 fun p hp => .tail _ (.tail _ (.tail _ (.tail _ (.tail _ hp))))
    refine itemD (DT w) (led := led) R' Nl V.inl V.main ⟨ka, rfl, hkey⟩ hval (fun tk11 => ?_) (by with_unfolding_all rfl)
    refine methD N10 (.tail _ (.tail _ (.tail _ (.tail _ (.tail _ mr))))) ((DT w).ex dr) PySem.F.slot_dict_values PySem.F.type_dict_values ?_
    repeat k_extra "m"
    obtain ⟨xr, ⟨hrc, ⟨er, epr, hder, her⟩, hrn, hrk⟩, ekr⟩ := dr
    have mar : (ar, orow) ∈ (L + 1 + 1, o4) :: (I, oI) :: (L + 1, ov1) :: (L + 1 + 1 + 1, o3) :: (Df, ofd) :: led := .tail _ (.tail _ (.tail _ (.tail _ (.tail _ mr))))
    have hRr : RDict h10 ar er epr := ⟨orow, (N10 _ mar).1, hrc, hder⟩
    refine callValues (V.ne _ ht).2 hRr ?_
    repeat k_extra "m"
    have hrsz : er.size = row.length := by rw [size_of_entries her, ← kvsOf_len, ← ekr, rr.length]
    have hrval : ∀ (j : Nat) (e : DictEntry), er[j]? = some e → ∃ (k : List By) (c : Nat) (u : Tok), e.val = .int c u ∧ row[j]? = some (k, c) := fun j e he => by
      rw [entry_at her j] at he
      obtain ⟨⟨kk, kaa, vv⟩, hxx, rfl⟩ := Option.map_eq_some_iff.mp he
      have hkk : kr[j]? = some (kk, vv) := by rw [ekr]; unfold kvsOf; rw [List.getElem?_map, hxx]; rfl
      obtain ⟨c, u, e1, e2⟩ := rr.get hkk
      exact ⟨kk, c, u, e1, e2⟩
    try k_extra "nt"
    refine maxVals (row := row) R'.hh (Heap.get?_push_size _ rfl) (hRr.at fun o e => Heap.get?_push_of_some _ e) hrsz hrval (T.pos _ ht).1 fun h11 tk11' M tM K11 hM hMle => ?_
    try k_extra "nt"
    have K11' : Keeps h10 h11 := fun b o e => K11 b o (Heap.get?_push_of_some _ e)
    have F11 := frK F10 K11'
    have N11 := newsK N10 K11'
    repeat k_extra "m"
    rename_i h12 o5 F12 N12 d5 tk12
    refine' compAssignW (h₀ := s.heap) (L := L) (cl := ?cl) ?sw ?hy3 ?hp3 ?hL3 ?g1 ?g2 ?g3 ?g4 ?g5 ?_ ?g6
    case g1 => exact rfl
    case sw => exact rfl
    case hy3 => exact rfl
    case hp3 => exact rfl
    case hL3 => exact rfl
    case g2 => decide
    case g3 => exact rfl
    case g4 => decide
    case g5 => exact rfl
    case g6 => intro _; exact rfl
    repeat k_extra "m"
    have Nl2 : Led h12 led := newsLed N12 fun p hp => by k_extra "mem"
    refine itemD (DT w) (led := led) R' Nl2 V.inl V.main ⟨ka, rfl, hkey⟩ hval (fun tk13 => ?_) (by with_unfolding_all rfl)
    repeat k_extra "m"
    have mar2 : (ar, orow) ∈ (L + 1 + 1 + 1, o5) :: (L + 1 + 1, o4) :: (I, oI) :: (L + 1, ov1) :: (Df, ofd) :: led := .tail _ (.tail _ (.tail _ (.tail _ (.tail _ mr))))
    have hRr2 : RDict h12 ar er epr := ⟨orow, (N12 _ mar2).1, hrc, hder⟩
    refine iterRaw R'.hh (V.ne _ ht).2 hRr2 fun I4 h15 St4 W4 st4 K15 hI4 _ => ?_
    try k_extra "nt"
    have F15 := frK F12 K15
    have N15 := newsK N12 K15
    have I04 := frFresh F12 hI4
    have neI4 : ∀ a o, h12.get? a = some o → a ≠ I4 := fun a o e => by rw [hI4]; exact Nat.ne_of_lt (Heap.lt_size e)
    have LI4 : L ≠ I4 := by obtain ⟨o, _, _, ho, _⟩ := F12.ns; exact neI4 _ _ ho
    have arI4 : ar ≠ I4 := neI4 _ _ (N12 _ mar2).1
    have fpI4 : ∀ b ∈ [I4, ar], b = I4 ∨ ((∃ o, h15.get? b = some o) ∧ b ∉ I4 :: ([] : List (Addr × Obj)).map (·.1)) := by
      refine allCons ?_ (allCons ?_ allNil)
      · exact .inl rfl
      · exact .inr ⟨⟨orow, (N15 _ mar2).1⟩, fun q => arI4 (List.mem_singleton.mp q)⟩
    have hfr4 : ∀ a ∈ I4 :: ([] : List (Addr × Obj)).map (·.1), s.heap.get? a = none ∧ a ≠ L := by
      exact allCons (⟨I04, LI4.symm⟩) allNil
    have hid : ∀ p ∈ (L + 1 + 1 + 1, o5) :: (L + 1 + 1, o4) :: (I, oI) :: (L + 1, ov1) :: (Df, ofd) :: led, (hideAll h15 (I4 :: ([] : List (Addr × Obj)).map (·.1))).get? p.1 = some p.2 := fun p hp =>
      hideAll_get _ (N15 p hp).1 (notOne (neI4 _ _ (N12 p hp).1))
    have X1 : (hideAll h15 (I4 :: ([] : List (Addr × Obj)).map (·.1))).IsCell (L + 1) (some (.ref Dv)) := ⟨ov1, hid (L + 1, ov1) (by k_extra "mem"), dv1⟩
    have X2 : (hideAll h15 (I4 :: ([] : List (Addr × Obj)).map (·.1))).IsCell (L + 1 + 1) (some (.ref ka)) := ⟨o4, hid (L + 1 + 1, o4) (by k_extra "mem"), d4⟩
    have X3 : (hideAll h15 (I4 :: ([] : List (Addr × Obj)).map (·.1))).IsCell (L + 1 + 1 + 1) (some (.int M tM)) := ⟨o5, hid (L + 1 + 1 + 1, o5) (by k_extra "mem"), d5⟩
    refine ⟨I4, [I4, ar], er.size, _, St4, [], fun i vs led' => led' = [] ∧ TupsIn w led vs (topsOf (row.take i) M), _, rfl, F15, hfr4, W4.W, by rw [hrsz]; exact Nat.le_trans (T.len.2 _ ht) hfl, W4.S, st4, (fun p hp => nomatch hp), fpI4, ⟨rfl, .nil⟩, ?_, ?_⟩
    · intro C D j v vs led' h tk m oI3 k EE hC hD hj hPj hJ hlen hl Fc Nc
      try k_extra "nt"
      obtain ⟨rfl, hvs⟩ := hJ
      clear hC hD
      obtain ⟨e, he, rfl⟩ := hPj
      rw [entry_at her j] at he
      obtain ⟨⟨kk, kaa, vv⟩, hxx, rfl⟩ := Option.map_eq_some_iff.mp he
      have hkk : kr[j]? = some (kk, vv) := by rw [ekr]; unfold kvsOf; rw [List.getElem?_map, hxx]; rfl
      obtain ⟨c, u, rfl, ec⟩ := rr.get hkk
      have hka : TupIn w led kk kaa := hrk _ (List.mem_of_getElem? hxx)
      have krn : (kr.map (·.1)).Nodup := (DT w).nodup (led := led) (o := orow) ⟨xr, ⟨hrc, ⟨er, epr, hder, her⟩, hrn, hrk⟩, ekr⟩
      have htop : topsOf (row.take (j + 1)) M = topsOf (row.take j) M ++ (if (c : Int) = M then [kk] else []) := by
        unfold topsOf
        rw [List.take_add_one, ec, List.filter_append, List.map_append]
        congr 1
        by_cases q : (c : Int) = M <;> simp [q]
      have Lc : Led h led := fun p hp => Fc.keep _ _ (hid p (by k_extra "mem"))
      refine oneIf ?_
      repeat k_extra "m"
      refine itemD (DT w) (led := led) R' Lc V.inl V.main ⟨ka, rfl, hkey⟩ hval (fun tk16 => ?_) (by with_unfolding_all rfl)
      repeat k_extra "m"
      refine itemD (DT w) (led := led) R' Lc mr ⟨xr, ⟨hrc, ⟨er, epr, hder, her⟩, hrn, hrk⟩, ekr⟩ ⟨kaa, rfl, hka⟩ (valueAt_mem krn (List.mem_of_getElem? hkk)) (fun tk17 => ?_) (by with_unfolding_all rfl)
      repeat k_extra "m"
      by_cases q : (c : Int) = M
      · refine ifTrue (by simpa using q) ?_
        repeat k_extra "m"
        refine ⟨h, _, _, [], rfl, Fc, Nc, (fun p hp => nomatch hp), rfl, ?_⟩
        rw [htop, if_pos q]
        exact hvs.snoc hka
      · refine ifFalse (by simpa using q) ?_
        refine ⟨h, _, _, [], rfl, Fc, Nc, (fun p hp => nomatch hp), rfl, ?_⟩
        rw [htop, if_neg q, List.append_nil]
        exact hvs
    · intro D2 vs3 led' h16 tk16 k16 hJ F16 Kc hlD2 hDo2 hDs2
      try k_extra "nt"
      obtain ⟨rfl, hvs3⟩ := hJ
      replace hDs2 : h15.objs.size ≤ D2 := hDs2
      have htk : row.take er.size = row := by rw [hrsz]; exact List.take_length
      rw [htk] at hvs3
      have fD2 : ∀ o, h15.get? D2 ≠ some o := fun o e => absurd (Heap.lt_size e) (Nat.not_lt.mpr hDs2)
      have nD2 : ∀ p ∈ (L + 1 + 1 + 1, o5) :: (L + 1 + 1, o4) :: (I, oI) :: (L + 1, ov1) :: (Df, ofd) :: led, p.1 ≠ D2 := fun p hp e => fD2 p.2 (e ▸ (N15 p hp).1)
      have N16 : News s.heap L h16 ((D2, listOf vs3.toArray k16) :: (L + 1 + 1 + 1, o5) :: (L + 1 + 1, o4) :: (I, oI) :: (L + 1, ov1) :: (Df, ofd) :: led) := fun p hp => by
        rcases List.mem_cons.mp hp with rfl | hp
        · refine ⟨hDo2, fun e => ?_, ?_⟩
          · obtain ⟨o, _, _, ho, _⟩ := F15.ns
            have e : D2 = L := e
            exact fD2 o (e ▸ ho)
          · cases q : s.heap.get? D2 with
            | none => rfl
            | some o => exact absurd (F15.keep _ _ q) (fD2 o)
        · refine ⟨Kc _ _ (hideAll_get _ (N15 p hp).1 ?_), (N15 p hp).2⟩
          exact notCons ((N15 p hp).2.1) (notOne (neI4 _ _ (N12 p hp).1))
      have krn : (kr.map (·.1)).Nodup := (DT w).nodup (led := led) (o := orow) ⟨xr, ⟨hrc, ⟨er, epr, hder, her⟩, hrn, hrk⟩, ekr⟩
      have rown : (row.map (·.1)).Nodup := rr.keys ▸ krn
      have hlz : vs3.length ≤ 1000000 := by
        rw [hvs3.length]
        unfold topsOf
        rw [List.length_map]
        exact Nat.le_trans (List.length_filter_le _ _) (Nat.le_trans (T.len.2 _ ht) hfl)
      have htw := fun g => tops_win (f := f1) rown (T.pos _ ht).2 (T.cnt _ ht) hMle hM g
      have hkl : kvs.length ≤ 1000000 := Nat.le_trans FP.len (Nat.le_trans (Nat.le_of_lt (by rw [size_of_entries hes, ← kvsOf_len, ← ekv, List.length_map] at hi; exact hi)) (Nat.le_trans T.len.1 hfl))
      obtain ⟨g0, hg0⟩ := T.ballot ht rown
      have hf1z : (joinP f1).length ≤ 1000000 := Nat.le_trans (flat_sizeT C.ok hg0).1 (by decide)
      have hf1p := (flat_pt C.ok _ hg0).1
      have Nl16 : Led h16 led := newsLed N16 fun p hp => by k_extra "mem"
      repeat k_extra "m"
      by_cases h1 : vs3.length = 1
      · refine ifTrue (by simp [h1]) ?_
        obtain ⟨ag, g, rfl, etop, hag⟩ := hvs3.one h1
        have hwin := (htw g).mp etop
        have hst16 : h16.IsTuple st ws.toArray := let ⟨o, ho, r⟩ := hst; ⟨o, F16.keep _ _ ho, r⟩
        have hgz : (joinP g).length ≤ 1000000 := Nat.le_trans (flat_sizeT C.ok (win_mem hwin)).2 (by decide)
        repeat k_extra "m"
        refine joinTN Nl16 hkey hf1z fun tj kj => ?_
        try k_extra "nt"
        repeat k_extra "m"
        by_cases hs : joinP f1 ∈ still
        · refine ifFalse (by simp [hs]) ?_
          repeat k_extra "m"
          exact feD F16 N16 (by k_extra "mem") (by k_extra "mem") (by k_extra "mem") (by k_extra "mem") (by k_extra "mem") (fun p hp => by k_extra "mem") d4 d5 I1 I2 I3 IDf ledI hfd (FP.skip ps fun _ _ => hs) (by k_extra "var") (by k_extra "var")
        · refine ifTrue (by simp [hs]) ?_
          repeat k_extra "m"
          refine itemL (vs := [.ref ag]) (News.isList N16 (.head _)) (by decide) (by decide) rfl ?_ (by with_unfolding_all rfl)
          repeat k_extra "m"
          refine joinTN Nl16 hag hgz fun tj2 kj2 => ?_
          try k_extra "nt"
          repeat k_extra "m"
          refine joinTN Nl16 hkey hf1z fun tj3 kj3 => ?_
          try k_extra "nt"
          repeat k_extra "m"
          refine' setDN F16 N16 R' ?sm hfd hkl (Pick1.ok ?pk) ?_
          case sm => k_extra "mem"
          case pk => k_extra "pick"
          intro h17 of2 tk17 F17 N17 hfd2
          try k_extra "nt"
          repeat k_extra "m"
          exact feD F17 N17 (by k_extra "mem") (by k_extra "mem") (by k_extra "mem") (by k_extra "mem") (by k_extra "mem") (fun p hp => by k_extra "mem") d4 d5 I1 I2 I3 IDf ledI hfd2 (FP.add ps (winB C.ok hwin) hs) (by k_extra "var") (by k_extra "var")
      · refine ifFalse (by simpa using fun e : (vs3.length : Int) = 1 => h1 (Int.ofNat.inj e)) ?_
        repeat k_extra "m"
        have hno : ∀ g, Win (cs.flatMap bB) (joinP f1) g → joinP f1 ∈ still := fun g hg => by
          obtain ⟨F0, G0, e1, e2, hw0, p1, p2⟩ := winT C.ok hg
          have := joinP_inj hf1p p1 e1
          subst this
          have := (htw G0).mpr hw0
          rw [this] at hvs3
          exact absurd hvs3.length h1
        exact feD F16 N16 (by k_extra "mem") (by k_extra "mem") (by k_extra "mem") (by k_extra "mem") (by k_extra "mem") (fun p hp => by k_extra "mem") d4 d5 I1 I2 I3 IDf ledI hfd (FP.skip ps hno) (by k_extra "var") (by k_extra "var")
  · intro m news h tk hJ hnI F N
    try k_extra "nt"
    obtain ⟨vst, vfd, o2, o3, v2, v3, ofd, kvs, rfl, d2, d3, hfd, FP⟩ := hJ
    repeat k_extra "m"
    have hlen2 : (tb.map fun t => joinP t.1).take es.size = tb.map fun t => joinP t.1 := by
      refine List.take_of_length_le ?_
      rw [size_of_entries hes, ← kvsOf_len, ← ekv, List.length_map, List.length_map]
      exact Nat.le_refl _
    have mDf := N (Df, ofd) (.tail _ (.tail _ (.tail _ (.head _))))
    refine ⟨_, _, _, rfl, rfl, F.keep, Df, ofd, kvs, rfl, mDf.1, mDf.2.2, loDf, hfd, FP.sound, fun f g hw hs => ?_⟩
    refine FP.compl f ?_ g hw hs
    rw [hlen2]
    obtain ⟨F0, G0, rfl, rfl, hw0, _, _⟩ := winT C.ok hw
    by_cases q : F0 ∈ tb.map (·.1)
    · obtain ⟨t, ht, e⟩ := List.mem_map.mp q
      exact List.mem_map.mpr ⟨t, ht, by rw [← e]⟩
    · have := T.out F0 q G0
      have h0 := hw0.1
      rw [this] at h0
      exact absurd h0 (Nat.lt_irrefl _)
inductive WL (kvs : List (By × Value)) (qs : List By) (D : Addr) (t : Tok) (k : Nat) (m : Str → Option Value) (nw : List (Addr × Obj)) : Prop
  | mk (e : nw = []) (hk : k ≤ qs.length - 1) (vm : m (Str.ofString "moved") = some (.ref D)) (vp : m (Str.ofString "path") = some (.bytes (joinP qs).toArray t)) (vf : ∃ u, m (Str.ofString "folder") = some (.bytes (joinP (qs.take k)).toArray u)) (hr : ledR kvs qs (qs.length - 1) = ledR kvs qs k) : WL kvs qs D t k m nw
theorem tled_spec {w : World} {A : Around} {s : Shared} {D : Addr} {od : Obj} {kvs : List (By × Value)} {qs : List By} {t : Tok} (B : Base w s.heap) (Rr : Rm A 2) (hD : s.heap.get? D = some od) (lo : (D == sysModules) = false) (hd : od.IsDictOf (bk w) kvs) (M : MovOk kvs)
    (h0 : qs ≠ []) (hp : ∀ x ∈ qs, Pt x) (hz : (joinP qs).length ≤ 100) :
    codeAny (model PR w) A (.call (.ref 130) ⟨[.ref D, .bytes (joinP qs).toArray t], []⟩) (Back s fun v h' => Keeps s.heap h' ∧ OptB v (ledR kvs qs (qs.length - 1))) s := by
  refine' enter (binds := [(Str.ofString "moved", .ref D), (Str.ofString "path", .bytes (joinP qs).toArray t)]) B Rr ?ho ?hcd ?hb ?hl ?_ ?c1 ?c2 ?c3 ?c4
  case ho => k_is
  case hcd => k_is
  case hb => exact BindsTo.of_eq rfl
  case hl => exact locs rfl
  case c1 => exact rfl
  case c2 => exact rfl
  case c3 => exact rfl
  case c4 => decide
  have hlen : 0 < qs.length := List.length_pos_iff.mpr h0
  have htk : qs.take (qs.length - 1 + 1) = qs := List.take_of_length_le (Nat.sub_le_iff_le_add.mp (Nat.le_refl _))
  have hfold : folderB (joinP qs) = joinP (qs.take (qs.length - 1)) := by
    have := folder_take (n := qs.length - 1) (Nat.sub_lt hlen Nat.one_pos) hp
    rwa [htk] at this
  intro h₁ F R'
  try k_extra "nt"
  have N : News s.heap s.heap.objs.size h₁ [] := News.nil
  have hz3 : (joinP qs).length ≤ 1000 := Nat.le_trans hz (by decide)
  repeat k_extra "m"
  rename_i u0 h2 tk2 F2 N2 h3 F3 N3 tk3
  have hfree : ∀ n, (∀ x ∈ qs.take n, Pt x) := fun n x hx => hp x (List.mem_of_mem_take hx)
  refine whileW (h₀ := s.heap) (L := s.heap.objs.size) (Inv := WL kvs qs D t) (n := qs.length - 1) F3 N3 ?_ ?_
  · exact ⟨rfl, Nat.le_refl _, by k_extra "var", by k_extra "var", ⟨u0, by rw [← hfold]; k_extra "var"⟩, rfl⟩
  · clear F3 N3
    intro k m nw h4 tk4 EE hI F4 N4
    try k_extra "nt"
    obtain ⟨rfl, hk, vm, vp, ⟨u, vf⟩, hr⟩ := hI
    have hzk : (joinP (qs.take k)).length ≤ 1000 := Nat.le_trans (joinP_take_len k) hz3
    repeat k_extra "m"
    by_cases e : joinP (qs.take k) = []
    · refine ifFalse (by simp [e]) ?_
      have hk0 : k = 0 := by
        have h1 := (joinP_nil (hfree k)).mp e
        by_cases q : 0 < k
        · exact absurd h1 (take_ne q (Nat.lt_of_le_of_lt hk (Nat.sub_lt hlen Nat.one_pos)))
        · exact Nat.eq_zero_of_not_pos q
      subst hk0
      repeat k_extra "m"
      refine ⟨_, _, _, rfl, rfl, F4.keep, ?_⟩
      rw [hr]; exact .none
    · refine ifTrue (by simp [e]) ?_
      repeat k_extra "m"
      have hk0 : 0 < k := by
        by_cases q : 0 < k
        · exact q
        · have : k = 0 := Nat.eq_zero_of_not_pos q
          subst this; simp [joinP] at e
      have hob : ∃ n, k = n + 1 := Nat.exists_eq_succ_of_ne_zero (Nat.ne_of_gt hk0)
      obtain ⟨n, rfl⟩ := hob
      refine inD (Heap.dictOf_iff.mpr ⟨od, F4.keep _ _ hD, hd⟩) lo fun tk5 => ?_
      try k_extra "nt"
      cases hv : valueAt kvs (joinP (qs.take (n + 1))) with
      | none =>
        refine wpAny_truthy_bool ?_
        refine ifFalse rfl ?_
        have hft : folderB (joinP (qs.take (n + 1))) = joinP (qs.take n) := folder_take (by omega) hp
        repeat k_extra "m"
        rename_i u6 h6 tk6 F6 N6 h7 F7 N7
        exact ⟨n, _, _, _, _, Nat.lt_succ_self _, rfl, F7, N7, rfl, Nat.le_of_succ_le hk, by k_extra "var", by k_extra "var", ⟨u6, by rw [← hft]; k_extra "var"⟩, by rw [hr, ledR_none hv]⟩
      | some v =>
        obtain ⟨g, ug, rfl, hg⟩ := M _ _ hv
        refine wpAny_truthy_bool ?_
        refine ifTrue rfl ?_
        repeat k_extra "m"
        refine dictItem (knd := bk w) (Heap.dictOf_iff.mpr ⟨od, F4.keep _ _ hD, hd⟩) (bytesKind_is _ _ _ _) hv ?_ (by with_unfolding_all rfl)
        have hgz : g.length ≤ 1000 := Nat.le_trans hg (by decide)
        have hqz : ((joinP qs).drop ((joinP (qs.take (n + 1))).length + 1)).length ≤ 1000 := by rw [List.length_drop]; exact Nat.le_trans (Nat.sub_le _ _) hz3
        have hk2 : n + 1 < qs.length := Nat.lt_of_le_of_lt hk (Nat.sub_lt hlen Nat.one_pos)
        have hcl : clipAt (joinP qs).length (((joinP (qs.take (n + 1))).length : Int) + 1) = (joinP (qs.take (n + 1))).length + 1 := by
          have := congrArg List.length (joinP_cut hk0 hk2)
          rw [List.length_append, List.length_cons] at this
          rw [show ((joinP (qs.take (n + 1))).length : Int) + 1 = (((joinP (qs.take (n + 1))).length + 1 : Nat) : Int) from rfl, clipAt_nat]
          omega
        have hsl : ((joinP qs).drop ((some (((joinP (qs.take (n + 1))).length : Int) + 1)).elim 0 (clipAt (joinP qs).length))).take ((none : Option Int).elim (joinP qs).length (clipAt (joinP qs).length) - (some (((joinP (qs.take (n + 1))).length : Int) + 1)).elim 0 (clipAt (joinP qs).length)) = joinP (qs.drop (n + 1)) := by
          dsimp only [Option.elim]
          rw [hcl, List.take_of_length_le (by rw [List.length_drop]; exact Nat.le_refl _), joinP_tail hk0 hk2]
        have hdz : (joinP (qs.drop (n + 1))).length ≤ 1000 := Nat.le_trans (joinP_drop_len _) hz3
        repeat k_extra "m"
        rw [hsl]
        repeat k_extra "m"
        refine ⟨_, _, _, rfl, rfl, Fr.keep (by assumption), ?_⟩
        rw [hr, ledR_some hv]
        exact .some _ _
theorem downs {n : Nat} (h : n ≤ 3) : n = 0 ∨ n = 1 ∨ n = 2 ∨ n = 3 := by
  match n, h with
  | 0, _ => exact .inl rfl
  | 1, _ => exact .inr (.inl rfl)
  | 2, _ => exact .inr (.inr (.inl rfl))
  | 3, _ => exact .inr (.inr (.inr rfl))
  | n + 4, h => exact absurd h (Nat.not_le.mpr (Nat.le_add_left 4 n))
theorem small_down {n : Nat} (h : n ≤ 3) : Builtin.Range.small (n : Int) 0 (-1) = true := by
  have := downs h
  rcases this with rfl | rfl | rfl | rfl <;> decide +kernel
theorem size_down {n : Nat} (h : n ≤ 3) : Builtin.Range.rangeSize (n : Int) 0 (-1) = (n : Int) := by
  have := downs h
  rcases this with rfl | rfl | rfl | rfl <;> decide +kernel
theorem pickTo_eq {vs : List Value} (n : Nat) : kms_pick vs none (some (n : Int)) = vs.take n := by
  unfold kms_pick kms_lo kms_hi
  dsimp only
  rw [if_neg (Int.not_lt.mpr (Int.natCast_nonneg n)), Int.toNat_natCast, Nat.sub_zero, List.drop_zero]
  by_cases q : n ≤ vs.length
  · rw [Nat.min_eq_left q]
  · rw [Nat.min_eq_right (Nat.le_of_not_le q), List.take_length, List.take_of_length_le (Nat.le_of_not_le q)]
theorem pickTo {vs : List Value} {ps : List By} (h : BysAre vs ps) (n : Nat) : BysAre (kms_pick vs none (some (n : Int))) (ps.take n) := by
  rw [pickTo_eq]; exact h.take n
theorem pickFrom {vs : List Value} {ps : List By} (h : BysAre vs ps) {n : Nat} (hn : n ≤ vs.length) : BysAre (kms_pick vs (some (n : Int)) none) (ps.drop n) := by
  have : kms_pick vs (some (n : Int)) none = vs.drop n := by
    unfold kms_pick kms_lo kms_hi
    dsimp only
    rw [if_neg (Int.not_lt.mpr (Int.natCast_nonneg n)), Int.toNat_natCast, Nat.min_eq_left hn]
    exact List.take_of_length_le (by rw [List.length_drop]; exact Nat.le_refl _)
  rw [this]; exact h.drop n
section
variable {prog : Program} {w : World} {A : Around} {E : Value → Shared → Prop} {s : Shared} {Q : Value → Shared → Prop} {h₀ : Heap} {L : Addr} {m : Str → Option Value} {news : List (Addr × Obj)}
theorem range3N {a b c : Int} {t u v : Tok} (F : Fr h₀ L s.heap m) (N : News h₀ L s.heap news) (hc : c ≠ 0) (hb : c.natAbs < 1073741824)
    (h : ∀ D h' tk, Fr h₀ L h' m → News h₀ L h' ((D, { cls := .type "range", data := .fields #[.int a t, .int b u, .int c v] }) :: news) → (∀ p ∈ news, p.1 ≠ D) → Q (.ref D) { s with heap := h', toks := tk }) :
    wpAny (model prog w) A (call (.type "range") [.int a t, .int b u, .int c v]) Q E s :=
  call_range_3 hc (h _ _ _ (F.push _) (N.push F _) fun p hp => Nat.ne_of_lt (Heap.lt_size (N p hp).1)) (Or.inl (PyProof.noPylong_small hb))
end
inductive JL (kvs : List (By × Value)) (qs : List By) (n : Nat) (D D2 : Addr) (vs : List Value) (i : Nat) (m : Str → Option Value) (nw : List (Addr × Obj)) : Prop
  | mk (e : nw = [(D2, listOf vs.toArray 0)]) (vm : m (Str.ofString "moved") = some (.ref D)) (vp : m (Str.ofString "parts") = some (.ref D2)) (hr : ledR kvs qs n = ledR kvs qs (n - i)) : JL kvs qs n D D2 vs i m nw
theorem lled_spec {w : World} {A : Around} {s : Shared} {D : Addr} {od : Obj} {kvs : List (By × Value)} {qs : List By} {t : Tok} (B : Base w s.heap) (Rr : Rm A 2) (hD : s.heap.get? D = some od) (lo : (D == sysModules) = false) (hd : od.IsDictOf (bk w) kvs) (M : MovOk kvs)
    (h0 : qs ≠ []) (h4 : qs.length ≤ 4) (hp : ∀ x ∈ qs, Pt x) (hz : (joinP qs).length ≤ 100) :
    codeAny (model PR w) A (.call (.ref 187) ⟨[.ref D, .bytes (joinP qs).toArray t], []⟩) (Back s fun v h' => Keeps s.heap h' ∧ OptB v (ledR kvs qs (qs.length - 1))) s := by
  refine' enter (binds := [(Str.ofString "moved", .ref D), (Str.ofString "path", .bytes (joinP qs).toArray t)]) B Rr ?ho ?hcd ?hb ?hl ?_ ?c1 ?c2 ?c3 ?c4
  case ho => k_is
  case hcd => k_is
  case hb => exact BindsTo.of_eq rfl
  case hl => exact locs rfl
  case c1 => exact rfl
  case c2 => exact rfl
  case c3 => exact rfl
  case c4 => decide
  have hlen : 0 < qs.length := List.length_pos_iff.mpr h0
  intro h₁ F R'
  try k_extra "nt"
  have N : News s.heap s.heap.objs.size h₁ [] := News.nil
  have hz3 : (joinP qs).length ≤ 1000 := Nat.le_trans hz (by decide)
  repeat k_extra "m"
  rename_i D2 h2 vs tk2 hv F2 N2 nD2 h3 F3 N3 tk3
  rw [split_join h0 fun x hx => (hp x hx).1] at hv
  have hvl := hv.length
  have hvz : vs.length ≤ 1000000 := by rw [hvl]; exact Nat.le_trans h4 (by decide)
  refine forW (h₀ := s.heap) (L := s.heap.objs.size) rfl ?_ ?_ ?_ ?hs
  case hs => intro _; exact rfl
  · exact rfl
  · exact rfl
  repeat k_extra "m"
  rename_i D4 h4' tk4 F4 N4 nD4
  have hob : ∃ n, qs.length = n + 1 := Nat.exists_eq_succ_of_ne_zero (fun e => h0 (List.length_eq_zero_iff.mp e))
  obtain ⟨n, hn⟩ := hob
  have en : (vs.length : Int) - 1 = (n : Int) := by (first | lia | omega)
  rw [en] at N4
  have hn3 : n ≤ 3 := Nat.le_of_succ_le_succ (Nat.le_trans (Nat.le_of_eq hn.symm) h4)
  have en1 : qs.length - 1 = n := by rw [hn]; rfl
  try k_extra "nt"
  refine iterRange (n := n) R'.hh (N4 _ (.head _)).1 (small_down hn3) (size_down hn3) fun I h5 St W st K5 hI _ => ?_
  try k_extra "nt"
  have F5 := frK F4 K5
  have N5 := newsK N4 K5
  have I0 := frFresh F4 hI
  have neI : ∀ a o, h4'.get? a = some o → a ≠ I := fun a o e => by rw [hI]; exact Nat.ne_of_lt (Heap.lt_size e)
  have LI : s.heap.objs.size ≠ I := by obtain ⟨o, _, _, ho, _⟩ := F4.ns; exact neI _ _ ho
  have I2 : I ≠ D2 := (neI _ _ (N4 (D2, listOf vs.toArray 0) (.tail _ (.head _))).1).symm
  refine ⟨I, [I], n, _, St, _, [(D2, listOf vs.toArray 0)], JL kvs qs n D D2 vs, rfl, W.W, W.S, st, F5, newsSub N5 (fun p hp => by revert p; exact allCons (.tail _ (.head _)) allNil), I0, LI, ?_, ?_, ?_, ?_, ?_⟩
  · intro p hp
    revert p
    exact allCons (I2.symm) allNil
  · intro b hb
    exact .inl (List.mem_singleton.mp hb)
  · exact ⟨rfl, by k_extra "var", by k_extra "var", rfl⟩
  · clear N5 F5 N4 F4 N3 F3 N2 F2 nD4
    intro i v m nw h tk oI EE hi hP hJ hnI F N
    try k_extra "nt"
    obtain ⟨rfl, vm, vp, hr⟩ := hJ
    obtain ⟨tc, rfl⟩ := hP
    have hob : ∃ k, n - i = k + 1 := Nat.exists_eq_succ_of_ne_zero (Nat.sub_ne_zero_of_lt hi)
    obtain ⟨k, hk⟩ := hob
    have ec : (n : Int) + (i : Int) * (-1) = ((k + 1 : Nat) : Int) := by (first | lia | omega)
    rw [ec] at F
    rw [hk] at hr
    have hk2 : k + 1 < qs.length := by rw [hn]; exact Nat.lt_succ_of_le (hk ▸ Nat.sub_le n i)
    have hpt := pickTo hv (k + 1)
    have hpf := pickFrom (n := k + 1) hv (by rw [hvl]; exact Nat.le_of_lt hk2)
    have hztk : (joinP (qs.take (k + 1))).length ≤ 1000000 := Nat.le_trans (joinP_take_len _) (Nat.le_trans hz3 (by decide))
    repeat k_extra "m"
    refine inD (Heap.dictOf_iff.mpr ⟨od, Fr.keep (by assumption) _ _ hD, hd⟩) lo fun tk5 => ?_
    try k_extra "nt"
    cases hkv : valueAt kvs (joinP (qs.take (k + 1))) with
    | none =>
      refine wpAny_truthy_bool ?_
      refine ifFalse rfl ?_
      repeat k_extra "m"
      rename_i D6 h6 F6 N6 nD6 t7 k7 h7 F7 N7 tk7
      exact feEnd (led := [(D2, listOf vs.toArray 0)]) F7 N7 (by k_extra "mem") (fun p hp => by simp only [List.mem_cons, List.not_mem_nil, or_false] at hp; subst hp; k_extra "mem") (fun p hp => by simp only [List.mem_cons, List.not_mem_nil, or_false] at hp; subst hp; exact I2.symm)
        ⟨rfl, by k_extra "var", by k_extra "var", by rw [hr, ledR_none hkv, show n - (i + 1) = k by rw [← Nat.sub_sub, hk]; rfl]⟩
    | some v =>
      obtain ⟨g, ug, rfl, hg⟩ := M _ _ hkv
      refine wpAny_truthy_bool ?_
      refine ifTrue rfl ?_
      repeat k_extra "m"
      refine dictItem (knd := bk w) (Heap.dictOf_iff.mpr ⟨od, Fr.keep (by assumption) _ _ hD, hd⟩) (bytesKind_is _ _ _ _) hkv ?_ (by with_unfolding_all rfl)
      have hpl : (kms_pick vs (some ((k + 1 : Nat) : Int)) none).length ≤ 4 := by
        rw [hpf.length, List.length_drop]; exact Nat.le_trans (Nat.sub_le _ _) h4
      have hdz : (joinP (qs.drop (k + 1))).length ≤ 1000 := Nat.le_trans (joinP_drop_len _) hz3
      have hdn : qs.drop (k + 1) ≠ [] := drop_ne hk2
      repeat k_extra "m"
      by_cases e : g = []
      · refine ifFalse (by simp [e]) ?_
        subst e
        have hs1 : ([] : List Value).length + (kms_pick vs (some ((k + 1 : Nat) : Int)) none).length ≤ 1000000 := by rw [List.length_nil, Nat.zero_add]; exact Nat.le_trans hpl (by decide)
        have hA : BysAre ([] ++ kms_pick vs (some ((k + 1 : Nat) : Int)) none) ([] ++ qs.drop (k + 1)) := hpf
        have hAz : (joinP ([] ++ qs.drop (k + 1))).length ≤ 1000000 := Nat.le_trans hdz (by decide)
        repeat k_extra "m"
        refine ⟨_, _, _, rfl, rfl, Fr.keep (by assumption), ?_⟩
        rw [en1, hr, ledR_some hkv, if_pos rfl]
        exact .some _ _
      · refine ifTrue (by simp [e]) ?_
        have hs1 : [Value.bytes g.toArray ug].length + (kms_pick vs (some ((k + 1 : Nat) : Int)) none).length ≤ 1000000 := by rw [List.length_singleton]; exact Nat.le_trans (Nat.add_le_add_left hpl 1) (by decide)
        have hA : BysAre ([Value.bytes g.toArray ug] ++ kms_pick vs (some ((k + 1 : Nat) : Int)) none) ([g] ++ qs.drop (k + 1)) := BysAre.append (.cons .nil) hpf
        have hj : joinP ([g] ++ qs.drop (k + 1)) = g ++ 47 :: joinP (qs.drop (k + 1)) := joinP_two (by simp) hdn
        have hAz : (joinP ([g] ++ qs.drop (k + 1))).length ≤ 1000000 := by rw [hj, List.length_append, List.length_cons]; exact Nat.le_trans (Nat.add_le_add hg (Nat.succ_le_succ hdz)) (by decide)
        repeat k_extra "m"
        refine dictItem (knd := bk w) (Heap.dictOf_iff.mpr ⟨od, Fr.keep (by assumption) _ _ hD, hd⟩) (bytesKind_is _ _ _ _) hkv ?_ (by with_unfolding_all rfl)
        repeat k_extra "m"
        refine ⟨_, _, _, rfl, rfl, Fr.keep (by assumption), ?_⟩
        rw [en1, hr, ledR_some hkv, if_neg e, ← hj]
        exact .some _ _
  · clear N5 F5 N4 F4 N3 F3 N2 F2 nD4
    intro m nw h tk hJ hnI F N
    try k_extra "nt"
    obtain ⟨rfl, vm, vp, hr⟩ := hJ
    repeat k_extra "m"
    refine ⟨_, _, _, rfl, rfl, F.keep, ?_⟩
    rw [en1, hr, Nat.sub_self]
    exact .none
section
variable {A : Around} {s : Shared}
theorem eqAt_none : PySem.SeqAt.EqAt A s .none .none true := fun prog w E Q h => by
  unfold eqBool
  refine wpAny_holding ?_
  refine wpAny_ite_split (fun _ => wpAny_bind (wpAny_rule (wpAny_pure h))) (fun q => absurd rfl q)
theorem eqAt_self {T : Addr} : PySem.SeqAt.EqAt A s (.ref T) (.ref T) true := fun prog w E Q h => by
  unfold eqBool
  refine wpAny_holding ?_
  refine wpAny_ite_split (fun _ => wpAny_bind (wpAny_rule (wpAny_pure h))) (fun q => absurd (by simp) q)
theorem OptB.eqAt {v v' : Value} {o : Option By} (h : OptB v o) (h' : OptB v' o) : PySem.SeqAt.EqAt A s v v' true := by
  cases h with
  | none => cases h' with | none => exact eqAt_none
  | some b u =>
    cases h' with
    | some _ u' =>
      have := eqAt_bytes (A := A) (s := s) (b := b) (c := b) (t := u) (u := u')
      rwa [decide_eq_true rfl] at this
theorem OptI.eqAt {v v' : Value} {o : Option Int} (h : OptI v o) (h' : OptI v' o) : PySem.SeqAt.EqAt A s v v' true := by
  cases h with
  | none => cases h' with | none => exact eqAt_none
  | some b u =>
    cases h' with
    | some _ u' =>
      have := PySem.SeqAt.EqAt.int_int (A := A) (s := s) b u b u'
      rwa [beq_self_eq_true] at this
end
noncomputable def RowIs (h : Heap) (v : Value) (c : Chg) : Prop := ∃ (T : Addr) (tw : Tok) (vo vn vs : Value), v = .ref T ∧ h.get? T = some (tupOf [.str c.word tw, vo, vn, vs]) ∧ OptB vo c.old ∧ OptB vn c.new ∧ OptI vs c.score
inductive RowsAre (h : Heap) : List Value → List Chg → Prop
  | nil : RowsAre h [] []
  | cons {v : Value} {c : Chg} {vs : List Value} {cs : List Chg} : RowIs h v c → RowsAre h vs cs → RowsAre h (v :: vs) (c :: cs)
theorem RowsAre.length {h : Heap} {vs : List Value} {cs : List Chg} (x : RowsAre h vs cs) : vs.length = cs.length := by
  induction x with
  | nil => rfl
  | cons _ _ ih => simp [ih]
theorem RowsAre.get {h : Heap} {vs : List Value} {cs : List Chg} (x : RowsAre h vs cs) : ∀ {i : Nat} (hi : i < vs.length) (hj : i < cs.length), RowIs h vs[i] cs[i] := by
  induction x with
  | nil => intro i hi _; simp at hi
  | cons a _ ih =>
    intro i hi hj
    cases i with
    | zero => exact a
    | succ i => exact ih _ _
section
variable {A : Around} {E : Value → Shared → Prop} {s : Shared}
theorem RowIs.rc {v v' : Value} {c : Chg} (x : RowIs s.heap v c) (y : RowIs s.heap v' c) (hu : A.units < cLine) : ∃ T T', v = .ref T ∧ v' = .ref T' ∧ PySem.SeqAt.RcAt A s (.ref T) (.ref T') true := by
  obtain ⟨T, tw, vo, vn, vs, rfl, g, h1, h2, h3⟩ := x
  obtain ⟨T', tw', vo', vn', vs', rfl, g', h1', h2', h3'⟩ := y
  refine ⟨T, T', rfl, rfl, ?_⟩
  have := PySem.SeqAt.RcAt.tuples (A := A) (s := s) (l := T) (b := T') (e := fun _ => true) ⟨_, g, rfl, _, rfl⟩ ⟨_, g', rfl, _, rfl⟩ hu (fun j q1 q2 => ?_)
  · exact this
  · have : j = 0 ∨ j = 1 ∨ j = 2 ∨ j = 3 := by simp at q1; (first | lia | omega)
    rcases this with rfl | rfl | rfl | rfl
    · have := PySem.SeqAt.EqAt.str_str (A := A.in1) (s := s) c.word tw c.word tw'
      rwa [beq_self_eq_true] at this
    · exact h1.eqAt h1'
    · exact h2.eqAt h2'
    · exact h3.eqAt h3'
theorem rows_eq {prog : Program} {w : World} {a b : Addr} {xs ys : List Value} {cs : List Chg} {Q : Value → Shared → Prop} {k : Nat} (ha : s.heap.IsList a xs.toArray) (hb : s.heap.IsList b ys.toArray) (hx : RowsAre s.heap xs cs) (hy : RowsAre s.heap ys cs) (R : Rm A k) (h : Q (.bool true) s) : wpAny (model prog w) A (compareOp .Eq (.ref a) (.ref b)) Q E s := by
  have l1 := hx.length
  have l2 := hy.length
  refine PySem.SeqAt.eq_listAt (e := fun _ => true) ha hb (by simp only [List.size_toArray]; exact l1.trans l2.symm) R.units (fun j q1 q2 => ?_) ?_
  · rw [List.size_toArray] at q1 q2
    rw [List.getElem_toArray, List.getElem_toArray]
    have hA : A.in1.units < cLine := Rm.units1 R
    obtain ⟨T, T', e1, e2, hr⟩ := RowIs.rc (A := A.in1) (hx.get q1 (by (first | lia | omega))) (hy.get (i := j) q2 (by (first | lia | omega))) hA
    rw [e1, e2]
    by_cases e : T = T'
    · subst e; exact eqAt_self
    · exact PySem.SeqAt.EqAt.of_refs e hr
  · have : ((List.range xs.toArray.size).all fun _ => true) = true := by simp
    rw [this]; exact h
end
theorem OptB.handed {v : Value} {o : Option By} (h : OptB v o) : handedIn v = true := by cases h <;> rfl
theorem OptI.handed {v : Value} {o : Option Int} (h : OptI v o) : handedIn v = true := by cases h <;> rfl
inductive RowBack (s : Shared) (c : Chg) (v : Value) (h' : Heap) : Prop
  | mk (k : Keeps s.heap h') (T : Addr) (tw : Tok) (vo vn vs : Value) (e : v = .ref T) (g : h'.get? T = some (tupOf [.str c.word tw, vo, vn, vs])) (f : s.heap.get? T = none) (h1 : OptB vo c.old) (h2 : OptB vn c.new) (h3 : OptI vs c.score) : RowBack s c v h'
theorem row_spec {w : World} {A : Around} {s : Shared} {x : Addr} {c : Chg} (B : Base w s.heap) (Rr : Rm A 1) (C : ChgAt s.heap x c) :
    codeAny (model PR w) A (.call (.ref 168) ⟨[.ref x], []⟩) (Back s (RowBack s c)) s := by
  refine' enter (binds := [(Str.ofString "change", .ref x)]) B Rr ?ho ?hcd ?hb ?hl ?_ ?c1 ?c2 ?c3 ?c4
  case ho => k_is
  case hcd => k_is
  case hb => exact BindsTo.of_eq rfl
  case hl => exact locs rfl
  case c1 => exact rfl
  case c2 => exact rfl
  case c3 => exact rfl
  case c4 => decide
  obtain ⟨dx, es, n, hx, hdx, ⟨tw, vo, vn, vs, ⟨g1, g2, g3, g4⟩, ho, hn, hs⟩, ok⟩ := C
  have q2 := ho.handed
  have q3 := hn.handed
  have q4 := hs.handed
  intro h₁ F R'
  have N : News s.heap s.heap.objs.size h₁ [] := News.nil
  repeat k_extra "m"
  rename_i tk D h2 F2 N2 nD
  exact ⟨_, _, _, rfl, rfl, F2.keep, D, tw, vo, vn, vs, rfl, (N2 _ (.head _)).1, (N2 _ (.head _)).2.2, ho, hn, hs⟩
inductive DeckBack (w : World) (s : Shared) (v : Value) (h' : Heap) : Prop
  | mk (k : Keeps s.heap h') (dk ld : Addr) (od ol : Obj) (e : v = .ref dk) (hne : dk ≠ ld) (D : IsDeck w od ol ld) (g1 : h'.get? dk = some od) (g2 : h'.get? ld = some ol) (f1 : s.heap.get? dk = none) (f2 : s.heap.get? ld = none) : DeckBack w s v h'
inductive JM (D : Addr) (oD : Obj) (i : Nat) (m : Str → Option Value) (nw : List (Addr × Obj)) : Prop
  | mk (e : nw = [(D, oD)]) (vl : m (Str.ofString "left") = some (.ref D)) (M : Int) (tM : Tok) (vm : m (Str.ofString "mixed") = some (.int M tM)) (h0 : 0 ≤ M) (h1 : M < 1000003) : JM D oD i m nw
theorem deck_spec {w : World} {A : Around} {s : Shared} {a : Addr} {vs : List Value} {ns : List Int} (B : Base w s.heap) (Rr : Rm A 1) (hl : s.heap.IsList a vs.toArray) (hi : IntsAre vs ns) (hz : vs.length ≤ 63) :
    codeAny (model PR w) A (.call (.ref 135) ⟨[.ref a], []⟩) (Back s (DeckBack w s)) s := by
  refine' enter (binds := [(Str.ofString "script", .ref a)]) B Rr ?ho ?hcd ?hb ?hl ?_ ?c1 ?c2 ?c3 ?c4
  case ho => k_is
  case hcd => k_is
  case hb => exact BindsTo.of_eq rfl
  case hl => exact locs rfl
  case c1 => exact rfl
  case c2 => exact rfl
  case c3 => exact rfl
  case c4 => decide
  intro h₁ F R'
  try k_extra "nt"
  have N : News s.heap s.heap.objs.size h₁ [] := News.nil
  have hzz : vs.length ≤ 1000000 := Nat.le_trans hz (by decide)
  repeat k_extra "m"
  refine' listCompW (cl := []) ?g1 ?g2 ?g3 ?g4 ?g5 ?_ ?g6
  case g1 => exact rfl
  case g2 => decide
  case g3 => exact rfl
  case g4 => decide
  case g5 => exact rfl
  case g6 => intro _; exact rfl
  repeat k_extra "m"
  rename_i tk2 D1 h2 F2 N2 nD1
  rw [show kms_pick vs none (some 60) = vs.take 60 from pickTo_eq 60] at N2
  have hi2 := hi.take 60
  have hn60 : (vs.take 60).length ≤ 60 := by rw [List.length_take]; exact Nat.min_le_left _ _
  generalize hv2 : vs.take 60 = us at N2 hi2 hn60
  try k_extra "nt"
  refine iterList R'.hh (News.isList N2 (.head _)) fun I h3 St W st K3 hI _ => ?_
  try k_extra "nt"
  have F3 := frK F2 K3
  have N3 := newsK N2 K3
  have I0 := frFresh F2 hI
  have neI : ∀ a o, h2.get? a = some o → a ≠ I := fun a o e => by rw [hI]; exact Nat.ne_of_lt (Heap.lt_size e)
  have LI : s.heap.objs.size ≠ I := by obtain ⟨o, _, _, ho, _⟩ := F2.ns; exact neI _ _ ho
  have D1I : D1 ≠ I := neI _ _ (N2 _ (.head _)).1
  have fpI : ∀ b ∈ [I, D1], b = I ∨ ((∃ o, h3.get? b = some o) ∧ b ∉ I :: ([] : List (Addr × Obj)).map (·.1)) := by
    refine allCons ?_ (allCons ?_ allNil)
    · exact .inl rfl
    · exact .inr ⟨⟨_, (N3 _ (.head _)).1⟩, fun q => D1I (List.mem_singleton.mp q)⟩
  have B3 : Base w (hideAll h3 (I :: ([] : List (Addr × Obj)).map (·.1))) := B.hide F3 (by
    exact allCons (I0) allNil)
  refine ⟨I, [I, D1], us.length, _, St, [], fun i vs' led' => led' = [] ∧ vs'.length ≤ i ∧ ∃ ms, IntsAre vs' ms ∧ ∀ x ∈ ms, 0 ≤ x ∧ x < 1000003, rfl, W.W, Nat.le_trans hn60 (by decide), W.S, st, (fun p hp => nomatch hp), fpI, ⟨rfl, Nat.le_refl _, [], .nil, fun x hx => nomatch hx⟩, ?_, ?_⟩
  · intro C D j v vs' led' h tk m oI k EE hC hD hj hPj hJ hlen hl Fc Nc
    try k_extra "nt"
    obtain ⟨rfl, hvl, ms, hms, hb⟩ := hJ
    clear hC hD
    have hob : ∃ n, (ns.take 60)[j]? = some n := ⟨_, List.getElem?_eq_getElem (by rw [← hi2.length]; exact hj)⟩
    obtain ⟨n, hn⟩ := hob
    obtain ⟨t, ht⟩ := hi2.get j n hn
    have hPj : us[j]? = some v := hPj
    rw [ht] at hPj
    obtain rfl := Option.some.inj hPj
    refine noIfs ?_
    refine ifTrue rfl ?_
    repeat k_extra "m"
    refine call_int_int ?_
    repeat k_extra "m"
    have hq := (fdiv_fmod_facts n 1000003).2.2.1 (by decide)
    refine ⟨h, _, _, [], rfl, Fc, Nc, (fun p hp => nomatch hp), rfl, ?_, ms ++ [_], intsSnoc hms, fun x hx => ?_⟩
    · rw [List.length_append]; exact Nat.succ_le_succ hvl
    · rcases List.mem_append.mp hx with hx | hx
      · exact hb x hx
      · simp only [List.mem_singleton] at hx; subst hx; exact hq
  · intro D vs' led' h4 tk4 k4 hJ Kc hlD hDo hDs
    try k_extra "nt"
    obtain ⟨rfl, hvl, ms, hms, hb⟩ := hJ
    replace hDs : h3.objs.size ≤ D := hDs
    obtain ⟨F4, N4, nD⟩ := compOut F3 N3 I0 (fun p hp => neI _ _ (N2 p hp).1) LI Kc hDo hDs
    repeat k_extra "m"
    rename_i h6 F6 N6 h7 F7 N7 tk7
    have hz4 : vs'.length ≤ 1000000 := Nat.le_trans hvl (Nat.le_trans hn60 (by decide))
    refine forW (h₀ := s.heap) (L := s.heap.objs.size) rfl ?_ ?_ ?_ ?hs
    case hs => intro _; exact rfl
    · exact rfl
    · exact rfl
    repeat k_extra "m"
    try k_extra "nt"
    refine iterList R'.hh (News.isList N7 (.head _)) fun I2 h8 St2 W2 st2 K8 hI2 _ => ?_
    try k_extra "nt"
    have F8 := frK F7 K8
    have N8 := newsK N7 K8
    have I02 := frFresh F7 hI2
    have neI2 : ∀ a o, h7.get? a = some o → a ≠ I2 := fun a o e => by rw [hI2]; exact Nat.ne_of_lt (Heap.lt_size e)
    have LI2 : s.heap.objs.size ≠ I2 := by obtain ⟨o, _, _, ho, _⟩ := F7.ns; exact neI2 _ _ ho
    have DI2 : I2 ≠ D := (neI2 _ _ (N7 (D, listOf vs'.toArray k4) (.head _)).1).symm
    refine ⟨I2, [I2, D], vs'.length, _, St2, _, [(D, listOf vs'.toArray k4)], JM D (listOf vs'.toArray k4), rfl, W2.W, W2.S, st2, F8, newsSub N8 (fun p hp => by revert p; exact allCons (.head _) allNil), I02, LI2, ?_, ?_, ?_, ?_, ?_⟩
    · intro p hp
      revert p
      exact allCons (DI2.symm) allNil
    · intro b hb
      revert b
      refine allCons ?_ (allCons ?_ allNil)
      · exact .inl rfl
      · exact .inr (.inr ⟨_, fun i m nw hJ => by obtain ⟨rfl, _⟩ := hJ; exact .head _⟩)
    · exact ⟨rfl, by k_extra "var", 2828, _, by k_extra "var", by decide, by decide⟩
    · intro i v m nw h tk oI EE hi hP hJ hnI F N
      try k_extra "nt"
      obtain ⟨rfl, vl, M, tM, vm, hM0, hM1⟩ := hJ
      have hP : vs'[i]? = some v := hP
      have hob : ∃ n, ms[i]? = some n := ⟨_, List.getElem?_eq_getElem (by rw [← hms.length]; exact hi)⟩
      obtain ⟨n, hn⟩ := hob
      obtain ⟨t, ht⟩ := hms.get i n hn
      rw [ht] at hP
      obtain rfl := Option.some.inj hP
      clear F8 N8 F7 N7 F6 N6 F4 N4 F3 N3 F2 N2
      repeat k_extra "m"
      rename_i h9 F9 N9
      have hq := (fdiv_fmod_facts (M * 31 + n + 1) 1000003).2.2.1 (by decide)
      exact feEnd (led := [(D, listOf vs'.toArray k4)]) F9 N9 (by k_extra "mem") (fun p hp => by simp only [List.mem_cons, List.not_mem_nil, or_false] at hp; subst hp; k_extra "mem") (fun p hp => by simp only [List.mem_cons, List.not_mem_nil, or_false] at hp; subst hp; exact DI2.symm)
        ⟨rfl, by k_extra "var", _, _, by k_extra "var", hq.1, hq.2⟩
    · clear F8 N8 F7 N7 F6 N6 F4 N4 F3 N3 F2 N2
      intro m nw h tk hJ hnI F N
      try k_extra "nt"
      obtain ⟨rfl, vl, M, tM, vm, hM0, hM1⟩ := hJ
      repeat k_extra "m"
      obtain ⟨mg, mb, T⟩ := B.T
      refine' kdn_str ?q F N T.nolimit ?a ?l ?e ?n ?_
      case q => rfl
      case a => rfl
      case l => rfl
      case e => exact List.cons_ne_nil _ _
      case n => decide
      intro dk h9 od0 F9 N9 ldk lodk d0
      try k_extra "nt"
      refine pairTrees_cons_walk ?_
      repeat k_extra "m"
      refine pairTrees_cons_walk ?_
      repeat k_extra "m"
      refine pairTrees_nil_walk ?_
      refine kdn_made_str F9 N9 (.head (fun p hp => Nat.ne_of_lt (ldk p hp))) d0 rfl (of_decide_eq_true (by rfl)) fun h10 od F10 N10 hdd => ?_
      try k_extra "nt"
      have mk := N10 _ (.head _)
      have ml := N10 _ (.tail _ (.head _))
      repeat k_extra "m"
      exact ⟨_, _, _, rfl, rfl, F10.keep, dk, D, od, _, rfl, (Nat.ne_of_lt (ldk _ (.head _))).symm, ⟨M, tM, vs', ms, k4, hdd, rfl, hms, hb, hM0, hM1, Nat.le_trans hvl (Nat.le_trans hn60 (by decide))⟩, mk.1, ml.1, mk.2.2, ml.2.2⟩
theorem laid_flags {mask finger moves : Nat} {led plain : Bool} {hs : Array Int} {t : SetTable} {ord : Array Nat} (h : SetTable.laid mask finger moves led plain hs = some (t, ord)) : t.led = led ∧ t.plain = plain := by
  unfold SetTable.laid at h
  cases e : SetTable.layClean mask hs with
  | none => rw [e] at h; cases h
  | some owner =>
    rw [e] at h
    have h := Option.some.inj h
    rw [← (Prod.mk.inj h).1]
    exact ⟨rfl, rfl⟩
theorem relay_flags (t : SetTable) (es : Array (Int × Value)) (n : Nat) : (relayAll t es n).2.1.led = t.led ∧ (t.plain = false → (relayAll t es n).2.1.plain = false) := by
  unfold relayAll
  split
  · rename_i t' ord e
    have := laid_flags e
    dsimp only
    split
    · exact ⟨this.1, fun h => this.2.trans h⟩
    · exact ⟨rfl, fun _ => rfl⟩
  · exact ⟨rfl, fun _ => rfl⟩
theorem layNew_led (t : SetTable) (es : Array (Int × Value)) (h : Int) (x : Value) : (layNew t es h x).2.1.led = t.led := by
  unfold layNew
  split
  · dsimp only
    unfold SetTable.orStandIn
    split <;> rfl
  · rfl
noncomputable def ledOf (w : World) : Bool := !(w.params.followText "set-order")
structure SetIs (w : World) (h : Heap) (S : Addr) (k : Nat) (es : Array (Int × Value)) (ep : Nat) (t : SetTable) : Prop where
  at_ : ∃ o, h.get? S = some o ∧ o.ExactSet ∧ o.data = .set es ep t
  el : ElemsOf (bk w) es.toList
  len : es.size ≤ k
  fits : t.fits es.size = true
  led : t.led = ledOf w
  plain : 0 < es.size → t.plain = false
theorem SetIs.keep {w : World} {h h' : Heap} {S : Addr} {k : Nat} {es : Array (Int × Value)} {ep : Nat} {t : SetTable} (x : SetIs w h S k es ep t) (e : ∀ o, h.get? S = some o → h'.get? S = some o) : SetIs w h' S k es ep t :=
  let ⟨⟨o, ho, r⟩, b, c, d, f, g⟩ := x; ⟨⟨o, e _ ho, r⟩, b, c, d, f, g⟩
section
variable {w : World} {A : Around} {E : Value → Shared → Prop} {s : Shared} {S : Addr} {k : Nat} {es : Array (Int × Value)} {ep : Nat} {t : SetTable}
theorem setStored {h : Heap} {o : Obj} {es1 : Array (Int × Value)} {t1 : SetTable} (ho : h.get? S = some o) (hex : o.ExactSet) (hd : o.data = .set es ep t) (hel : ElemsOf (bk w) es1.toList) (hl : es1.size ≤ k) (hf : t1.fits es1.size = true) (h1 : t1.led = ledOf w) (h2 : 0 < es1.size → t1.plain = false) :
    SetIs w (h.update S (Obj.putSet es1 t1)) S k es1 (ep + 1) t1 := by
  have hg := Heap.get?_update_self (Obj.putSet es1 t1) ho (by rw [putSet_of es1 t1 hd]; rfl)
  rw [putSet_of es1 t1 hd] at hg
  exact ⟨⟨_, hg, hex, rfl⟩, hel, hl, hf, h1, h2⟩
theorem setAddB {b : By} {u : Tok} {Q : Bool → Shared → Prop} (X : SetIs w s.heap S k es ep t) (hk : k < 100)
    (h : ∀ r h' tk es' ep' t', Heap.SameBut S s.heap h' → SetIs w h' S (k + 1) es' ep' t' → Q r { s with heap := h', toks := tk }) : wpAny (model PR w) A (setAdd S (.bytes b.toArray u)) Q E s := by
  obtain ⟨⟨o, ho, hex, hd⟩, hel, hlen, hf, hled, hpl⟩ := X
  have hkey : (bk w).is b (.bytes b.toArray u) = true := bytesKind_is PR w b u
  have hsc : (Value.bytes b.toArray u).scannable = true := rfl
  have hb : es.size < scanBound := by unfold scanBound; (first | lia | omega)
  unfold setAdd
  refine wpAny_holding (wpAny_bind ((bk w).pyHash (k := b) hkey ?_))
  unfold setAddHashed setAddHashedIn
  refine wpAny_holding (wpAny_bind (wpAny_setState_of (s := { s with toks := s.toks + 1 }) ho hd hf ?_))
  dsimp only
  rw [byScan_of hsc hb hel]
  simp only [↓reduceIte]
  unfold setAddByScan
  refine wpAny_bind (wpAny_bind (wpAny_rule (wpAny_bind (wpAny_setScan_of hkey ho hd hf hel ?_))))
  cases hr : List.findIdx? (fun e => (bk w).is b e.2) es.toList with
  | some j =>
    exact wpAny_pure (wpAny_pure (h _ s.heap _ es ep t (Heap.SameBut.refl S s.heap) ⟨⟨o, ho, hex, hd⟩, hel, Nat.le_succ_of_le hlen, hf, hled, hpl⟩))
  | none =>
    have hperm := layNew_perm t es ((bk w).hash b) (.bytes b.toArray u)
    have hfits := layNew_fits t es ((bk w).hash b) (.bytes b.toArray u)
    have hl1 := layNew_led t es ((bk w).hash b) (.bytes b.toArray u)
    rw [hled] at hl1
    generalize layNew t es ((bk w).hash b) (.bytes b.toArray u) = LN at hperm hfits hl1 ⊢
    obtain ⟨es1, t1, wasDummy, gave⟩ := LN
    dsimp only at hperm hfits hl1 ⊢
    rw [Array.toList_push] at hperm
    have hel1 : ElemsOf (bk w) es1.toList := (hel.push hkey hsc).perm hperm
    have hsz : es1.size ≤ k + 1 := by rw [← Array.length_toList, hperm.length_eq, List.length_append, Array.length_toList]; simpa using hlen
    have hgw : ∀ (b : Bool) {s₁ : Shared} {Q' : Unit → Shared → Prop}, Q' () s₁ → wpAny (model PR w) A (match b with | true => rule "set.scan.the-table-gave-way" | false => pure ()) Q' E s₁ :=
      fun b s₁ Q' hq => by cases b <;> first | exact wpAny_pure hq | exact wpAny_rule hq
    refine wpAny_bind (hgw _ ?_)
    have tail : ∀ t2 : SetTable, t2.fits es1.size = true → t2.led = ledOf w → t2.plain = false →
        wpAny (model PR w) A (do
          storeSet S es1 t2
          if (!wasDummy && t2.tooFull) = true then do
              (match (relayAll t2 es1 (SetTable.grown es1.size)).2.2 with | true => rule "set.scan.the-table-gave-way" | false => pure ())
              storeSet S (relayAll t2 es1 (SetTable.grown es1.size)).1 (relayAll t2 es1 (SetTable.grown es1.size)).2.1
              pure (some true)
            else pure (some true)) (fun a s₁ => wpAny (model PR w) A (match a with | some added => pure added | none => setAddHashedIn S (.bytes b.toArray u) ((bk w).hash b) 99999) Q E s₁) E { s with toks := s.toks + 1 } := by
      intro t2 f1 f2 f3
      refine wpAny_bind (wpAny_storeSet_of (s := { s with toks := s.toks + 1 }) ho hd ?_ (by rw [sizeLine_eq]; (first | lia | omega)))
      have X1 := setStored (w := w) (k := k + 1) ho hex hd hel1 hsz f1 f2 fun _ => f3
      have hsb1 := Heap.SameBut.update s.heap S (Obj.putSet es1 t2)
      split
      · obtain ⟨o1, ho1, hex1, hd1⟩ := X1.at_
        have hp := relayAll_perm t2 es1 (SetTable.grown es1.size)
        have hfr := relayAll_fits t2 es1 (SetTable.grown es1.size)
        have hrf := relay_flags t2 es1 (SetTable.grown es1.size)
        generalize relayAll t2 es1 (SetTable.grown es1.size) = Rl at hp hfr hrf ⊢
        obtain ⟨es2, t3, gave2⟩ := Rl
        dsimp only at hp hfr hrf ⊢
        have hsz2 : es2.size = es1.size := by rw [← Array.length_toList, hp.length_eq, Array.length_toList]
        refine wpAny_bind (hgw _ (wpAny_bind (wpAny_storeSet_of (s := { s with toks := s.toks + 1, heap := s.heap.update S (Obj.putSet es1 t2) }) ho1 hd1 ?_ (by rw [sizeLine_eq]; (first | lia | omega)))))
        have X2 := setStored (w := w) (k := k + 1) ho1 hex1 hd1 (hel1.perm hp) (by (first | lia | omega)) hfr (hrf.1.trans f2) fun _ => hrf.2 f3
        exact wpAny_pure (wpAny_pure (h _ _ _ es2 _ t3 (hsb1.trans (Heap.SameBut.update _ S _)) X2))
      · exact wpAny_pure (wpAny_pure (h _ _ _ es1 _ t2 hsb1 X1))
    split
    · refine wpAny_bind ?_
      rw [hashByValue_scannable 8 hsc]
      refine wpAny_pure ?_
      exact tail _ (SetTable.fits_plain_off hfits) hl1 rfl
    · rename_i hp
      refine wpAny_bind (wpAny_pure ?_)
      exact tail _ hfits hl1 (by simpa using hp)
end
section
variable {w : World} {A : Around} {R : Result → Shared → Prop} {I S : Addr} {fp : List Addr} {n : Nat} {P : Nat → Value → Prop} {St : Nat → Heap → Prop}
theorem setLoop (W : Walks PR w A.in1 I fp [I] n P St) (hS : S ∉ fp) (hSI : S ≠ I) (hP : ∀ i v, P i v → ∃ b u, v = .bytes (List.toArray b) u) (hn : n ≤ 50) :
    ∀ (k i : Nat) (s : Shared) (es : Array (Int × Value)) (ep : Nat) (t : SetTable), n - i = k → i ≤ n → St i s.heap → SetIs w s.heap S i es ep t →
      (∀ h' tk es' ep' t', (∀ b o, b ≠ S → b ≠ I → s.heap.get? b = some o → h'.get? b = some o) → SetIs w h' S n es' ep' t' → R (.ok (.ret .none)) { s with heap := h', toks := tk }) →
      codeAny (model PR w) A (.builtin "set.update.loop" ⟨[.ref S, .ref I], []⟩) R s := by
  intro k
  induction k with
  | zero =>
    intro i s es ep t hk hi hst X hR
    have e : i = n := Nat.le_antisymm hi (Nat.sub_eq_zero_iff_le.mp hk)
    subst e
    refine codeAny_builtin PyProof.Rows.F.entry_set_update_loop ?_
    rw [Around.under_plainId PyProof.Rows.F.plain_set_update_loop _]
    show wpAny _ A.in1 (pyNext (.ref I) >>= _) _ _ s
    refine wpAny_bind (W.done s _ _ hst fun h' tk hm => ?_)
    show wpAny _ A.in1 (ret Value.none) _ _ _
    exact wpAny_pure (hR h' tk es ep t (fun b o _ hb e => hm b o (by simpa using hb) e) (X.keep fun o e => hm S o (by simpa using hSI) e))
  | succ k ih =>
    intro i s es ep t hk hi hst X hR
    have hlt : i < n := Nat.lt_of_sub_pos (hk ▸ Nat.succ_pos k)
    refine codeAny_builtin PyProof.Rows.F.entry_set_update_loop ?_
    rw [Around.under_plainId PyProof.Rows.F.plain_set_update_loop _]
    show wpAny _ A.in1 (pyNext (.ref I) >>= _) _ _ s
    refine wpAny_bind (W.item i s _ _ hlt hst fun v h1 tk1 hPv hst1 hm => ?_)
    obtain ⟨b, u, rfl⟩ := hP i v hPv
    show wpAny _ A.in1 (holding [Value.bytes b.toArray u] (setAdd S (.bytes b.toArray u)) >>= _) _ _ _
    refine wpAny_bind (wpAny_holding ?_)
    refine setAddB (s := { s with heap := h1, toks := tk1 }) (X.keep fun o e => hm S o (by simpa using hSI) e) (Nat.lt_of_lt_of_le hlt (Nat.le_trans hn (by decide))) fun r h2 tk2 es2 ep2 t2 hsb X2 => ?_
    refine wpAny_pure ⟨plainId_quiet PyProof.Rows.F.plain_set_update_loop _, ih (i + 1) _ es2 ep2 t2 (by rw [← Nat.sub_sub, hk]; rfl) hlt (W.frame _ h1 _ hst1 fun b hb o e => hsb.extBut b o (fun q => hS (q ▸ hb)) e) X2 fun h' tk es' ep' t' hk' X' => ?_⟩
    exact hR h' tk es' ep' t' (fun b o h1' h2' e => hk' b o h1' h2' (hsb.extBut b o h1' (hm b o (by simpa using h2') e))) X'
end
section
variable {w : World} {A : Around} {E : Value → Shared → Prop} {s : Shared}
noncomputable def emptySet (w : World) : Obj := { cls := .type "set", dict := none, data := .set #[] 0 (.fresh 0 0 (ledOf w)) }
theorem code_set_mk (a : Value) {Q₁ : Value → Shared → Prop} (h : Q₁ (.ref s.heap.objs.size) { s with heap := s.heap.push (emptySet w) }) :
    codeAny (model PR w) A (.call (.builtin "set.__new__") ⟨[.type "set", a], []⟩) (wants Q₁ E) s := by
  refine codeAny_of_tree ?_
  show wpAny _ A.in1 (do checkBuiltinCall "set.__new__" ⟨[.type "set", a], []⟩; again (.builtin "set.__new__" ⟨[.type "set", a], []⟩)) _ _ s
  refine wpAny_bind (wpAny_of_eq (PySem.F.newCall_set_1 a) (wpAny_pure ⟨plainId_quiet PySem.F.plain_set_new _, codeAny_builtin PySem.F.entry_set_new ?_⟩))
  rw [Around.under_plainId PySem.F.plain_set_new _]
  unfold Builtin.«set.__new__» Builtin.Frozenset.newClass
  have hsub := sub_set_self
  obtain ⟨hp, g, d, tk, os⟩ := s
  dsimp only
  wp_walk
  refine wpAny_askSetting (wpAny_pure ?_)
  dsimp only
  simp only [newObj]
  refine wpAny_bind (wpAny_alloc (wpAny_pure ?_))
  exact wpAny_pure h
theorem emptyIs (h : Heap) : SetIs w (h.push (emptySet w)) h.objs.size 0 #[] 0 (.fresh 0 0 (ledOf w)) :=
  ⟨⟨_, Heap.get?_push_size _ rfl, ⟨rfl, rfl, rfl⟩, rfl⟩, fun e he => by simp at he, Nat.le_refl _, by rfl, rfl, fun h => absurd h (by simp)⟩
theorem callSetB {l : Addr} {vs : List Value} {ps : List By} {Q : Value → Shared → Prop} (hh : A.handled = none) (hl : s.heap.IsList l vs.toArray) (hv : BysAre vs ps) (hn : vs.length ≤ 50)
    (h : ∀ h' tk es ep t, Keeps s.heap h' → SetIs w h' s.heap.objs.size vs.length es ep t → Q (.ref s.heap.objs.size) { s with heap := h', toks := tk }) :
    wpAny (model PR w) A (call (.type "set") [.ref l]) Q E s := by
  obtain ⟨c, tl, hmro⟩ := PySem.F.called_set.mro
  have hmade := PySem.F.called_set.made
  have hsub := PySem.F.called_set.sub
  refine wpAny_call (codeAny_of_tree ?_)
  show wpAny _ _ (callAny (.type "set") _) _ _ _
  refine wpAny_pure ⟨Code.quiet_builtin _ (by decide +kernel), codeAny_builtin PySem.F.entry_type_call ?_⟩
  rw [Around.under_plain (weight_type_call_type "set" [.ref l] []) rfl]
  have h1 := PySem.F.called_set.notType
  have h2 := PySem.F.called_set.canCreate
  have hct := PySem.F.typeCall_set_1 (.ref l)
  repeat (any_goals (first | assumption | wp_step))
  refine codeAny_mono (code_set_mk (w := w) (.ref l) (E := E) (Q₁ := fun obj s₁ => obj = .ref s.heap.objs.size ∧ s₁ = { s with heap := s.heap.push (emptySet w) }) ⟨rfl, rfl⟩) fun r s₁ hr => ?_
  cases r with
  | error e => exact hr
  | ok fl =>
    cases fl with
    | ret obj =>
      obtain ⟨rfl, rfl⟩ := hr
      have hS : (s.heap.push (emptySet w)).get? s.heap.objs.size = some (emptySet w) := Heap.get?_push_size _ rfl
      have hT : Shared.TypeIs { s with heap := s.heap.push (emptySet w) } (.ref s.heap.objs.size) "set" := ⟨_, hS, rfl⟩
      have hli := PySem.F.called_set.init.lookup
      have hbi := PySem.F.called_set.init.bind (.ref s.heap.objs.size)
      repeat (any_goals (first | assumption | wp_step))
      refine codeAny_mono (codeAny_call_builtin (R := wants (fun r s₂ => r = .none ∧ Q (.ref s.heap.objs.size) s₂) E) PySem.F.called_set.init.plain PySem.F.entry_set_init (check_set_init_1 hT ?_)) fun r₂ s₂ hr₂ => ?_
      · have hl1 : (s.heap.push (emptySet w)).IsList l vs.toArray := hl.push _
        obtain ⟨ol, hol, hcl, nl, hdl⟩ := id hl1
        obtain ⟨ocls, odict, odata, oslots⟩ := ol
        simp only at hcl hdl
        subst hcl; subst hdl
        have hsls := PySem.F.sub_list_set
        have hslf := PySem.F.sub_list_frozenset
        have hne : (Value.type "list" == Value.type "dict") = false := by decide
        have hlS : l < s.heap.objs.size := let ⟨_, ho, _⟩ := hl; Heap.lt_size ho
        unfold emptySet at hS hT hol hl1
        unfold Builtin.«set.__init__» noKeywords Builtin.Frozenset.updateFrom emptySet
        generalize hPI : pyIter = PI
        wp_walk
        subst hPI
        refine wpAny_pyIter_list hl1 ?_
        refine wpAny_bind (wpAny_runValue ?_)
        have hX0 : SetIs w (s.heap.push (emptySet w)) s.heap.objs.size 0 #[] 0 (.fresh 0 0 (ledOf w)) := emptyIs s.heap
        unfold emptySet at hX0
        generalize hH1 : s.heap.push { cls := Value.type "set", dict := none, data := Data.set #[] 0 (SetTable.fresh 0 0 (ledOf w)) } = H1 at hX0 hl1 hT hS hol ⊢
        have hs1 : H1.objs.size = s.heap.objs.size + 1 := by rw [← hH1, Heap.size_push]
        have hneI : l ≠ H1.objs.size := by rw [hs1]; exact Nat.ne_of_lt (Nat.lt_succ_of_lt hlS)
        have hSI : s.heap.objs.size ≠ H1.objs.size := by rw [hs1]; exact Nat.ne_of_lt (Nat.lt_succ_self _)
        have hh3 : A.in1.in1.in1.handled = none := by simp [hh]
        have W := Walks.list (prog := PR) (w := w) hh3 H1.objs.size l hneI vs.toArray
        simp only [List.size_toArray, List.getElem?_toArray] at W
        refine setLoop W (S := s.heap.objs.size) (fun hm => ?_) hSI (fun i v e => ?_) hn _ 0 _ _ _ _ rfl (Nat.zero_le _) ⟨⟨_, Heap.get?_push_size _ rfl, rfl, rfl⟩, hl1.push _⟩ (hX0.keep fun o e => Heap.get?_push_of_some _ e) fun h' tk es' ep' t' hk X' => ?_
        · simp only [List.mem_cons, List.not_mem_nil, or_false] at hm
          rcases hm with hm | hm
          · exact hSI hm
          · exact absurd hlS (by rw [← hm]; exact Nat.lt_irrefl _)
        · obtain ⟨x, u, e1, _⟩ := hv.get' e
          exact ⟨x, u, e1⟩
        · refine wpAny_pure (wpAny_pure ⟨rfl, h h' tk es' ep' t' (fun b o e => hk b o (Nat.ne_of_lt (Heap.lt_size e)) (by rw [hs1]; exact Nat.ne_of_lt (Nat.lt_succ_of_lt (Heap.lt_size e))) (Heap.get?_push_of_some _ (hH1 ▸ Heap.get?_push_of_some _ e))) X'⟩)
      · cases r₂ with
        | error e => exact hr₂
        | ok fl₂ =>
          cases fl₂ with
          | ret r =>
            obtain ⟨rfl, hq⟩ := hr₂
            repeat (any_goals (first | assumption | wp_step))
          | _ => exact hr₂.elim
    | _ => exact hr.elim
end
theorem owner_set_it : Manifest.owners.lookup (String.ofList ['r', 'o', 't', 'a', 'r', 'e', 't', 'i', '_', 't', 'e', 's'].reverse) = some Manifest.sig_set_iterator := by kernel_rfl
theorem slot_si_next : Slot "set_iterator" "__next__" "set_iterator.__next__" :=
  .of (owner := "set_iterator") (n := "__next__") (by rw [typeLookup_type, builtinLookup_eq_fast]; kernel_rfl) (by decide +kernel) (by decide +kernel) (by decide +kernel)
    (by first | exact .inl (by decide +kernel) | exact .inr (by decide +kernel)) (by rw [isSubtype_type]; kernel_rfl)
theorem slot_si_iter : Slot "set_iterator" "__iter__" "set_iterator.__iter__" :=
  .of (owner := "set_iterator") (n := "__iter__") (by rw [typeLookup_type, builtinLookup_eq_fast]; kernel_rfl) (by decide +kernel) (by decide +kernel) (by decide +kernel)
    (by first | exact .inl (by decide +kernel) | exact .inr (by decide +kernel)) (by rw [isSubtype_type]; kernel_rfl)
theorem entry_si_next : entryFor table "set_iterator.__next__" = some Builtin.«set_iterator.__next__» := entryFor_of_tree (by kernel_rfl)
theorem entry_s_iter : entryFor table "set.__iter__" = some Builtin.«frozenset.__iter__» :=
  entryFor_alias (id' := "frozenset.__iter__") (by kernel_rfl) rfl (by decide +kernel) (by kernel_rfl)
theorem args_si_next (a : Value) : argsOk "set_iterator.__next__" ⟨[a], []⟩ := by
  unfold argsOk; rw [signature?_of (id := "set_iterator.__next__") (n := ['_', '_', 't', 'x', 'e', 'n', '_', '_']) (o := ['r', 'o', 't', 'a', 'r', 'e', 't', 'i', '_', 't', 'e', 's']) (by kernel_rfl) owner_set_it]; kernel_rfl
theorem args_si_iter (a : Value) : argsOk "set_iterator.__iter__" ⟨[a], []⟩ := by
  unfold argsOk; rw [signature?_of (id := "set_iterator.__iter__") (n := ['_', '_', 'r', 'e', 't', 'i', '_', '_']) (o := ['r', 'o', 't', 'a', 'r', 'e', 't', 'i', '_', 't', 'e', 's']) (by kernel_rfl) owner_set_it]; kernel_rfl
theorem entry_si_iter : entryFor table "set_iterator.__iter__" = some Builtin.«dict_keyiterator.__iter__» :=
  entryFor_alias (id' := "dict_keyiterator.__iter__") (by kernel_rfl) rfl (by decide +kernel) (by kernel_rfl)
noncomputable def SIter (h : Heap) (I S : Addr) (first : Value) (i n ep : Nat) : Prop := ∃ o, h.get? I = some o ∧ o.cls = .type "set_iterator" ∧ o.data = .fields #[first, .int i 0, .ref S, .int n 0, .int ep 0]
theorem SIter.typeIs {s : Shared} {I S : Addr} {first : Value} {i n ep : Nat} (x : SIter s.heap I S first i n ep) : s.TypeIs (.ref I) "set_iterator" := let ⟨o, ho, hc, _⟩ := x; ⟨o, ho, hc⟩
theorem SIter.at {h h' : Heap} {I S : Addr} {first : Value} {i n ep : Nat} (x : SIter h I S first i n ep) (e : ∀ o, h.get? I = some o → h'.get? I = some o) : SIter h' I S first i n ep := let ⟨o, ho, r⟩ := x; ⟨o, e _ ho, r⟩
noncomputable def FirstOk (w : World) (h : Heap) (es : Array (Int × Value)) (t : SetTable) (T : Addr) (first : Value) (i : Nat) : Prop :=
  (ledOf w = false ∧ ∃ slot : Nat, first = .int slot 0) ∨
  (ledOf w = true ∧ es.size ≤ 1 ∧ ∃ slot : Nat, first = .int slot 0 ∧ SetTable.below t.place slot = i) ∨
  (ledOf w = true ∧ 1 < es.size ∧ first = .ref T ∧ ∃ places : List Nat, h.get? T = some (tupOf (places.map fun p : Nat => .int p 0)) ∧ places.length = es.size ∧ ∀ p ∈ places, p < es.size)
noncomputable def SetSt (w : World) (S I T : Addr) (k : Nat) (es : Array (Int × Value)) (ep : Nat) (t : SetTable) (i : Nat) (h : Heap) : Prop :=
  SetIs w h S k es ep t ∧ ∃ first, SIter h I S first i es.size ep ∧ FirstOk w h es t T first i
theorem pickGo_size {α : Type} (next : Nat → Nat) : ∀ (fuel k : Nat) (left : List α) (out : Array α), left.length = fuel → (pickOrder.go next fuel k left out).size = out.size + fuel ∧ ∀ x ∈ (pickOrder.go next fuel k left out).toList, x ∈ left ∨ x ∈ out.toList
  | 0, k, left, out, h => by
    unfold pickOrder.go
    exact ⟨rfl, fun x hx => .inr hx⟩
  | fuel + 1, k, left, out, h => by
    unfold pickOrder.go
    have hlt : next k % left.length < left.length := Nat.mod_lt _ (by (first | lia | omega))
    rw [List.getElem?_eq_getElem hlt]
    dsimp only
    obtain ⟨h1, h2⟩ := pickGo_size next fuel (k + 1) (left.eraseIdx (next k % left.length)) (out.push left[next k % left.length]) (by rw [List.length_eraseIdx_of_lt hlt]; (first | lia | omega))
    refine ⟨by rw [h1, Array.size_push]; (first | lia | omega), fun x hx => ?_⟩
    rcases h2 x hx with h | h
    · exact .inl (List.eraseIdx_subset h)
    · rw [Array.toList_push] at h
      rcases List.mem_append.mp h with h | h
      · exact .inr h
      · simp only [List.mem_singleton] at h; subst h; exact .inl (List.getElem_mem hlt)
theorem pick_ok {α : Type} (next : Nat → Nat) (xs : Array α) : (pickOrder next xs).size = xs.size ∧ ∀ x ∈ (pickOrder next xs).toList, x ∈ xs.toList := by
  unfold pickOrder
  obtain ⟨h1, h2⟩ := pickGo_size next xs.size 0 xs.toList #[] (by simp)
  exact ⟨by simpa using h1, fun x hx => by simpa using h2 x hx⟩
noncomputable def IsBy (v : Value) : Prop := ∃ (b : By) (u : Tok), v = .bytes b.toArray u
theorem isBy_of {w : World} {l : List (Int × Value)} (h : ElemsOf (bk w) l) {e : Int × Value} (he : e ∈ l) : IsBy e.2 := by
  obtain ⟨⟨k, hk, _⟩, _⟩ := h e he
  obtain ⟨t, e⟩ := bk_is hk
  exact ⟨k, t, e⟩
theorem below_one (j : Nat) : SetTable.below #[j] (j + 1) = 1 := by
  unfold SetTable.below
  simp [SetTable.below.go]
section
variable {w : World} {A : Around} {E : Value → Shared → Prop} {s : Shared} {S I T : Addr} {k : Nat} {es : Array (Int × Value)} {ep : Nat} {t : SetTable}
theorem getState {Q : (Array (Int × Value) × Nat × SetTable) → Shared → Prop} (X : SetIs w s.heap S k es ep t) (h : Q (es, ep, t) s) : wpAny (model PR w) A (setState S) Q E s := by
  obtain ⟨⟨o, ho, hex, hd⟩, _, _, hf, _⟩ := X
  exact wpAny_setState_of ho hd hf h
theorem byText {Q : Bool → Shared → Prop} (h : Q (!ledOf w) s) : wpAny (model PR w) A setsByText Q E s := by
  unfold setsByText
  refine wpAny_bind (wpAny_askSetting (wpAny_pure ?_))
  have : (!ledOf w) = w.params.followText "set-order" := by unfold ledOf; simp
  rw [this] at h; exact h
theorem setNext_text {slot i : Nat} {Q : Option (Value × Nat) → Shared → Prop} (X : SetIs w s.heap S k es ep t) (hw : ledOf w = false) (h : Q ((pickOrder (w.params.setOrder S ep) es)[i]?.map fun e => (e.2, slot)) s) : wpAny (model PR w) A (setNext S slot i ep) Q E s := by
  unfold setNext
  refine wpAny_bind (getState X ?_)
  refine wpAny_bind (byText ?_)
  first | refine wpIfP (by rw [hw]; rfl) ?_ | rw [if_pos (by rw [hw]; rfl)]
  first | refine wpIfN (by simp) ?_ | rw [if_neg (by simp)]
  refine wpAny_bind ?_
  unfold setWalk
  refine wpAny_bind (getState X ?_)
  refine wpAny_bind (byText ?_)
  first | refine wpIfP (by rw [hw]; rfl) ?_ | rw [if_pos (by rw [hw]; rfl)]
  refine wpAny_bind (wpAny_askSetting ?_)
  exact wpAny_pure (wpAny_pure h)
theorem setNext_place {slot i : Nat} {Q : Option (Value × Nat) → Shared → Prop} (X : SetIs w s.heap S k es ep t) (hw : ledOf w = true) (hs : es.size ≤ 1)
    (h : Q (match es[SetTable.below t.place slot]?, t.place[SetTable.below t.place slot]? with | some (_, x), some j => some (x, j + 1) | _, _ => none) s) : wpAny (model PR w) A (setNext S slot i ep) Q E s := by
  unfold setNext
  refine wpAny_bind (getState X ?_)
  dsimp only
  refine wpAny_bind (byText ?_)
  first | refine wpIfN (by rw [hw]; simp) ?_ | rw [if_neg (by rw [hw]; simp)]
  refine wpAny_ite_split (fun hd => absurd hd (show ¬ ((!t.plain && decide (es.size > 1)) = true) by simp; omega)) (fun _ => ?_)
  refine wpAny_bind ?_
  first | refine wpIfN (by rw [X.led, hw]; simp) ?_ | rw [if_neg (by rw [X.led, hw]; simp)]
  exact wpAny_pure (wpAny_pure h)
theorem place_one (X : SetIs w s.heap S k es ep t) (h : es.size = 1) : ∃ j, t.place = #[j] := by
  have hf := X.fits
  unfold SetTable.fits at hf
  have h1 : t.place.size = 1 := (eq_of_beq (Bool.and_eq_true _ _ ▸ hf).1).trans h
  obtain ⟨l, hl⟩ : ∃ l, t.place.toList = l := ⟨_, rfl⟩
  cases l with
  | nil => have := congrArg List.length hl; rw [Array.length_toList, h1] at this; cases this
  | cons j r =>
    cases r with
    | nil => exact ⟨j, by rw [← Array.toList_inj]; simpa using hl⟩
    | cons _ _ => have := congrArg List.length hl; rw [Array.length_toList, h1] at this; simp at this
theorem nextDrawn {p : Nat} {Q : Value → Shared → Prop} (X : SetIs w s.heap S k es ep t) {h0 : Int} {x : Value} (hp : es[p]? = some (h0, x)) (h : Q x s) : wpAny (model PR w) A (setNextDrawn S p ep) Q E s := by
  unfold setNextDrawn
  refine wpAny_bind (getState X ?_)
  first | refine wpIfN (by simp) ?_ | rw [if_neg (by simp)]
  rw [hp]
  exact wpAny_pure h
theorem setFld {prog : Program} {o : Obj} {x : Value} {fl : Array Value} {j : Nat} {Q : Unit → Shared → Prop} (ho : s.heap.get? I = some o) (hc : o.cls = .type "set_iterator") (hd : o.data = .fields fl) (hj : j < fl.size)
    (h : ∀ h' o', h'.get? I = some o' → o'.cls = .type "set_iterator" → o'.data = .fields (fl.setIfInBounds j x) → Heap.SameBut I s.heap h' → Q () { s with heap := h' }) : wpAny (model prog w) A (setField (.ref I) j x) Q E s :=
  wpAny_setField ho hd hj (h _ _ (Heap.get?_update_self _ ho (Obj.isFreed_of_fields (Obj.data_mapFields hd _))) ((Obj.cls_mapFields ..).trans hc) (Obj.data_mapFields hd _) (Heap.SameBut.update ..))
theorem siItem {i : Nat} {Q : Option Value → Shared → Prop} (st : SetSt w S I T k es ep t i s.heap) (hi : i < es.size) (hSI : S ≠ I) (hTI : T ≠ I)
    (hQ : ∀ v h', IsBy v → SetSt w S I T k es ep t (i + 1) h' → Heap.SameBut I s.heap h' → Q (some v) { s with heap := h' }) : wpAny (model PR w) A (pyNext (.ref I)) Q E s := by
  obtain ⟨X, first, it, fo⟩ := st
  obtain ⟨o, ho, hc, hd⟩ := id it
  have hT : s.TypeIs (.ref I) "set_iterator" := it.typeIs
  unfold pyNext
  refine wpAny_bind (wpAny_attempt (wpAny_callSpecial?_slot (name := Str.ofString "__next__") hT slot_si_next (wpAny_call_entry slot_si_next hT entry_si_next ?_ (args_si_next _))))
  unfold Builtin.«set_iterator.__next__»
  refine wpAny_bind (wpAny_pure ?_)
  refine wpAny_bind (wpAny_fieldsOf ho hd ?_)
  dsimp only
  have hie : SetIs w s.heap S k es ep t := X
  refine wpAny_bind ?_
  unfold setEntries
  refine wpAny_bind (getState X (wpAny_pure ?_))
  first | refine wpIfN (by simp) ?_ | rw [if_neg (by simp)]
  rcases fo with ⟨hw, slot, rfl⟩ | ⟨hw, hs, slot, rfl, hb⟩ | ⟨hw, hs, rfl, places, hT0, hpl, hpb⟩
  · dsimp only
    obtain ⟨hps, hpm⟩ := pick_ok (w.params.setOrder S ep) es
    have hlt : i < (pickOrder (w.params.setOrder S ep) es).size := by rw [hps]; exact hi
    refine wpAny_bind (setNext_text X hw ?_)
    simp only [Int.toNat_natCast, Array.getElem?_eq_getElem hlt, Option.map_some]
    refine wpAny_bind (setFld ho hc hd (by simp) fun h1 o1 ho1 hc1 hd1 hs1 => ?_)
    refine wpAny_bind (setFld (s := { s with heap := h1 }) ho1 hc1 hd1 (by simp) fun h2 o2 ho2 hc2 hd2 hs2 => ?_)
    have hsb := hs1.trans hs2
    refine wpAny_pure ⟨_, rfl, wpAny_pure (hQ _ h2 (isBy_of X.el (hpm _ (by simp))) ⟨X.keep fun o e => hsb.extBut S o hSI e, .int slot 0, ⟨o2, ho2, hc2, by rw [hd2]; simp [rawInt]⟩, .inl ⟨hw, slot, rfl⟩⟩ hsb)⟩
  · have h1 : es.size = 1 := Nat.le_antisymm hs (Nat.lt_of_le_of_lt (Nat.zero_le i) hi)
    have hi0 : i = 0 := Nat.lt_one_iff.mp (h1 ▸ hi)
    subst hi0
    obtain ⟨j, hj⟩ := place_one X h1
    refine wpAny_bind (setNext_place X hw hs ?_)
    rw [Int.toNat_natCast, hb, hj, Array.getElem?_eq_getElem hi, show (#[j] : Array Nat)[0]? = some j from rfl]
    dsimp only
    refine wpAny_bind (setFld ho hc hd (by simp) fun h1 o1 ho1 hc1 hd1 hs1 => ?_)
    refine wpAny_bind (setFld (s := { s with heap := h1 }) ho1 hc1 hd1 (by simp) fun h2 o2 ho2 hc2 hd2 hs2 => ?_)
    have hsb := hs1.trans hs2
    refine wpAny_pure ⟨_, rfl, wpAny_pure (hQ _ h2 (isBy_of X.el (e := es[0]) (by simp)) ⟨X.keep fun o e => hsb.extBut S o hSI e, .int ((j + 1 : Nat) : Int) 0, ⟨o2, ho2, hc2, by rw [hd2]; simp [rawInt]⟩, .inr (.inl ⟨hw, hs, j + 1, rfl, by rw [hj]; exact below_one j⟩)⟩ hsb)⟩
  · dsimp only
    refine wpAny_bind (wpAny_seqItems hT0 rfl ?_)
    have hlt : i < places.length := by rw [hpl]; exact hi
    have hp := hpb places[i] (List.getElem_mem hlt)
    simp only [Int.toNat_natCast, List.getElem?_toArray, List.getElem?_map, List.getElem?_eq_getElem hlt, Option.map_some]
    refine wpAny_bind (nextDrawn X (p := places[i]) (h0 := es[places[i]].1) (x := es[places[i]].2) (Array.getElem?_eq_getElem hp) ?_)
    refine wpAny_bind (setFld ho hc hd (by simp) fun h2 o2 ho2 hc2 hd2 hsb => ?_)
    refine wpAny_pure ⟨_, rfl, wpAny_pure (hQ _ h2 (isBy_of X.el (e := es[places[i]]) (by simp)) ⟨X.keep fun o e => hsb.extBut S o hSI e, .ref T, ⟨o2, ho2, hc2, by rw [hd2]; simp [rawInt]⟩, .inr (.inr ⟨hw, hs, rfl, places, hsb.extBut T _ hTI hT0, hpl, hpb⟩)⟩ hsb)⟩
theorem siDone {Q : Option Value → Shared → Prop} (hh : A.handled = none) (st : SetSt w S I T k es ep t es.size s.heap) (hSI : S ≠ I)
    (hQ : ∀ h', Heap.ExtBut I s.heap h' → Q none { s with heap := h' }) : wpAny (model PR w) A (pyNext (.ref I)) Q E s := by
  obtain ⟨X, first, it, fo⟩ := st
  obtain ⟨o, ho, hc, hd⟩ := id it
  have hT : s.TypeIs (.ref I) "set_iterator" := it.typeIs
  unfold pyNext
  refine wpAny_bind (wpAny_attempt (wpAny_callSpecial?_slot (name := Str.ofString "__next__") hT slot_si_next (wpAny_call_entry slot_si_next hT entry_si_next ?_ (args_si_next _))))
  unfold Builtin.«set_iterator.__next__»
  refine wpAny_bind (wpAny_pure ?_)
  refine wpAny_bind (wpAny_fieldsOf ho hd ?_)
  dsimp only
  refine wpAny_bind ?_
  unfold setEntries
  refine wpAny_bind (getState X (wpAny_pure ?_))
  first | refine wpIfN (by simp) ?_ | rw [if_neg (by simp)]
  have stop : ∀ h' : Heap, Heap.ExtBut I s.heap h' → wpAny (model PR w) A.in1 (do
      let e ← newExc (Value.type "StopIteration") []
      raiseNew e) (fun fin s' => ∃ v, fin = Fin.done (Flow.ret v) ∧ wpAny (model PR w) A (pure (some v)) Q E s') (fun e s' =>
      wpAny (model PR w) A (do
        let b ← isInstance e (Value.type "StopIteration")
        if b = true then pure none else throw e) Q E s') { s with heap := h' } := by
    intro h' hx
    exact stopNew hh fun o₁ o₂ => hQ _ ((hx.push _).push _)
  rcases fo with ⟨hw, slot, rfl⟩ | ⟨hw, hs, slot, rfl, hb⟩ | ⟨hw, hs, rfl, places, hT0, hpl, hpb⟩
  · dsimp only
    obtain ⟨hps, hpm⟩ := pick_ok (w.params.setOrder S ep) es
    refine wpAny_bind (setNext_text X hw ?_)
    simp only [Int.toNat_natCast, Array.getElem?_eq_none (Nat.le_of_eq hps), Option.map_none]
    refine wpAny_bind (setFld ho hc hd (by simp) fun h1 o1 ho1 hc1 hd1 hs1 => ?_)
    exact stop h1 hs1.extBut
  · dsimp only
    refine wpAny_bind (setNext_place X hw hs ?_)
    simp only [Int.toNat_natCast, hb, Array.getElem?_eq_none (Nat.le_refl _)]
    refine wpAny_bind (setFld ho hc hd (by simp) fun h1 o1 ho1 hc1 hd1 hs1 => ?_)
    exact stop h1 hs1.extBut
  · dsimp only
    refine wpAny_bind (wpAny_seqItems hT0 rfl ?_)
    simp only [Int.toNat_natCast, List.getElem?_toArray, List.getElem?_map, List.getElem?_eq_none (Nat.le_of_eq hpl), Option.map_none]
    refine wpAny_bind (setFld ho hc hd (by simp) fun h1 o1 ho1 hc1 hd1 hs1 => ?_)
    refine wpAny_bind (setFld (s := { s with heap := h1 }) ho1 hc1 hd1 (by simp) fun h2 o2 ho2 hc2 hd2 hs2 => ?_)
    exact stop h2 (hs1.trans hs2).extBut
end
section
variable {w : World} {A : Around} {E : Value → Shared → Prop} {s : Shared} {S I T : Addr} {k : Nat} {es : Array (Int × Value)} {ep : Nat} {t : SetTable}
theorem pickOne {M : Model} {src : Source} {n : Nat} {Q : Nat → Shared → Prop} (hn : n ≠ 0) (h : ∀ d i, i < n → Q i { s with drawn := d }) : wpAny M A (choose src n) Q E s := fun Γ p _ => by
  show Sem.wp M Γ (.choose src n .pure) _ _ p s
  rw [Sem.wp_choose]
  exact ⟨hn, h _ _ (Nat.mod_lt _ (Nat.pos_of_ne_zero hn))⟩
theorem orderOk {M : Model} {α : Type} : ∀ (n : Nat) (xs : List α) (s : Shared) (Q : List α → Shared → Prop), xs.length = n → (∀ d ys, ys.length = n → (∀ y ∈ ys, y ∈ xs) → Q ys { s with drawn := d }) → wpAny M A (drawOrder n xs) Q E s
  | 0, xs, s, Q, _, h => by
    unfold drawOrder
    exact wpAny_pure (h s.drawn [] rfl fun y hy => nomatch hy)
  | n + 1, xs, s, Q, hl, h => by
    cases xs with
    | nil => cases hl
    | cons x r =>
      unfold drawOrder
      refine wpAny_bind (pickOne (by simp) fun d i hi => ?_)
      rw [List.getElem?_eq_getElem hi]
      dsimp only
      refine wpAny_bind (orderOk n ((x :: r).eraseIdx i) _ _ (by rw [List.length_eraseIdx_of_lt hi]; simp only [List.length_cons] at hl ⊢; (first | lia | omega)) fun d2 ys h1 h2 => ?_)
      refine wpAny_pure (h d2 ((x :: r)[i] :: ys) (by simp [h1]) fun y hy => ?_)
      rcases List.mem_cons.mp hy with rfl | hy
      · exact List.getElem_mem hi
      · exact List.eraseIdx_subset (h2 y hy)
theorem SetSt.frame {i : Nat} {h h' : Heap} (x : SetSt w S I T k es ep t i h) (hk : ∀ b ∈ [I, S, T], ∀ o, h.get? b = some o → h'.get? b = some o) : SetSt w S I T k es ep t i h' := by
  obtain ⟨X, first, it, fo⟩ := x
  refine ⟨X.keep fun o e => hk S (by simp) o e, first, it.at fun o e => hk I (by simp) o e, ?_⟩
  rcases fo with h | h | ⟨hw, hs, hf, places, hT, r⟩
  · exact .inl h
  · exact .inr (.inl h)
  · exact .inr (.inr ⟨hw, hs, hf, places, hk T (by simp) _ hT, r⟩)
theorem setSelf {i : Nat} {Q : Value → Shared → Prop} (st : SetSt w S I T k es ep t i s.heap) (h : Q (.ref I) s) : wpAny (model PR w) A (pyIter (.ref I)) Q E s := by
  obtain ⟨X, first, it, fo⟩ := st
  refine wpAny_pyIter_slot it.typeIs slot_si_iter (wpAny_call_entry slot_si_iter it.typeIs entry_si_iter ?_ (args_si_iter _))
  exact wpAny_pure ⟨_, rfl, "set_iterator", _, it.typeIs, slot_si_next.lookup, h⟩
theorem setWalks (hh : A.handled = none) (hSI : S ≠ I) (hTI : T ≠ I) : Walks PR w A I [I, S, T] [I] es.size (fun _ v => IsBy v) (SetSt w S I T k es ep t) where
  sub := fun b hb => by simp at hb; simp [hb]
  frame := fun _ _ _ st hk => st.frame hk
  item := fun i s Q E hi st hQ => siItem st hi hSI hTI fun v h' hv st' hs' => hQ v h' s.toks hv st' fun b o hb e => hs'.extBut b o (fun h => hb (by simp [h])) e
  done := fun s Q E st hQ => siDone hh st hSI fun h' he' => hQ h' s.toks fun b o hb e => he' b o (fun h => hb (by simp [h])) e
  self := fun _ _ _ _ st hQ => setSelf st hQ
theorem drawnIs {Q : Bool → Shared → Prop} (X : SetIs w s.heap S k es ep t) (h : Q (ledOf w && decide (1 < es.size)) s) : wpAny (model PR w) A (setDrawn S) Q E s := by
  unfold setDrawn
  refine wpAny_bind (getState X ?_)
  refine wpAny_bind (byText ?_)
  have e : (!(!ledOf w) && (!t.plain && decide (es.size > 1))) = (ledOf w && decide (1 < es.size)) := by
    by_cases q : 1 < es.size
    · rw [X.plain (by (first | lia | omega))]; simp
    · simp [q]
  rw [← e] at h
  exact wpAny_pure h
theorem iterSet {Q : Value → Shared → Prop} (X : SetIs w s.heap S k es ep t) (hk : k ≤ 50)
    (h : ∀ I T h' d, SetSt w S I T k es ep t 0 h' → Keeps s.heap h' → s.heap.objs.size ≤ I → S ≠ I → T ≠ I → (T = S ∨ s.heap.objs.size ≤ T) → Q (.ref I) { s with heap := h', drawn := d }) : wpAny (model PR w) A (pyIter (.ref S)) Q E s := by
  obtain ⟨o, ho, hex, hd⟩ := X.at_
  have hT : s.TypeIs (.ref S) "set" := ⟨o, ho, hex.1⟩
  have hlt : S < s.heap.objs.size := Heap.lt_size ho
  refine wpAny_pyIter_slot hT PySem.F.slot_set_iter (wpAny_call_entry PySem.F.slot_set_iter hT entry_s_iter ?_ (PySem.F.args_set_iter_1 _))
  unfold Builtin.«frozenset.__iter__» Builtin.Frozenset.slot0 slotArgs
  simp only [List.isEmpty_nil, Bool.not_true, Bool.false_eq_true, ↓reduceIte, bind_assoc, List.length_nil, bne_self_eq_false]
  unfold Builtin.Frozenset.addrOf Builtin.Frozenset.sizeOf
  refine wpAny_bind (wpAny_pure ?_)
  refine wpAny_bind (wpAny_pure ?_)
  refine wpAny_bind ?_
  unfold setEntries
  refine wpAny_bind (wpAny_bind (getState X (wpAny_pure (wpAny_pure ?_))))
  refine wpAny_bind (drawnIs X ?_)
  by_cases hq : 1 < es.size
  · by_cases hw : ledOf w = true
    · rw [hw, decide_eq_true hq]
      first | refine wpIfP (by rfl) ?_ | rw [if_pos (by rfl)]
      refine wpAny_bind (orderOk _ _ _ _ (by simp) fun d ys hy1 hy2 => ?_)
      have hyl : ys.length ≤ 50 := by rw [hy1]; exact Nat.le_trans X.len hk
      refine wpAny_bind ?_
      simp only [newTuple]
      refine wpAny_newObj_type ?_ (by show (List.map _ ys).toArray.size ≤ sizeLine; rw [List.size_toArray, List.length_map]; exact Nat.le_trans hyl (by rw [sizeLine_eq]; decide))
      have X1 : SetIs w (s.heap.push (tupOf (ys.map fun p : Nat => .int p 0))) S k es ep t := X.keep fun o e => Heap.get?_push_of_some _ e
      refine wpAny_bind ?_
      unfold setEpoch
      refine wpAny_bind (getState (s := { s with heap := s.heap.push (tupOf (ys.map fun p : Nat => .int p 0)), drawn := d }) X1 (wpAny_pure ?_))
      refine wpAny_bind ?_
      simp only [newFields]
      refine wpAny_newObj_type ?_ (by size_fits)
      refine wpAny_pure ⟨_, rfl, "set_iterator", _, ⟨_, Heap.get?_push_size _ rfl, rfl⟩, slot_si_next.lookup, ?_⟩
      refine h _ s.heap.objs.size _ d ⟨X1.keep fun o e => Heap.get?_push_of_some _ e, .ref s.heap.objs.size, ⟨_, Heap.get?_push_size _ rfl, rfl, rfl⟩, .inr (.inr ⟨hw, hq, rfl, ys, Heap.get?_push_of_some _ (Heap.get?_push_size _ rfl), hy1, fun p hp => by simpa using hy2 p hp⟩)⟩
        (fun b o e => Heap.get?_push_of_some _ (Heap.get?_push_of_some _ e)) ?_ ?_ ?_ (.inr (Nat.le_refl _))
      · show s.heap.objs.size ≤ (s.heap.push _).objs.size
        rw [Heap.size_push]; exact Nat.le_succ _
      · show S ≠ (s.heap.push _).objs.size
        rw [Heap.size_push]; exact Nat.ne_of_lt (Nat.lt_succ_of_lt hlt)
      · show s.heap.objs.size ≠ (s.heap.push _).objs.size
        rw [Heap.size_push]; exact Nat.ne_of_lt (Nat.lt_succ_self _)
    · have hw' : ledOf w = false := by simpa using hw
      rw [hw']
      first | refine wpIfN (by simp) ?_ | rw [if_neg (by simp)]
      refine wpAny_bind (wpAny_pure ?_)
      refine wpAny_bind ?_
      unfold setEpoch
      refine wpAny_bind (getState X (wpAny_pure ?_))
      refine wpAny_bind ?_
      simp only [newFields]
      refine wpAny_newObj_type ?_ (by size_fits)
      refine wpAny_pure ⟨_, rfl, "set_iterator", _, ⟨_, Heap.get?_push_size _ rfl, rfl⟩, slot_si_next.lookup, ?_⟩
      exact h _ S _ s.drawn ⟨X.keep fun o e => Heap.get?_push_of_some _ e, .int 0 0, ⟨_, Heap.get?_push_size _ rfl, rfl, rfl⟩, .inl ⟨hw', 0, rfl⟩⟩ (fun b o e => Heap.get?_push_of_some _ e) (Nat.le_refl _) (Nat.ne_of_lt hlt) (Nat.ne_of_lt hlt) (.inl rfl)
  · rw [decide_eq_false hq, Bool.and_false]
    first | refine wpIfN (by simp) ?_ | rw [if_neg (by simp)]
    refine wpAny_bind (wpAny_pure ?_)
    refine wpAny_bind ?_
    unfold setEpoch
    refine wpAny_bind (getState X (wpAny_pure ?_))
    refine wpAny_bind ?_
    simp only [newFields]
    refine wpAny_newObj_type ?_ (by size_fits)
    refine wpAny_pure ⟨_, rfl, "set_iterator", _, ⟨_, Heap.get?_push_size _ rfl, rfl⟩, slot_si_next.lookup, ?_⟩
    refine h _ S _ s.drawn ⟨X.keep fun o e => Heap.get?_push_of_some _ e, .int 0 0, ⟨_, Heap.get?_push_size _ rfl, rfl, rfl⟩, ?_⟩ (fun b o e => Heap.get?_push_of_some _ e) (Nat.le_refl _) (Nat.ne_of_lt hlt) (Nat.ne_of_lt hlt) (.inl rfl)
    by_cases hw : ledOf w = true
    · refine .inr (.inl ⟨hw, by (first | lia | omega), 0, rfl, ?_⟩)
      by_cases h1 : es.size = 1
      · obtain ⟨j, hj⟩ := place_one X h1
        rw [hj]
        simp [SetTable.below, SetTable.below.go]
      · have h0 : t.place.size = 0 := by
          have hf := X.fits
          unfold SetTable.fits at hf
          exact (eq_of_beq (Bool.and_eq_true _ _ ▸ hf).1).trans (by (first | lia | omega))
        rw [Array.eq_empty_of_size_eq_zero h0]
        rfl
    · exact .inl ⟨by simpa using hw, 0, rfl⟩
end
section
variable {w : World} {A : Around} {E : Value → Shared → Prop} {s : Shared} {S I T : Addr} {k : Nat} {es : Array (Int × Value)} {ep : Nat} {t : SetTable}
theorem setHint {prog : Program} {Q : Bool → Shared → Prop} (hT : s.TypeIs (.ref S) "set") (h : Q false s) : wpAny (model prog w) A (Builtin.List.listLengthHint (.ref S)) Q E s := by
  unfold Builtin.List.listLengthHint
  refine wpAny_bind (wpAny_specialOf hT PySem.F.slot_set_len.lookup ?_)
  generalize hid : ("set.__len__" : String) = id0
  wp_delta
  rw [show splitId id0 = some ("set", "__len__") from by subst hid; decide +kernel]
  subst hid
  refine wpAny_bind (wpAny_isInstance (T := "set") (b := true) hT (by rw [isSubtype_type]; kernel_rfl) ?_)
  refine wpAny_ite_split (fun hab => absurd hab (by decide)) (fun _ => ?_)
  refine wpAny_ite_split (fun _ => ?_) (fun hab => absurd (by decide +kernel) hab)
  refine wpAny_bind (wpAny_typeOf hT ?_)
  exact wpAny_pure h
theorem extendSet {R : Result → Shared → Prop} (hh : A.handled = none) (X : SetIs w s.heap S k es ep t) (hk : k ≤ 50) {D : Addr} (hDS : D ≠ S) {c₀ : Nat} {res : Value} (hD : s.heap.get? D = some { cls := .type "list", data := .seq #[] c₀ })
    (hR : ∀ h' tk d acc c', (∀ b o, b ≠ D → s.heap.get? b = some o → h'.get? b = some o) → h'.get? D = some { cls := .type "list", dict := none, data := .seq acc c', slots := #[] } → ItemsOf (fun _ v => IsBy v) acc es.size → R (.ok (.ret res)) { s with heap := h', toks := tk, drawn := d }) :
    wpAny (model PR w) A.in1 (Builtin.List.listExtendWith (.ref D) (.ref S) res)
      (fun fin s' => match fin with | .done f => R (.ok f) s' | .again c' => c'.quiet = true ∧ codeAny (model PR w) A c' R s') (fun e s' => R (.error e) s') s := by
  obtain ⟨o, ho, hex, hd⟩ := X.at_
  have hT : s.TypeIs (.ref S) "set" := ⟨o, ho, hex.1⟩
  have hDlt : D < s.heap.objs.size := Heap.lt_size hD
  unfold Builtin.List.listExtendWith
  refine wpAny_bind (wpAny_typeOf (T := "set") hT ?_)
  have h1 : Builtin.List.listSameRef (.ref D) (.ref S) = false := by simp [Builtin.List.listSameRef, hDS]
  have h2 : (Value.type "set" == Value.type "list") = false := by decide
  have h3 : (Value.type "set" == Value.type "tuple") = false := by decide
  simp only [h1, h2, h3, Bool.or_false, Bool.false_eq_true, if_false]
  refine wpAny_bind (iterSet X hk fun I T h0 d st kp hI hSI hTI hTS => ?_)
  have hDI : D ≠ I := Nat.ne_of_lt (Nat.lt_of_lt_of_le hDlt hI)
  have hDT : D ≠ T := by
    rcases hTS with rfl | hTS
    · exact hDS
    · exact Nat.ne_of_lt (Nat.lt_of_lt_of_le hDlt hTS)
  have hDf : D ∉ [I, S, T] := by simp only [List.mem_cons, List.not_mem_nil, or_false, not_or]; exact ⟨hDI, hDS, hDT⟩
  have W : Walks PR w A.in1.in1 I [I, S, T] [I] es.size (fun _ v => IsBy v) (SetSt w S I T k es ep t) := setWalks (by simp [hh]) hSI hTI
  have W1 : Walks PR w A.in1 I [I, S, T] [I] es.size (fun _ v => IsBy v) (SetSt w S I T k es ep t) := setWalks (by simp [hh]) hSI hTI
  have hn : es.size ≤ sizeLine := Nat.le_trans X.len (Nat.le_trans hk (by rw [sizeLine_eq]; decide))
  have key : ∀ (h : Heap) (c₁ tk : Nat), SetSt w S I T k es ep t 0 h → (∀ b o, b ≠ D → s.heap.get? b = some o → h.get? b = some o) →
      h.get? D = some { cls := .type "list", data := .seq #[] c₁ } → codeAny (model PR w) A (.builtin "list.extend.loop" ⟨[.ref D, .ref I, res], []⟩) R { s with heap := h, toks := tk, drawn := d } := by
    intro h c₁ tk hst hkk hS₁
    refine codeAny_extend_loopS W1.toS hn D hDf res es.size 0 _ #[] c₁ rfl (Nat.zero_le _) hst hS₁ (ItemsOf.nil _) fun s' acc' c' hm hS' hacc => ?_
    rw [Moved.eq_with hm]
    refine hR s'.heap s'.toks d acc' c' (fun b o hb e => hm.heap b o (fun hmem => ?_) (hkk b o hb e)) hS' hacc
    rcases List.mem_cons.mp hmem with e' | hmem
    · exact hb e'
    · rw [List.mem_singleton.mp hmem] at e
      exact absurd (Heap.lt_size e) (Nat.not_lt.mpr hI)
  have hD0 := kp _ _ hD
  have kp' : ∀ b o, b ≠ D → s.heap.get? b = some o → h0.get? b = some o := fun b o _ e => kp b o e
  refine wpAny_bind (wpAny_holding (setHint (s := { s with heap := h0, drawn := d }) ⟨o, kp _ _ ho, hex.1⟩ ?_))
  refine wpAny_ite_split (fun _ => ?_) (fun _ => wpAny_pure ⟨plainId_quiet PySem.F.plain_extend_loop _, key _ c₀ _ st kp' hD0⟩)
  refine wpAny_bind (wpAny_rule ?_)
  refine wpAny_bind ?_
  show wpAny _ _ (updateSeq D (·.push .none) >>= fun _ => updateSeq D (·.pop)) _ _ _
  refine wpAny_bind (wpAny_updateSeq hD0 rfl ?_)
  have hS₂ := Heap.get?_update_self (Obj.mapSeq (·.push Value.none)) hD0 rfl
  refine wpAny_updateSeq (hz := by seq_fits) hS₂ rfl ?_
  have hS₃ := Heap.get?_update_self (Obj.mapSeq (·.pop)) hS₂ rfl
  refine wpAny_pure ⟨plainId_quiet PySem.F.plain_extend_loop _, key _ _ _ ?_ (fun b o hb e => ?_) hS₃⟩
  · refine st.frame fun b hb o e => ?_
    have hbD : b ≠ D := fun h => hDf (h ▸ hb)
    exact (Heap.get?_update_other _ _ (Ne.symm hbD)).trans ((Heap.get?_update_other _ _ (Ne.symm hbD)).trans e)
  · exact (Heap.get?_update_other _ _ (Ne.symm hb)).trans ((Heap.get?_update_other _ _ (Ne.symm hb)).trans (kp b o e))
theorem collectSet {R : List Value → Shared → Prop} (hh : A.handled = none) (X : SetIs w s.heap S k es ep t) (hk : k ≤ 50)
    (h : ∀ h' tk d (acc : Array Value), Keeps s.heap h' → ItemsOf (fun _ v => IsBy v) acc es.size → R acc.toList { s with heap := h', toks := tk, drawn := d }) : wpAny (model PR w) A (collect (.ref S)) R E s := by
  obtain ⟨o, ho, hex, hd⟩ := X.at_
  have hlt : S < s.heap.objs.size := Heap.lt_size ho
  unfold collect
  refine wpAny_bind (wpAny_runValue (codeAny_builtin entry_proto_collect' ?_))
  rw [Around.under_plainId PySem.F.plain_proto_collect _]
  show wpAny _ A.in1 (newList [] >>= fun l => again (.builtin "list.__iadd__" ⟨[l, .ref S], []⟩)) _ _ s
  refine wpAny_bind (wpAny_newObj_type ?_)
  refine wpAny_pure ⟨plainId_quiet PySem.F.plain_list_iadd _, codeAny_builtin entry_list_iadd' ?_⟩
  rw [Around.under_plainId PySem.F.plain_list_iadd _]
  have hD : (s.heap.push { cls := .type "list", data := .seq ([] : List Value).toArray }).get? s.heap.objs.size = some { cls := .type "list", data := .seq #[] } := Heap.get?_push_size _ rfl
  show wpAny _ A.in1 (Builtin.List.listExtendWith (.ref s.heap.objs.size) (.ref S) (.ref s.heap.objs.size)) _ _ _
  have key := extendSet (w := w) (A := A) (s := { s with heap := s.heap.push { cls := .type "list", data := .seq ([] : List Value).toArray } })
    (R := fun (q : Result) (s' : Shared) => ∃ (h' : Heap) (tk : Nat) (d : Drawn) (acc : Array Value) (c' : Nat), q = .ok (.ret (.ref s.heap.objs.size)) ∧ s' = { s with heap := h', toks := tk, drawn := d } ∧
      Keeps s.heap h' ∧ h'.get? s.heap.objs.size = some { cls := .type "list", dict := none, data := .seq acc c', slots := #[] } ∧ ItemsOf (fun _ v => IsBy v) acc es.size)
    hh (X.keep fun o e => Heap.get?_push_of_some _ e) hk (Nat.ne_of_gt hlt) (res := .ref s.heap.objs.size) hD
    (fun h' tk d acc c' hk' hD' hacc => ⟨h', tk, d, acc, c', rfl, rfl, fun b o e => hk' b o (Nat.ne_of_lt (Heap.lt_size e)) (Heap.get?_push_of_some _ e), hD', hacc⟩)
  refine wpAny_mono key (fun fin s' x => ?_) fun e s' x => ?_
  · cases fin with
    | done f =>
      obtain ⟨h', tk, d, acc, c', e, rfl, hk', hD', hacc⟩ := x
      cases e
      show wpAny _ A (load s.heap.objs.size >>= _) _ _ _
      refine wpAny_bind (wpAny_load hD' ?_)
      exact wpAny_pure (h h' tk d acc hk' hacc)
    | again c₁ =>
      refine ⟨x.1, codeAny_mono x.2 fun q s₂ y => ?_⟩
      obtain ⟨h', tk, d, acc, c', rfl, rfl, hk', hD', hacc⟩ := y
      refine wpAny_bind (wpAny_load hD' ?_)
      exact wpAny_pure (h h' tk d acc hk' hacc)
  · obtain ⟨_, _, _, _, _, e', _⟩ := x
    cases e'
theorem isBys : ∀ {vs : List Value}, (∀ v ∈ vs, IsBy v) → ∃ ps, BysAre vs ps
  | [], _ => ⟨[], .nil⟩
  | v :: vs, h => by
    obtain ⟨b, u, rfl⟩ := h v (.head _)
    obtain ⟨ps, hps⟩ := isBys fun x hx => h x (.tail _ hx)
    exact ⟨b :: ps, .cons hps⟩
section
variable {h₀ : Heap} {L : Addr} {m : Str → Option Value} {news : List (Addr × Obj)} {Q : Value → Shared → Prop}
theorem sortSetN (hh : A.handled = none) (F : Fr h₀ L s.heap m) (N : News h₀ L s.heap news) (X : SetIs w s.heap S k es ep t) (hk : k ≤ 50)
    (h : ∀ D h' tk d vs ps n, vs.length ≤ k → BysAre vs ps → Fr h₀ L h' m → News h₀ L h' ((D, listOf vs.toArray n) :: news) → (∀ p ∈ news, p.1 ≠ D) → Q (.ref D) { s with heap := h', toks := tk, drawn := d }) :
    wpAny (model PR w) A (call (.builtin "sorted") [.ref S]) Q E s := by
  refine call_function_entry kind_sorted plain_sorted entry_sorted (args_sorted1 _) ?_
  unfold Builtin.«sorted»
  refine wpAny_bind (m := checkCount "sorted" 1 1 _) (wpAny_pure ?_)
  refine wpAny_bind (collectSet (A := A.in1) hh X hk fun h1 tk d acc kp hacc => ?_)
  have hl : acc.toList.length = es.size := by rw [Array.length_toList]; exact hacc.1
  have hlk : acc.toList.length ≤ k := by rw [hl]; exact X.len
  obtain ⟨ps, hps⟩ := isBys (vs := acc.toList) fun v hv => by
    obtain ⟨j, hj, e⟩ := List.getElem_of_mem hv
    exact hacc.2 j v (by rw [← Array.getElem?_toList, List.getElem?_eq_getElem hj, e])
  refine wpAny_bind (wpAny_newList ?_ (by rw [sizeLine_eq]; (first | lia | omega)))
  generalize acc.toList = vs at hlk hps ⊢
  have F1 : Fr h₀ L (h1.push { cls := .type "list", data := .seq vs.toArray }) m := (frK F kp).push _
  have N1 := News.push (frK F kp) (newsK N kp) { cls := .type "list", data := .seq vs.toArray } rfl
  have lt : ∀ q ∈ news, q.1 < h1.objs.size := fun q hq => Heap.lt_size (kp _ _ (N q hq).1)
  generalize hD0 : h1.objs.size = D at N1 lt ⊢
  generalize hH2 : h1.push { cls := .type "list", data := .seq vs.toArray } = h2 at F1 N1 ⊢
  have hod : h2.get? D = some (seqObj "list" vs.toArray 0) := (N1 _ (.head _)).1
  refine wpAny_bind (wpAny_holding ?_)
  refine wpAny_call_entry slot_list_sort ⟨_, hod, rfl⟩ entry_list_sort (list_sort_treeK byKind_oneLt hod hps.keysOf (fun v₁ v₂ rest e => keyKind_bys (by rw [← e]; exact hps)) (by (first | lia | omega)) fun st' a1 a2 => ⟨_, rfl, ?_⟩) (args_list_sort _)
  obtain ⟨ps', h3, h4⟩ := sorted_out_by hps a1
  obtain ⟨e, he⟩ := sortedHeap_at (out := (arrOf st').map (·.2)) hod
  have old : ∀ b o, b ≠ D → h2.get? b = some o → (sortedHeap h2 D vs ((arrOf st').map (·.2))).get? b = some o := fun b o hb q => by rw [sortedHeap_old hb (Heap.lt_size q)]; exact q
  have hDD := N1 _ (.head _)
  have ne : ∀ p ∈ news, p.1 ≠ D := fun p hp => Nat.ne_of_lt (lt p hp)
  refine wpAny_pure ⟨_, rfl, h D _ tk d _ ps' e ?_ h3 (frBut F1 old hDD.2.2 hDD.2.1.symm) (fun p hp => ?_) ne⟩
  · rw [h3.length, h4.length_eq, ← hps.length]; exact hlk
  · rcases List.mem_cons.mp hp with rfl | hp
    · exact ⟨he, hDD.2⟩
    · exact ⟨old _ _ (ne p hp) (N1 p (.tail _ hp)).1, (N1 p (.tail _ hp)).2⟩
end
end
theorem freshNew {h₀ h : Heap} {L x : Addr} {m : Str → Option Value} (F : Fr h₀ L h m) (hx : h.get? x = none) : x ≠ L ∧ h₀.get? x = none := by
  refine ⟨fun e => ?_, ?_⟩
  · obtain ⟨o, _, _, ho, _⟩ := F.ns
    rw [← e, hx] at ho; cases ho
  · cases q : h₀.get? x with
    | none => rfl
    | some o => have := F.keep _ _ q; rw [hx] at this; cases this
theorem tupKeep {h h' : Heap} {a : Addr} {its : Array Value} (x : h.IsTuple a its) (k : Keeps h h') : h'.IsTuple a its := let ⟨o, ho, r⟩ := x; ⟨o, k _ _ ho, r⟩
theorem Pick2.all {a b : Addr} : ∀ {l : List (Addr × Obj)}, (∀ p ∈ l, p.1 ≠ a ∧ p.1 ≠ b) → Pick2 a b l l
  | [], _ => .nil
  | (c, o) :: l, h => .keep (h _ (.head _)).1 (h _ (.head _)).2 (Pick2.all fun p hp => h p (.tail _ hp))
inductive ChgsIn (led : List (Addr × Obj)) : List Value → List Chg → Prop
  | nil : ChgsIn led [] []
  | cons {x dx : Addr} {es : List DictEntry} {n : Nat} {c : Chg} {vs : List Value} {cs : List Chg} : (x, instObj 112 dx) ∈ led → (dx, dictOf es n) ∈ led → ChgIs es c → ChgOk c → ChgsIn led vs cs → ChgsIn led (.ref x :: vs) (c :: cs)
theorem ChgsIn.mono {led led' : List (Addr × Obj)} {vs : List Value} {cs : List Chg} (hs : ∀ p ∈ led, p ∈ led') (x : ChgsIn led vs cs) : ChgsIn led' vs cs := by
  induction x with
  | nil => exact .nil
  | cons a b c d _ ih => exact .cons (hs _ a) (hs _ b) c d ih
theorem ChgsIn.snoc {led : List (Addr × Obj)} {x dx : Addr} {es : List DictEntry} {n : Nat} {c : Chg} {vs : List Value} {cs : List Chg} (X : ChgsIn led vs cs) (a : (x, instObj 112 dx) ∈ led) (b : (dx, dictOf es n) ∈ led) (i : ChgIs es c) (k : ChgOk c) : ChgsIn led (vs ++ [.ref x]) (cs ++ [c]) := by
  induction X with
  | nil => exact .cons a b i k .nil
  | cons a' b' c' d' _ ih => exact .cons a' b' c' d' ih
theorem ChgsIn.at {led : List (Addr × Obj)} {h : Heap} {vs : List Value} {cs : List Chg} (X : ChgsIn led vs cs) (L : Led h led) : ChgsAt h vs cs := by
  induction X with
  | nil => exact .nil
  | cons a b c d _ ih => exact .cons ⟨_, _, _, L _ a, L _ b, c, d⟩ ih
inductive RowsIn (led : List (Addr × Obj)) : List Value → List Chg → Prop
  | nil : RowsIn led [] []
  | cons {T : Addr} {tw : Tok} {vo vn vs : Value} {c : Chg} {ws : List Value} {cs : List Chg} : (T, tupOf [.str c.word tw, vo, vn, vs]) ∈ led → OptB vo c.old → OptB vn c.new → OptI vs c.score → RowsIn led ws cs → RowsIn led (.ref T :: ws) (c :: cs)
theorem RowsIn.mono {led led' : List (Addr × Obj)} {vs : List Value} {cs : List Chg} (hs : ∀ p ∈ led, p ∈ led') (x : RowsIn led vs cs) : RowsIn led' vs cs := by
  induction x with
  | nil => exact .nil
  | cons a b c d _ ih => exact .cons (hs _ a) b c d ih
theorem RowsIn.snoc {led : List (Addr × Obj)} {T : Addr} {tw : Tok} {vo vn vs : Value} {c : Chg} {ws : List Value} {cs : List Chg} (X : RowsIn led ws cs) (a : (T, tupOf [.str c.word tw, vo, vn, vs]) ∈ led) (h1 : OptB vo c.old) (h2 : OptB vn c.new) (h3 : OptI vs c.score) : RowsIn led (ws ++ [.ref T]) (cs ++ [c]) := by
  induction X with
  | nil => exact .cons a h1 h2 h3 .nil
  | cons a' b' c' d' _ ih => exact .cons a' b' c' d' ih
theorem RowsIn.at {led : List (Addr × Obj)} {h : Heap} {vs : List Value} {cs : List Chg} (X : RowsIn led vs cs) (L : Led h led) : RowsAre h vs cs := by
  induction X with
  | nil => exact .nil
  | cons a b c d _ ih => exact .cons ⟨_, _, _, _, _, rfl, L _ a, b, c, d⟩ ih
theorem flat_rev (f : Chg → List (By × By)) (cs : List Chg) : (cs.reverse.flatMap f).Perm (cs.flatMap f) := by
  induction cs with
  | nil => exact .refl _
  | cons c cs ih =>
    rw [List.reverse_cons, List.flatMap_append, List.flatMap_cons]
    simp only [List.flatMap_cons, List.flatMap_nil, List.append_nil]
    exact (List.Perm.append_right _ ih).trans List.perm_append_comm
section
variable {w : World} {A : Around} {E : Value → Shared → Prop} {s : Shared} {h₀ : Heap} {L : Addr} {m : Str → Option Value} {news rest : List (Addr × Obj)} {dk ld : Addr} {od ol : Obj} {Q : Value → Shared → Prop}
theorem call_ofK {M : Model} {f : Value} {args : List Value} {kw : List (Str × Value)} {P : Value → Heap → Prop} (h : codeAny M A (.call f ⟨args, kw⟩) (Back s P) s)
    (k : ∀ v h' tk, P v h' → Q v { s with heap := h', toks := tk }) : wpAny M A (call f args kw) Q E s :=
  wpAny_call (codeAny_mono h fun r s' ⟨v, h', tk, e1, e2, p⟩ => by subst e1; subst e2; exact k v h' tk p)
theorem deckN {a : Addr} {vs : List Value} {ns : List Int} (F : Fr h₀ L s.heap m) (N : News h₀ L s.heap news) (B : Base w h₀) (Rr : Rm A 1) (hl : s.heap.IsList a vs.toArray) (hi : IntsAre vs ns) (hz : vs.length ≤ 63)
    (h : ∀ dk ld od ol h' tk, dk ≠ ld → IsDeck w od ol ld → Fr h₀ L h' m → News h₀ L h' ((dk, od) :: (ld, ol) :: news) → (∀ p ∈ news, p.1 ≠ dk ∧ p.1 ≠ ld) → Q (.ref dk) { s with heap := h', toks := tk }) : wpAny (model PR w) A (call (.ref 135) [.ref a]) Q E s := by
  refine call_of (deck_spec (B.keeps F.keep) Rr hl hi hz) fun v h' tk hpo => ?_
  obtain ⟨k, dk, ld, od, ol, e, hne, D, h1, h2, f1, f2⟩ := hpo
  subst e
  refine h dk ld od ol h' tk hne D (frK F k) (fun p hp => ?_) fun p hp => ⟨fun q => ?_, fun q => ?_⟩
  · rcases List.mem_cons.mp hp with rfl | hp
    · exact ⟨h1, freshNew F f1⟩
    · rcases List.mem_cons.mp hp with rfl | hp
      · exact ⟨h2, freshNew F f2⟩
      · exact newsK N k p hp
  · have := (N p hp).1; rw [q, f1] at this; cases this
  · have := (N p hp).1; rw [q, f2] at this; cases this
theorem changeN (F : Fr h₀ L s.heap m) (N : News h₀ L s.heap news) (B : Base w h₀) (m1 : (dk, od) ∈ news) (m2 : (ld, ol) ∈ news) (hne : dk ≠ ld) (D : IsDeck w od ol ld)
    (hr : ∀ p ∈ rest, p ∈ news ∧ p.1 ≠ dk ∧ p.1 ≠ ld) (Rr : Rm A 4)
    (h : ∀ x dx es n c od' ol' h' tk, ChgIs es c → ChgOk c → IsDeck w od' ol' ld → Fr h₀ L h' m → News h₀ L h' ((x, instObj 112 dx) :: (dx, dictOf es n) :: (dk, od') :: (ld, ol') :: rest) → (∀ p ∈ news, p.1 ≠ x ∧ p.1 ≠ dx) → Q (.ref x) { s with heap := h', toks := tk }) :
    wpAny (model PR w) A (call (.ref 161) [.ref dk]) Q E s := by
  refine call_of (change_spec B F.keep (N _ m1).1 (N _ m2).1 (N _ m1).2.2 (N _ m2).2.2 hne D Rr) fun v h' tk hv => ?_
  obtain ⟨x, dx, es, n, c, od', ol', rfl, ci, ok, e1, e2, f1, f2, _, D', g1, g2, kp⟩ := hv
  have hLd : L ≠ dk := (N _ m1).2.1.symm
  have hLl : L ≠ ld := (N _ m2).2.1.symm
  refine h x dx es n c od' ol' h' tk ci ok D' ⟨F.ns.at' fun o e => kp L o hLd hLl e, fun b o e => kp b o (fun q => by rw [q, (N _ m1).2.2] at e; cases e) (fun q => by rw [q, (N _ m2).2.2] at e; cases e) (F.keep b o e), F.above⟩ (fun p hp => ?_) fun p hp => ⟨fun q => ?_, fun q => ?_⟩
  · simp only [List.mem_cons] at hp
    rcases hp with rfl | rfl | rfl | rfl | hp
    · exact ⟨e1, freshNew F f1⟩
    · exact ⟨e2, freshNew F f2⟩
    · exact ⟨g1, (N _ m1).2⟩
    · exact ⟨g2, (N _ m2).2⟩
    · exact ⟨kp _ _ (hr p hp).2.1 (hr p hp).2.2 (N p (hr p hp).1).1, (N p (hr p hp).1).2⟩
  · have := (N p hp).1; rw [q, f1] at this; cases this
  · have := (N p hp).1; rw [q, f2] at this; cases this
theorem rowN {x : Addr} {c : Chg} (F : Fr h₀ L s.heap m) (N : News h₀ L s.heap news) (B : Base w h₀) (Rr : Rm A 1) (C : ChgAt s.heap x c)
    (h : ∀ T tw vo vn vs h' tk, OptB vo c.old → OptB vn c.new → OptI vs c.score → Fr h₀ L h' m → News h₀ L h' ((T, tupOf [.str c.word tw, vo, vn, vs]) :: news) → (∀ p ∈ news, p.1 ≠ T) → Q (.ref T) { s with heap := h', toks := tk }) :
    wpAny (model PR w) A (call (.ref 168) [.ref x]) Q E s := by
  refine call_of (row_spec (B.keeps F.keep) Rr C) fun v h' tk hpo => ?_
  obtain ⟨k, T, tw, vo, vn, vs, e, g, f, h1, h2, h3⟩ := hpo
  subst e
  refine h T tw vo vn vs h' tk h1 h2 h3 (frK F k) (fun p hp => ?_) fun p hp q => ?_
  · rcases List.mem_cons.mp hp with rfl | hp
    · exact ⟨g, freshNew F f⟩
    · exact newsK N k p hp
  · have := (N p hp).1; rw [q, f] at this; cases this
theorem setN {l : Addr} {vs : List Value} {ps : List By} (F : Fr h₀ L s.heap m) (N : News h₀ L s.heap news) (hh : A.handled = none) (hl : s.heap.IsList l vs.toArray) (hv : BysAre vs ps) (hn : vs.length ≤ 50)
    (h : ∀ S h' tk es ep t, SetIs w h' S vs.length es ep t → Fr h₀ L h' m → News h₀ L h' news → Q (.ref S) { s with heap := h', toks := tk }) : wpAny (model PR w) A (call (.type "set") [.ref l]) Q E s :=
  callSetB hh hl hv hn fun h' tk es ep t k X => h _ h' tk es ep t X (frK F k) (newsK N k)
variable {a st : Addr} {vs ws : List Value} {cs : List Chg} {still : List By}
theorem foundNews {P : Addr → Obj → List (By × Value) → Prop} {h' : Heap} {tk : Nat} {D : Addr} {o : Obj} (F : Fr h₀ L s.heap m) (N : News h₀ L s.heap news) (k : Keeps s.heap h') (g : h'.get? D = some o) (f : s.heap.get? D = none) :
    Fr h₀ L h' m ∧ News h₀ L h' ((D, o) :: news) ∧ ∀ p ∈ news, p.1 ≠ D := by
  refine ⟨frK F k, fun p hp => ?_, fun p hp q => ?_⟩
  · rcases List.mem_cons.mp hp with rfl | hp
    · exact ⟨g, freshNew F f⟩
    · exact newsK N k p hp
  · have := (N p hp).1; rw [q, f] at this; cases this
theorem dueN (F : Fr h₀ L s.heap m) (N : News h₀ L s.heap news) (B : Base w h₀) (Rr : Rm A 5) (hl : s.heap.IsList a vs.toArray) (C : ChgsAt s.heap vs cs) (hz : vs.length ≤ 10) (hst : s.heap.IsTuple st ws.toArray) (hws : BysAre ws still)
    (h : ∀ D o kvs h' tk, (D == sysModules) = false → o.IsDictOf (bk w) kvs → FoundOf (cs.flatMap bB) still kvs → Fr h₀ L h' m → News h₀ L h' ((D, o) :: news) → (∀ p ∈ news, p.1 ≠ D) → Q (.ref D) { s with heap := h', toks := tk }) :
    wpAny (model PR w) A (call (.ref 180) [.ref a, .ref st]) Q E s := by
  refine call_of (due_spec (B.keeps F.keep) Rr hl C hz hst hws) fun v h' tk hpo => ?_
  obtain ⟨k, D, o, kvs, e, g, f, lo, hd, hf⟩ := hpo
  subst e
  obtain ⟨F', N', ne⟩ := foundNews (P := fun _ _ _ => True) (tk := tk) F N k g f
  exact h D o kvs h' tk lo hd hf F' N' ne
theorem renamesN {args : List Value} {kw : List (Str × Value)} (F : Fr h₀ L s.heap m) (N : News h₀ L s.heap news) (B : Base w h₀) (Rr : Rm A 3) (hl : s.heap.IsList a vs.toArray) (C : ChgsAt s.heap vs cs) (hz : vs.length ≤ 10) (hst : s.heap.IsTuple st ws.toArray) (hws : BysAre ws still)
    (ha : (⟨args, kw⟩ : Args) = ⟨[.ref a, .ref st], []⟩ ∨ (⟨args, kw⟩ : Args) = ⟨[.ref a], [(Str.ofString "still", .ref st)]⟩ ∨ ((⟨args, kw⟩ : Args) = ⟨[.ref a], []⟩ ∧ st = 117))
    (h : ∀ D o kvs h' tk, (D == sysModules) = false → o.IsDictOf (bk w) kvs → FoundOf (cs.flatMap bB) still kvs → Fr h₀ L h' m → News h₀ L h' ((D, o) :: news) → (∀ p ∈ news, p.1 ≠ D) → Q (.ref D) { s with heap := h', toks := tk }) :
    wpAny (model PR w) A (call (.ref 123) args kw) Q E s := by
  refine call_ofK (renames_spec (B.keeps F.keep) Rr hl C hz hst hws ha) fun v h' tk hpo => ?_
  obtain ⟨k, D, o, kvs, e, g, f, lo, hd, hf⟩ := hpo
  subst e
  obtain ⟨F', N', ne⟩ := foundNews (P := fun _ _ _ => True) (tk := tk) F N k g f
  exact h D o kvs h' tk lo hd hf F' N' ne
variable {D : Addr} {o : Obj} {kvs : List (By × Value)} {qs : List By} {t : Tok}
theorem tledN (F : Fr h₀ L s.heap m) (N : News h₀ L s.heap news) (B : Base w h₀) (Rr : Rm A 2) (hD : (D, o) ∈ news) (lo : (D == sysModules) = false) (hd : o.IsDictOf (bk w) kvs) (M : MovOk kvs) (h0 : qs ≠ []) (hp : ∀ x ∈ qs, goodPart x) (hz : (joinP qs).length ≤ 100)
    (h : ∀ v h' tk, OptB v (ledR kvs qs (qs.length - 1)) → Fr h₀ L h' m → News h₀ L h' news → Q v { s with heap := h', toks := tk }) : wpAny (model PR w) A (call (.ref 130) [.ref D, .bytes (joinP qs).toArray t]) Q E s :=
  call_of (tled_spec (B.keeps F.keep) Rr (N _ hD).1 lo hd M h0 (fun x hx => (hp x hx).pt) hz) fun v h' tk ⟨k, e⟩ => h v h' tk e (frK F k) (newsK N k)
theorem lledN (F : Fr h₀ L s.heap m) (N : News h₀ L s.heap news) (B : Base w h₀) (Rr : Rm A 2) (hD : (D, o) ∈ news) (lo : (D == sysModules) = false) (hd : o.IsDictOf (bk w) kvs) (M : MovOk kvs) (h0 : qs ≠ []) (h4 : qs.length ≤ 4) (hp : ∀ x ∈ qs, goodPart x) (hz : (joinP qs).length ≤ 100)
    (h : ∀ v h' tk, OptB v (ledR kvs qs (qs.length - 1)) → Fr h₀ L h' m → News h₀ L h' news → Q v { s with heap := h', toks := tk }) : wpAny (model PR w) A (call (.ref 187) [.ref D, .bytes (joinP qs).toArray t]) Q E s :=
  call_of (lled_spec (B.keeps F.keep) Rr (N _ hD).1 lo hd M h0 h4 (fun x hx => (hp x hx).pt) hz) fun v h' tk ⟨k, e⟩ => h v h' tk e (frK F k) (newsK N k)
end
inductive BackD (s : Shared) (P : Value → Heap → Prop) (r : Result) (s' : Shared) : Prop
  | mk (v : Value) (h' : Heap) (tk : Nat) (d : Drawn) (e1 : r = .ok (.ret v)) (e2 : s' = { s with heap := h', toks := tk, drawn := d }) (p : P v h') : BackD s P r s'
theorem normS1 {s s1 : Shared} {d : Drawn} (e : s1 = { s with drawn := d }) {h : Heap} {α : Type} {M : Model} {A : Around} {t : Sem α} {Q : α → Shared → Prop} {E : Value → Shared → Prop} {tk : Nat} (k : ∀ tk, wpAny M A t Q E { s1 with heap := h, toks := tk }) : wpAny M A t Q E { s with heap := h, toks := tk, drawn := d } := by
  subst e; exact k tk
theorem CallNameKw {M : Model} {A : Around} {E : Value → Shared → Prop} {s : Shared} {env : Env} {x : Str} {np pos : Pos} {args : List PySem.Expr} {kws : List PySem.Keyword} {Q : Value → Shared → Prop}
    (h : wpAny M A (eval (.Name x np) env) (fun f s₁ => wpAny M A (callWith pos f [] (backTo pos (starEach args env)) (backToKw pos (keywordEach kws env))) Q E s₁) E s) : wpAny M A (eval (.Call (.Name x np) args kws pos) env) Q E s := wpAny_bind h
theorem kwOne {M : Model} {A : Around} {E : Value → Shared → Prop} {s : Shared} {env : Env} {name : Str} {value : PySem.Expr} {kp pos : Pos} {Q : List Value → Shared → Prop} (h : wpAny M A (eval value env) (fun v s₁ => Q [v] s₁) E s) : wpAny M A (evalAll ((backToKw pos (keywordEach [⟨some name, value, kp⟩] env)).map (·.2))) Q E s := by
  show wpAny M A (evalAll [do let v ← eval value env; standAt pos; pure v]) Q E s
  exact wpAny_evalAll_cons (wpAny_bind (wpAny_mono h (fun v s₁ q => wpAny_bind (wpAny_standAt (wpAny_pure (wpAny_evalAll_nil q)))) fun _ _ e => e))
inductive JV1 (w : World) (dk ld : Addr) (i : Nat) (vs : List Value) (led' : List (Addr × Obj)) : Prop
  | mk (od' ol' : Obj) (cl : List (Addr × Obj)) (cs : List Chg) (e : led' = (dk, od') :: (ld, ol') :: cl) (D : IsDeck w od' ol' ld) (X : ChgsIn cl vs cs) (hl : vs.length = i) (hn : ∀ p ∈ cl, p.1 ≠ dk ∧ p.1 ≠ ld) : JV1 w dk ld i vs led'
inductive JV2 (w : World) (dk ld : Addr) (i : Nat) (us : List Value) (led' : List (Addr × Obj)) : Prop
  | mk (od' ol' : Obj) (ps : List By) (e : led' = [(dk, od'), (ld, ol')]) (D : IsDeck w od' ol' ld) (hb : BysAre us ps) (hl : us.length = i) : JV2 w dk ld i us led'
inductive JV3 (w : World) (L dk ld Dc Dw : Addr) (oc3 : Obj) (kl2 : List (Addr × Obj)) (i : Nat) (m : Str → Option Value) (nw : List (Addr × Obj)) : Prop
  | mk (vc : m (Str.ofString "changes") = some (.ref Dc)) (vw : m (Str.ofString "was") = some (.ref Dw)) (od ol : Obj) (e : nw = (L + 1, oc3) :: (dk, od) :: (ld, ol) :: kl2) (D : IsDeck w od ol ld) : JV3 w L dk ld Dc Dw oc3 kl2 i m nw
inductive JV4 (w : World) (L dk ld Dc Dw Dd : Addr) (oc3 : Obj) (kl2 : List (Addr × Obj)) (i : Nat) (m : Str → Option Value) (nw : List (Addr × Obj)) : Prop
  | mk (vc : m (Str.ofString "changes") = some (.ref Dc)) (vw : m (Str.ofString "was") = some (.ref Dw)) (vd : m (Str.ofString "due") = some (.ref Dd)) (od ol : Obj) (e : nw = (L + 1, oc3) :: (dk, od) :: (ld, ol) :: kl2) (D : IsDeck w od ol ld) : JV4 w L dk ld Dc Dw Dd oc3 kl2 i m nw
theorem law_spec {w : World} {A : Around} {s : Shared} {a : Addr} {vs : List Value} {ns : List Int} (B : Base w s.heap) (Rr : Rm A 7) (hl : s.heap.IsList a vs.toArray) (hi : IntsAre vs ns) (hz : vs.length ≤ 63) :
    codeAny (model PR w) A (.call (.ref 192) ⟨[.ref a], []⟩) (BackD s fun v h' => Keeps s.heap h' ∧ v = .bool true) s := by
  refine' enterC (led := []) (h₀ := s.heap) (binds := [(Str.ofString "script", .ref a)]) B (Keeps.refl _) ?hled Rr ?ho ?hcd ?hb ?hki ?hnd ?_ ?c1 ?c2 ?c3
  case hled => intro p hp; cases hp
  case ho => k_is
  case hcd => k_is
  case hb => exact BindsTo.of_eq rfl
  case hki => exact kindsX rfl
  case hnd => decide +kernel
  case c1 => exact rfl
  case c2 => exact rfl
  case c3 => exact rfl
  intro L h₁ tk cells F N Y B' R' _
  try k_extra "nt"
  obtain ⟨oc, rfl, hoc⟩ := CellsAre.one Y
  clear B' Y
  replace hoc : oc.data = .cell none := hoc
  replace N : News s.heap L h₁ [(L + 1, oc)] := N
  replace F : Fr s.heap L h₁ (fun y => if y = Str.ofString "script" then some (.ref a) else none) := F
  repeat k_extra "m"
  refine deckN F N B (Rm.le R' (by decide)) (listKeep hl F.keep) hi hz fun dk ld od ol h2 tk2 hne D F2 N2 fr2 => ?_
  try k_extra "nt"
  have d1 : dk ≠ L + 1 := (fr2 (L + 1, oc) (.head _)).1.symm
  have d2 : ld ≠ L + 1 := (fr2 (L + 1, oc) (.head _)).2.symm
  repeat k_extra "m"
  rename_i h3 oc3 F3 N3 hoc3 tk3
  refine' compAssignW (h₀ := s.heap) (L := L) (cl := [(Str.ofString "deck", L + 1)]) ?sw ?hy3 ?hp3 ?hL3 ?g1 ?g2 ?g3 ?g4 ?g5 ?_ ?g6
  case g1 => exact rfl
  case sw => exact rfl
  case hy3 => exact rfl
  case hp3 => exact rfl
  case hL3 => exact rfl
  case g2 => decide
  case g3 => exact rfl
  case g4 => decide
  case g5 => exact rfl
  case g6 => intro _; exact rfl
  repeat k_extra "m"
  rename_i i0 u0 od1 ol1 h4a tk4a hi0 hi6 D1 F4a N4a D4 h4 tk4 t0 t1 F4 N4 nD4
  have hn6 := (toNat6 hi0 hi6).1
  try k_extra "nt"
  refine iterRange (n := (1 + i0).toNat) R'.hh (N4 _ (.head _)).1 (smallR (toNat6 hi0 hi6).2.1 (toNat6 hi0 hi6).2.2) (sizeR (toNat6 hi0 hi6).2.1) fun I h5 St W st K5 hI _ => ?_
  try k_extra "nt"
  generalize (1 + i0).toNat = n at hn6 W
  have F5 := frK F4 K5
  have N5 := newsK N4 K5
  have I0 := frFresh F4 hI
  have neI : ∀ a o, h4.get? a = some o → a ≠ I := fun a o e => by rw [hI]; exact Nat.ne_of_lt (Heap.lt_size e)
  have LI : L ≠ I := by obtain ⟨o, _, _, ho, _⟩ := F4.ns; exact neI _ _ ho
  have dkI : dk ≠ I := neI _ _ (N4 (dk, od1) (.tail _ (.head _))).1
  have ldI : ld ≠ I := neI _ _ (N4 (ld, ol1) (.tail _ (.tail _ (.head _)))).1
  have hidF : ∀ a ∈ I :: [(dk, od1), (ld, ol1)].map (·.1), s.heap.get? a = none := by
    refine allCons ?_ (allCons ?_ (allCons ?_ allNil))
    · exact I0
    · exact (N5 (_, od1) (.tail _ (.head _))).2.2
    · exact (N5 (_, ol1) (.tail _ (.tail _ (.head _)))).2.2
  have B5 : Base w (hideAll h5 (I :: [(dk, od1), (ld, ol1)].map (·.1))) := B.hide F5 hidF
  have hfr : ∀ a ∈ I :: [(dk, od1), (ld, ol1)].map (·.1), s.heap.get? a = none ∧ a ≠ L := by
    intro a ha
    refine ⟨hidF a ha, ?_⟩
    revert a
    refine allCons ?_ (allCons ?_ (allCons ?_ allNil))
    · exact LI.symm
    · exact (N5 (_, od1) (.tail _ (.head _))).2.1
    · exact (N5 (_, ol1) (.tail _ (.tail _ (.head _)))).2.1
  have X1 : (hideAll h5 (I :: [(dk, od1), (ld, ol1)].map (·.1))).IsCell (L + 1) (some (.ref dk)) := by
    refine ⟨oc3, hideAll_get _ (N5 (L + 1, oc3) (.tail _ (.tail _ (.tail _ (.head _))))).1 ?_, hoc3⟩
    exact notCons (neI _ _ (N4 (L + 1, oc3) (.tail _ (.tail _ (.tail _ (.head _))))).1) (notCons d1.symm (notCons d2.symm notNil))
  refine ⟨I, [I], n, _, St, [(dk, od1), (ld, ol1)], JV1 w dk ld, _, rfl, F5, hfr, W.W, Nat.le_trans hn6 (by decide), W.S, st, ?_, ?_, ⟨od1, ol1, [], [], rfl, D1, .nil, rfl, fun p hp => nomatch hp⟩, ?_, ?_⟩
  · refine allCons ?_ (allCons ?_ allNil)
    · exact ⟨(N5 (dk, od1) (.tail _ (.head _))).1, dkI⟩
    · exact ⟨(N5 (ld, ol1) (.tail _ (.tail _ (.head _)))).1, ldI⟩
  · intro b hb; exact .inl (List.mem_singleton.mp hb)
    try k_extra "nt"
  · intro C Dl i v vs led' h tk m oI k EE hC hD hi' hP hJ hlen hlI Fc Nc
    try k_extra "nt"
    obtain ⟨od2, ol2, cl, cs, rfl, D2, X, hvl, hcl⟩ := hJ
    clear hC hD
    refine noIfs ?_
    refine ifTrue rfl ?_
    repeat k_extra "m"
    have dkl := hlI (dk, od2) (.head _)
    have ldl := hlI (ld, ol2) (.tail _ (.head _))
    have hcI : ∀ p ∈ cl, p.1 ≠ I ∧ p.1 ≠ Dl := fun p hp => hlI p (.tail _ (.tail _ hp))
    refine changeN (rest := (I, oI) :: (Dl, listOf vs.toArray k) :: cl) Fc Nc B5 (.tail _ (.tail _ (.head _))) (.tail _ (.tail _ (.tail _ (.head _)))) hne D2 ?_ (Rm.le R' (by decide)) fun x dx es ne c od3 ol3 h6 tk6 ci ok D3 F6 N6 fr6 => ?_
    try k_extra "nt"
    · intro p hp
      revert p
      refine allCons ?_ (allCons ?_ (fun p hp => ?_))
      · exact ⟨.head _, dkl.1.symm, ldl.1.symm⟩
      · exact ⟨.tail _ (.head _), dkl.2.symm, ldl.2.symm⟩
      · exact ⟨.tail _ (.tail _ (.tail _ (.tail _ hp))), hcl p hp⟩
    have fI := fr6 (I, oI) (.head _)
    have fD := fr6 (Dl, listOf vs.toArray k) (.tail _ (.head _))
    have fk := fr6 (dk, od2) (.tail _ (.tail _ (.head _)))
    have fl := fr6 (ld, ol2) (.tail _ (.tail _ (.tail _ (.head _))))
    refine ⟨h6, tk6, _, (dk, od3) :: (ld, ol3) :: (x, instObj 112 dx) :: (dx, dictOf es ne) :: cl, rfl, F6, newsSub N6 ?_, ?_, od3, ol3, (x, instObj 112 dx) :: (dx, dictOf es ne) :: cl, cs ++ [c], rfl, D3, (X.mono fun p hp => .tail _ (.tail _ hp)).snoc (.head _) (.tail _ (.head _)) ci ok, by simp [hvl], ?_⟩
    · intro p hp
      revert p
      refine allCons ?_ (allCons ?_ (allCons ?_ (allCons ?_ (allCons ?_ (allCons ?_ (fun p h => ?_))))))
      · exact .tail _ (.tail _ (.tail _ (.tail _ (.head _))))
      · exact .tail _ (.tail _ (.tail _ (.tail _ (.tail _ (.head _)))))
      · exact .tail _ (.tail _ (.head _))
      · exact .tail _ (.tail _ (.tail _ (.head _)))
      · exact .head _
      · exact .tail _ (.head _)
      · exact .tail _ (.tail _ (.tail _ (.tail _ (.tail _ (.tail _ h)))))
    · intro p hp
      revert p
      refine allCons ?_ (allCons ?_ (allCons ?_ (allCons ?_ (fun p hp => ?_))))
      · exact dkl
      · exact ldl
      · exact ⟨fI.1.symm, fD.1.symm⟩
      · exact ⟨fI.2.symm, fD.2.symm⟩
      · exact hcI p hp
    · intro p hp
      revert p
      refine allCons ?_ (allCons ?_ (fun p hp => ?_))
      · exact ⟨fk.1.symm, fl.1.symm⟩
      · exact ⟨fk.2.symm, fl.2.symm⟩
      · exact hcl p hp
  · intro Dc vs led' h6 tk6 k6 hJ F6 Kc hlD hDo hDs
    try k_extra "nt"
    obtain ⟨od2, ol2, cl, cs, rfl, D2, X, hvl, hcl⟩ := hJ
    replace hDs : h5.objs.size ≤ Dc := hDs
    have fDc : ∀ o, h5.get? Dc ≠ some o := fun o e => absurd (Heap.lt_size e) (Nat.not_lt.mpr hDs)
    have fDc' : h5.get? Dc = none := by cases q : h5.get? Dc with | none => rfl | some o => exact absurd q (fDc o)
    have m1 := N5 (L + 1, oc3) (.tail _ (.tail _ (.tail _ (.head _))))
    have N6 : News s.heap L h6 ((Dc, listOf vs.toArray k6) :: (L + 1, oc3) :: (dk, od2) :: (ld, ol2) :: cl) := by
      intro p hp
      revert p
      refine allCons ?_ (allCons ?_ (allCons ?_ (allCons ?_ (fun p hp => ?_))))
      · exact ⟨hDo, freshNew F5 fDc'⟩
      · refine ⟨Kc _ _ (hideAll_get _ m1.1 ?_), m1.2⟩
        exact notCons m1.2.1 (notCons (neI _ _ (N4 (L + 1, oc3) (.tail _ (.tail _ (.tail _ (.head _))))).1) (notCons d1.symm (notCons d2.symm notNil)))
      · exact ⟨(hlD _ (.head _)).1, (N5 (_, od1) (.tail _ (.head _))).2⟩
      · exact ⟨(hlD _ (.tail _ (.head _))).1, (N5 (_, ol1) (.tail _ (.tail _ (.head _)))).2⟩
      · have q := hlD p (.tail _ (.tail _ hp))
        refine ⟨q.1, freshNew F5 (unhide q.2.1 ?_)⟩
        exact notCons (q.2.2.2) (notCons (hcl p hp).1 (notCons (hcl p hp).2 notNil))
    have cD : ∀ p ∈ (L + 1, oc3) :: (dk, od2) :: (ld, ol2) :: cl, p.1 ≠ Dc := by
      intro p hp
      revert p
      refine allCons ?_ (allCons ?_ (allCons ?_ (fun p hp => ?_)))
      · exact fun e => fDc oc3 (e ▸ m1.1)
      · exact (hlD _ (.head _)).2.2.1
      · exact (hlD _ (.tail _ (.head _))).2.2.1
      · exact (hlD p (.tail _ (.tail _ hp))).2.2.1
    have hv6 : vs.length ≤ 6 := Nat.le_trans (Nat.le_of_eq hvl) hn6
    clear N5 F5 N4 F4 N4a F4a N3 F3 N2 F2 N F hlD hDo hDs fDc fDc' m1 hidF hfr X1 B5
    repeat k_extra "m"
    refine' compAssignW (h₀ := s.heap) (L := L) (cl := []) ?sw ?hy3 ?hp3 ?hL3 ?g1 ?g2 ?g3 ?g4 ?g5 ?_ ?g6
    case g1 => exact rfl
    case sw => exact rfl
    case hy3 => exact rfl
    case hp3 => exact rfl
    case hL3 => exact rfl
    case g2 => decide
    case g3 => exact rfl
    case g4 => decide
    case g5 => exact rfl
    case g6 => intro _; exact rfl
    repeat k_extra "m"
    try k_extra "nt"
    refine iterList R'.hh (News.isList N6 (.head _)) fun I2 h7 St2 W2 st2 K7 hI2 _ => ?_
    try k_extra "nt"
    have F7 := frK F6 K7
    have N7 := newsK N6 K7
    have I02 := frFresh F6 hI2
    have neI2 : ∀ a o, h6.get? a = some o → a ≠ I2 := fun a o e => by rw [hI2]; exact Nat.ne_of_lt (Heap.lt_size e)
    have LI2 : L ≠ I2 := by obtain ⟨o, _, _, ho, _⟩ := F6.ns; exact neI2 _ _ ho
    have hid2 : ∀ p ∈ (Dc, listOf vs.toArray k6) :: (L + 1, oc3) :: (dk, od2) :: (ld, ol2) :: cl, (hideAll h7 (I2 :: ([] : List (Addr × Obj)).map (·.1))).get? p.1 = some p.2 := fun p hp =>
      hideAll_get _ (N7 p hp).1 (notOne (neI2 _ _ (N6 p hp).1))
    have hfr2 : ∀ a ∈ I2 :: ([] : List (Addr × Obj)).map (·.1), s.heap.get? a = none ∧ a ≠ L := by
      exact allCons (⟨I02, LI2.symm⟩) allNil
    have B7 : Base w (hideAll h7 (I2 :: ([] : List (Addr × Obj)).map (·.1))) := B.hide F7 fun a ha => (hfr2 a ha).1
    have C7 : ChgsAt (hideAll h7 (I2 :: ([] : List (Addr × Obj)).map (·.1))) vs cs := X.at fun p hp => hid2 p (.tail _ (.tail _ (.tail _ (.tail _ hp))))
    have hlcs : vs.length = cs.length := C7.length
    have fpI2 : ∀ b ∈ [I2, Dc], b = I2 ∨ ((∃ o, h7.get? b = some o) ∧ b ∉ I2 :: ([] : List (Addr × Obj)).map (·.1)) := by
      refine allCons ?_ (allCons ?_ allNil)
      · exact .inl rfl
      · exact .inr ⟨⟨_, (N7 _ (.head _)).1⟩, fun q => neI2 _ _ (N6 _ (.head _)).1 (List.mem_singleton.mp q)⟩
    refine ⟨I2, [I2, Dc], vs.length, _, St2, [], fun i us led' => RowsIn led' us (cs.take i), _, rfl, F7, hfr2, W2.W, Nat.le_trans hv6 (by decide), W2.S, st2, (fun p hp => nomatch hp), fpI2, (show RowsIn [] [] (cs.take 0) by rw [List.take_zero]; exact .nil), ?_, ?_⟩
    · intro C Dl i v us led' h tk m oI k EE hC hD hi' hP hJ hlen hlI Fc Nc
      try k_extra "nt"
      obtain ⟨x, c, rfl, hc, hat⟩ := C7.get hP
      clear hC hD
      refine noIfs ?_
      refine ifTrue rfl ?_
      repeat k_extra "m"
      refine rowN Fc Nc B7 (Rm.le R' (by decide)) (hat.keep Fc.keep) fun T tw vo vn vx h8 tk8 o1 o2 o3 F8 N8 fr8 => ?_
      try k_extra "nt"
      refine ⟨h8, tk8, _, (T, tupOf [.str c.word tw, vo, vn, vx]) :: led', rfl, F8, newsSub N8 ?_, ?_, ?_⟩
      · intro p hp
        revert p
        refine allCons ?_ (allCons ?_ (allCons ?_ (fun p h => ?_)))
        · exact .tail _ (.head _)
        · exact .tail _ (.tail _ (.head _))
        · exact .head _
        · exact .tail _ (.tail _ (.tail _ h))
      · intro p hp
        rcases List.mem_cons.mp hp with rfl | hp
        · exact ⟨(fr8 _ (.head _)).symm, (fr8 _ (.tail _ (.head _))).symm⟩
        · exact hlI p hp
      · show RowsIn _ (us ++ [.ref T]) (cs.take (i + 1))
        rw [List.take_add_one, hc]
        exact (RowsIn.mono (fun p hp => .tail _ hp) hJ).snoc (.head _) o1 o2 o3
    · intro Dw us led' h8 tk8 k8 hJ F8 Kc hlD hDo hDs
      try k_extra "nt"
      rw [hlcs, List.take_length] at hJ
      replace hDs : h7.objs.size ≤ Dw := hDs
      have fDw : ∀ o, h7.get? Dw ≠ some o := fun o e => absurd (Heap.lt_size e) (Nat.not_lt.mpr hDs)
      have fDw' : h7.get? Dw = none := by cases q : h7.get? Dw with | none => rfl | some o => exact absurd q (fDw o)
      have keepOld : ∀ p ∈ (Dc, listOf vs.toArray k6) :: (L + 1, oc3) :: (dk, od2) :: (ld, ol2) :: cl, h8.get? p.1 = some p.2 ∧ p.1 ≠ L ∧ s.heap.get? p.1 = none := fun p hp => by
        refine ⟨Kc _ _ (hideAll_get _ (N7 p hp).1 ?_), (N7 p hp).2⟩
        exact notCons ((N7 p hp).2.1) (notOne (neI2 _ _ (N6 p hp).1))
      have ledNew : ∀ p ∈ led', h7.get? p.1 = none := fun p hp => by
        have q := hlD p hp
        refine unhide q.2.1 ?_
        exact notOne q.2.2.2
      have N8 : News s.heap L h8 ((L + 1, oc3) :: (dk, od2) :: (ld, ol2) :: (Dc, listOf vs.toArray k6) :: (Dw, listOf us.toArray k8) :: (cl ++ led')) := by
        intro p hp
        simp only [List.mem_cons, List.mem_append] at hp
        rcases hp with rfl | rfl | rfl | rfl | rfl | hp | hp
        · exact keepOld _ (.tail _ (.head _))
        · exact keepOld _ (.tail _ (.tail _ (.head _)))
        · exact keepOld _ (.tail _ (.tail _ (.tail _ (.head _))))
        · exact keepOld _ (.head _)
        · exact ⟨hDo, freshNew F7 fDw'⟩
        · exact keepOld p (.tail _ (.tail _ (.tail _ (.tail _ hp))))
        · exact ⟨(hlD p hp).1, freshNew F7 (ledNew p hp)⟩
      have klx : ∀ p ∈ (Dc, listOf vs.toArray k6) :: (Dw, listOf us.toArray k8) :: (cl ++ led'), p.1 ≠ dk ∧ p.1 ≠ ld := by
        have a1 := (N7 (dk, od2) (.tail _ (.tail _ (.head _)))).1
        have a2 := (N7 (ld, ol2) (.tail _ (.tail _ (.tail _ (.head _))))).1
        intro p hp
        simp only [List.mem_cons, List.mem_append] at hp
        rcases hp with rfl | rfl | hp | hp
        · exact ⟨(cD _ (.tail _ (.head _))).symm, (cD _ (.tail _ (.tail _ (.head _)))).symm⟩
        · exact ⟨fun e => fDw _ (e ▸ a1), fun e => fDw _ (e ▸ a2)⟩
        · exact hcl p hp
        · have q := ledNew p hp
          refine ⟨fun e => ?_, fun e => ?_⟩
          · rw [e, a1] at q; cases q
          · rw [e, a2] at q; cases q
      have Xk : ChgsIn ((Dc, listOf vs.toArray k6) :: (Dw, listOf us.toArray k8) :: (cl ++ led')) vs cs := X.mono fun p hp => .tail _ (.tail _ (List.mem_append_left _ hp))
      have Xr : RowsIn ((Dc, listOf vs.toArray k6) :: (Dw, listOf us.toArray k8) :: (cl ++ led')) us cs := RowsIn.mono (fun p hp => .tail _ (.tail _ (List.mem_append_right _ hp))) hJ
      have mDc : (Dc, listOf vs.toArray k6) ∈ (Dc, listOf vs.toArray k6) :: (Dw, listOf us.toArray k8) :: (cl ++ led') := .head _
      have mDw : (Dw, listOf us.toArray k8) ∈ (Dc, listOf vs.toArray k6) :: (Dw, listOf us.toArray k8) :: (cl ++ led') := .tail _ (.head _)
      generalize (Dc, listOf vs.toArray k6) :: (Dw, listOf us.toArray k8) :: (cl ++ led') = kl at N8 klx Xk Xr mDc mDw
      clear N7 F7 N6 F6 hid2 hfr2 B7 C7 keepOld ledNew hlD hDo hDs fDw fDw' hJ Kc X hcl cD
      repeat k_extra "m"
      refine' listCompW (cl := [(Str.ofString "deck", L + 1)]) ?g1 ?g2 ?g3 ?g4 ?g5 ?_ ?g6
      case g1 => exact rfl
      case g2 => decide
      case g3 => exact rfl
      case g4 => decide
      case g5 => exact rfl
      case g6 => intro _; exact rfl
      repeat k_extra "m"
      rename_i i9 u9 od9 ol9 h9a tk9a hi9 hi93 D9 F9a N9a E9 h9 tk9 t90 t91 F9 N9 nE9
      try k_extra "nt"
      refine iterRange (n := i9.toNat) R'.hh (N9 _ (.head _)).1 (smallR hi9 (toNat3 hi93).2) (sizeR hi9) fun I3 h10 St3 W3 st3 K10 hI3 _ => ?_
      try k_extra "nt"
      have hn2 := (toNat3 hi93).1
      generalize i9.toNat = n9 at hn2 W3
      have F10 := frK F9 K10
      have N10 := newsK N9 K10
      have I03 := frFresh F9 hI3
      have neI3 : ∀ a o, h9.get? a = some o → a ≠ I3 := fun a o e => by rw [hI3]; exact Nat.ne_of_lt (Heap.lt_size e)
      have LI3 : L ≠ I3 := by obtain ⟨o, _, _, ho, _⟩ := F9.ns; exact neI3 _ _ ho
      have dkI3 : dk ≠ I3 := neI3 _ _ (N9 (dk, od9) (.tail _ (.head _))).1
      have ldI3 : ld ≠ I3 := neI3 _ _ (N9 (ld, ol9) (.tail _ (.tail _ (.head _)))).1
      have hidF3 : ∀ a ∈ I3 :: [(dk, od9), (ld, ol9)].map (·.1), s.heap.get? a = none := by
        refine allCons ?_ (allCons ?_ (allCons ?_ allNil))
        · exact I03
        · exact (N10 (_, od9) (.tail _ (.head _))).2.2
        · exact (N10 (_, ol9) (.tail _ (.tail _ (.head _)))).2.2
      have B10 : Base w (hideAll h10 (I3 :: [(dk, od9), (ld, ol9)].map (·.1))) := B.hide F10 hidF3
      have X10 : (hideAll h10 (I3 :: [(dk, od9), (ld, ol9)].map (·.1))).IsCell (L + 1) (some (.ref dk)) := by
        refine ⟨oc3, hideAll_get _ (N10 (L + 1, oc3) (.tail _ (.tail _ (.tail _ (.head _))))).1 ?_, hoc3⟩
        exact notCons (neI3 _ _ (N9 (L + 1, oc3) (.tail _ (.tail _ (.tail _ (.head _))))).1) (notCons d1.symm (notCons d2.symm notNil))
      refine ⟨I3, [I3], n9, _, St3, [(dk, od9), (ld, ol9)], JV2 w dk ld, rfl, W3.W, Nat.le_trans hn2 (by decide), W3.S, st3, ?_, ?_, ⟨od9, ol9, [], rfl, D9, .nil, rfl⟩, ?_, ?_⟩
      · refine allCons ?_ (allCons ?_ allNil)
        · exact ⟨(N10 (dk, od9) (.tail _ (.head _))).1, dkI3⟩
        · exact ⟨(N10 (ld, ol9) (.tail _ (.tail _ (.head _)))).1, ldI3⟩
      · intro b hb; exact .inl (List.mem_singleton.mp hb)
        try k_extra "nt"
      · intro C Dl i v us led' h tk m oI k EE hC hD hi' hP hJ hlen hlI Fc Nc
        try k_extra "nt"
        obtain ⟨od11, ol11, ps, rfl, D11, hus, hul⟩ := hJ
        clear hC hD
        have hlI' : ∀ p ∈ [(dk, od11), (ld, ol11)], p.1 ≠ I3 := fun p hp => (hlI p hp).1
        have hlD' : ∀ p ∈ [(dk, od11), (ld, ol11)], p.1 ≠ Dl := fun p hp => (hlI p hp).2
        refine noIfs ?_
        refine ifTrue rfl ?_
        clear F10 N10 F9 N9 F9a N9a
        repeat k_extra "m"
        rename_i qs u12 od12 ol12 h12a tk12a hq0 hq4 hqg hqz D12 F12a N12a Dp pv h12 tk12 hpv hpl F12 N12 nDp
        have hjz : (joinP (splitP (joinP qs)).dropLast).length ≤ 1000000 := by
          rw [split_join hq0 fun x hx => (hqg x hx).pt.1, List.dropLast_eq_take]
          exact Nat.le_trans (joinP_take_len _) (Nat.le_trans hqz (by decide))
        refine joinN (News.isList N12 (.head _)) hpv hjz fun tj kj => ?_
        try k_extra "nt"
        refine ⟨h12, kj, _, [(dk, od12), (ld, ol12)], rfl, F12, newsSub N12 ?_, ?_, od12, ol12, ps ++ [joinP (splitP (joinP qs)).dropLast], rfl, D12, hus.append (.cons .nil), by simp [hul]⟩
        · refine allCons ?_ (allCons ?_ (allCons ?_ (allCons ?_ allNil))) <;> k_extra "in"
        · refine allCons ?_ (allCons ?_ allNil)
          · exact ⟨hlI' (dk, od11) (.head _), hlD' (dk, od11) (.head _)⟩
          · exact ⟨hlI' (ld, ol11) (.tail _ (.head _)), hlD' (ld, ol11) (.tail _ (.head _))⟩
      · intro Ds ss led' h11 tk11 k11 hJ Kc hlD hDo hDs
        try k_extra "nt"
        obtain ⟨od11, ol11, ps, rfl, D11, hss, hsl⟩ := hJ
        replace hDs : h10.objs.size ≤ Ds := hDs
        have fDs : ∀ o, h10.get? Ds ≠ some o := fun o e => absurd (Heap.lt_size e) (Nat.not_lt.mpr hDs)
        have fDs' : h10.get? Ds = none := by cases q : h10.get? Ds with | none => rfl | some o => exact absurd q (fDs o)
        have F11 := frHide F10 Kc hidF3 (by
          exact notCons LI3 (notCons ((N10 (dk, od9) (.tail _ (.head _))).2.1.symm) (notCons ((N10 (ld, ol9) (.tail _ (.tail _ (.head _)))).2.1.symm) notNil)))
        have N11 : News s.heap L h11 ((Ds, listOf ss.toArray k11) :: (L + 1, oc3) :: (dk, od11) :: (ld, ol11) :: kl) := by
          intro p hp
          revert p
          refine allCons ?_ (allCons ?_ (allCons ?_ (allCons ?_ (fun p hp => ?_))))
          · exact ⟨hDo, freshNew F10 fDs'⟩
          · have q := N10 (L + 1, oc3) (.tail _ (.tail _ (.tail _ (.head _))))
            refine ⟨Kc _ _ (hideAll_get _ q.1 ?_), q.2⟩
            exact notCons (neI3 _ _ (N9 (L + 1, oc3) (.tail _ (.tail _ (.tail _ (.head _))))).1) (notCons d1.symm (notCons d2.symm notNil))
          · exact ⟨(hlD _ (.head _)).1, (N10 (_, od9) (.tail _ (.head _))).2⟩
          · exact ⟨(hlD _ (.tail _ (.head _))).1, (N10 (_, ol9) (.tail _ (.tail _ (.head _)))).2⟩
          · have q := N10 p (.tail _ (.tail _ (.tail _ (.tail _ hp))))
            refine ⟨Kc _ _ (hideAll_get _ q.1 ?_), q.2⟩
            exact notCons (neI3 _ _ (N9 p (.tail _ (.tail _ (.tail _ (.tail _ hp))))).1) (notCons (klx p hp).1 (notCons (klx p hp).2 notNil))
        have hss2 : ss.length ≤ 50 := Nat.le_trans (Nat.le_of_eq hsl) (Nat.le_trans hn2 (by decide))
        clear N10 F10 N9 F9 N9a F9a N8 F8 hlD hDo hDs fDs fDs' hidF3 X10 B10 Kc
        repeat k_extra "m"
        refine setN F11 N11 R'.hh (News.isList N11 (.head _)) hss hss2 fun S h12 tk12 es ep t XS F12 N12 => ?_
        try k_extra "nt"
        repeat k_extra "m"
        try k_extra "nt"
        refine sortSetN R'.hh F12 N12 XS hss2 fun Dt h13 tk13 dr sv ps2 k13 hsl2 hsv F13 N13 nDt => ?_
        try k_extra "nt"
        repeat k_extra "m"
        rename_i h14 F14 N14
        have hob : ∃ s1 : Shared, s1 = { s with drawn := dr } := ⟨_, rfl⟩
        obtain ⟨s1, hs1⟩ := hob
        refine normS1 hs1 fun tk14 => ?_
        try k_extra "nt"
        clear F13 N13 F12 N12 F11 N11
        refine forW (h₀ := s.heap) (L := L) rfl ?_ ?_ ?_ ?hs
        case hs => intro _; exact rfl
        · exact rfl
        · exact rfl
        have hsv6 : sv.length ≤ 1000000 := Nat.le_trans hsl2 (Nat.le_trans hss2 (by decide))
        repeat k_extra "m"
        rename_i T0 h15 F15 N15 n15 T1 h16 F16 N16 n16 Tt h17 F17 N17 n17
        try k_extra "nt"
        refine iterTuple R'.hh ⟨_, (N17 _ (.head _)).1, rfl, _, rfl⟩ fun I4 h18 St4 W4 st4 K18 hI4 _ => ?_
        try k_extra "nt"
        have F18 := frK F17 K18
        have N18 := newsK N17 K18
        have I04 := frFresh F17 hI4
        have neI4 : ∀ a o, h17.get? a = some o → a ≠ I4 := fun a o e => by rw [hI4]; exact Nat.ne_of_lt (Heap.lt_size e)
        have LI4 : L ≠ I4 := by obtain ⟨o, _, _, ho, _⟩ := F17.ns; exact neI4 _ _ ho
        have hob : ∃ kl2, kl2 = (Tt, tupOf [.ref T0, .ref T1]) :: (T1, tupOf sv) :: (T0, tupOf []) :: kl := ⟨_, rfl⟩
        obtain ⟨kl2, hkl2⟩ := hob
        have sub2 : ∀ p ∈ (L + 1, oc3) :: (dk, od11) :: (ld, ol11) :: kl2, p ∈ (Tt, tupOf [.ref T0, .ref T1]) :: (T1, tupOf sv) :: (T0, tupOf []) :: (Dt, listOf sv.toArray k13) :: (Ds, listOf ss.toArray k11) :: (L + 1, oc3) :: (dk, od11) :: (ld, ol11) :: kl := by
          intro p hp
          rw [hkl2] at hp
          revert p
          refine allCons ?_ (allCons ?_ (allCons ?_ (allCons ?_ (allCons ?_ (allCons ?_ (fun p h => ?_))))))
          · exact .tail _ (.tail _ (.tail _ (.tail _ (.tail _ (.head _)))))
          · exact .tail _ (.tail _ (.tail _ (.tail _ (.tail _ (.tail _ (.head _))))))
          · exact .tail _ (.tail _ (.tail _ (.tail _ (.tail _ (.tail _ (.tail _ (.head _)))))))
          · exact .head _
          · exact .tail _ (.head _)
          · exact .tail _ (.tail _ (.head _))
          · exact .tail _ (.tail _ (.tail _ (.tail _ (.tail _ (.tail _ (.tail _ (.tail _ h)))))))
        have N18' := newsSub N18 sub2
        have hnI4 : ∀ p ∈ (L + 1, oc3) :: (dk, od11) :: (ld, ol11) :: kl2, p.1 ≠ I4 := fun p hp => neI4 _ _ (N17 p (sub2 p hp)).1
        have klx2 : ∀ p ∈ kl2, p.1 ≠ dk ∧ p.1 ≠ ld := by
          intro p hp
          rw [hkl2] at hp
          revert p
          refine allCons ?_ (allCons ?_ (allCons ?_ (fun p hp => ?_)))
          · exact ⟨(n17 (dk, od11) (by k_extra "mem")).symm, (n17 (ld, ol11) (by k_extra "mem")).symm⟩
          · exact ⟨(n16 (dk, od11) (by k_extra "mem")).symm, (n16 (ld, ol11) (by k_extra "mem")).symm⟩
          · exact ⟨(n15 (dk, od11) (by k_extra "mem")).symm, (n15 (ld, ol11) (by k_extra "mem")).symm⟩
          · exact klx p hp
        have sub3 : ∀ p ∈ kl, p ∈ kl2 := fun p hp => by rw [hkl2]; exact .tail _ (.tail _ (.tail _ hp))
        have Xk2 := Xk.mono sub3
        have Xr2 := Xr.mono sub3
        have mDc2 := sub3 _ mDc
        have mDw2 := sub3 _ mDw
        have mTt : (Tt, tupOf [.ref T0, .ref T1]) ∈ kl2 := by rw [hkl2]; exact .head _
        have hsome : ∀ (i : Nat) (v : Value), [Value.ref T0, Value.ref T1][i]? = some v → ∃ tp wv sps, v = .ref tp ∧ (tp, tupOf wv) ∈ kl2 ∧ BysAre wv sps := by
          intro i v e
          match i, e with
          | 0, e => exact ⟨T0, [], [], by simpa using e.symm, by rw [hkl2]; exact .tail _ (.tail _ (.head _)), .nil⟩
          | 1, e => exact ⟨T1, sv, ps2, by simpa using e.symm, by rw [hkl2]; exact .tail _ (.head _), hsv⟩
          | i + 2, e => simp at e
        clear hkl2 sub2 sub3 N18 N17 F17 N16 F16 N15 F15 n15 n16 n17 klx Xk Xr mDc mDw N14 F14
        refine ⟨I4, [I4, Tt], [Value.ref T0, Value.ref T1].length, _, St4, _, _, JV3 w L dk ld Dc Dw oc3 kl2, rfl, W4.W, W4.S, st4, F18, N18', I04, LI4, hnI4, ?_, ?_, ?_, ?_⟩
        · intro b hb
          revert b
          refine allCons ?_ (allCons ?_ allNil)
          · exact .inl rfl
          · exact .inr (.inr ⟨_, fun i m nw hJ => by obtain ⟨_, _, od, ol, rfl, _⟩ := hJ; exact .tail _ (.tail _ (.tail _ mTt))⟩)
        · exact ⟨by k_extra "var", by k_extra "var", od11, ol11, rfl, D11⟩
        · clear N18' F18
          intro i v m nw h tk oI EE hi' hP hJ hnI F N
          try k_extra "nt"
          obtain ⟨vc, vw, odd, oll, rfl, D13⟩ := hJ
          obtain ⟨tp, wv, sps, rfl, mtp, hbys⟩ := hsome i v hP
          have sz10 : vs.length ≤ 10 := Nat.le_trans hv6 (by decide)
          repeat k_extra "m"
          refine dueN F N B (Rm.le R' (by decide)) (News.isList N (by k_extra "mem")) (Xk2.at fun p hp => (N p (.tail _ (.tail _ (.tail _ (.tail _ hp))))).1) sz10 ⟨_, (N (tp, tupOf wv) (by k_extra "mem")).1, rfl, _, rfl⟩ hbys fun Dd odu kvd h19 tk19 lod hdd hfd F19 N19 n19 => ?_
          try k_extra "nt"
          repeat k_extra "m"
          rename_i h20 F20 N20 tk20
          refine renamesN F20 N20 B (Rm.le R' (by decide)) (News.isList N20 (by k_extra "mem")) (Xk2.at fun p hp => (N20 p (.tail _ (.tail _ (.tail _ (.tail _ (.tail _ hp)))))).1) sz10 ⟨_, (N20 (tp, tupOf wv) (by k_extra "mem")).1, rfl, _, rfl⟩ hbys (.inl rfl) fun D2 o2 kv2 h21 tk21 lo2 hd2 hf2 F21 N21 n21 => ?_
          try k_extra "nt"
          repeat k_extra "m"
          refine found_ne lo2 lod (N21 (D2, o2) (.head _)).1 (N21 (Dd, odu) (.tail _ (.head _))).1 hd2 hdd R' hf2 hfd ?_
          repeat k_extra "m"
          refine CallNameKw ?_
          repeat k_extra "m"
          refine' callWith_KW (K := hd.heap_39 w.params) B.K ?kk1 ?kk2 ?_
          case kk1 => k_is
          case kk2 => exact rfl
          repeat k_extra "m"
          rename_i Dr h22 F22 N22 n22
          refine kwOne ?_
          repeat k_extra "m"
          show wpAny _ _ (call (.ref 123) [.ref Dr] [(Str.ofString "still", .ref tp)]) _ _ _
          have C22 : ChgsAt h22 vs.reverse cs.reverse := (Xk2.at fun p hp => (N22 p (.tail _ (.tail _ (.tail _ (.tail _ (.tail _ (.tail _ (.tail _ hp)))))))).1).rev
          have sz10r : vs.reverse.length ≤ 10 := by rw [List.length_reverse]; exact sz10
          refine renamesN F22 N22 B (Rm.le R' (by decide)) (News.isList N22 (.head _)) C22 sz10r ⟨_, (N22 (tp, tupOf wv) (by k_extra "mem")).1, rfl, _, rfl⟩ hbys (.inr (.inl rfl)) fun D3 o3 kv3 h23 tk23 lo3 hd3 hf3 F23 N23 n23 => ?_
          try k_extra "nt"
          repeat k_extra "m"
          refine found_ne lo3 lod (N23 (D3, o3) (.head _)).1 (N23 (Dd, odu) (by k_extra "mem")).1 hd3 hdd R' (hf3.perm (flat_rev bB cs)) hfd ?_
          repeat k_extra "m"
          have okc : ∀ c ∈ cs, ChgOk c := C22.ok |> fun h c hc => h c (List.mem_reverse.mpr hc)
          have mov := hfd.mov okc
          have e1 : Dd ≠ dk := (n19 (dk, odd) (by k_extra "mem")).symm
          have e2 : Dd ≠ ld := (n19 (ld, oll) (by k_extra "mem")).symm
          have e3 : I4 ≠ dk := (hnI (dk, odd) (by k_extra "mem")).symm
          have e4 : I4 ≠ ld := (hnI (ld, oll) (by k_extra "mem")).symm
          have nDd : ∀ p ∈ kl2, p.1 ≠ Dd := fun p hp => n19 p (.tail _ (.tail _ (.tail _ (.tail _ hp))))
          have nI4 : ∀ p ∈ (L + 1, oc3) :: (dk, odd) :: (ld, oll) :: kl2, p.1 ≠ I4 := hnI
          have eDI : Dd ≠ I4 := (n19 (I4, oI) (.head _)).symm
          have N24 : News s.heap L h23 ((L + 1, oc3) :: (dk, odd) :: (ld, oll) :: (Dd, odu) :: (I4, oI) :: kl2) := newsSub N23 (by
            intro p hp
            revert p
            refine allCons ?_ (allCons ?_ (allCons ?_ (allCons ?_ (allCons ?_ (fun p h => ?_)))))
            · exact .tail _ (.tail _ (.tail _ (.tail _ (.tail _ (.head _)))))
            · exact .tail _ (.tail _ (.tail _ (.tail _ (.tail _ (.tail _ (.head _))))))
            · exact .tail _ (.tail _ (.tail _ (.tail _ (.tail _ (.tail _ (.tail _ (.head _)))))))
            · exact .tail _ (.tail _ (.tail _ (.head _)))
            · exact .tail _ (.tail _ (.tail _ (.tail _ (.head _))))
            · exact .tail _ (.tail _ (.tail _ (.tail _ (.tail _ (.tail _ (.tail _ (.tail _ h))))))))
          clear N23 N22 F22 N21 F21 N20 F20 N19 F19 N F n19 n21 n22 n23 C22 hnI
          refine forW (h₀ := s.heap) (L := L) rfl ?_ ?_ ?_ ?hs
          case hs => intro _; exact rfl
          · exact rfl
          · exact rfl
          repeat k_extra "m"
          rename_i D25 h25 tk25 t250 t251 F25 N25 n25
          try k_extra "nt"
          refine iterRange (n := 2) R'.hh (N25 _ (.head _)).1 (by decide +kernel) (by decide +kernel) fun I5 h26 St5 W5 st5 K26 hI5 _ => ?_
          try k_extra "nt"
          have F26 := frK F25 K26
          have N26 := newsK N25 K26
          have I05 := frFresh F25 hI5
          have neI5 : ∀ a o, h25.get? a = some o → a ≠ I5 := fun a o e => by rw [hI5]; exact Nat.ne_of_lt (Heap.lt_size e)
          have LI5 : L ≠ I5 := by obtain ⟨o, _, _, ho, _⟩ := F25.ns; exact neI5 _ _ ho
          have hnI5 : ∀ p ∈ (L + 1, oc3) :: (dk, odd) :: (ld, oll) :: (Dd, odu) :: (I4, oI) :: kl2, p.1 ≠ I5 := fun p hp => neI5 _ _ (N25 p (.tail _ hp)).1
          have N26' : News s.heap L h26 ((L + 1, oc3) :: (dk, odd) :: (ld, oll) :: (Dd, odu) :: (I4, oI) :: kl2) := newsSub N26 fun p hp => .tail _ hp
          refine ⟨I5, [I5], 2, _, St5, _, _, JV4 w L dk ld Dc Dw Dd oc3 ((Dd, odu) :: (I4, oI) :: kl2), rfl, W5.W, W5.S, st5, F26, N26', I05, LI5, hnI5, ?_, ?_, ?_, ?_⟩
          · intro b hb; exact .inl (List.mem_singleton.mp hb)
            try k_extra "nt"
          · exact ⟨by k_extra "var", by k_extra "var", by k_extra "var", odd, oll, rfl, D13⟩
          · clear N26 N26' F26 N25 F25 N24 F23
            intro i2 v2 m2 nw h tk oI5 EE2 hi2 hP2 hJ hnI6 F N
            try k_extra "nt"
            obtain ⟨vc, vw, vd, od6, ol6, rfl, D14⟩ := hJ
            have e5 : dk ≠ I5 := hnI6 (dk, od6) (by k_extra "mem")
            have e6 : ld ≠ I5 := hnI6 (ld, ol6) (by k_extra "mem")
            repeat k_extra "m"
            rename_i qs u7 od7 ol7 h7a tk7a q0 q4 qg qz D15 F7a N7a h7 F7 N7 tk7
            refine tledN F7 N7 B (Rm.le R' (by decide)) (by k_extra "mem") lod hdd mov q0 qg qz fun v8 h8 tk8 ov8 F8 N8 => ?_
            try k_extra "nt"
            repeat k_extra "m"
            refine lledN F8 N8 B (Rm.le R' (by decide)) (by k_extra "mem") lod hdd mov q0 q4 qg qz fun v9 h9 tk9 ov9 F9 N9 => ?_
            try k_extra "nt"
            repeat k_extra "m"
            refine OptB.ne ov8 ov9 ?_
            repeat k_extra "m"
            refine feEnd (led := (L + 1, oc3) :: (dk, od7) :: (ld, ol7) :: (Dd, odu) :: (I4, oI) :: kl2) F9 N9 (by k_extra "mem") (fun p hp => ?_) (fun p hp => ?_) ⟨by k_extra "var", by k_extra "var", by k_extra "var", od7, ol7, rfl, D15⟩
            · revert p
              refine allCons ?_ (allCons ?_ (allCons ?_ (fun p h => ?_)))
              · exact .tail _ (.tail _ (.tail _ (.head _)))
              · exact .head _
              · exact .tail _ (.head _)
              · exact .tail _ (.tail _ (.tail _ (.tail _ h)))
            · revert p
              refine allCons ?_ (allCons ?_ (allCons ?_ (allCons ?_ (allCons ?_ (fun p hp => ?_)))))
              · exact hnI6 _ (.head _)
              · exact e5
              · exact e6
              · exact hnI6 (Dd, odu) (by k_extra "mem")
              · exact hnI6 (I4, oI) (by k_extra "mem")
              · exact hnI6 p (.tail _ (.tail _ (.tail _ (.tail _ (.tail _ hp)))))
          · clear N26 N26' F26 N25 F25 N24 F23
            intro m2 nw h tk hJ hnI6 F N
            try k_extra "nt"
            obtain ⟨vc, vw, vd, od6, ol6, rfl, D14⟩ := hJ
            repeat k_extra "m"
            refine feEnd (led := (L + 1, oc3) :: (dk, od6) :: (ld, ol6) :: kl2) F N (by k_extra "mem") (fun p hp => ?_) (fun p hp => ?_) ⟨vc, vw, od6, ol6, rfl, D14⟩
            · revert p
              refine allCons ?_ (allCons ?_ (allCons ?_ (fun p h => ?_)))
              · exact .head _
              · exact .tail _ (.head _)
              · exact .tail _ (.tail _ (.head _))
              · exact .tail _ (.tail _ (.tail _ (.tail _ (.tail _ h))))
            · revert p
              refine allCons ?_ (allCons ?_ (allCons ?_ (fun p hp => ?_)))
              · exact nI4 _ (.head _)
              · exact e3.symm
              · exact e4.symm
              · exact nI4 p (.tail _ (.tail _ (.tail _ hp)))
        · clear N18' F18
          intro m nw h tk hJ hnI F N
          try k_extra "nt"
          obtain ⟨vc, vw, odd, oll, rfl, D13⟩ := hJ
          have sz10 : vs.length ≤ 10 := Nat.le_trans hv6 (by decide)
          have h117 : s.heap.IsTuple 117 ([] : List Value).toArray := ⟨_, B.K 117 _ (by k_is), rfl, _, rfl⟩
          repeat k_extra "m"
          refine BoolOp_and ?_
          repeat k_extra "m"
          refine renamesN F N B (Rm.le R' (by decide)) (News.isList N (by k_extra "mem")) (Xk2.at fun p hp => (N p (.tail _ (.tail _ (.tail _ hp)))).1) sz10 (tupKeep h117 F.keep) .nil (.inr (.inr ⟨rfl, rfl⟩)) fun D4 o4 kv4 h24 tk24 lo4 hd4 hf4 F24 N24 n24 => ?_
          try k_extra "nt"
          repeat k_extra "m"
          rename_i T5 h25 F25 N25 n25
          refine dueN F25 N25 B (Rm.le R' (by decide)) (News.isList N25 (by k_extra "mem")) (Xk2.at fun p hp => (N25 p (.tail _ (.tail _ (.tail _ (.tail _ (.tail _ hp)))))).1) sz10 ⟨_, (N25 _ (.head _)).1, rfl, _, rfl⟩ .nil fun D5 o5 kv5 h26 tk26 lo5 hd5 hf5 F26 N26 n26 => ?_
          try k_extra "nt"
          repeat k_extra "m"
          refine found_eq lo4 lo5 (N26 (D4, o4) (by k_extra "mem")).1 (N26 (D5, o5) (.head _)).1 hd4 hd5 R' hf4 hf5 ?_
          repeat k_extra "m"
          refine BoolOp_one ?_
          repeat k_extra "m"
          refine' listCompW (cl := []) ?g1 ?g2 ?g3 ?g4 ?g5 ?_ ?g6
          case g1 => exact rfl
          case g2 => decide
          case g3 => exact rfl
          case g4 => decide
          case g5 => exact rfl
          case g6 => intro _; exact rfl
          repeat k_extra "m"
          try k_extra "nt"
          refine iterList R'.hh (News.isList N26 (by k_extra "mem")) fun I6 h27 St6 W6 st6 K27 hI6 _ => ?_
          try k_extra "nt"
          have F27 := frK F26 K27
          have N27 := newsK N26 K27
          have I06 := frFresh F26 hI6
          have neI6 : ∀ a o, h26.get? a = some o → a ≠ I6 := fun a o e => by rw [hI6]; exact Nat.ne_of_lt (Heap.lt_size e)
          have LI6 : L ≠ I6 := by obtain ⟨o, _, _, ho, _⟩ := F26.ns; exact neI6 _ _ ho
          have B27 : Base w (hideAll h27 (I6 :: ([] : List (Addr × Obj)).map (·.1))) := B.hide F27 (by
            exact allCons (I06) allNil)
          have mkl : ∀ p ∈ kl2, p ∈ (D5, o5) :: (T5, tupOf []) :: (D4, o4) :: (L + 1, oc3) :: (dk, odd) :: (ld, oll) :: kl2 := fun p hp => .tail _ (.tail _ (.tail _ (.tail _ (.tail _ (.tail _ hp)))))
          have C27 : ChgsAt (hideAll h27 (I6 :: ([] : List (Addr × Obj)).map (·.1))) vs cs := Xk2.at fun p hp => hideAll_get _ (N27 p (mkl p hp)).1 (notOne (neI6 _ _ (N26 p (mkl p hp)).1))
          have fpI6 : ∀ b ∈ [I6, Dc], b = I6 ∨ ((∃ o, h27.get? b = some o) ∧ b ∉ I6 :: ([] : List (Addr × Obj)).map (·.1)) := by
            refine allCons ?_ (allCons ?_ allNil)
            · exact .inl rfl
            · exact .inr ⟨⟨_, (N27 _ (mkl _ mDc2)).1⟩, fun q => neI6 _ _ (N26 _ (mkl _ mDc2)).1 (List.mem_singleton.mp q)⟩
          refine ⟨I6, [I6, Dc], vs.length, _, St6, [], fun i us led' => RowsIn led' us (cs.take i), rfl, W6.W, Nat.le_trans hv6 (by decide), W6.S, st6, (fun p hp => nomatch hp), fpI6, (show RowsIn [] [] (cs.take 0) by rw [List.take_zero]; exact .nil), ?_, ?_⟩
          · intro C Dl i v us led' h tk m oI k EE hC hD hi' hP hJ hlen hlI Fc Nc
            try k_extra "nt"
            obtain ⟨x, c, rfl, hc, hat⟩ := C27.get hP
            clear hC hD
            refine noIfs ?_
            refine ifTrue rfl ?_
            clear N27 F27 N26 F26 N25 F25 N24 F24 N F
            repeat k_extra "m"
            refine rowN Fc Nc B27 (Rm.le R' (by decide)) (hat.keep Fc.keep) fun T tw vo vn vx h8 tk8 o1 o2 o3 F8 N8 fr8 => ?_
            try k_extra "nt"
            refine ⟨h8, tk8, _, (T, tupOf [.str c.word tw, vo, vn, vx]) :: led', rfl, F8, newsSub N8 ?_, ?_, ?_⟩
            · intro p hp
              revert p
              refine allCons ?_ (allCons ?_ (allCons ?_ (fun p h => ?_)))
              · exact .tail _ (.head _)
              · exact .tail _ (.tail _ (.head _))
              · exact .head _
              · exact .tail _ (.tail _ (.tail _ h))
            · intro p hp
              rcases List.mem_cons.mp hp with rfl | hp
              · exact ⟨(fr8 _ (.head _)).symm, (fr8 _ (.tail _ (.head _))).symm⟩
              · exact hlI p hp
            · show RowsIn _ (us ++ [.ref T]) (cs.take (i + 1))
              rw [List.take_add_one, hc]
              exact (RowsIn.mono (fun p hp => .tail _ hp) hJ).snoc (.head _) o1 o2 o3
          · intro D6 xs led' h28 tk28 k28 hJ Kc hlD hDo hDs
            try k_extra "nt"
            rw [C27.length, List.take_length] at hJ
            replace hDs : h27.objs.size ≤ D6 := hDs
            obtain ⟨F28, N28, n28⟩ := compOut F27 N27 I06 (fun p hp => neI6 _ _ (N26 p hp).1) LI6 Kc hDo hDs
            have r1 : RowsAre h28 xs cs := hJ.at fun p hp => (hlD p hp).1
            have r2 : RowsAre h28 us cs := Xr2.at fun p hp => (N28 p (.tail _ (mkl p hp))).1
            clear N27 F27 N26 F26 N25 F25 N24 F24 N F
            repeat k_extra "m"
            refine rows_eq (News.isList N28 (.head _)) (News.isList N28 (by k_extra "mem")) r1 r2 R' ?_
            repeat k_extra "m"
            refine ⟨_, _, _, _, rfl, by rw [hs1], F28.keep, rfl⟩
end Mine
theorem PySem.Challenge.cw_nt0267_01_holds : PySem.Challenge.rw_nt0267_01.Holds := by
  exact Mine.hd (by
    w_strict (
  k_fill
  intro w s₀ s₁ mg mb G Y fa o pm cd doc dV kV ho hd hcd hD hmg hg args vals as hpre hlay hrd hwl hlo
  have KX := kIn_of Y
  have X := (Ground.X G).1
  have V := (Ground.X G).2
  refine Ground.open G ?_
  intro T B D TE TW
  try (refine guard_noD D (by decide +kernel) ?_; clear D)
  wrow_args hpre hlay hrd hwl hlo
  all_goals (
    first | refine callC_kw (enter_call ?_) | refine enter_call ?_ | refine callC_kw (enter_callW ?_) | refine enter_callW ?_ | w_how
    w_top on
    try refine codeAny_mono ?_ (fun _ _ g => GoodW.toG g)
    have hfa : fa = 192 := by
      have := mg_of KX T.g (n := Str.ofString "law") (v := .ref 192) (by k_is)
      rw [show mg (Str.ofString "law") = some (.ref fa) from hmg] at this
      cases this; rfl
    subst hfa
    refine codeAny_mono (Mine.law_spec (w := w) ⟨KX, _, _, topRead_of T⟩ ⟨rfl, by decide, by decide⟩ (by assumption) (by assumption) (by
      have h1 := IntsAre.length (by assumption)
      rw [h1]
      exact Nat.le_of_not_lt fun q => absurd (Int.ofNat_lt.mpr q) (by assumption))) fun r s' h => ?_
    obtain ⟨v, h', tk, d, rfl, rfl, hk, rfl⟩ := h
    refine ⟨.inl ⟨_, .bool true, [], rfl, fun cls => ?_, .bool true, ?_, unshared_nil⟩, hk, rfl, hg⟩
    · rfl
    · exact postW_of (by wrow_shape) (by wtm_val) (by w_fin))))
