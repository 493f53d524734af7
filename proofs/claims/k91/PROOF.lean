import PyProof.Rows.All
import Wide.All
import OpenK.AllK
import Wide.FinOn
import HandS.ForMost
import HandS.IsInst
import HandS.TupAny
import HandS.TupMul
import HandS.Zip
import HandS.SetFor
import HandS.Walk
import HandS.Evl
import HandS.Nested
import KE.GoesEnum
import HandS.Style
import HandS.Strs
import HandS.CallLocal
import HandS.Defaults
import HandS.Head0
import HandS.Head1
import HandS.Head2
import HandS.HeadEnd
import HandS.HeadHook1
import HandS.HeadHook2
import HandS.Exc
import HandS.ExcOwn
import HandS.ExcIs
import HandS.HotCalls
import HandS.HeadHook4
import HandS.HeadWalk
import HandS.NoneIn
import HandS.Steps
import HandS.DictComp
import KE.KDictPairs
import KE.KDictZip
import HandS.Conv
import HandS.WordsExc
import HandS.Hot
import HandS.ExcValue
import HandS.ExcInit
import HandS.ExcField
import KE.KExcIs
import PySem.Challenge.RW_nearlay_k91_classes_of_refusals
set_option Elab.async false
set_option linter.all false
set_option maxRecDepth 100000
namespace B
open PySem PySem.Spec PyProof.Rows L2
def lamDefs : List Str := ["is_view", "law", "table_in", "view_in", "_law_asked", "_law_refusals", "_law_due", "_law_far_right", "_law_runs_right", "_law_twin_right", "_law_deed", "_law_words", "_law_undone_right", "_law_line_of"]
/-- a def's code object -/
def codAt (K : PySem.W.Frag) (x : Str) : Addr := match PySem.W.nsIn K mainGlobals x with
  | some (some (.ref f)) => (match K.lookup f with
    | some ⟨_, _, .func fd, _⟩ => (match fd.code with
      | .ref c => c
      | _ => 0)
    | _ => 0)
  | _ => 0
/-- its table -/
def tblAt (K : PySem.W.Frag) (c : Addr) : Addr := match K.lookup c with
  | some ⟨_, _, .fields vs, _⟩ => (match vs.getD 11 .none with
    | .ref P => P
    | _ => 0)
  | _ => 0
def lamName (x : Str) : Str := x ++ ".<locals>." ++ "<lambda>"
def LT (K : PySem.W.Frag) : List (Addr × Str) := (lamDefs.filter fun x => PySem.W.codeHdIn K (codAt K x) (tblAt K (codAt K x))).map fun x => (tblAt K (codAt K x), lamName x)
/-- what may be written -/
def Mu : Option HO → Prop
  | some (.lst _) => True
  | some (.dK _) => True
  | some (.dT _) => True
  | some (.set _ _) => True
  | some (.ins _ _ _) => True
  | _ => False
theorem mu_tbl {ps : Array Value} : ¬ Mu (some (.tbl ps)) := id
theorem mu_ext {p : Heap → Prop} : ¬ Mu (some (.ext p)) := id
theorem mu_code {c : Addr} {q : Str} : ¬ Mu (some (LamX.CodeO c q)) := by
  unfold LamX.CodeO
  exact mu_ext
theorem tabs_stay {T : List (Addr × Str)} {H H' : Hp} (t : LamX.Tabs T H) (k : ∀ b o, H b = some o → ¬ Mu (some o) → H' b = some o) : LamX.Tabs T H' := fun p hp => by
  have t1 : LamX.TabS H p.1 p.2 := t p hp
  unfold LamX.TabS at t1 ⊢
  obtain ⟨ps, h1, h2, h3⟩ := t1
  refine ⟨ps, k _ _ h1 mu_tbl, h2, fun pos cv hc => ?_⟩
  obtain ⟨c, e1, e2⟩ := h3 pos cv hc
  exact ⟨c, e1, k _ _ e2 mu_code⟩
structure Fr (K : PySem.W.Frag) (L : List Addr) (H H' : Hp) : Prop where
  kept : ∀ b o, H b = some o → (b ∉ L ∨ ¬ Mu (some o)) → (∀ ps, o ≠ .tbl ps) → H' b = some o
  free : ∀ b, H' b = none → H b = none
  tabs : LamX.Tabs (LT K) H → LamX.Tabs (LT K) H'
section
variable {K : PySem.W.Frag}
theorem Fr.keep {L : List Addr} {H H' : Hp} (f : Fr K L H H') (b : Addr) (o : HO) (h : H b = some o) (k : b ∉ L ∨ ¬ Mu (some o)) (n : ∀ ps, o ≠ .tbl ps := by intro ps z; cases z) : H' b = some o := f.kept b o h k n
theorem Fr.of {L : List Addr} {H H' : Hp} (k : ∀ b o, H b = some o → (b ∉ L ∨ ¬ Mu (some o)) → H' b = some o) (f : ∀ b, H' b = none → H b = none) : Fr K L H H' :=
  ⟨fun b o h z _ => k b o h z, f, fun t => tabs_stay t fun b o h z => k b o h (.inr z)⟩
theorem Fr.refl (L : List Addr) (H : Hp) : Fr K L H H := .of (fun _ _ h _ => h) fun _ h => h
theorem Fr.trans {L : List Addr} {H H1 H2 : Hp} (a : Fr K L H H1) (b : Fr K L H1 H2) : Fr K L H H2 :=
  ⟨fun c o h k n => b.kept c o (a.kept c o h k n) k n, fun c h => a.free c (b.free c h), fun t => b.tabs (a.tabs t)⟩
theorem Fr.new {L : List Addr} {H : Hp} {p : Addr} {o : HO} (h : H p = none) : Fr K L H (upd H p o) :=
  .of (fun b u e _ => by rw [upd_ne (ne_of_none e h)]; exact e) fun b e => by
    by_cases hb : b = p
    · subst hb; exact h
    · rw [upd_ne hb] at e; exact e
theorem Fr.wr {L : List Addr} {H : Hp} {p : Addr} {o o' : HO} (h : H p = some o) (m : Mu (some o)) (hl : p ∈ L) : Fr K L H (upd H p o') :=
  .of (fun b u e k => by
    by_cases hb : b = p
    · subst hb
      rw [h] at e
      cases e
      rcases k with k | k
      · exact absurd hl k
      · exact absurd m k
    · rw [upd_ne hb]; exact e) fun b e => by
    by_cases hb : b = p
    · subst hb; rw [upd_same] at e; cases e
    · rw [upd_ne hb] at e; exact e
/-- what came newly may be changed too -/
theorem Fr.cut {L L' : List Addr} {H H1 H2 : Hp} (a : Fr K L H H1) (b : Fr K L' H1 H2) (n : ∀ l ∈ L', l ∈ L ∨ H l = none) : Fr K L H H2 :=
  ⟨fun c o h k t => b.kept c o (a.kept c o h k t) (by
    rcases k with k | k
    · exact .inl fun hc => by
        rcases n c hc with z | z
        · exact k z
        · rw [h] at z; cases z
    · exact .inr k) t, fun c h => a.free c (b.free c h), fun t => b.tabs (a.tabs t)⟩
theorem Fr.mono {L L' : List Addr} {H H' : Hp} (a : Fr K L H H') (n : ∀ l ∈ L, l ∈ L' ∨ H l = none) : Fr K L' H H' := (Fr.refl L' H).cut a n
theorem Fr.up {L : List Addr} {H H1 : Hp} {p : Addr} {o : HO} (a : Fr K L H H1) (h : H1 p = none) : Fr K L H (upd H1 p o) := a.trans (.new h)
theorem Fr.put {L : List Addr} {H H1 : Hp} {p : Addr} {o o' : HO} (a : Fr K L H H1) (h : H1 p = some o) (m : Mu (some o)) (hl : p ∈ L ∨ H p = none) : Fr K L H (upd H1 p o') :=
  a.cut (.wr h m (List.mem_singleton.mpr rfl)) fun l hm => by
    cases List.mem_singleton.mp hm
    exact hl
theorem Fr.rd {L : List Addr} {H H' : Hp} {a : Addr} {o : HO} (f : Fr K L H H') (r : Rd H a o) (h : a ∉ L ∨ ¬ Mu (some o)) (n : ∀ ps, o ≠ .tbl ps := by intro ps z; cases z) : Rd H' a o := by
  rcases r with r | ⟨u, r⟩
  · exact .inl (f.keep _ _ r h n)
  · exact .inr ⟨u, f.keep _ _ r (.inr fun z => z)⟩
theorem Fr.tup {L : List Addr} {H H' : Hp} {a : Addr} {xs : List V} (f : Fr K L H H') (r : SqT K H a xs) : SqT K H' a xs := by
  rcases r with r | r
  · exact .inl (f.rd r (.inr fun z => z))
  · exact .inr r
theorem Fr.lst {L : List Addr} {H H' : Hp} {a : Addr} {xs : List V} (f : Fr K L H H') (r : SqL K H a xs) (h : a ∉ L) : SqL K H' a xs := by
  rcases r with r | r
  · exact .inl (f.rd r (.inl h))
  · exact .inr r
theorem Fr.at {H H' : Hp} {a : Addr} {o : HO} (f : Fr K [] H H') (r : H a = some o) (n : ∀ ps, o ≠ .tbl ps := by intro ps z; cases z) : H' a = some o := f.keep _ _ r (.inl fun z => nomatch z) n
theorem Fr.ne {L : List Addr} {H H' : Hp} {a : Addr} {o : HO} (f : Fr K L H H') (r : H a = some o) (h : a ∉ L) (n : ∀ ps, o ≠ .tbl ps := by intro ps z; cases z) : H' a = some o := f.keep _ _ r (.inl h) n
end
theorem sqT_of {K : PySem.W.Frag} {H : Hp} {a : Addr} {xs : List V} (h : H a = some (.tup xs)) : SqT K H a xs := .inl (.inl h)
theorem sqL_of {K : PySem.W.Frag} {H : Hp} {a : Addr} {xs : List V} (h : H a = some (.lst xs)) : SqL K H a xs := .inl (.inl h)
mutual
def Im (K : PySem.W.Frag) (H : Hp) : PyData → V → Prop
  | .none, v => v = .non
  | .bool b, v => v = .bl b
  | .int i, v => v = .int i
  | .str s, v => v = .str s
  | .tuple ds, v => ∃ a xs, v = .ref a ∧ SqT K H a xs ∧ Ims K H ds xs
  | .list _, _ => False
  | .dict _, _ => False
def Ims (K : PySem.W.Frag) (H : Hp) : List PyData → List V → Prop
  | [], xs => xs = []
  | d :: ds, xs => ∃ x r, xs = x :: r ∧ Im K H d x ∧ Ims K H ds r
end
mutual
theorem Im.mono {K : PySem.W.Frag} {L : List Addr} {H H' : Hp} (f : Fr K L H H') : ∀ {d : PyData} {v : V}, Im K H d v → Im K H' d v
  | .none, _, h => h
  | .bool _, _, h => h
  | .int _, _, h => h
  | .str _, _, h => h
  | .tuple ds, _, ⟨a, xs, e, t, r⟩ => ⟨a, xs, e, f.tup t, Ims.mono f r⟩
  | .list _, _, h => h
  | .dict _, _, h => h
theorem Ims.mono {K : PySem.W.Frag} {L : List Addr} {H H' : Hp} (f : Fr K L H H') : ∀ {ds : List PyData} {xs : List V}, Ims K H ds xs → Ims K H' ds xs
  | [], _, h => h
  | _ :: _, _, ⟨x, r, e, h1, h2⟩ => ⟨x, r, e, Im.mono f h1, Ims.mono f h2⟩
end
mutual
theorem Im.dp {K : PySem.W.Frag} {H : Hp} : ∀ {d : PyData} {v : V}, Im K H d v → Dp K H v d
  | .none, _, h => by cases h; exact .non
  | .bool _, _, h => by cases h; exact .bl _
  | .int _, _, h => by cases h; exact .int _
  | .str _, _, h => by cases h; exact .str _
  | .tuple ds, _, ⟨a, xs, e, t, r⟩ => by cases e; exact .tup t (Ims.dp r)
  | .list _, _, h => h.elim
  | .dict _, _, h => h.elim
theorem Ims.dp {K : PySem.W.Frag} {H : Hp} : ∀ {ds : List PyData} {xs : List V}, Ims K H ds xs → DpAll K H xs ds
  | [], _, h => by cases h; exact .nil
  | _ :: _, _, ⟨x, r, e, h1, h2⟩ => by cases e; exact .cons (Im.dp h1) (Ims.dp h2)
end
theorem Ims.len {K : PySem.W.Frag} {H : Hp} : ∀ {ds : List PyData} {xs : List V}, Ims K H ds xs → xs.length = ds.length
  | [], _, h => by cases h; rfl
  | _ :: _, _, ⟨x, r, e, h1, h2⟩ => by cases e; show r.length + 1 = _ + 1; rw [Ims.len h2]
theorem Ims.get {K : PySem.W.Frag} {H : Hp} : ∀ {ds : List PyData} {xs : List V} {i : Nat} {x : V}, Ims K H ds xs → xs[i]? = some x → ∃ d, ds[i]? = some d ∧ Im K H d x
  | [], _, i, x, h, g => by cases h; simp at g
  | d :: ds, _, 0, x, ⟨y, r, e, h1, h2⟩, g => by
    cases e
    simp at g
    subst g
    exact ⟨d, rfl, h1⟩
  | d :: ds, _, i + 1, x, ⟨y, r, e, h1, h2⟩, g => by
    cases e
    obtain ⟨d', e', h'⟩ := Ims.get (i := i) h2 (by simpa using g)
    exact ⟨d', by simpa using e', h'⟩
structure DefAt (K : PySem.W.Frag) (mg : Str → Option Value) (x : Str) (st : Stmt) (ps : List Str) : Prop where
  ex : ∃ (f : Addr) (fd : FuncData), Fun K x x st f fd ∧ mg x = some (.ref f) ∧ Binds K fd ps []
section
variable (P : Program) (w : World) (K : PySem.W.Frag) (mg : Str → Option Value) (base : Heap)
structure Cal (k : Nat) (x : Str) (sp : Sp) : Prop where
  ex : ∃ (f : Addr) (fd : FuncData) (ps : List Str), FnOk P w K mg base CX0 k f fd ps sp ∧ mg x = some (.ref f) ∧ PySem.W.keepIn K (.ref f) = true ∧ Binds K fd ps []
structure Met (k : Nat) (C : Addr) (m : Str) (sp : Sp) : Prop where
  ex : ∃ (f : Addr) (fd : FuncData) (ps : List Str), Cls K C ∧ Meth K C m f ∧ FnOk P w K mg base CX0 k f fd ps sp ∧ Binds K fd ps []
end
section
variable {P : Program} {w : World} {K : PySem.W.Frag} {mg : Str → Option Value} {base : Heap}
theorem DefAt.cal {x : Str} {st : Stmt} {N ps : List Str} {k : Nat} {sp : Sp} (D : DefAt K mg x st ps) (S : FnScope N ps (defScope st)) (len : ∀ vs H Q E, sp vs H Q E → vs.length = ps.length)
    (hbody : ∀ (f : Addr) (cdv : Value) (A : Around) (outer : List Env) (s : Shared) (H : Hp) (vs : List V) (Q : VK) (E : XK), Room k (A.deeper (envOfC x (defScope st) s.heap.objs.size f cdv)) → sp vs H Q E →
      ∃ t, PSs (cxOf CX0 P w K mg base N x (defScope st) f cdv A outer s H E).nox (defBody st) t ∧ t { nx := fun _ H' => Q .non H', rt := Q } (start N vs) H) : Cal P w K mg base (k + 1) x sp := by
  obtain ⟨f, fd, F, m, b⟩ := D.ex
  exact ⟨f, fd, ps, F.ok S len (hbody f), m, F.kp, b⟩
end
section
variable {X : Cx} {k j : Nat} {C : Addr} {x m : Str} {sp : Sp} {p pos apos : Pos} {e o : Expr} {es : List Expr} {ta : TE} {t : TA}
theorem pe_c (c : Cal X.prog X.w X.K X.mg X.base k x sp) (hr : Room j X.A) (hk : k ≤ j) (hg : Gl X x) (ha : PA X (e :: es) t)
    (hdb : (x == ("__debug__" : Str)) = false := by decide) (he : starEach (e :: es) X.env = (false, eval e X.env) :: starEach es X.env := by rfl) (hpl : (backTo pos (starEach es X.env)).any (·.1) = false := by rfl) :
    PE X (.Call (.Name x p) (e :: es) [] pos) (tCall sp [] E0 t) := by
  obtain ⟨f, fd, ps, F, hm, kp, b⟩ := c.ex
  exact pe_call F (hr.mono hk) hg hm kp b .nil pass0 ha hdb he hpl
end
def tyD : PyData → String
  | .none => "NoneType"
  | .bool _ => "bool"
  | .int _ => "int"
  | .str _ => "str"
  | .tuple _ => "tuple"
  | .list _ => "list"
  | .dict _ => "dict"
theorem sqT_ty {K : PySem.W.Frag} {H : Hp} {a : Addr} {xs : List V} (h : SqT K H a xs) : TyX K H (.ref a) (.type "tuple") := by
  rcases h with (h | ⟨o, h⟩) | ⟨o, its, n, h1, h2, _⟩
  · exact .base (.tup h)
  · exact .fTuple h
  · exact .kTuple h1 h2
theorem sqL_ty {K : PySem.W.Frag} {H : Hp} {a : Addr} {xs : List V} (h : SqL K H a xs) : TyX K H (.ref a) (.type "list") := by
  rcases h with (h | ⟨o, h⟩) | ⟨o, its, n, h1, h2, _⟩
  · exact .base (.lst h)
  · exact .base (.frz h)
  · exact .kList h1 h2
theorem Im.ty {K : PySem.W.Frag} {H : Hp} : ∀ {d : PyData} {v : V}, Im K H d v → TyX K H v (.type (tyD d))
  | .none, _, h => by cases h; exact .base .non
  | .bool _, _, h => by cases h; exact .base (.bl _)
  | .int _, _, h => by cases h; exact .base (.int _)
  | .str _, _, h => by cases h; exact .base (.str _)
  | .tuple ds, _, ⟨a, xs, e, t, r⟩ => by cases e; exact sqT_ty t
  | .list _, _, h => h.elim
  | .dict _, _, h => h.elim
theorem kb_int_int : kitB "int" "int" = some true := by decide +kernel
theorem kb_int_bool : kitB "int" "bool" = some false := by decide +kernel
theorem kb_int_tuple : kitB "int" "tuple" = some false := by decide +kernel
theorem kb_int_str : kitB "int" "str" = some false := by decide +kernel
theorem kb_bool_int : kitB "bool" "int" = some true := by decide +kernel
theorem kb_bool_bool : kitB "bool" "bool" = some true := by decide +kernel
theorem kb_bool_tuple : kitB "bool" "tuple" = some false := by decide +kernel
theorem kb_bool_str : kitB "bool" "str" = some false := by decide +kernel
theorem kb_str_int : kitB "str" "int" = some false := by decide +kernel
theorem kb_str_bool : kitB "str" "bool" = some false := by decide +kernel
theorem kb_str_tuple : kitB "str" "tuple" = some false := by decide +kernel
theorem kb_str_str : kitB "str" "str" = some true := by decide +kernel
theorem kb_tuple_int : kitB "tuple" "int" = some false := by decide +kernel
theorem kb_tuple_bool : kitB "tuple" "bool" = some false := by decide +kernel
theorem kb_tuple_tuple : kitB "tuple" "tuple" = some true := by decide +kernel
theorem kb_tuple_str : kitB "tuple" "str" = some false := by decide +kernel
theorem kb_list_int : kitB "list" "int" = some false := by decide +kernel
theorem kb_list_bool : kitB "list" "bool" = some false := by decide +kernel
theorem kb_list_tuple : kitB "list" "tuple" = some false := by decide +kernel
theorem kb_list_str : kitB "list" "str" = some false := by decide +kernel
theorem kb_none_int : kitB "NoneType" "int" = some false := by decide +kernel
theorem kb_none_bool : kitB "NoneType" "bool" = some false := by decide +kernel
theorem kb_none_tuple : kitB "NoneType" "tuple" = some false := by decide +kernel
theorem kb_none_str : kitB "NoneType" "str" = some false := by decide +kernel
theorem kb_dict_int : kitB "dict" "int" = some false := by decide +kernel
theorem kb_dict_bool : kitB "dict" "bool" = some false := by decide +kernel
theorem kb_dict_tuple : kitB "dict" "tuple" = some false := by decide +kernel
theorem kb_dict_str : kitB "dict" "str" = some false := by decide +kernel
def isiInt : PyData → Bool
  | .int _ => true
  | .bool _ => true
  | _ => false
def isiBool : PyData → Bool
  | .bool _ => true
  | _ => false
def isiTup : PyData → Bool
  | .tuple _ => true
  | _ => false
def isiStr : PyData → Bool
  | .str _ => true
  | _ => false
theorem kit_int (K : PySem.W.Frag) (d : PyData) : PySem.W.kitOne K (.type (tyD d)) (.type "int") = some (isiInt d) := by
  cases d with
  | none => exact kit_ty kb_none_int
  | bool b => exact kit_ty kb_bool_int
  | int b => exact kit_ty kb_int_int
  | str b => exact kit_ty kb_str_int
  | tuple b => exact kit_ty kb_tuple_int
  | list b => exact kit_ty kb_list_int
  | dict b => exact kit_ty kb_dict_int
theorem kit_bool (K : PySem.W.Frag) (d : PyData) : PySem.W.kitOne K (.type (tyD d)) (.type "bool") = some (isiBool d) := by
  cases d with
  | none => exact kit_ty kb_none_bool
  | bool b => exact kit_ty kb_bool_bool
  | int b => exact kit_ty kb_int_bool
  | str b => exact kit_ty kb_str_bool
  | tuple b => exact kit_ty kb_tuple_bool
  | list b => exact kit_ty kb_list_bool
  | dict b => exact kit_ty kb_dict_bool
theorem kit_tup (K : PySem.W.Frag) (d : PyData) : PySem.W.kitOne K (.type (tyD d)) (.type "tuple") = some (isiTup d) := by
  cases d with
  | none => exact kit_ty kb_none_tuple
  | bool b => exact kit_ty kb_bool_tuple
  | int b => exact kit_ty kb_int_tuple
  | str b => exact kit_ty kb_str_tuple
  | tuple b => exact kit_ty kb_tuple_tuple
  | list b => exact kit_ty kb_list_tuple
  | dict b => exact kit_ty kb_dict_tuple
theorem kit_str (K : PySem.W.Frag) (d : PyData) : PySem.W.kitOne K (.type (tyD d)) (.type "str") = some (isiStr d) := by
  cases d with
  | none => exact kit_ty kb_none_str
  | bool b => exact kit_ty kb_bool_str
  | int b => exact kit_ty kb_int_str
  | str b => exact kit_ty kb_str_str
  | tuple b => exact kit_ty kb_tuple_str
  | list b => exact kit_ty kb_list_str
  | dict b => exact kit_ty kb_dict_str
theorem bt_int : bootBuiltins "int" = some (.type "int") := by decide +kernel
theorem bt_len : bootBuiltins "len" = some (.builtin "len") := by decide +kernel
theorem bt_isinstance : bootBuiltins "isinstance" = some (.builtin "isinstance") := by decide +kernel
end B
namespace B
open PySem PySem.Spec PyProof.Rows L2
section
variable {K : PySem.W.Frag} {J : It} {n : Nat} {G : Hp → Prop} {Y : Nat → Hp → V → Hp → Prop} {g : TG} {tt : TT} {te : TE} {vs : List Nat} {σ : L2.St} {H1 : Hp} {D : Addr} {Qd : Hp → Prop}
def kept (c : Nat → Bool) (f : Nat → V) : Nat → List V
  | 0 => []
  | i + 1 => if c i = true then kept c f i ++ [f i] else kept c f i
end
def Pen (H : Hp) (p : Addr) : Prop := ∃ x f, H p = some (.lst [.int x, .int f])
theorem Pen.ne {H : Hp} {p q : Addr} (h : Pen H p) (n : H q = none) : p ≠ q := by
  obtain ⟨x, f, h⟩ := h
  exact ne_of_none h n
theorem Pen.up {H : Hp} {p q : Addr} {o : HO} (h : Pen H p) (n : H q = none) : Pen (upd H q o) p := by
  have z := h.ne n
  obtain ⟨x, f, h⟩ := h
  exact ⟨x, f, by rw [upd_ne z]; exact h⟩
theorem Pen.fr {K : PySem.W.Frag} {L : List Addr} {H H' : Hp} {p : Addr} (h : Pen H p) (f : Fr K L H H') (hp : p ∉ L) : Pen H' p := by
  obtain ⟨x, f', h⟩ := h
  exact ⟨x, f', f.ne h hp⟩
theorem ite_b {b : Bool} {A C : Prop} (h1 : b = true → A) (h2 : b = false → C) : if b = true then A else C := by
  cases b with
  | true => exact iteT (h1 rfl)
  | false => exact iteF (h2 rfl)
end B
namespace B
open PySem PySem.Spec PyProof.Rows L2
/-- a target that is an attribute of an instance -/
def gFld (K : PySem.W.Frag) (to : TE) (f : Str) : TG := fun v σ H Q => to σ H fun x H1 => ∃ a C dx fs, x = .ref a ∧ H1 a = some (.ins C dx fs) ∧ Cls K C ∧ NoAttr K C f ∧ fs.length < 1000 ∧ Q σ (upd H1 a (.ins C dx (putF f v fs)))
end B
namespace B
open PySem PySem.Spec PyProof.Rows L2
section
variable {X : Cx}
theorem pe_lcX {elt tg iter : Expr} {ifs : List Expr} {scope : Scope} (own : List (Str × Nat)) {pos : Pos} {wi : TI} {g : TG} {tt : TT} {te : TE} (hc : X.calm = true) (hN : X.N.Nodup) (hi : PI X tg iter wi) (ok : BlkOk X.N X.env.scope scope own)
    (hg : ∀ (s : Shared) (H : Hp) (C : Addr) (cl : List (Str × Addr)) (fp : List Addr), PG (X.blk s H scope (compEnvC scope cl C X.env) fp) tg g) (ht : ∀ (s : Shared) (H : Hp) (C : Addr) (cl : List (Str × Addr)) (fp : List Addr), PTs (X.blk s H scope (compEnvC scope cl C X.env) fp) ifs tt)
    (he : ∀ (s : Shared) (H : Hp) (C : Addr) (cl : List (Str × Addr)) (fp : List Addr), PE (X.blk s H scope (compEnvC scope cl C X.env) fp) elt te) (hs : ∀ x, foldedSetIterable iter X.env x = pure x) :
    PE X (.ListComp elt [⟨tg, iter, ifs, 0⟩] scope pos) (tLc wi g tt te (own.map (·.2))) := pe_lc hc hN hi ok hg ht he hs
theorem pgs_consX {e : Expr} {es : List Expr} {t : TG} {u : TGs} (hs : (assignEach (e :: es) X.env).map (·.2) = assign e X.env :: (assignEach es X.env).map (·.2)) (h1 : PG X e t) (h2 : PGs X es u) : PGs X (e :: es) (gCons t u) := pgs_cons h1 h2 hs
theorem pg_nameX (i : Nat) {x : Str} {pos : Pos} (hN : X.N.Nodup) (hi : X.N[i]? = some x) (hx : Loc X.env.scope x) (hf : X.fn x = true ∨ X.env.scope.names.lookup x = some .local) : PG X (.Name x pos) (gName i) := pg_name hN hi hx hf
end
end B
namespace B
open PySem PySem.Spec PyProof.Rows L2
/-- the tuple at a, each item in a new pair -/
def IteT (K : PySem.W.Frag) (a : Addr) : It :=
  ⟨fun i H => ∃ (xs : List V) (x : V), SqT K H a xs ∧ xs[i]? = some x, fun i H v H' => ∃ T x, v = .ref T ∧ H T = none ∧ H' = upd H T (.tup [.int (i : Nat), x]) ∧ ∀ xs, SqT K H a xs → xs[i]? = some x, fun i H => ∃ xs : List V, SqT K H a xs ∧ xs.length ≤ i⟩
def iEnumT (K : PySem.W.Frag) (ta : TA) : TI := fun σ H R => ta σ H fun vs H1 => ∃ a xs, vs = [.ref a] ∧ SqT K H1 a xs ∧ R (IteT K a) H1
section
variable {X : Cx} (K : PySem.W.Frag)
theorem ix_listK (h : X.K = K) : IxR X (rIxL K) := by subst h; exact ix_list
theorem sl_listK (h : X.K = K) : SlR X (rSlL K) := by subst h; exact sl_list
theorem op_in_seqK (h : X.K = K) : OpR X (compareOp .In) (rIn K false) := by subst h; exact op_in_seq
theorem op_neDK (h : X.K = K) (hu : X.A.units + 64 < cLine) : OpR X (compareOp .NotEq) (rNeD K) := by subst h; exact op_neD hu
def rLenS : List V → Hp → VK → Prop := fun xs H Q => ∃ p ys, xs = [.ref p] ∧ (SqL K H p ys ∨ SqT K H p ys) ∧ Q (.int ys.length) H
def rListOf : List V → Hp → VK → Prop := fun xs H Q => ∃ p ys, xs = [.ref p] ∧ (SqL K H p ys ∨ SqT K H p ys) ∧ ∀ l, H l = none → Q (.ref l) (upd H l (.lst ys))
theorem call_lenK (h : X.K = K) : CallR X (.builtin "len") (rLenS K) := by subst h; exact call_len_seq
theorem pi_listK {tg l : Expr} {tl : TE} (h : X.K = K) (hl : PE X l tl) : PI X tg l (iList K tl) := by subst h; exact pi_list hl
theorem pg_tupK {es : List Expr} {k : Nat} {pos : Pos} {t : TGs} {n : Nat} (h : X.K = K) (hc : X.calm = true) (hn : (assignEach es X.env).length = n) (hst : (assignEach es X.env).findIdx? (·.1) = none) (hp : PGs X es t) : PG X (.Tuple es k pos) (gTup K n t) := by subst h; exact pg_tup hc hp hn hst
end
end B
namespace B
open PySem PySem.Spec PyProof.Rows L2
mutual
theorem eqv_self : ∀ d : PyData, d.canLay0 = true → PyData.eqv d d = true
  | .none, _ => by rw [PyData.eqv]
  | .bool b, _ => by rw [PyData.eqv]; exact beq_self_eq_true b
  | .int i, _ => by rw [PyData.eqv]; exact beq_self_eq_true i
  | .str x, _ => by rw [PyData.eqv]; exact beq_self_eq_true x
  | .list xs, h => by rw [PyData.eqv]; exact eqvAll_self xs (by simpa only [PyData.canLay0] using h)
  | .tuple xs, h => by rw [PyData.eqv]; exact eqvAll_self xs (by simpa only [PyData.canLay0] using h)
  | .dict _, h => by simp [PyData.canLay0] at h
theorem eqvAll_self : ∀ ds : List PyData, PyData.canLayAll0 ds = true → PyData.eqvAll ds ds = true
  | [], _ => by rw [PyData.eqvAll]
  | d :: ds, h => by
    have h' : d.canLay0 = true ∧ PyData.canLayAll0 ds = true := by simpa [PyData.canLayAll0] using h
    rw [PyData.eqvAll, eqv_self d h'.1, eqvAll_self ds h'.2]
    rfl
end
theorem canAll_of {ds : List PyData} : (∀ d ∈ ds, d.canLay0 = true) → PyData.canLayAll0 ds = true := by
  induction ds with
  | nil => exact fun _ => by simp [PyData.canLayAll0]
  | cons d ds ih =>
    intro h
    simp only [PyData.canLayAll0, h d (List.mem_cons_self ..), ih fun x hx => h x (List.mem_cons_of_mem _ hx), Bool.and_self]
theorem depthAll_of {ds : List PyData} {n : Nat} : (∀ d ∈ ds, d.depth ≤ n) → PyData.depthAll ds ≤ n := by
  induction ds with
  | nil => exact fun _ => by simp [PyData.depthAll]
  | cons d ds ih =>
    intro h
    have h1 := h d (List.mem_cons_self ..)
    have h2 := ih fun x hx => h x (List.mem_cons_of_mem _ hx)
    simp only [PyData.depthAll]
    omega
/-- data that == may look at, at most n deep -/
def Ok (n : Nat) (d : PyData) : Prop := d.canLay0 = true ∧ d.depth ≤ n
theorem Ok.int (n : Nat) (i : Int) : Ok n (.int i) := ⟨by simp [PyData.canLay0], by simp [PyData.depth]⟩
theorem Ok.bool (n : Nat) (i : Bool) : Ok n (.bool i) := ⟨by simp [PyData.canLay0], by simp [PyData.depth]⟩
theorem Ok.tup {n : Nat} {ds : List PyData} (h : ∀ d ∈ ds, Ok n d) : Ok (n + 1) (.tuple ds) :=
  ⟨by simp only [PyData.canLay0]; exact canAll_of fun d hd => (h d hd).1, by simp only [PyData.depth]; have := depthAll_of fun d hd => (h d hd).2; omega⟩
theorem Ok.lst {n : Nat} {ds : List PyData} (h : ∀ d ∈ ds, Ok n d) : Ok (n + 1) (.list ds) :=
  ⟨by simp only [PyData.canLay0]; exact canAll_of fun d hd => (h d hd).1, by simp only [PyData.depth]; have := depthAll_of fun d hd => (h d hd).2; omega⟩
theorem Ok.shaped {n : Nat} {d : PyData} (h : Ok n d) (hn : n ≤ 64 := by decide) : SeqAt.shaped d = true := by
  unfold SeqAt.shaped
  rw [h.1, decide_eq_true (Nat.le_trans h.2 hn)]
  rfl
theorem Ok.self {n : Nat} {d : PyData} (h : Ok n d) : PyData.eqv d d = true := eqv_self d h.1
theorem Ims.snoc {K : PySem.W.Frag} {H : Hp} {d : PyData} {y : V} : ∀ {ds : List PyData} {ys : List V}, Ims K H ds ys → Im K H d y → Ims K H (ds ++ [d]) (ys ++ [y])
  | [], _, h, hy => by cases h; exact ⟨y, [], rfl, hy, rfl⟩
  | _ :: _, _, ⟨x, r, e, h1, h2⟩, hy => by cases e; exact ⟨x, r ++ [y], rfl, h1, Ims.snoc h2 hy⟩
theorem map_at {α β : Type} {f : α → β} {xs : List α} {i : Nat} {y : β} (h : (xs.map f)[i]? = some y) : ∃ x, xs[i]? = some x ∧ y = f x := by
  rw [List.getElem?_map] at h
  cases e : xs[i]? with
  | none => rw [e] at h; cases h
  | some x => rw [e] at h; exact ⟨x, rfl, (Option.some.inj h).symm⟩
end B
namespace B
open PySem PySem.Spec PyProof.Rows L2
section
variable {P : Program} {w : World} {K : PySem.W.Frag} {mg : Str → Option Value} {base : Heap}
/-- nothing guards -/
abbrev Bare (A : Around) : Prop := A.guards = some []
structure FnG (P : Program) (w : World) (K : PySem.W.Frag) (mg : Str → Option Value) (base : Heap) (k : Nat) (f : Addr) (fd : FuncData) (ps : List Str) (sp : Sp) : Prop where
  len : ∀ vs H Q E, sp vs H Q E → vs.length = ps.length
  go : ∀ {A : Around} {outer : List Env} {s : Shared} {H : Hp} {args : Args} {us : List Value} {vs : List V} {Q : VK} {E : XK}, Bare A → Room k A → Env0 P w K mg base A outer s H →
    BindsTo s fd args (ps.zip us) → Vals vs us → sp vs H Q E → codeAny (model P w) A (.call (.ref f) args) (CR CX0 outer P w H s Q E) s
theorem FnG.of {k : Nat} {f : Addr} {fd : FuncData} {ps : List Str} {sp : Sp} (F : FnOk P w K mg base CX0 k f fd ps sp) : FnG P w K mg base k f fd ps sp :=
  ⟨F.len, fun _ hr e b r h => F.run _ _ _ _ _ _ _ _ _ hr e b r h⟩
end
end B
namespace B
open PySem PySem.Spec PyProof.Rows L2
/-- data that repr may be asked of: at most n deep, at most m parts in all, numbers below 2^70 -/
structure Sh (n m : Nat) (d : PyData) : Prop where
  able : d.showable = true
  nodict : d.hasDict = false
  short : d.leavesShort 80 = true
  deep : d.depth ≤ n
  few : d.bulk ≤ m
theorem Sh.mono {n m n' m' : Nat} {d : PyData} (h : Sh n m d) (hn : n ≤ n') (hm : m ≤ m') : Sh n' m' d := ⟨h.able, h.nodict, h.short, Nat.le_trans h.deep hn, Nat.le_trans h.few hm⟩
theorem Sh.int {i : Int} (h : i.natAbs.log2 < 70) : Sh 0 0 (.int i) := by
  refine ⟨?_, rfl, ?_, by simp [PyData.depth], by simp [PyData.bulk]⟩
  · have h' : i.natAbs.log2 < 1920 := by omega
    simp only [PyData.showable]
    exact decide_eq_true h'
  · have e := PySem.int_text_length_le (k := 70) (by decide) h
    have e2 : (PyData.shown (.int i)).length ≤ 80 := by
      simp only [PyData.shown]
      rw [show (PySem.Str.ofString (toString i)).length = (toString i).length from PySem.ofString_length _]
      omega
    simp only [PyData.leavesShort]
    exact decide_eq_true e2
theorem Sh.bool (b : Bool) : Sh 0 0 (.bool b) := ⟨rfl, rfl, rfl, by simp [PyData.depth], by simp [PyData.bulk]⟩
theorem Sh.none : Sh 0 0 .none := ⟨rfl, rfl, rfl, by simp [PyData.depth], by simp [PyData.bulk]⟩
theorem shAll {n m : Nat} : ∀ {ds : List PyData}, (∀ d ∈ ds, Sh n m d) → PyData.showableAll ds = true ∧ PyData.hasDictAll ds = false ∧ PyData.leavesShortAll 80 ds = true ∧ PyData.depthAll ds ≤ n ∧ PyData.bulkAll ds ≤ ds.length * (m + 1)
  | [], _ => ⟨rfl, rfl, rfl, by simp [PyData.depthAll], by simp [PyData.bulkAll]⟩
  | d :: ds, h => by
    have h1 := h d (List.mem_cons_self ..)
    obtain ⟨a1, a2, a3, a4, a5⟩ := shAll fun x hx => h x (List.mem_cons_of_mem _ hx)
    refine ⟨?_, ?_, ?_, ?_, ?_⟩
    · simp only [PyData.showableAll, h1.able, a1, Bool.and_self]
    · simp only [PyData.hasDictAll, h1.nodict, a2, Bool.or_self]
    · simp only [PyData.leavesShortAll, h1.short, a3, Bool.and_self]
    · have := h1.deep
      simp only [PyData.depthAll]
      omega
    · have := h1.few
      simp only [PyData.bulkAll, List.length_cons, Nat.add_mul, Nat.one_mul]
      omega
theorem Sh.tup {n m k : Nat} {ds : List PyData} (h : ∀ d ∈ ds, Sh n m d) (hk : ds.length ≤ k) : Sh (n + 1) (k * (m + 1)) (.tuple ds) := by
  obtain ⟨a1, a2, a3, a4, a5⟩ := shAll h
  have := Nat.mul_le_mul_right (m + 1) hk
  refine ⟨by simpa only [PyData.showable] using a1, by simpa only [PyData.hasDict] using a2, by simpa only [PyData.leavesShort] using a3, ?_, ?_⟩
  · simp only [PyData.depth]
    omega
  · simp only [PyData.bulk]
    omega
theorem Sh.lst {n m k : Nat} {ds : List PyData} (h : ∀ d ∈ ds, Sh n m d) (hk : ds.length ≤ k) : Sh (n + 1) (k * (m + 1)) (.list ds) := by
  obtain ⟨a1, a2, a3, a4, a5⟩ := shAll h
  have := Nat.mul_le_mul_right (m + 1) hk
  refine ⟨by simpa only [PyData.showable] using a1, by simpa only [PyData.hasDict] using a2, by simpa only [PyData.leavesShort] using a3, ?_, ?_⟩
  · simp only [PyData.depth]
    omega
  · simp only [PyData.bulk]
    omega
theorem Sh.size {n m : Nat} {d : PyData} (h : Sh n m d) (hm : m ≤ 200000) : d.shown.length ≤ sizeLine := by
  have e := PyData.shown_le_bulk 80 (by decide) d h.short
  have h2 : (80 + 2) * d.bulk ≤ 82 * 200000 := Nat.mul_le_mul (by decide) (Nat.le_trans h.few hm)
  rw [sizeLine_eq]
  omega
end B
namespace B
open PySem PySem.Spec PyProof.Rows L2
def keyV1 : V → Bool
  | .int _ => true
  | .str _ => true
  | _ => false
/-- one to three ints and texts -/
def keyV (xs : List V) : Bool := !xs.isEmpty && decide (xs.length < 4) && xs.all keyV1
def tpO (o : Obj) (xs : List V) : HO := if keyV xs = true then .tup xs else .frz o (.tup xs)
/-- a tuple as it is made, or one of the written part -/
def Tp (K : PySem.W.Frag) (H : Hp) (a : Addr) (xs : List V) : Prop :=
  (keyV xs = true ∧ H a = some (.tup xs)) ∨ (keyV xs = false ∧ ((∃ o, o.dict = none ∧ H a = some (.frz o (.tup xs))) ∨
    ∃ (o : Obj) (its : Array Value) (n : Nat), K.lookup a = some o ∧ o.cls = .type "tuple" ∧ o.dict = none ∧ o.data = .seq its n ∧ its.size ≤ sizeLine ∧ Vals xs its.toList))
theorem Tp.made {K : PySem.W.Frag} {H : Hp} {p : Addr} {o : Obj} {xs : List V} (h : o.dict = none) : Tp K (upd H p (tpO o xs)) p xs := by
  unfold tpO
  by_cases k : keyV xs = true
  · rw [if_pos k]
    exact .inl ⟨k, upd_same⟩
  · rw [if_neg k]
    exact .inr ⟨by simpa using k, .inl ⟨o, h, upd_same⟩⟩
theorem Tp.sq {K : PySem.W.Frag} {H : Hp} {a : Addr} {xs : List V} (h : Tp K H a xs) : SqT K H a xs := by
  rcases h with ⟨_, h⟩ | ⟨_, ⟨o, _, h⟩ | ⟨o, its, n, h1, h2, _, h3, h4, h5⟩⟩
  · exact sqT_of h
  · exact .inl (.inr ⟨o, h⟩)
  · exact .inr ⟨o, its, n, h1, h2, h3, h4, h5⟩
theorem Fr.tp {K : PySem.W.Frag} {P : List Addr} {H H' : Hp} {a : Addr} {xs : List V} (f : Fr K P H H') (h : Tp K H a xs) : Tp K H' a xs := by
  rcases h with ⟨k, h⟩ | ⟨k, ⟨o, d, h⟩ | h⟩
  · exact .inl ⟨k, f.keep _ _ h (.inr fun z => z)⟩
  · exact .inr ⟨k, .inl ⟨o, d, f.keep _ _ h (.inr fun z => z)⟩⟩
  · exact .inr ⟨k, .inr h⟩
theorem Tp.key {K : PySem.W.Frag} {H : Hp} {a : Addr} {xs : List V} (h : Tp K H a xs) (k : keyV xs = true) : H a = some (.tup xs) := by
  rcases h with ⟨_, h⟩ | ⟨e, _⟩
  · exact h
  · rw [k] at e
    cases e
section
variable {X : Cx} {pins : List (Addr × Obj)} {σ : L2.St} {H : Hp} {s : Shared}
/-- a tuple's display -/
def tTupZ (t : TA) : TE := fun σ H Q => t σ H fun xs H1 => xs.length ≤ sizeLine ∧ ∀ p o, H1 p = none → o.dict = none → Q (.ref p) (upd H1 p (tpO o xs))
/-- tuple(xs), xs a list or a tuple -/
def rTupZ (K : PySem.W.Frag) : List V → Hp → VK → Prop := fun xs H Q => ∃ p ys, xs = [.ref p] ∧ ((SqL K H p ys ∧ ∀ l o, H l = none → o.dict = none → Q (.ref l) (upd H l (tpO o ys))) ∨ (SqT K H p ys ∧ Q (.ref p) H))
/-- t + u -/
def rCatZ (K : PySem.W.Frag) : R2 := fun x y H Q => ∃ a b xs ys, x = .ref a ∧ y = .ref b ∧ SqT K H a xs ∧ SqT K H b ys ∧ xs.length + ys.length ≤ sizeLine ∧
  (xs = [] → Q (.ref b) H) ∧ (xs ≠ [] → ys = [] → Q (.ref a) H) ∧ (xs ≠ [] → ys ≠ [] → ∀ p o, H p = none → o.dict = none → Q (.ref p) (upd H p (tpO o (xs ++ ys))))
/-- t[lo:hi] -/
def rSlZ (K : PySem.W.Frag) : V → Option Int → Option Int → Hp → VK → Prop := fun x lo hi H Q => ∃ a xs, x = .ref a ∧ SqT K H a xs ∧
  (HT.sIx xs.length 0 lo = 0 ∧ HT.sIx xs.length xs.length hi = xs.length → Q (.ref a) H) ∧ (¬ (HT.sIx xs.length 0 lo = 0 ∧ HT.sIx xs.length xs.length hi = xs.length) → ∀ p o, H p = none → o.dict = none → Q (.ref p) (upd H p (tpO o (cutV xs lo hi))))
end
end B
namespace B
open PySem PySem.Spec PyProof.Rows L2
inductive Tag {α : Sort u} (x : α) : Type
  | mk
def condH (b : Bool) (x y : Prop) (_ : Tag x) (_ : Tag y) : Prop := cond b x y
theorem q_condH {b : Bool} {x y : Prop} {t : Tag x} {u : Tag y} : condH b x y t u = cond b x y := rfl
mutual
def Dv (K : PySem.W.Frag) (L : List Addr) (H : Hp) : PyData → V → Prop
  | .none, v => v = .non
  | .bool b, v => v = .bl b
  | .int i, v => v = .int i
  | .str s, v => v = .str s
  | .tuple ds, v => ∃ a xs, v = .ref a ∧ Tp K H a xs ∧ Dvs K L H ds xs
  | .list ds, v => ∃ a xs, v = .ref a ∧ a ∉ L ∧ H a = some (.lst xs) ∧ Dvs K L H ds xs
  | .dict es, v => es = [] ∧ ∃ a, v = .ref a ∧ a ∉ L ∧ H a = some (.dK [])
def Dvs (K : PySem.W.Frag) (L : List Addr) (H : Hp) : List PyData → List V → Prop
  | [], xs => xs = []
  | d :: ds, xs => ∃ x r, xs = x :: r ∧ Dv K L H d x ∧ Dvs K L H ds r
end
section
variable {K : PySem.W.Frag} {L L' P : List Addr} {H H' : Hp}
mutual
theorem Dv.mono (f : Fr K P H H') (hP : ∀ a ∈ P, a ∈ L) : ∀ {d : PyData} {v : V}, Dv K L H d v → Dv K L H' d v
  | .none, _, h => h
  | .bool _, _, h => h
  | .int _, _, h => h
  | .str _, _, h => h
  | .tuple ds, _, ⟨a, xs, e, t, r⟩ => ⟨a, xs, e, f.tp t, Dvs.mono f hP r⟩
  | .list ds, _, ⟨a, xs, e, n, t, r⟩ => ⟨a, xs, e, n, f.ne t fun z => n (hP a z), Dvs.mono f hP r⟩
  | .dict _, _, ⟨e0, a, e, n, t⟩ => ⟨e0, a, e, n, f.ne t fun z => n (hP a z)⟩
theorem Dvs.mono (f : Fr K P H H') (hP : ∀ a ∈ P, a ∈ L) : ∀ {ds : List PyData} {xs : List V}, Dvs K L H ds xs → Dvs K L H' ds xs
  | [], _, h => h
  | _ :: _, _, ⟨x, r, e, h1, h2⟩ => ⟨x, r, e, Dv.mono f hP h1, Dvs.mono f hP h2⟩
end
mutual
/-- fewer addresses that may change; or more, of such as hold nothing -/
theorem Dv.sub (h : ∀ a, a ∈ L' → a ∈ L ∨ H a = none) : ∀ {d : PyData} {v : V}, Dv K L H d v → Dv K L' H d v
  | .none, _, q => q
  | .bool _, _, q => q
  | .int _, _, q => q
  | .str _, _, q => q
  | .tuple ds, _, ⟨a, xs, e, t, r⟩ => ⟨a, xs, e, t, Dvs.sub h r⟩
  | .list ds, _, ⟨a, xs, e, n, t, r⟩ => ⟨a, xs, e, fun z => (h a z).elim n (fun z => by rw [t] at z; cases z), t, Dvs.sub h r⟩
  | .dict _, _, ⟨e0, a, e, n, t⟩ => ⟨e0, a, e, fun z => (h a z).elim n (fun z => by rw [t] at z; cases z), t⟩
theorem Dvs.sub (h : ∀ a, a ∈ L' → a ∈ L ∨ H a = none) : ∀ {ds : List PyData} {xs : List V}, Dvs K L H ds xs → Dvs K L' H ds xs
  | [], _, q => q
  | _ :: _, _, ⟨x, r, e, h1, h2⟩ => ⟨x, r, e, Dv.sub h h1, Dvs.sub h h2⟩
end
mutual
/-- data without a dict -/
def noDict : PyData → Bool
  | .dict _ => false
  | .tuple ds => noDicts ds
  | .list ds => noDicts ds
  | _ => true
def noDicts : List PyData → Bool
  | [] => true
  | d :: ds => noDict d && noDicts ds
end
mutual
theorem Dv.dp : ∀ {d : PyData} {v : V}, noDict d = true → Dv K L H d v → Dp K H v d
  | .none, _, _, h => by cases h; exact .non
  | .bool _, _, _, h => by cases h; exact .bl _
  | .int _, _, _, h => by cases h; exact .int _
  | .str _, _, _, h => by cases h; exact .str _
  | .tuple ds, _, n, ⟨a, xs, e, t, r⟩ => by cases e; exact .tup t.sq (Dvs.dp n r)
  | .list ds, _, n, ⟨a, xs, e, _, t, r⟩ => by cases e; exact .lst (sqL_of t) (Dvs.dp n r)
theorem Dvs.dp : ∀ {ds : List PyData} {xs : List V}, noDicts ds = true → Dvs K L H ds xs → DpAll K H xs ds
  | [], _, _, h => by cases h; exact .nil
  | _ :: _, _, n, ⟨x, r, e, h1, h2⟩ => by
    have n' := Bool.and_eq_true_iff.mp n
    cases e; exact .cons (Dv.dp n'.1 h1) (Dvs.dp n'.2 h2)
end
theorem Dvs.len : ∀ {ds : List PyData} {xs : List V}, Dvs K L H ds xs → xs.length = ds.length
  | [], _, h => by cases h; rfl
  | _ :: _, _, ⟨x, r, e, h1, h2⟩ => by cases e; show r.length + 1 = _ + 1; rw [Dvs.len h2]
theorem Dvs.get : ∀ {ds : List PyData} {xs : List V} {i : Nat} {d : PyData}, Dvs K L H ds xs → ds[i]? = some d → ∃ x, xs[i]? = some x ∧ Dv K L H d x
  | [], _, i, x, h, g => by simp at g
  | d :: ds, _, 0, x, ⟨y, r, e, h1, h2⟩, g => by
    cases e
    simp at g
    subst g
    exact ⟨y, rfl, h1⟩
  | d :: ds, _, i + 1, x, ⟨y, r, e, h1, h2⟩, g => by
    cases e
    obtain ⟨d', e', h'⟩ := Dvs.get (i := i) h2 (by simpa using g)
    exact ⟨d', by simpa using e', h'⟩
theorem Dvs.app : ∀ {ds es : List PyData} {xs ys : List V}, Dvs K L H ds xs → Dvs K L H es ys → Dvs K L H (ds ++ es) (xs ++ ys)
  | [], _, _, _, h, h2 => by cases h; exact h2
  | _ :: _, _, _, _, ⟨x, r, e, h1, h2⟩, h3 => by cases e; exact ⟨x, r ++ _, rfl, h1, Dvs.app h2 h3⟩
theorem Dvs.drop : ∀ {n : Nat} {ds : List PyData} {xs : List V}, Dvs K L H ds xs → Dvs K L H (ds.drop n) (xs.drop n)
  | 0, _, _, h => h
  | _ + 1, [], _, h => by cases h; exact rfl
  | n + 1, _ :: _, _, ⟨x, r, e, h1, h2⟩ => by cases e; exact Dvs.drop (n := n) h2
theorem Dvs.take : ∀ {n : Nat} {ds : List PyData} {xs : List V}, Dvs K L H ds xs → Dvs K L H (ds.take n) (xs.take n)
  | 0, _, _, h => rfl
  | _ + 1, [], _, h => by cases h; exact rfl
  | _ + 1, _ :: _, _, ⟨x, r, e, h1, h2⟩ => by cases e; exact ⟨x, r.take _, rfl, h1, Dvs.take h2⟩
end
/-- what a slot holds, or an expression gives: data; a pen; a list under construction; the list that slot i owns; a def; a known object -/
inductive Sv
  | dat (d : PyData)
  | pen (p : Addr)
  | own (ds : List PyData)
  | ali (i : Nat)
  | fn (a : Addr)
  | ref (a : Addr)
/-- a known object that may change -/
inductive Ob
  | lst (ss : List Sv)
  | dK (es : List (Key × PyData))
  | dT (es : List (List Key × PyData))
  | ins (C dx : Addr) (fs : List (Str × Sv))
  /-- a dict of texts, what it holds known -/
  | dV (es : List (Key × Sv))
  /-- a dict with tuples as keys, locked: read, not written -/
  | fT (es : List (List Key × PyData))
  /-- told by a look at the heap at its place -/
  | ext (φ : Heap → Prop)
/-- may be written -/
def Ob.mu : Ob → Prop
  | .fT _ => False
  | .ext _ => False
  | _ => True
abbrev Al := Addr → Option Ob
/-- the slots, the known objects -/
structure Dn where
  sl : List (Option Sv)
  al : Al
namespace Dn
def at_ (δ : Dn) (i : Nat) : Option Sv := δ.sl.getD i none
def put (δ : Dn) (i : Nat) (x : Option Sv) : Dn := ⟨δ.sl.set i x, δ.al⟩
def know (δ : Dn) (al : Al) : Dn := ⟨δ.sl, al⟩
end Dn
theorem at_mk (l : List (Option Sv)) (a : Al) (i : Nat) : (Dn.mk l a).at_ i = l.getD i none := rfl
theorem put_mk (l : List (Option Sv)) (a : Al) (i : Nat) (x : Option Sv) : (Dn.mk l a).put i x = ⟨l.set i x, a⟩ := rfl
theorem know_mk (l : List (Option Sv)) (a b : Al) : (Dn.mk l a).know b = ⟨l, b⟩ := rfl
theorem put_put (δ : Dn) (i : Nat) (x y : Option Sv) : (δ.put i x).put i y = δ.put i y := by
  unfold Dn.put
  rw [List.set_set]
theorem put_comm {δ : Dn} {i j : Nat} (x y : Option Sv) (h : i ≠ j) : (δ.put i x).put j y = (δ.put j y).put i x := by
  unfold Dn.put
  rw [List.set_comm _ _ h]
def oup (al : Al) (a : Addr) (o : Ob) : Al := fun b => if b = a then some o else al b
theorem oup_same {al : Al} {a : Addr} {o : Ob} : oup al a o a = some o := by unfold oup; rw [if_pos rfl]
theorem oup_ne {al : Al} {a b : Addr} {o : Ob} (h : b ≠ a) : oup al a o b = al b := by unfold oup; rw [if_neg h]
/-- less is known -/
def Sub (al' al : Al) : Prop := ∀ a o, al' a = some o → al a = some o
theorem Sub.rfl {al : Al} : Sub al al := fun _ _ h => h
theorem Sub.trans {a b c : Al} (h : Sub a b) (g : Sub b c) : Sub a c := fun x o e => g x o (h x o e)
theorem Sub.up {a b : Al} {p : Addr} {o : Ob} (h : Sub a b) (n : a p = none) : Sub a (oup b p o) := fun x u e => by
  by_cases z : x = p
  · subst z; rw [n] at e; cases e
  · rw [oup_ne z]; exact h x u e
/-- where a def runs: its pens; what it may write; what may be changed by others; the heap -/
structure Gm where
  P : List Addr
  W : List Addr
  L0 : List Addr
  H0 : Hp
/-- within an object: data, or another object, or a def -/
def SvI (K : PySem.W.Frag) (L : List Addr) (H : Hp) : Sv → V → Prop
  | .dat d, v => Dv K L H d v
  | .ref a, v => v = .ref a
  | .fn a, v => v = .ref a
  | .pen a, v => v = .ref a
  | _, _ => False
def SvIs (K : PySem.W.Frag) (L : List Addr) (H : Hp) : List Sv → List V → Prop
  | [], vs => vs = []
  | s :: ss, vs => ∃ v r, vs = v :: r ∧ SvI K L H s v ∧ SvIs K L H ss r
def DvK {κ : Type} (K : PySem.W.Frag) (L : List Addr) (H : Hp) : List (κ × PyData) → List (κ × V) → Prop
  | [], vs => vs = []
  | (k, d) :: es, vs => ∃ v r, vs = (k, v) :: r ∧ Dv K L H d v ∧ DvK K L H es r
def SvF (K : PySem.W.Frag) (L : List Addr) (H : Hp) : List (Str × Sv) → List (Str × V) → Prop
  | [], vs => vs = []
  | (f, s) :: ss, vs => ∃ v r, vs = (f, v) :: r ∧ SvI K L H s v ∧ SvF K L H ss r
def SvK {κ : Type} (K : PySem.W.Frag) (L : List Addr) (H : Hp) : List (κ × Sv) → List (κ × V) → Prop
  | [], vs => vs = []
  | (k, s) :: es, vs => ∃ v r, vs = (k, v) :: r ∧ SvI K L H s v ∧ SvK K L H es r
def ObR (K : PySem.W.Frag) (L : List Addr) (H : Hp) (a : Addr) : Ob → Prop
  | .lst ss => ∃ xs, H a = some (.lst xs) ∧ SvIs K L H ss xs
  | .dK es => ∃ kvs, H a = some (.dK kvs) ∧ DvK K L H es kvs
  | .dT es => ∃ kvs, H a = some (.dT kvs) ∧ DvK K L H es kvs
  | .ins C dx fs => ∃ vs, H a = some (.ins C dx vs) ∧ SvF K L H fs vs
  | .dV es => ∃ kvs, H a = some (.dK kvs) ∧ SvK K L H es kvs
  | .fT es => ∃ od kvs, H a = some (.frz od (.dT kvs)) ∧ DvK K L H es kvs
  | .ext φ => H a = some (.ext φ)
section
variable {K : PySem.W.Frag} {L L' P : List Addr} {H H' : Hp} {a : Addr}
/-- what holds of data in two heaps -/
def Same2 (K : PySem.W.Frag) (L L' : List Addr) (H H' : Hp) : Prop := ∀ d v, Dv K L H d v → Dv K L' H' d v
theorem SvI.to (m : Same2 K L L' H H') : ∀ {s : Sv} {v : V}, SvI K L H s v → SvI K L' H' s v
  | .dat d, v, h => m d v h
  | .ref _, _, h => h
  | .fn _, _, h => h
  | .pen _, _, h => h
  | .own _, _, h => h
  | .ali _, _, h => h
theorem SvIs.to (m : Same2 K L L' H H') : ∀ {ss : List Sv} {vs : List V}, SvIs K L H ss vs → SvIs K L' H' ss vs
  | [], _, h => h
  | _ :: _, _, ⟨v, r, e, h1, h2⟩ => ⟨v, r, e, SvI.to m h1, SvIs.to m h2⟩
theorem DvK.to {κ : Type} (m : Same2 K L L' H H') : ∀ {es : List (κ × PyData)} {vs : List (κ × V)}, DvK K L H es vs → DvK K L' H' es vs
  | [], _, h => h
  | _ :: _, _, ⟨v, r, e, h1, h2⟩ => ⟨v, r, e, m _ _ h1, DvK.to m h2⟩
theorem SvF.to (m : Same2 K L L' H H') : ∀ {ss : List (Str × Sv)} {vs : List (Str × V)}, SvF K L H ss vs → SvF K L' H' ss vs
  | [], _, h => h
  | _ :: _, _, ⟨v, r, e, h1, h2⟩ => ⟨v, r, e, SvI.to m h1, SvF.to m h2⟩
theorem SvK.to {κ : Type} (m : Same2 K L L' H H') : ∀ {es : List (κ × Sv)} {vs : List (κ × V)}, SvK K L H es vs → SvK K L' H' es vs
  | [], _, h => h
  | _ :: _, _, ⟨v, r, e, h1, h2⟩ => ⟨v, r, e, SvI.to m h1, SvK.to m h2⟩
theorem ObR.to (m : Same2 K L L' H H') (e : H' a = H a) : ∀ {o : Ob}, ObR K L H a o → ObR K L' H' a o
  | .lst _, ⟨xs, h1, h2⟩ => ⟨xs, e.trans h1, SvIs.to m h2⟩
  | .dK _, ⟨xs, h1, h2⟩ => ⟨xs, e.trans h1, DvK.to m h2⟩
  | .dT _, ⟨xs, h1, h2⟩ => ⟨xs, e.trans h1, DvK.to m h2⟩
  | .ins _ _ _, ⟨xs, h1, h2⟩ => ⟨xs, e.trans h1, SvF.to m h2⟩
  | .dV _, ⟨xs, h1, h2⟩ => ⟨xs, e.trans h1, SvK.to m h2⟩
  | .fT _, ⟨o, xs, h1, h2⟩ => ⟨o, xs, e.trans h1, DvK.to m h2⟩
  | .ext _, h => e.trans h
theorem ObR.some {o : Ob} (h : ObR K L H a o) (m : o.mu) : ∃ u, H a = some u ∧ Mu (some u) := by
  cases o with
  | lst _ => obtain ⟨xs, e, _⟩ := h; exact ⟨_, e, trivial⟩
  | dK _ => obtain ⟨xs, e, _⟩ := h; exact ⟨_, e, trivial⟩
  | dT _ => obtain ⟨xs, e, _⟩ := h; exact ⟨_, e, trivial⟩
  | ins _ _ _ => obtain ⟨xs, e, _⟩ := h; exact ⟨_, e, trivial⟩
  | dV _ => obtain ⟨xs, e, _⟩ := h; exact ⟨_, e, trivial⟩
  | fT _ => exact m.elim
  | ext _ => exact m.elim
theorem obR_any {o : Ob} (h : ObR K L H a o) : ∃ u, H a = some u ∧ ∀ ps, u ≠ .tbl ps := by
  cases o with
  | fT _ => obtain ⟨o, xs, e, _⟩ := h; exact ⟨_, e, fun ps z => by cases z⟩
  | ext _ => exact ⟨_, h, fun ps z => by cases z⟩
  | lst _ => obtain ⟨xs, e, _⟩ := h; exact ⟨_, e, fun ps z => by cases z⟩
  | dK _ => obtain ⟨xs, e, _⟩ := h; exact ⟨_, e, fun ps z => by cases z⟩
  | dT _ => obtain ⟨xs, e, _⟩ := h; exact ⟨_, e, fun ps z => by cases z⟩
  | ins _ _ _ => obtain ⟨xs, e, _⟩ := h; exact ⟨_, e, fun ps z => by cases z⟩
  | dV _ => obtain ⟨xs, e, _⟩ := h; exact ⟨_, e, fun ps z => by cases z⟩
theorem ObR.mono {o : Ob} (f : Fr K P H H') (hP : ∀ a ∈ P, a ∈ L) (ha : a ∉ P) (h : ObR K L H a o) : ObR K L H' a o := by
  obtain ⟨u, e, m⟩ := obR_any h
  exact h.to (fun d v => Dv.mono f hP) ((f.ne e ha m).trans e.symm)
theorem ObR.sub {o : Ob} (s : ∀ a, a ∈ L' → a ∈ L ∨ H a = none) (h : ObR K L H a o) : ObR K L' H a o := h.to (fun d v => Dv.sub s) rfl
end
def SlR (K : PySem.W.Frag) (Γ : Gm) (L : List Addr) (σ : L2.St) (H : Hp) : Sv → V → Prop
  | .dat d, v => Dv K L H d v
  | .pen p, v => v = .ref p ∧ p ∈ Γ.P
  | .own ds, v => ∃ a xs, v = .ref a ∧ a ∈ L ∧ a ∉ Γ.L0 ∧ H a = some (.lst xs) ∧ Dvs K L H ds xs
  | .ali i, v => σ[i]? = some (some v)
  | .fn a, v => v = .ref a
  | .ref a, v => v = .ref a
def isOwn : Sv → Bool
  | .own _ => true
  | _ => false
/-- δ stands for σ and known objects in the heap H, S for what is under way; what may change lies in L -/
structure Sim (K : PySem.W.Frag) (Γ : Gm) (L : List Addr) (δ : Dn) (σ : L2.St) (S : List (Sv × V)) (H : Hp) : Prop where
  t0 : LamX.Tabs (LT K) Γ.H0
  fr : Fr K Γ.W Γ.H0 H
  pens : ∀ p ∈ Γ.P, Pen H p
  pin : ∀ p ∈ Γ.P, p ∈ Γ.W
  win : ∀ p ∈ Γ.W, p ∈ Γ.L0
  sub : ∀ a ∈ Γ.L0, a ∈ L
  live : ∀ a ∈ L, H a ≠ none
  old : ∀ a ∈ L, a ∈ Γ.L0 ∨ Γ.H0 a = none
  len : δ.sl.length = σ.length
  slot : ∀ (i : Nat) (s : Sv), δ.sl[i]? = some (some s) → (∀ j, s ≠ .ali j) ∧ ∃ v, σ[i]? = some (some v) ∧ SlR K Γ L σ H s v
  stk : ∀ p ∈ S, SlR K Γ L σ H p.1 p.2
  nal : ∀ p ∈ S, ∀ j, p.1 ≠ .ali j
  sep : ∀ (i j : Nat) (s t : Sv) (v : V), i ≠ j → δ.sl[i]? = some (some s) → δ.sl[j]? = some (some t) → isOwn s = true → isOwn t = true → σ[i]? = some (some v) → σ[j]? ≠ some (some v)
  sepS : ∀ (i : Nat) (s : Sv) (v : V), δ.sl[i]? = some (some s) → isOwn s = true → σ[i]? = some (some v) → ∀ p ∈ S, isOwn p.1 = true → p.2 ≠ v
  sepT : S.Pairwise fun p q => isOwn p.1 = true → isOwn q.1 = true → p.2 ≠ q.2
  obj : ∀ a o, δ.al a = some o → (a ∈ L ∧ a ∉ Γ.P ∧ (a ∈ Γ.W ∨ Γ.H0 a = none)) ∧ ObR K L H a o
  sepA : ∀ (i : Nat) (s : Sv) (a : Addr), δ.sl[i]? = some (some s) → isOwn s = true → σ[i]? = some (some (.ref a)) → δ.al a = none
  sepB : ∀ p ∈ S, isOwn p.1 = true → ∀ a, p.2 = .ref a → δ.al a = none
section
variable {K : PySem.W.Frag} {Γ : Gm} {L : List Addr} {δ : Dn} {σ : L2.St} {S : List (Sv × V)} {H H' : Hp}
theorem SlR.mono {P : List Addr} (f : Fr K P H H') (p0 : ∀ p ∈ P, p ∈ Γ.L0) (sub : ∀ a ∈ Γ.L0, a ∈ L) : ∀ {s : Sv} {v : V}, SlR K Γ L σ H s v → SlR K Γ L σ H' s v
  | .dat _, _, h => Dv.mono f (fun a z => sub a (p0 a z)) h
  | .pen _, _, h => h
  | .own _, _, ⟨a, xs, e, h1, h2, h3, h4⟩ => ⟨a, xs, e, h1, h2, f.ne h3 fun z => h2 (p0 a z), Dvs.mono f (fun a z => sub a (p0 a z)) h4⟩
  | .ali _, _, h => h
  | .fn _, _, h => h
  | .ref _, _, h => h
theorem Sim.tbs (I : Sim K Γ L δ σ S H) : LamX.Tabs (LT K) H := I.fr.tabs I.t0
theorem Sim.pin0 (I : Sim K Γ L δ σ S H) : ∀ p ∈ Γ.P, p ∈ Γ.L0 := fun p hp => I.win p (I.pin p hp)
/-- new objects, pens drawn from -/
theorem Sim.keep (I : Sim K Γ L δ σ S H) (f : Fr K Γ.P H H') (hp : ∀ p ∈ Γ.P, Pen H' p) : Sim K Γ L δ σ S H' :=
  { I with
    fr := I.fr.trans (f.mono fun l hl => .inl (I.pin l hl))
    pens := hp
    live := fun a ha e => I.live a ha (f.free _ e)
    slot := fun i s e => let ⟨n, v, e1, e2⟩ := I.slot i s e; ⟨n, v, e1, e2.mono f I.pin0 I.sub⟩
    stk := fun p hp => (I.stk p hp).mono f I.pin0 I.sub
    obj := fun a o e => let ⟨h1, h2⟩ := I.obj a o e; ⟨h1, h2.mono f (fun b hb => I.sub b (I.pin0 b hb)) h1.2.1⟩ }
/-- something is put on the stack that owns nothing -/
theorem Sim.push (I : Sim K Γ L δ σ S H) {s : Sv} {v : V} (h : SlR K Γ L σ H s v) (n : isOwn s = false) (na : ∀ j, s ≠ .ali j) : Sim K Γ L δ σ ((s, v) :: S) H :=
  { I with
    stk := fun p hp => (List.mem_cons.mp hp).elim (fun e => by rw [e]; exact h) (I.stk p)
    nal := fun p hp => (List.mem_cons.mp hp).elim (fun e => by rw [e]; exact na) (I.nal p)
    sepS := fun i t w e o ew p hp ho => (List.mem_cons.mp hp).elim (fun e2 => by rw [e2] at ho; rw [show isOwn s = true from ho] at n; cases n) fun hp => I.sepS i t w e o ew p hp ho
    sepT := List.pairwise_cons.mpr ⟨fun q _ h1 _ => (by rw [show isOwn s = true from h1] at n; cases n), I.sepT⟩
    sepB := fun p hp ho => (List.mem_cons.mp hp).elim (fun e2 => by rw [e2] at ho; rw [show isOwn s = true from ho] at n; cases n) fun hp => I.sepB p hp ho }
theorem Sim.pop {p : Sv × V} (I : Sim K Γ L δ σ (p :: S) H) : Sim K Γ L δ σ S H :=
  { I with stk := fun q hq => I.stk q (List.mem_cons_of_mem _ hq), nal := fun q hq => I.nal q (List.mem_cons_of_mem _ hq), sepS := fun i s v e o ev q hq => I.sepS i s v e o ev q (List.mem_cons_of_mem _ hq), sepT := (List.pairwise_cons.mp I.sepT).2, sepB := fun q hq => I.sepB q (List.mem_cons_of_mem _ hq) }
theorem Sim.top {s : Sv} {v : V} (I : Sim K Γ L δ σ ((s, v) :: S) H) : SlR K Γ L σ H s v := I.stk (s, v) (List.mem_cons_self ..)
theorem SlR.more {a : Addr} (ha : H a = none) : ∀ {s : Sv} {v : V}, SlR K Γ L σ H s v → SlR K Γ (a :: L) σ H s v
  | .dat _, _, h => Dv.sub (fun b hb => (List.mem_cons.mp hb).elim (fun e => .inr (e ▸ ha)) .inl) h
  | .pen _, _, h => h
  | .own _, _, ⟨b, xs, e, h1, h2, h3, h4⟩ => ⟨b, xs, e, List.mem_cons_of_mem _ h1, h2, h3, Dvs.sub (fun b hb => (List.mem_cons.mp hb).elim (fun e => .inr (e ▸ ha)) .inl) h4⟩
  | .ali _, _, h => h
  | .fn _, _, h => h
  | .ref _, _, h => h
theorem SlR.at_own {s : Sv} {v : V} (h : SlR K Γ L σ H s v) (o : isOwn s = true) : ∃ a xs, v = .ref a ∧ a ∈ L ∧ a ∉ Γ.L0 ∧ H a = some (.lst xs) := by
  cases s with
  | own ds =>
    obtain ⟨a, xs, h1, h2, h3, h4, _⟩ := h
    exact ⟨a, xs, h1, h2, h3, h4⟩
  | _ => cases o
theorem Sim.fresh (I : Sim K Γ L δ σ S H) {a : Addr} (ha : H a = none) : δ.al a = none ∧ a ∉ Γ.L0 := by
  constructor
  · cases e : δ.al a with
    | none => rfl
    | some o =>
      obtain ⟨u, e2, _⟩ := obR_any (I.obj a o e).2
      rw [ha] at e2
      cases e2
  · exact fun z => I.live a (I.sub a z) ha
/-- a new thing at a, which may change: it is on nobody's list yet -/
theorem Sim.room (I : Sim K Γ L δ σ S H) {a : Addr} {u : HO} (ha : H a = none) : Sim K Γ (a :: L) δ σ S (upd H a u) := by
  have f : ∀ {P : List Addr}, Fr K P H (upd H a u) := .new ha
  have nL : a ∉ L := fun z => I.live a z ha
  have mo : ∀ {s : Sv} {v : V}, SlR K Γ L σ H s v → SlR K Γ (a :: L) σ (upd H a u) s v := fun h =>
    (h.more ha).mono (P := []) f (fun _ z => nomatch z) fun b hb => List.mem_cons_of_mem _ (I.sub b hb)
  exact { I with
    fr := I.fr.up ha
    pens := fun p hp => (I.pens p hp).up ha
    sub := fun b hb => List.mem_cons_of_mem _ (I.sub b hb)
    live := fun b hb => by
      by_cases e : b = a
      · rw [e, upd_same]; exact fun z => nomatch z
      · rw [upd_ne e]; exact I.live b ((List.mem_cons.mp hb).elim (fun z => absurd z e) id)
    old := fun b hb => (List.mem_cons.mp hb).elim (fun e => .inr (by rw [e]; exact I.fr.free _ ha)) (I.old b)
    slot := fun i s e => let ⟨n, v, e1, e2⟩ := I.slot i s e; ⟨n, v, e1, mo e2⟩
    stk := fun p hp => mo (I.stk p hp)
    obj := fun b o e => by
      obtain ⟨h1, h2⟩ := I.obj b o e
      refine ⟨⟨List.mem_cons_of_mem _ h1.1, h1.2⟩, ?_⟩
      exact (h2.sub fun c hc => (List.mem_cons.mp hc).elim (fun e => .inr (e ▸ ha)) .inl).mono (P := []) f (fun _ z => nomatch z) (fun z => nomatch z) }
/-- a new list of what is told, owned by the stack -/
theorem Sim.new (I : Sim K Γ L δ σ S H) {a : Addr} {ds : List PyData} {xs : List V} (ha : H a = none) (h : Dvs K L H ds xs) : Sim K Γ (a :: L) δ σ ((.own ds, .ref a) :: S) (upd H a (.lst xs)) := by
  have J := I.room (u := .lst xs) ha
  have nL : a ∉ L := fun z => I.live a z ha
  have ne : ∀ {s : Sv} {v : V}, SlR K Γ L σ H s v → isOwn s = true → v ≠ .ref a := fun h o e => by
    obtain ⟨b, ys, e1, h1, _, _⟩ := h.at_own o
    rw [e] at e1
    cases e1
    exact nL h1
  have md : Dvs K (a :: L) (upd H a (.lst xs)) ds xs :=
    (h.sub fun b hb => (List.mem_cons.mp hb).elim (fun e => .inr (e ▸ ha)) .inl).mono (P := []) (.new ha) fun _ z => nomatch z
  exact { J with
    stk := fun p hp => (List.mem_cons.mp hp).elim (fun e => by
      rw [e]
      exact ⟨a, xs, rfl, List.mem_cons_self .., fun z => nL (I.sub a z), upd_same, md⟩) fun hp => J.stk p hp
    nal := fun p hp => (List.mem_cons.mp hp).elim (fun e j => by rw [e]; exact fun z => (nomatch z)) (J.nal p)
    sepS := fun i s v e o ev p hp ho => (List.mem_cons.mp hp).elim (fun e2 => by
      obtain ⟨_, w, e1, e3⟩ := I.slot i s e
      rw [ev] at e1
      cases e1
      rw [e2]
      exact fun z => ne e3 o z.symm) fun hp => I.sepS i s v e o ev p hp ho
    sepT := List.pairwise_cons.mpr ⟨fun q hq _ h2 z => ne (I.stk q hq) h2 z.symm, I.sepT⟩
    sepB := fun p hp ho b eb => (List.mem_cons.mp hp).elim (fun e2 => by
      rw [e2] at eb
      cases eb
      exact (I.fresh ha).1) fun hp => I.sepB p hp ho b eb }
theorem SlR.less {a : Addr} : ∀ {s : Sv} {v : V}, SlR K Γ L σ H s v → (isOwn s = true → v ≠ .ref a) → SlR K Γ (L.filter fun b => decide (b ≠ a)) σ H s v
  | .dat _, _, h, _ => Dv.sub (fun b hb => .inl (List.mem_filter.mp hb).1) h
  | .pen _, _, h, _ => h
  | .own _, _, ⟨b, xs, e, h1, h2, h3, h4⟩, n => ⟨b, xs, e, List.mem_filter.mpr ⟨h1, decide_eq_true fun z => n rfl (by rw [e, z])⟩, h2, h3, Dvs.sub (fun c hc => .inl (List.mem_filter.mp hc).1) h4⟩
  | .ali _, _, h, _ => h
  | .fn _, _, h, _ => h
  | .ref _, _, h, _ => h
/-- an address that nothing owns any longer may not change any longer -/
theorem Sim.shrink (I : Sim K Γ L δ σ S H) {a : Addr} (h0 : a ∉ Γ.L0) (h1 : ∀ (i : Nat) (s : Sv) (v : V), δ.sl[i]? = some (some s) → isOwn s = true → σ[i]? = some (some v) → v ≠ .ref a) (h2 : ∀ p ∈ S, isOwn p.1 = true → p.2 ≠ .ref a) (h3 : δ.al a = none) :
    Sim K Γ (L.filter fun b => decide (b ≠ a)) δ σ S H :=
  { I with
    sub := fun b hb => List.mem_filter.mpr ⟨I.sub b hb, decide_eq_true fun z => h0 (z ▸ hb)⟩
    live := fun b hb => I.live b (List.mem_filter.mp hb).1
    old := fun b hb => I.old b (List.mem_filter.mp hb).1
    slot := fun i s e => let ⟨n, v, e1, e2⟩ := I.slot i s e; ⟨n, v, e1, e2.less fun o => h1 i s v e o e1⟩
    stk := fun p hp => (I.stk p hp).less (h2 p hp)
    obj := fun b o e => by
      obtain ⟨q1, q2⟩ := I.obj b o e
      refine ⟨⟨List.mem_filter.mpr ⟨q1.1, decide_eq_true fun z => ?_⟩, q1.2⟩, q2.sub fun c hc => .inl (List.mem_filter.mp hc).1⟩
      subst z
      rw [h3] at e
      cases e }
theorem get_set {α : Type} {l : List α} {i j : Nat} {x y : α} (h : (l.set i x)[j]? = some y) : (i = j ∧ y = x ∧ i < l.length) ∨ (i ≠ j ∧ l[j]? = some y) := by
  rw [List.getElem?_set] at h
  by_cases e : i = j
  · subst e
    rw [if_pos rfl] at h
    split at h
    · rename_i q
      exact .inl ⟨rfl, (Option.some.inj h).symm, q⟩
    · cases h
  · rw [if_neg e] at h
    exact .inr ⟨e, h⟩
/-- what slot i holds is forgotten -/
theorem Sim.forget (I : Sim K Γ L δ σ S H) (k : Nat) : Sim K Γ L (δ.put k none) σ S H :=
  { I with
    len := by
      show (δ.sl.set k none).length = _
      rw [List.length_set]; exact I.len
    slot := fun i s e => (get_set e).elim (fun h => nomatch h.2.1) fun h => I.slot i s h.2
    sep := fun i j s t v n e1 e2 => (get_set e1).elim (fun h => nomatch h.2.1) fun h1 => (get_set e2).elim (fun h => nomatch h.2.1) fun h2 => I.sep i j s t v n h1.2 h2.2
    sepS := fun i s v e => (get_set e).elim (fun h => nomatch h.2.1) fun h => I.sepS i s v h.2
    sepA := fun i s a e => (get_set e).elim (fun h => nomatch h.2.1) fun h => I.sepA i s a h.2 }
/-- what slot k holds is known -/
theorem Sim.know (I : Sim K Γ L δ σ S H) {k : Nat} {s : Sv} {v : V} (hv : σ[k]? = some (some v)) (h : SlR K Γ L σ H s v) (n : isOwn s = false) (na : ∀ j, s ≠ .ali j) : Sim K Γ L (δ.put k (some s)) σ S H := by
  have no : ∀ {t : Sv}, some t = some s → isOwn t = true → False := fun e o => by
    cases e
    rw [n] at o
    cases o
  exact { I with
    len := by
      show (δ.sl.set k (some s)).length = _
      rw [List.length_set]; exact I.len
    slot := fun i t e => (get_set e).elim (fun ⟨e1, e2, _⟩ => by cases e1; cases e2; exact ⟨na, v, hv, h⟩) fun h => I.slot i t h.2
    sep := fun i j t u w ne e1 e2 o1 o2 => (get_set e1).elim (fun h => (no h.2.1 o1).elim) fun h1 => (get_set e2).elim (fun h => (no h.2.1 o2).elim) fun h2 => I.sep i j t u w ne h1.2 h2.2 o1 o2
    sepS := fun i t w e o => (get_set e).elim (fun h => (no h.2.1 o).elim) fun h => I.sepS i t w h.2 o
    sepA := fun i t a e o => (get_set e).elim (fun h => (no h.2.1 o).elim) fun h => I.sepA i t a h.2 o }
/-- the top is stored in slot k -/
theorem Sim.store {s : Sv} {v : V} (I : Sim K Γ L δ σ ((s, v) :: S) H) (k : Nat) : Sim K Γ L (δ.put k (some s)) (σ.set k (some v)) S H := by
  have J := I.pop
  have ht := I.top
  have na := I.nal _ (List.mem_cons_self ..)
  have mo : ∀ {t : Sv} {u : V}, (∀ j, t ≠ .ali j) → SlR K Γ L σ H t u → SlR K Γ L (σ.set k (some v)) H t u := fun {t u} n h => by
    cases t with
    | ali j => exact absurd rfl (n j)
    | _ => exact h
  have at_ : ∀ {i : Nat} {t : Sv}, (δ.sl.set k (some s))[i]? = some (some t) → (k = i ∧ t = s ∧ (σ.set k (some v))[i]? = some (some v)) ∨ (k ≠ i ∧ δ.sl[i]? = some (some t) ∧ (σ.set k (some v))[i]? = σ[i]?) := fun {i t} e => by
    rcases get_set e with ⟨e1, e2, e3⟩ | ⟨e1, e2⟩
    · subst e1
      refine .inl ⟨rfl, Option.some.inj e2, ?_⟩
      rw [List.getElem?_set, if_pos rfl, if_pos (by rw [← I.len]; exact e3)]
    · exact .inr ⟨e1, e2, by rw [List.getElem?_set, if_neg e1]⟩
  exact { J with
    len := by
      show (δ.sl.set k (some s)).length = _
      rw [List.length_set, List.length_set]; exact J.len
    slot := fun i t e => by
      rcases at_ e with ⟨_, e2, e3⟩ | ⟨_, e2, e3⟩
      · subst e2
        exact ⟨na, v, e3, mo na ht⟩
      · obtain ⟨n, w, e4, e5⟩ := J.slot i t e2
        exact ⟨n, w, by rw [e3]; exact e4, mo n e5⟩
    stk := fun p hp => mo (J.nal p hp) (J.stk p hp)
    sep := fun i j t u w ne e1 e2 o1 o2 f1 => by
      rcases at_ e1 with ⟨a1, a2, a3⟩ | ⟨a1, a2, a3⟩
      · rcases at_ e2 with ⟨b1, b2, b3⟩ | ⟨b1, b2, b3⟩
        · exact absurd (a1.symm.trans b1) ne
        · rw [a3] at f1
          cases f1
          rw [b3]
          intro z
          subst a2
          exact I.sepS j u v b2 o2 z (t, v) (List.mem_cons_self ..) o1 rfl
      · rcases at_ e2 with ⟨b1, b2, b3⟩ | ⟨b1, b2, b3⟩
        · rw [b3]
          intro z
          cases z
          rw [a3] at f1
          subst b2
          exact I.sepS i t v a2 o1 f1 (u, v) (List.mem_cons_self ..) o2 rfl
        · rw [a3] at f1
          rw [b3]
          exact J.sep i j t u w ne a2 b2 o1 o2 f1
    sepS := fun i t w e o f1 p hp ho => by
      rcases at_ e with ⟨a1, a2, a3⟩ | ⟨a1, a2, a3⟩
      · rw [a3] at f1
        cases f1
        subst a2
        exact fun z => (List.pairwise_cons.mp I.sepT).1 p hp o ho z.symm
      · rw [a3] at f1
        exact J.sepS i t w a2 o f1 p hp ho
    sepA := fun i t a e o f1 => by
      rcases at_ e with ⟨a1, a2, a3⟩ | ⟨a1, a2, a3⟩
      · rw [a3] at f1
        cases f1
        subst a2
        exact I.sepB (t, .ref a) (List.mem_cons_self ..) o a rfl
      · rw [a3] at f1
        exact J.sepA i t a a2 o f1 }
/-- a new object -/
theorem Sim.newOb (I : Sim K Γ L δ σ S H) {a : Addr} {u : HO} {o : Ob} (ha : H a = none) (hr : ObR K (a :: L) (upd H a u) a o) : Sim K Γ (a :: L) (δ.know (oup δ.al a o)) σ S (upd H a u) := by
  have J := I.room (u := u) ha
  have nL : a ∉ L := fun z => I.live a z ha
  exact { J with
    obj := fun b ob e => by
      by_cases z : b = a
      · subst z
        have e' : oup δ.al b o b = some ob := e
        rw [oup_same] at e'
        cases e'
        exact ⟨⟨List.mem_cons_self .., fun z => nL (I.sub _ (I.pin0 _ z)), .inr (I.fr.free _ ha)⟩, hr⟩
      · have e' : oup δ.al a o b = some ob := e
        rw [oup_ne z] at e'
        exact J.obj b ob e'
    sepA := fun i s b e os f => by
      show oup δ.al a o b = none
      obtain ⟨_, v, e1, e2⟩ := I.slot i s e
      rw [f] at e1
      cases e1
      obtain ⟨c, xs, e3, h1, _⟩ := e2.at_own os
      cases e3
      rw [oup_ne (show b ≠ a from fun z => nL (z ▸ h1))]
      exact I.sepA i s b e os f
    sepB := fun p hp os b eb => by
      show oup δ.al a o b = none
      obtain ⟨c, xs, e3, h1, _⟩ := (I.stk p hp).at_own os
      rw [eb] at e3
      cases e3
      rw [oup_ne (show b ≠ a from fun z => nL (z ▸ h1))]
      exact I.sepB p hp os b eb }
/-- a known object is written -/
theorem Sim.wrOb (I : Sim K Γ L δ σ S H) {a : Addr} {u : HO} {o o' : Ob} (ha : δ.al a = some o) (hr : ObR K L (upd H a u) a o') (mu : o.mu := by exact True.intro) : Sim K Γ L (δ.know (oup δ.al a o')) σ S (upd H a u) := by
  obtain ⟨⟨aL, aP, aW⟩, hO⟩ := I.obj a o ha
  obtain ⟨u0, e0, m0⟩ := hO.some mu
  have f : Fr K [a] H (upd H a u) := .wr e0 m0 (by simp)
  have inL : ∀ b ∈ [a], b ∈ L := fun b hb => by cases List.mem_singleton.mp hb; exact aL
  have mo : ∀ {s : Sv} {v : V}, SlR K Γ L σ H s v → (isOwn s = true → v ≠ .ref a) → SlR K Γ L σ (upd H a u) s v := fun {s v} h n => by
    cases s with
    | dat d => exact Dv.mono f inL h
    | own ds =>
      obtain ⟨b, xs, e, h1, h2, h3, h4⟩ := h
      have ne : b ≠ a := fun z => n rfl (by rw [e, z])
      exact ⟨b, xs, e, h1, h2, by rw [upd_ne ne]; exact h3, Dvs.mono f inL h4⟩
    | _ => exact h
  have nS : ∀ {i : Nat} {s : Sv} {v : V}, δ.sl[i]? = some (some s) → σ[i]? = some (some v) → isOwn s = true → v ≠ .ref a := fun e ev os z => by
    subst z
    have := I.sepA _ _ a e os ev
    rw [ha] at this
    cases this
  have nT : ∀ p ∈ S, isOwn p.1 = true → p.2 ≠ .ref a := fun p hp os z => by
    have := I.sepB p hp os a z
    rw [ha] at this
    cases this
  exact { I with
    fr := by
      rcases aW with z | z
      · exact I.fr.trans (.wr e0 m0 z)
      · exact I.fr.put e0 m0 (.inr z)
    pens := fun p hp => by
      have ne : p ≠ a := fun z => aP (z ▸ hp)
      exact (I.pens p hp).fr f fun z => ne (List.mem_singleton.mp z)
    live := fun b hb => by
      by_cases z : b = a
      · rw [z, upd_same]; exact fun z => (nomatch z)
      · rw [upd_ne z]; exact I.live b hb
    slot := fun i s e => let ⟨n, v, e1, e2⟩ := I.slot i s e; ⟨n, v, e1, mo e2 (nS e e1)⟩
    stk := fun p hp => mo (I.stk p hp) (nT p hp)
    obj := fun b ob e => by
      have e' : oup δ.al a o' b = some ob := e
      by_cases z : b = a
      · subst z
        rw [oup_same] at e'
        cases e'
        exact ⟨⟨aL, aP, aW⟩, hr⟩
      · rw [oup_ne z] at e'
        obtain ⟨h1, h2⟩ := I.obj b ob e'
        exact ⟨h1, h2.mono f inL fun q => z (List.mem_singleton.mp q)⟩
    sepA := fun i s b e os f => by
      show oup δ.al a o' b = none
      have := I.sepA i s b e os f
      rw [oup_ne (show b ≠ a from fun z => by rw [z, ha] at this; cases this)]
      exact this
    sepB := fun p hp os b eb => by
      show oup δ.al a o' b = none
      have := I.sepB p hp os b eb
      rw [oup_ne (show b ≠ a from fun z => by rw [z, ha] at this; cases this)]
      exact this }
/-- a list under construction becomes a known object -/
theorem Sim.toRef {ds : List PyData} {a : Addr} (I : Sim K Γ L δ σ ((.own ds, .ref a) :: S) H) : δ.al a = none ∧ a ∉ Γ.L0 ∧ Sim K Γ L (δ.know (oup δ.al a (.lst (ds.map .dat)))) σ S H := by
  obtain ⟨b, xs, eb, h1, h2, h3, h4⟩ := I.top
  cases eb
  have hn := I.sepB _ (List.mem_cons_self ..) rfl a rfl
  have sv : ∀ {ds : List PyData} {xs : List V}, Dvs K L H ds xs → SvIs K L H (ds.map .dat) xs := by
    intro ds
    induction ds with
    | nil => exact fun h => h
    | cons d ds ih => exact fun ⟨x, r, e, q1, q2⟩ => ⟨x, r, e, q1, ih q2⟩
  have J := I.pop
  refine ⟨hn, h2, ?_⟩
  exact { J with
    obj := fun c o e => by
      have e' : oup δ.al a (.lst (ds.map .dat)) c = some o := e
      by_cases z : c = a
      · subst z
        rw [oup_same] at e'
        cases e'
        exact ⟨⟨h1, fun z => h2 (I.pin0 _ z), .inr ((I.old c h1).resolve_left h2)⟩, xs, h3, sv h4⟩
      · rw [oup_ne z] at e'
        exact J.obj c o e'
    sepA := fun i s c e os f => by
      show oup δ.al a _ c = none
      rw [oup_ne (show c ≠ a from fun z => by subst z; exact I.sepS i s _ e os f _ (List.mem_cons_self ..) rfl rfl)]
      exact J.sepA i s c e os f
    sepB := fun p hp os c ec => by
      show oup δ.al a _ c = none
      rw [oup_ne (show c ≠ a from fun z => by subst z; exact (List.pairwise_cons.mp I.sepT).1 p hp rfl os ec.symm)]
      exact J.sepB p hp os c ec }
end
end B
namespace B
open PySem PySem.Spec PyProof.Rows L2
def Top (K : PySem.W.Frag) (Γ : Gm) (L : List Addr) (δ : Dn) (σ : L2.St) (S : List (Sv × V)) (H : Hp) : Sv → V → Prop
  | .ali i, v => Sim K Γ L δ σ S H ∧ σ[i]? = some (some v)
  | s, v => Sim K Γ L δ σ ((s, v) :: S) H
/-- as data: a list that a slot owns is let go -/
def asD (s : Sv) (δ : Dn) (k : PyData → Dn → Prop) : Prop :=
  match s with
  | .dat d => k d δ
  | .own ds => k (.list ds) δ
  | .pen _ => False
  | .fn _ => False
  | .ref _ => False
  | .ali i => match δ.at_ i with
    | some (.own ds) => k (.list ds) (δ.put i (some (.dat (.list ds))))
    | some (.dat d) => k d δ
    | _ => False
/-- as an argument: data, or a pen -/
def asA (s : Sv) (δ : Dn) (k : Sv → Dn → Prop) : Prop :=
  match s with
  | .pen p => k (.pen p) δ
  | .fn a => k (.fn a) δ
  | .ref a => k (.ref a) δ
  | s => asD s δ fun d δ' => k (.dat d) δ'
theorem at_some {δ : Dn} {i : Nat} {x : Sv} (h : δ.at_ i = some x) : δ.sl[i]? = some (some x) := by
  unfold Dn.at_ at h
  rw [List.getD_eq_getElem?_getD] at h
  cases e : δ.sl[i]? with
  | none => rw [e] at h; cases h
  | some y => rw [e] at h; exact congrArg some h
theorem getD_some {α : Type} {l : List (Option α)} {i : Nat} {x : α} (h : l.getD i none = some x) : l[i]? = some (some x) := by
  rw [List.getD_eq_getElem?_getD] at h
  cases e : l[i]? with
  | none => rw [e] at h; cases h
  | some y => rw [e] at h; exact congrArg some h
section
variable {K : PySem.W.Frag} {Γ : Gm} {L : List Addr} {δ : Dn} {σ : L2.St} {S : List (Sv × V)} {H H' : Hp} {s : Sv} {v : V}
theorem Sim.own_dat {ds : List PyData} (I : Sim K Γ L δ σ ((.own ds, v) :: S) H) : ∃ L', Sim K Γ L' δ σ ((.dat (.list ds), v) :: S) H := by
  obtain ⟨a, xs, rfl, h1, h2, h3, h4⟩ := I.top
  have J := I.pop.shrink (a := a) h2 (fun i s w e o ew z => I.sepS i s w e o ew (.own ds, .ref a) (List.mem_cons_self ..) rfl z.symm)
    (fun p hp o z => (List.pairwise_cons.mp I.sepT).1 p hp rfl o z.symm) (I.sepB _ (List.mem_cons_self ..) rfl a rfl)
  exact ⟨_, J.push (s := .dat (.list ds)) ⟨a, xs, rfl, fun z => of_decide_eq_true (List.mem_filter.mp z).2 rfl, h3, h4.sub fun c hc => .inl (List.mem_filter.mp hc).1⟩ rfl fun _ z => nomatch z⟩
theorem Sim.ali_dat {ds : List PyData} {i : Nat} (I : Sim K Γ L δ σ S H) (hv : σ[i]? = some (some v)) (hd : δ.sl[i]? = some (some (.own ds))) : ∃ L', Sim K Γ L' (δ.put i (some (.dat (.list ds)))) σ ((.dat (.list ds), v) :: S) H := by
  obtain ⟨_, w, e1, a, xs, rfl, h1, h2, h3, h4⟩ := I.slot i _ hd
  rw [hv] at e1
  cases e1
  have F := I.forget i
  have J := F.shrink (a := a) h2 (fun j s w e o ew z => (get_set e).elim (fun h => nomatch h.2.1) fun h => I.sep i j (.own ds) s (.ref a) h.1 hd h.2 rfl o hv (z ▸ ew))
    (fun p hp o z => I.sepS i _ (.ref a) hd rfl hv p hp o z) (I.sepA i _ a hd rfl hv)
  have d : Dv K (L.filter fun b => decide (b ≠ a)) H (.list ds) (.ref a) := ⟨a, xs, rfl, fun z => of_decide_eq_true (List.mem_filter.mp z).2 rfl, h3, h4.sub fun c hc => .inl (List.mem_filter.mp hc).1⟩
  have W := J.know (k := i) (s := .dat (.list ds)) hv d rfl fun _ z => nomatch z
  rw [put_put] at W
  exact ⟨_, W.push (s := .dat (.list ds)) d rfl fun _ z => nomatch z⟩
theorem Top.dat {k : PyData → Dn → Prop} (T : Top K Γ L δ σ S H s v) (h : asD s δ k) : ∃ L' δ' d, Sim K Γ L' δ' σ ((.dat d, v) :: S) H ∧ k d δ' := by
  cases s with
  | dat d => exact ⟨L, δ, d, T, h⟩
  | pen p => exact h.elim
  | fn a => exact h.elim
  | ref a => exact h.elim
  | own ds =>
    obtain ⟨L', J⟩ := Sim.own_dat T
    exact ⟨L', δ, _, J, h⟩
  | ali i =>
    obtain ⟨I, hv⟩ := T
    unfold asD at h
    dsimp only at h
    split at h
    · rename_i ds e
      obtain ⟨L', J⟩ := I.ali_dat hv (at_some e)
      exact ⟨L', _, _, J, h⟩
    · rename_i d e
      obtain ⟨_, w, e1, e2⟩ := I.slot i _ (at_some e)
      rw [hv] at e1
      cases e1
      exact ⟨L, δ, d, (I.push (s := .dat d) e2 rfl fun _ z => nomatch z), h⟩
    · exact h.elim
theorem Top.arg {k : Sv → Dn → Prop} (T : Top K Γ L δ σ S H s v) (h : asA s δ k) : ∃ L' δ' t, Sim K Γ L' δ' σ ((t, v) :: S) H ∧ isOwn t = false ∧ k t δ' := by
  cases s with
  | pen p => exact ⟨L, δ, _, T, rfl, h⟩
  | fn a => exact ⟨L, δ, _, T, rfl, h⟩
  | ref a => exact ⟨L, δ, _, T, rfl, h⟩
  | dat d => exact ⟨L, δ, _, T, rfl, h⟩
  | own ds =>
    obtain ⟨L', δ', d, J, q⟩ := T.dat (s := .own ds) (k := fun d δ' => k (.dat d) δ') h
    exact ⟨L', δ', _, J, rfl, q⟩
  | ali i =>
    obtain ⟨L', δ', d, J, q⟩ := T.dat (s := .ali i) (k := fun d δ' => k (.dat d) δ') h
    exact ⟨L', δ', _, J, rfl, q⟩
theorem Sim.pens_new (I : Sim K Γ L δ σ S H) (f : Fr K [] H H') : ∀ p ∈ Γ.P, Pen H' p := fun p hp => (I.pens p hp).fr f fun z => nomatch z
theorem Sim.more (I : Sim K Γ L δ σ S H) (f : Fr K [] H H') : Sim K Γ L δ σ S H' := I.keep (f.mono fun l z => nomatch z) (I.pens_new f)
theorem Sim.dat (I : Sim K Γ L δ σ S H) {d : PyData} (h : Dv K L H d v) : Sim K Γ L δ σ ((.dat d, v) :: S) H := I.push (s := .dat d) h rfl fun _ z => nomatch z
end
/-- an expression's reading by its transformer -/
class DE (K : PySem.W.Frag) (Γ : Gm) (t : TE) (f : outParam (Dn → (Sv → Dn → Prop) → Prop)) : Prop where
  run : ∀ {L : List Addr} {δ : Dn} {σ : L2.St} {S : List (Sv × V)} {H : Hp} {Φ : Sv → Dn → Prop} {Q : VK}, Sim K Γ L δ σ S H → f δ Φ →
    (∀ s L' δ' v H', Top K Γ L' δ' σ S H' s v → Φ s δ' → Q v H') → t σ H Q
/-- a test's -/
class DT (K : PySem.W.Frag) (Γ : Gm) (t : TT) (f : outParam (Dn → (Bool → Dn → Prop) → Prop)) : Prop where
  run : ∀ {L : List Addr} {δ : Dn} {σ : L2.St} {S : List (Sv × V)} {H : Hp} {Φ : Bool → Dn → Prop} {Q : Bool → Hp → Prop}, Sim K Γ L δ σ S H → f δ Φ →
    (∀ b L' δ' H', Sim K Γ L' δ' σ S H' → Φ b δ' → Q b H') → t σ H Q
/-- arguments: data and pens -/
def AR (K : PySem.W.Frag) (Γ : Gm) (L : List Addr) (H : Hp) : List Sv → List V → Prop
  | [], vs => vs = []
  | s :: ss, vs => ∃ v r, vs = v :: r ∧ SlR K Γ L [] H s v ∧ isOwn s = false ∧ (∀ j, s ≠ .ali j) ∧ AR K Γ L H ss r
class DA (K : PySem.W.Frag) (Γ : Gm) (t : TA) (f : outParam (Dn → (List Sv → Dn → Prop) → Prop)) : Prop where
  run : ∀ {L : List Addr} {δ : Dn} {σ : L2.St} {S : List (Sv × V)} {H : Hp} {Φ : List Sv → Dn → Prop} {Q : List V → Hp → Prop}, Sim K Γ L δ σ S H → f δ Φ →
    (∀ ss L' δ' vs H', Sim K Γ L' δ' σ S H' → AR K Γ L' H' ss vs → Φ ss δ' → Q vs H') → t σ H Q
/-- data of arguments -/
def datas : List Sv → Option (List PyData)
  | [] => some []
  | .dat d :: ss => (datas ss).map fun ds => d :: ds
  | _ :: _ => none
def allD (ss : List Sv) (k : List PyData → Prop) : Prop := match datas ss with
  | some ds => k ds
  | none => False
theorem AR.data {K : PySem.W.Frag} {Γ : Gm} {L : List Addr} {H : Hp} : ∀ {ss : List Sv} {vs : List V} {ds : List PyData}, AR K Γ L H ss vs → datas ss = some ds → Dvs K L H ds vs
  | [], _, ds, h, e => by cases e; exact h
  | .dat d :: ss, _, ds, ⟨v, r, e1, h1, _, _, h2⟩, e => by
    unfold datas at e
    cases e3 : datas ss with
    | none => rw [e3] at e; cases e
    | some es => rw [e3] at e; cases e; exact ⟨v, r, e1, h1, h2.data e3⟩
  | .pen _ :: _, _, _, _, e => by cases e
  | .own _ :: _, _, _, _, e => by cases e
  | .ali _ :: _, _, _, _, e => by cases e
  | .fn _ :: _, _, _, _, e => by cases e
  | .ref _ :: _, _, _, _, e => by cases e
/-- a scalar of the values -/
def dV : V → Option PyData
  | .non => some .none
  | .bl b => some (.bool b)
  | .int i => some (.int i)
  | .str x => some (.str x)
  | _ => none
theorem dV_dv {K : PySem.W.Frag} {L : List Addr} {H : Hp} {v : V} {d : PyData} (h : dV v = some d) : Dv K L H d v := by
  cases v <;> (unfold dV at h; cases h) <;> exact rfl
def sca (v : V) (k : PyData → Prop) : Prop := match dV v with
  | some d => k d
  | none => False
section
variable {K : PySem.W.Frag} {Γ : Gm}
theorem DE.data {t : TE} {f : Dn → (Sv → Dn → Prop) → Prop} [T : DE K Γ t f] {L : List Addr} {δ : Dn} {σ : L2.St} {S : List (Sv × V)} {H : Hp} {k : PyData → Dn → Prop} {Q : VK} (I : Sim K Γ L δ σ S H) (h : f δ fun s δ' => asD s δ' k)
    (q : ∀ d L' δ' v H', Sim K Γ L' δ' σ ((.dat d, v) :: S) H' → k d δ' → Q v H') : t σ H Q :=
  T.run I h fun s L' δ' v H' tp a => let ⟨L2, δ2, d, J, hk⟩ := tp.dat a; q d L2 δ2 v H' J hk
def varD (i : Nat) (δ : Dn) (Φ : Sv → Dn → Prop) : Prop := match δ.at_ i with
  | some (.dat d) => Φ (.dat d) δ
  | some (.pen p) => Φ (.pen p) δ
  | some (.own _) => Φ (.ali i) δ
  | some (.fn a) => Φ (.fn a) δ
  | some (.ref a) => Φ (.ref a) δ
  | _ => False
instance {i : Nat} : DE K Γ (tVar i) (varD i) := ⟨fun {L δ σ S H Φ Q} I h q => by
  unfold varD at h
  split at h
  · rename_i d e
    obtain ⟨n, v, e1, e2⟩ := I.slot i _ (at_some e)
    exact ⟨v, e1, q (.dat d) L δ v H (I.dat e2) h⟩
  · rename_i p e
    obtain ⟨n, v, e1, e2⟩ := I.slot i _ (at_some e)
    exact ⟨v, e1, q (.pen p) L δ v H (I.push (s := .pen p) e2 rfl fun _ z => nomatch z) h⟩
  · rename_i ds e
    obtain ⟨n, v, e1, e2⟩ := I.slot i _ (at_some e)
    exact ⟨v, e1, q (.ali i) L δ v H ⟨I, e1⟩ h⟩
  · rename_i a e
    obtain ⟨n, v, e1, e2⟩ := I.slot i _ (at_some e)
    exact ⟨v, e1, q (.fn a) L δ v H (I.push (s := .fn a) e2 rfl fun _ z => nomatch z) h⟩
  · rename_i a e
    obtain ⟨n, v, e1, e2⟩ := I.slot i _ (at_some e)
    exact ⟨v, e1, q (.ref a) L δ v H (I.push (s := .ref a) e2 rfl fun _ z => nomatch z) h⟩
  · exact h.elim⟩
instance {v : V} : DE K Γ (tC v) (fun δ Φ => sca v fun d => Φ (.dat d) δ) := ⟨fun {L δ σ S H Φ Q} I h q => by
  unfold sca at h
  split at h
  · rename_i d e
    exact q (.dat d) L δ v H (I.dat (dV_dv e)) h
  · exact h.elim⟩
instance : DA K Γ tNil (fun δ Φ => Φ [] δ) := ⟨fun {L δ σ S H Φ Q} I h q => q [] L δ [] H I rfl h⟩
instance {te : TE} {tr : TA} {f : Dn → (Sv → Dn → Prop) → Prop} {g : Dn → (List Sv → Dn → Prop) → Prop} [E : DE K Γ te f] [R : DA K Γ tr g] :
    DA K Γ (tCons te tr) (fun δ Φ => f δ fun s δ1 => asA s δ1 fun t δ2 => g δ2 fun ss δ3 => Φ (t :: ss) δ3) := ⟨fun {L δ σ S H Φ Q} I h q => by
  refine E.run I h fun s L1 δ1 v H1 T h1 => ?_
  obtain ⟨L2, δ2, t, J, no, h2⟩ := T.arg h1
  refine R.run J h2 fun ss L3 δ3 vs H3 J3 ar h3 => ?_
  refine q (t :: ss) L3 δ3 (v :: vs) H3 J3.pop ⟨v, vs, rfl, ?_, no, J3.nal _ (List.mem_cons_self ..), ar⟩ h3
  have tp := J3.top
  cases t with
  | ali j => exact absurd rfl (J3.nal _ (List.mem_cons_self ..) j)
  | _ => exact tp⟩
instance {t : TA} {f : Dn → (List Sv → Dn → Prop) → Prop} [A : DA K Γ t f] : DE K Γ (tTupZ t) (fun δ Φ => f δ fun ss δ1 => allD ss fun ds => ds.length ≤ 1000000 ∧ Φ (.dat (.tuple ds)) δ1) := ⟨fun {L δ σ S H Φ Q} I h q => by
  refine A.run I h fun ss L1 δ1 vs H1 J ar h1 => ?_
  unfold allD at h1
  split at h1
  · rename_i ds e
    have dv := ar.data e
    have e2 := dv.len
    refine ⟨by rw [e2]; exact Nat.le_trans h1.1 (by decide), fun p o np od => q (.dat (.tuple ds)) L1 δ1 _ _ ((J.more (.new np)).dat ⟨p, vs, rfl, .made od, dv.mono (P := []) (.new np) fun _ z => nomatch z⟩) h1.2⟩
  · exact h1.elim⟩
instance {t : TA} {f : Dn → (List Sv → Dn → Prop) → Prop} [A : DA K Γ t f] : DE K Γ (tLst t) (fun δ Φ => f δ fun ss δ1 => allD ss fun ds => ds.length ≤ 1000000 ∧ Φ (.own ds) δ1) := ⟨fun {L δ σ S H Φ Q} I h q => by
  refine A.run I h fun ss L1 δ1 vs H1 J ar h1 => ?_
  unfold allD at h1
  split at h1
  · rename_i ds e
    have dv := ar.data e
    have e2 := dv.len
    refine ⟨by rw [e2]; exact Nat.le_trans h1.1 (by decide), fun p np => q (.own ds) _ δ1 _ _ (J.new np dv) h1.2⟩
  · exact h1.elim⟩
end
end B
namespace B
open PySem PySem.Spec PyProof.Rows L2
section
variable {K : PySem.W.Frag} {L : List Addr} {H : Hp}
theorem Dv.ty : ∀ {d : PyData} {v : V}, Dv K L H d v → TyX K H v (.type (tyD d))
  | .none, _, h => by cases h; exact .base .non
  | .bool _, _, h => by cases h; exact .base (.bl _)
  | .int _, _, h => by cases h; exact .base (.int _)
  | .str _, _, h => by cases h; exact .base (.str _)
  | .tuple ds, _, ⟨a, xs, e, t, r⟩ => by cases e; exact sqT_ty t.sq
  | .list ds, _, ⟨a, xs, e, n, t, r⟩ => by cases e; exact sqL_ty (sqL_of t)
  | .dict _, _, ⟨_, a, e, _, t⟩ => by cases e; exact .base (.dK t)
end
/-- an operator of two values: its transformer over data -/
class DR (K : PySem.W.Frag) (Γ : Gm) (r : R2) (g : outParam (PyData → PyData → (PyData → Prop) → Prop)) : Prop where
  run : ∀ {L : List Addr} {H : Hp} {x y : PyData} {v u : V} {Φ : PyData → Prop} {Q : VK}, Dv K L H x v → Dv K L H y u → g x y Φ → (∀ d w H', Fr K [] H H' → Dv K L H' d w → Φ d → Q w H') → r v u H Q
section
variable {K : PySem.W.Frag} {Γ : Gm}
theorem sca_run {L : List Addr} {H : Hp} {v : V} {Φ : PyData → Prop} {Q : VK} (h : sca v Φ) (q : ∀ d w H', Fr K [] H H' → Dv K L H' d w → Φ d → Q w H') : Q v H := by
  unfold sca at h
  split at h
  · rename_i d e
    exact q d v H (.refl _ _) (dV_dv e) h
  · exact h.elim
def onI (x : PyData) (k : Int → Prop) : Prop := match x with
  | .int i => k i
  | _ => False
theorem onI_run {L : List Addr} {H : Hp} {K : PySem.W.Frag} {x : PyData} {v : V} {k : Int → Prop} (d : Dv K L H x v) (h : onI x k) : ∃ i, x = .int i ∧ v = .int i ∧ k i := by
  cases x <;> first | exact h.elim | exact ⟨_, rfl, d, h⟩
instance {g : Int → Int → V} : DR K Γ (rI0 g) (fun x y Φ => onI x fun i => onI y fun j => sca (g i j) Φ) := ⟨fun dx dy h q => by
  obtain ⟨i, rfl, rfl, h1⟩ := onI_run dx h
  obtain ⟨j, rfl, rfl, h2⟩ := onI_run dy h1
  exact ⟨i, j, rfl, rfl, sca_run h2 q⟩⟩
instance {C : Int → Int → Prop} {g : Int → Int → V} : DR K Γ (rI C g) (fun x y Φ => onI x fun i => onI y fun j => C i j ∧ sca (g i j) Φ) := ⟨fun dx dy h q => by
  obtain ⟨i, rfl, rfl, h1⟩ := onI_run dx h
  obtain ⟨j, rfl, rfl, h2⟩ := onI_run dy h1
  exact ⟨i, j, rfl, rfl, h2.1, sca_run h2.2 q⟩⟩
/-- == of scalars -/
def eqS : PyData → PyData → Option Bool
  | .int i, .int j => some (decide (i = j))
  | .str x, .str y => some (decide (x = y))
  | .bool a, .bool b => some (decide (a = b))
  | .none, .none => some true
  | .none, .int _ => some false | .int _, .none => some false | .none, .bool _ => some false | .bool _, .none => some false | .none, .str _ => some false | .str _, .none => some false
  | .int _, .str _ => some false | .str _, .int _ => some false | .bool _, .str _ => some false | .str _, .bool _ => some false
  | _, _ => none
theorem eqS_run {K : PySem.W.Frag} {L : List Addr} {H : Hp} {x y : PyData} {v u : V} {b : Bool} (dx : Dv K L H x v) (dy : Dv K L H y u) (h : eqS x y = some b) : scal v u = true ∧ decide (v = u) = b := by
  cases x <;> cases y <;> simp only [eqS] at h <;> first
    | (cases (show v = _ from dx); cases (show u = _ from dy); cases h; exact ⟨rfl, by simp⟩)
    | cases h
def onB (o : Option Bool) (k : Bool → Prop) : Prop := match o with
  | some b => k b
  | none => False
instance : DR K Γ rEq (fun x y Φ => onB (eqS x y) fun b => Φ (.bool b)) := ⟨fun {L H x y v u Φ Q} dx dy h q => by
  unfold onB at h
  split at h
  · rename_i b e
    obtain ⟨h1, h2⟩ := eqS_run dx dy e
    exact ⟨h1, by rw [h2]; exact q (.bool b) (.bl b) H (.refl _ _) rfl h⟩
  · exact h.elim⟩
instance : DR K Γ rNe (fun x y Φ => onB (eqS x y) fun b => Φ (.bool (!b))) := ⟨fun {L H x y v u Φ Q} dx dy h q => by
  unfold onB at h
  split at h
  · rename_i b e
    obtain ⟨h1, h2⟩ := eqS_run dx dy e
    exact ⟨h1, by rw [h2]; exact q (.bool (!b)) (.bl (!b)) H (.refl _ _) rfl h⟩
  · exact h.elim⟩
instance : DR K Γ (rEqD K) (fun x y Φ => (noDict x && noDict y) = true ∧ SeqAt.shaped x = true ∧ SeqAt.shaped y = true ∧ Φ (.bool (PyData.eqv x y))) := ⟨fun {L H x y v u Φ Q} dx dy h q =>
  have n := Bool.and_eq_true_iff.mp h.1
  ⟨x, y, dx.dp n.1, dy.dp n.2, h.2.1, h.2.2.1, q (.bool _) (.bl _) H (.refl _ _) rfl h.2.2.2⟩⟩
instance : DR K Γ (rNeD K) (fun x y Φ => (noDict x && noDict y) = true ∧ SeqAt.shaped x = true ∧ SeqAt.shaped y = true ∧ Φ (.bool (!PyData.eqv x y))) := ⟨fun {L H x y v u Φ Q} dx dy h q =>
  have n := Bool.and_eq_true_iff.mp h.1
  ⟨x, y, dx.dp n.1, dy.dp n.2, h.2.1, h.2.2.1, q (.bool _) (.bl _) H (.refl _ _) rfl h.2.2.2⟩⟩
/-- the item at an index -/
def atD (ds : List PyData) (i : Int) (k : PyData → Prop) : Prop := match atI ds i with
  | some d => k d
  | none => False
theorem atI_dvs {K : PySem.W.Frag} {L : List Addr} {H : Hp} {ds : List PyData} {xs : List V} {i : Int} {d : PyData} (h : Dvs K L H ds xs) (e : atI ds i = some d) : ∃ v, atI xs i = some v ∧ Dv K L H d v := by
  unfold atI at e ⊢
  rw [h.len]
  cases e1 : ixN ds.length i with
  | none => rw [e1] at e; cases e
  | some j =>
    rw [e1] at e
    exact h.get (show ds[j]? = some d from e)
def onT (x : PyData) (k : List PyData → Prop) : Prop := match x with
  | .tuple ds => k ds
  | _ => False
def onL (x : PyData) (k : List PyData → Prop) : Prop := match x with
  | .list ds => k ds
  | _ => False
instance : DR K Γ (rIxT K) (fun x y Φ => onT x fun ds => onI y fun i => atD ds i Φ) := ⟨fun {L H x y v u Φ Q} dx dy h q => by
  cases x with
  | tuple ds =>
    obtain ⟨a, xs, rfl, t, r⟩ := dx
    obtain ⟨i, rfl, rfl, h1⟩ := onI_run dy h
    unfold atD at h1
    split at h1
    · rename_i d e
      obtain ⟨w, e2, dw⟩ := atI_dvs r e
      exact ⟨a, xs, i, w, rfl, rfl, t.sq, e2, q d w H (.refl _ _) dw h1⟩
    · exact h1.elim
  | _ => exact h.elim⟩
instance : DR K Γ (rIxL K) (fun x y Φ => onL x fun ds => onI y fun i => atD ds i Φ) := ⟨fun {L H x y v u Φ Q} dx dy h q => by
  cases x with
  | list ds =>
    obtain ⟨a, xs, rfl, n, t, r⟩ := dx
    obtain ⟨i, rfl, rfl, h1⟩ := onI_run dy h
    unfold atD at h1
    split at h1
    · rename_i d e
      obtain ⟨w, e2, dw⟩ := atI_dvs r e
      exact ⟨a, xs, i, w, rfl, rfl, sqL_of t, e2, q d w H (.refl _ _) dw h1⟩
    · exact h1.elim
  | _ => exact h.elim⟩
theorem catT_of {K : PySem.W.Frag} {H : Hp} {a b : Addr} {xs ys : List V} {Q : VK} (ha : Tp K H a xs) (hb : Tp K H b ys) (hl : xs.length + ys.length ≤ 1000000) (q : ∀ p H', Fr K [] H H' → Tp K H' p (xs ++ ys) → Q (.ref p) H') : rCatZ K (.ref a) (.ref b) H Q := by
  refine ⟨a, b, xs, ys, rfl, rfl, ha.sq, hb.sq, Nat.le_trans hl (by decide), fun e => ?_, fun _ e => ?_, fun _ _ p o np od => ?_⟩
  · subst e
    exact q b H (.refl _ _) hb
  · subst e
    exact q a H (.refl _ _) (by rw [List.append_nil]; exact ha)
  · exact q p _ (.new np) (.made od)
theorem slT_of {K : PySem.W.Frag} {H : Hp} {a : Addr} {xs : List V} {lo hi : Option Int} {Q : VK} (ha : Tp K H a xs) (q : ∀ p H', Fr K [] H H' → Tp K H' p (cutV xs lo hi) → Q (.ref p) H') : rSlZ K (.ref a) lo hi H Q := by
  refine ⟨a, xs, rfl, ha.sq, fun e => ?_, fun _ p o np od => q p _ (.new np) (.made od)⟩
  refine q a H (.refl _ _) ?_
  have z : cutV xs lo hi = xs := by
    unfold cutV
    rw [e.1, e.2]
    simp
  rw [z]
  exact ha
/-- tuple + tuple -/
instance : DR K Γ (rCatZ K) (fun x y Φ => onT x fun ds => onT y fun es => ds.length + es.length ≤ 1000000 ∧ Φ (.tuple (ds ++ es))) := ⟨fun {L H x y v u Φ Q} dx dy h q => by
  cases x with
  | tuple ds =>
    cases y with
    | tuple es =>
      obtain ⟨a, xs, rfl, t, r⟩ := dx
      obtain ⟨b, ys, rfl, t2, r2⟩ := dy
      have l1 := r.len
      have l2 := r2.len
      have h : ds.length + es.length ≤ 1000000 ∧ Φ (.tuple (ds ++ es)) := h
      refine catT_of t t2 (by omega) fun p H' f hp => ?_
      exact q (.tuple (ds ++ es)) (.ref p) H' f ⟨p, _, rfl, hp, (r.app r2).mono (P := []) f fun _ z => nomatch z⟩ h.2
    | _ => exact h.elim
  | _ => exact h.elim⟩
/-- an operator's reading -/
instance {r : R2} {g : PyData → PyData → (PyData → Prop) → Prop} {a b : TE} {fa fb : Dn → (Sv → Dn → Prop) → Prop} [R : DR K Γ r g] [A : DE K Γ a fa] [B : DE K Γ b fb] :
    DE K Γ (tOp r a b) (fun δ Φ => fa δ fun s δ1 => asD s δ1 fun x δ2 => fb δ2 fun t δ3 => asD t δ3 fun y δ4 => g x y fun d => Φ (.dat d) δ4) := ⟨fun {L δ σ S H Φ Q} I h q => by
  refine DE.data (T := A) I h fun x L1 δ1 v H1 J h1 => DE.data (T := B) J h1 fun y L2 δ2 u H2 J2 h2 => ?_
  exact R.run J2.pop.top J2.top h2 fun d w H' f dw hd => q (.dat d) L2 δ2 w H' ((J2.pop.pop.more f).dat dw) hd⟩
/-- t[lo:hi] of a tuple -/
class DO (K : PySem.W.Frag) (Γ : Gm) (t : TO) (f : outParam (Dn → (Option Int → Dn → Prop) → Prop)) : Prop where
  run : ∀ {L : List Addr} {δ : Dn} {σ : L2.St} {S : List (Sv × V)} {H : Hp} {Φ : Option Int → Dn → Prop} {Q : Option Int → Hp → Prop}, Sim K Γ L δ σ S H → f δ Φ →
    (∀ o L' δ' H', Sim K Γ L' δ' σ S H' → Φ o δ' → Q o H') → t σ H Q
instance : DO K Γ tNoPart (fun δ Φ => Φ none δ) := ⟨fun {L δ σ S H Φ Q} I h q => q none L δ H I h⟩
instance {a : TE} {fa : Dn → (Sv → Dn → Prop) → Prop} [A : DE K Γ a fa] : DO K Γ (tPart a) (fun δ Φ => fa δ fun s δ1 => asD s δ1 fun x δ2 => onI x fun i => Φ (some i) δ2) := ⟨fun {L δ σ S H Φ Q} I h q => by
  refine DE.data (T := A) I h fun x L1 δ1 v H1 J h1 => ?_
  obtain ⟨i, rfl, rfl, h2⟩ := onI_run J.top h1
  exact ⟨i, rfl, q (some i) L1 δ1 H1 J.pop h2⟩⟩
/-- ds[lo:hi] -/
def cutD (ds : List PyData) (lo hi : Option Int) : List PyData := (ds.drop (HT.sIx ds.length 0 lo)).take (HT.sIx ds.length ds.length hi - HT.sIx ds.length 0 lo)
instance {a : TE} {l u : TO} {fa : Dn → (Sv → Dn → Prop) → Prop} {fl fu : Dn → (Option Int → Dn → Prop) → Prop} [A : DE K Γ a fa] [Lo : DO K Γ l fl] [Hi : DO K Γ u fu] :
    DE K Γ (L2.tSl (rSlZ K) a l u) (fun δ Φ => fa δ fun s δ1 => asD s δ1 fun x δ2 => fl δ2 fun lo δ3 => fu δ3 fun hi δ4 => onT x fun ds => Φ (.dat (.tuple (cutD ds lo hi))) δ4) := ⟨fun {L δ σ S H Φ Q} I h q => by
  refine DE.data (T := A) I h fun x L1 δ1 v H1 J h1 => Lo.run J h1 fun lo L2 δ2 H2 J2 h2 => Hi.run J2 h2 fun hi L3 δ3 H3 J3 h3 => ?_
  cases x with
  | tuple ds =>
    obtain ⟨a, xs, rfl, t, r⟩ := J3.top
    have e := r.len
    refine slT_of t fun p H' f hp => q (.dat (.tuple (cutD ds lo hi))) L3 δ3 _ H' ((J3.pop.more f).dat ⟨p, _, rfl, hp, ?_⟩) h3
    unfold cutV cutD
    rw [e]
    exact ((r.drop).take).mono (P := []) f fun _ z => nomatch z
  | _ => exact h3.elim⟩
/-- tests -/
def onBo (x : PyData) (k : Bool → Prop) : Prop := match x with
  | .bool b => k b
  | _ => False
theorem onBo_run {L : List Addr} {H : Hp} {K : PySem.W.Frag} {x : PyData} {v : V} {k : Bool → Prop} (d : Dv K L H x v) (h : onBo x k) : ∃ i, x = .bool i ∧ v = .bl i ∧ k i := by
  cases x <;> first | exact h.elim | exact ⟨_, rfl, d, h⟩
instance {a : TE} {fa : Dn → (Sv → Dn → Prop) → Prop} [A : DE K Γ a fa] : DT K Γ (tTest a) (fun δ Φ => fa δ fun s δ1 => asD s δ1 fun x δ2 => onBo x fun b => Φ b δ2) := ⟨fun {L δ σ S H Φ Q} I h q => by
  refine DE.data (T := A) I h fun x L1 δ1 v H1 J h1 => ?_
  obtain ⟨b, rfl, rfl, h2⟩ := onBo_run J.top h1
  exact ⟨b, rfl, q b L1 δ1 H1 J.pop h2⟩⟩
instance {a b : TT} {fa fb : Dn → (Bool → Dn → Prop) → Prop} [A : DT K Γ a fa] [B : DT K Γ b fb] : DT K Γ (tAnd a b) (fun δ Φ => fa δ fun c δ1 => condH c (fb δ1 Φ) (Φ false δ1) .mk .mk) := ⟨fun {L δ σ S H Φ Q} I h q =>
  A.run I h fun c L1 δ1 H1 J h1 => by
    cases c with
    | true => exact iteT (B.run J h1 q)
    | false => exact iteF (q false L1 δ1 H1 J h1)⟩
instance {a b : TT} {fa fb : Dn → (Bool → Dn → Prop) → Prop} [A : DT K Γ a fa] [B : DT K Γ b fb] : DT K Γ (tOr a b) (fun δ Φ => fa δ fun c δ1 => condH c (Φ true δ1) (fb δ1 Φ) .mk .mk) := ⟨fun {L δ σ S H Φ Q} I h q =>
  A.run I h fun c L1 δ1 H1 J h1 => by
    cases c with
    | true => exact iteT (q true L1 δ1 H1 J h1)
    | false => exact iteF (B.run J h1 q)⟩
instance {a : TT} {fa : Dn → (Bool → Dn → Prop) → Prop} [A : DT K Γ a fa] : DT K Γ (L2.tNot a) (fun δ Φ => fa δ fun c δ1 => Φ (!c) δ1) := ⟨fun {L δ σ S H Φ Q} I h q =>
  A.run I h fun c L1 δ1 H1 J h1 => q (!c) L1 δ1 H1 J h1⟩
instance : DT K Γ tYes (fun δ Φ => Φ true δ) := ⟨fun {L δ σ S H Φ Q} I h q => q true L δ H I h⟩
/-- and, or, not as values -/
instance {a b : TE} {fa fb : Dn → (Sv → Dn → Prop) → Prop} [A : DE K Γ a fa] [B : DE K Γ b fb] : DE K Γ (tAndV a b) (fun δ Φ => fa δ fun s δ1 => asD s δ1 fun x δ2 => onBo x fun c => condH c (fb δ2 Φ) (Φ (.dat (.bool false)) δ2) .mk .mk) := ⟨fun {L δ σ S H Φ Q} I h q => by
  refine DE.data (T := A) I h fun x L1 δ1 v H1 J h1 => ?_
  obtain ⟨c, rfl, rfl, h2⟩ := onBo_run J.top h1
  cases c with
  | true => exact ⟨true, rfl, iteT (B.run J.pop h2 q)⟩
  | false => exact ⟨false, rfl, iteF (q (.dat (.bool false)) L1 δ1 _ H1 (J.pop.dat rfl) h2)⟩⟩
instance {a b : TE} {fa fb : Dn → (Sv → Dn → Prop) → Prop} [A : DE K Γ a fa] [B : DE K Γ b fb] : DE K Γ (tOrV a b) (fun δ Φ => fa δ fun s δ1 => asD s δ1 fun x δ2 => onBo x fun c => condH c (Φ (.dat (.bool true)) δ2) (fb δ2 Φ) .mk .mk) := ⟨fun {L δ σ S H Φ Q} I h q => by
  refine DE.data (T := A) I h fun x L1 δ1 v H1 J h1 => ?_
  obtain ⟨c, rfl, rfl, h2⟩ := onBo_run J.top h1
  cases c with
  | true => exact ⟨true, rfl, iteT (q (.dat (.bool true)) L1 δ1 _ H1 (J.pop.dat rfl) h2)⟩
  | false => exact ⟨false, rfl, iteF (B.run J.pop h2 q)⟩⟩
instance {a : TE} {fa : Dn → (Sv → Dn → Prop) → Prop} [A : DE K Γ a fa] : DE K Γ (tNotV a) (fun δ Φ => fa δ fun s δ1 => asD s δ1 fun x δ2 => onBo x fun c => Φ (.dat (.bool (!c))) δ2) := ⟨fun {L δ σ S H Φ Q} I h q => by
  refine DE.data (T := A) I h fun x L1 δ1 v H1 J h1 => ?_
  obtain ⟨c, rfl, rfl, h2⟩ := onBo_run J.top h1
  exact ⟨c, rfl, q (.dat (.bool (!c))) L1 δ1 _ H1 (J.pop.dat rfl) h2⟩⟩
/-- a < b < c -/
instance {r r' : R2} {g g' : PyData → PyData → (PyData → Prop) → Prop} {a b c : TE} {fa fb fc : Dn → (Sv → Dn → Prop) → Prop} [R : DR K Γ r g] [R' : DR K Γ r' g'] [A : DE K Γ a fa] [B : DE K Γ b fb] [C : DE K Γ c fc] :
    DE K Γ (tChain r r' a b c) (fun δ Φ => fa δ fun s δ1 => asD s δ1 fun x δ2 => fb δ2 fun t δ3 => asD t δ3 fun y δ4 => g x y fun d => onBo d fun k => condH k (fc δ4 fun u δ5 => asD u δ5 fun z δ6 => g' y z fun d' => Φ (.dat d') δ6) (Φ (.dat (.bool false)) δ4) .mk .mk) := ⟨fun {L δ σ S H Φ Q} I h q => by
  refine DE.data (T := A) I h fun x L1 δ1 v H1 J h1 => DE.data (T := B) J h1 fun y L2 δ2 u H2 J2 h2 => ?_
  refine R.run J2.pop.top J2.top h2 fun d w H' f dw hd => ?_
  obtain ⟨k, rfl, rfl, h3⟩ := onBo_run dw hd
  have J3 := J2.more f
  cases k with
  | true =>
    refine ⟨true, rfl, iteT (DE.data (T := C) J3 h3 fun z L4 δ4 zw H4 J4 h4 => ?_)⟩
    exact R'.run J4.pop.top J4.top h4 fun d w H' f dw hd => q (.dat d) L4 δ4 w H' ((J4.pop.pop.pop.more f).dat dw) hd
  | false => exact ⟨false, rfl, iteF (q (.dat (.bool false)) L2 δ2 _ H' (J3.pop.pop.dat rfl) h3)⟩⟩
end
end B
namespace B
open PySem PySem.Spec PyProof.Rows L2
section
variable {K : PySem.W.Frag} {Γ : Gm} {L : List Addr} {δ : Dn} {σ : L2.St} {S : List (Sv × V)} {H H' : Hp} {s : Sv} {v : V}
/-- an address owned at the top is written: all else stays -/
theorem SlR.wr {a : Addr} {o : HO} (h0 : a ∉ Γ.L0) (p0 : ∀ p ∈ Γ.P, p ∈ Γ.L0) (ha : a ∈ L) (ho : ∃ xs, H a = some (.lst xs)) : ∀ {s : Sv} {v : V}, SlR K Γ L σ H s v → (isOwn s = true → v ≠ .ref a) → SlR K Γ L σ (upd H a o) s v
  | .dat _, _, h, _ => by
    obtain ⟨xs, e⟩ := ho
    exact Dv.mono (P := [a]) (.wr e trivial (by simp)) (fun b hb => by cases List.mem_singleton.mp hb; exact ha) h
  | .pen _, _, h, _ => h
  | .own _, _, ⟨b, xs, e, h1, h2, h3, h4⟩, n => by
    obtain ⟨ys, e2⟩ := ho
    have ne : b ≠ a := fun z => n rfl (by rw [e, z])
    exact ⟨b, xs, e, h1, h2, by rw [upd_ne ne]; exact h3, Dvs.mono (P := [a]) (.wr e2 trivial (by simp)) (fun b hb => by cases List.mem_singleton.mp hb; exact ha) h4⟩
  | .ali _, _, h, _ => h
  | .fn _, _, h, _ => h
  | .ref _, _, h, _ => h
/-- the list that the stack owns beneath the top takes the top -/
theorem Sim.append {d : PyData} {acc : List PyData} {y : V} {a : Addr} {xs : List V} (I : Sim K Γ L δ σ ((.dat d, y) :: (.own acc, .ref a) :: S) H) (e : H a = some (.lst xs)) :
    Sim K Γ L δ σ ((.own (acc ++ [d]), .ref a) :: S) (upd H a (.lst (xs ++ [y]))) := by
  have J := I.pop
  obtain ⟨b, ys, e1, h1, h2, h3, h4⟩ := J.top
  cases e1
  rw [e] at h3
  cases h3
  have ha : ∃ xs, H a = some (.lst xs) := ⟨_, e⟩
  have f : Fr K [a] H (upd H a (.lst (xs ++ [y]))) := .wr e trivial (by simp)
  have inL : ∀ b ∈ [a], b ∈ L := fun b hb => by cases List.mem_singleton.mp hb; exact h1
  have topS : ∀ p ∈ S, isOwn p.1 = true → p.2 ≠ .ref a := fun p hp o z => (List.pairwise_cons.mp J.sepT).1 p hp rfl o z.symm
  have slS : ∀ (i : Nat) (s : Sv) (v : V), δ.sl[i]? = some (some s) → isOwn s = true → σ[i]? = some (some v) → v ≠ .ref a := fun i s v e o ev z => J.sepS i s v e o ev (.own acc, .ref a) (List.mem_cons_self ..) rfl z.symm
  have na : δ.al a = none := J.sepB _ (List.mem_cons_self ..) rfl a rfl
  exact { J with
    fr := J.fr.put e trivial ((J.old a h1).elim (fun z => absurd z h2) .inr)
    pens := fun p hp => by
      have q := J.pens p hp
      have ne : p ≠ a := fun z => h2 (z ▸ J.pin0 p hp)
      exact q.fr f fun z => ne (List.mem_singleton.mp z)
    live := fun b hb => by
      by_cases z : b = a
      · rw [z, upd_same]; exact fun z => (nomatch z)
      · rw [upd_ne z]; exact J.live b hb
    slot := fun i s e5 => let ⟨n, v, e6, e7⟩ := J.slot i s e5; ⟨n, v, e6, e7.wr h2 J.pin0 h1 ha fun o => slS i s v e5 o e6⟩
    stk := fun p hp => (List.mem_cons.mp hp).elim (fun z => by
      rw [z]
      exact ⟨a, _, rfl, h1, h2, upd_same, (h4.mono (P := [a]) f inL).app ⟨y, [], rfl, Dv.mono (P := [a]) f inL I.top, rfl⟩⟩) fun hp => (J.stk p (List.mem_cons_of_mem _ hp)).wr h2 J.pin0 h1 ha (topS p hp)
    nal := fun p hp => (List.mem_cons.mp hp).elim (fun z j => by rw [z]; exact fun z => (nomatch z)) fun hp => J.nal p (List.mem_cons_of_mem _ hp)
    sepS := fun i s v e5 o ev p hp ho => (List.mem_cons.mp hp).elim (fun z => by rw [z]; exact fun z => slS i s v e5 o ev z.symm) fun hp => J.sepS i s v e5 o ev p (List.mem_cons_of_mem _ hp) ho
    sepT := List.pairwise_cons.mpr ⟨fun p hp _ o z => topS p hp o z.symm, (List.pairwise_cons.mp J.sepT).2⟩
    obj := fun b o eb => by
      obtain ⟨q1, q2⟩ := J.obj b o eb
      refine ⟨q1, q2.mono (P := [a]) f inL fun z => ?_⟩
      cases List.mem_singleton.mp z
      rw [na] at eb
      cases eb
    sepB := fun p hp ho b eb => (List.mem_cons.mp hp).elim (fun z => by
      rw [z] at eb
      cases eb
      exact na) fun hp => J.sepB p (List.mem_cons_of_mem _ hp) ho b eb }
def wipeD (δ : Dn) : List Nat → Dn
  | [] => δ
  | v :: vs => (wipeD δ vs).put v none
theorem Sim.clear (I : Sim K Γ L δ σ S H) (k : Nat) : Sim K Γ L (δ.put k none) (σ.set k none) S H := by
  have J := I.forget k
  have ne : ∀ {i : Nat} {s : Sv}, (δ.put k none).sl[i]? = some (some s) → (σ.set k none)[i]? = σ[i]? := fun {i s} e => by
    rcases get_set e with h | h
    · exact nomatch h.2.1
    · rw [List.getElem?_set, if_neg h.1]
  have mo : ∀ {t : Sv} {u : V}, (∀ j, t ≠ .ali j) → SlR K Γ L σ H t u → SlR K Γ L (σ.set k none) H t u := fun {t u} n h => by
    cases t with
    | ali j => exact absurd rfl (n j)
    | _ => exact h
  exact { J with
    len := by
      show (δ.sl.set k none).length = _
      rw [List.length_set, List.length_set]; exact I.len
    slot := fun i s e => let ⟨n, v, e1, e2⟩ := J.slot i s e; ⟨n, v, by rw [ne e]; exact e1, mo n e2⟩
    stk := fun p hp => mo (I.nal p hp) (J.stk p hp)
    sep := fun i j s t v n e1 e2 o1 o2 f => by rw [ne e1] at f; rw [ne e2]; exact J.sep i j s t v n e1 e2 o1 o2 f
    sepS := fun i s v e o f => by rw [ne e] at f; exact J.sepS i s v e o f
    sepA := fun i s a e o f => by rw [ne e] at f; exact J.sepA i s a e o f }
theorem Sim.wipe (I : Sim K Γ L δ σ S H) : ∀ vs : List Nat, Sim K Γ L (wipeD δ vs) (L2.wipe σ vs) S H
  | [] => I
  | v :: vs => (I.wipe vs).clear v
theorem wipeD_at : ∀ {vs : List Nat} {k : Nat} {s : Sv}, k ∈ vs → (wipeD δ vs).sl[k]? ≠ some (some s)
  | v :: vs, k, s, h => by
    intro e
    rcases get_set e with z | z
    · exact nomatch z.2.1
    · rcases List.mem_cons.mp h with h | h
      · exact z.1 h.symm
      · exact wipeD_at h z.2
theorem wipe_get : ∀ (vs : List Nat) (k : Nat), k ∉ vs → (L2.wipe σ vs)[k]? = σ[k]?
  | [], _, _ => rfl
  | v :: vs, k, h => by
    show ((L2.wipe σ vs).set v none)[k]? = _
    rw [List.getElem?_set, if_neg fun z => h (by rw [← z]; exact List.mem_cons_self ..)]
    exact wipe_get vs k fun z => h (List.mem_cons_of_mem _ z)
theorem Sim.unwipe {vs : List Nat} (I : Sim K Γ L (wipeD δ vs) (L2.wipe σ vs) S H) : Sim K Γ L (wipeD δ vs) σ S H := by
  have ne : ∀ {i : Nat} {s : Sv}, (wipeD δ vs).sl[i]? = some (some s) → σ[i]? = (L2.wipe σ vs)[i]? := fun {i s} e => by
    by_cases h : i ∈ vs
    · exact absurd e (wipeD_at h)
    · exact (wipe_get vs i h).symm
  have mo : ∀ {t : Sv} {u : V}, (∀ j, t ≠ .ali j) → SlR K Γ L (L2.wipe σ vs) H t u → SlR K Γ L σ H t u := fun {t u} n h => by
    cases t with
    | ali j => exact absurd rfl (n j)
    | _ => exact h
  exact { I with
    len := by rw [I.len, L2.wipe_length]
    slot := fun i s e => let ⟨n, v, e1, e2⟩ := I.slot i s e; ⟨n, v, by rw [ne e]; exact e1, mo n e2⟩
    stk := fun p hp => mo (I.nal p hp) (I.stk p hp)
    sep := fun i j s t v n e1 e2 o1 o2 f => by rw [ne e1] at f; rw [ne e2]; exact I.sep i j s t v n e1 e2 o1 o2 f
    sepS := fun i s v e o f => by rw [ne e] at f; exact I.sepS i s v e o f
    sepA := fun i s a e o f => by rw [ne e] at f; exact I.sepA i s a e o f }
end
theorem Sim.thin {K : PySem.W.Frag} {Γ : Gm} {L : List Addr} {δ : Dn} {σ : L2.St} {S S' : List (Sv × V)} {H : Hp} (I : Sim K Γ L δ σ S H) (h : S'.Sublist S) : Sim K Γ L δ σ S' H :=
  { I with
    stk := fun p hp => I.stk p (h.subset hp)
    nal := fun p hp => I.nal p (h.subset hp)
    sepS := fun i s v e o ev p hp => I.sepS i s v e o ev p (h.subset hp)
    sepT := I.sepT.sublist h
    sepB := fun p hp => I.sepB p (h.subset hp) }
/-- an item as it is given out: data, or a new pair of data -/
def ItR (K : PySem.W.Frag) (L : List Addr) (H : Hp) : Bool → PyData → V → Prop
  | false, d, x => Dv K L H d x
  | true, d, x => ∃ a x1 x2 d1 d2, d = .tuple [d1, d2] ∧ x = .ref a ∧ H a = some (.tup [x1, x2]) ∧ Dv K L H d1 x1 ∧ Dv K L H d2 x2
/-- J goes over ds; hs are kept on the stack meanwhile; wk: the items are new pairs -/
structure DIt (K : PySem.W.Frag) (Γ : Gm) (wk : Bool) (J : It) (hs : List (Sv × V)) (ds : List PyData) : Prop where
  go : ∀ {i : Nat} {L : List Addr} {δ : Dn} {σ : L2.St} {S : List (Sv × V)} {H : Hp}, Sim K Γ L δ σ S H → (∀ h ∈ hs, h ∈ S) → i < ds.length → J.go i H
  stop : ∀ {L : List Addr} {δ : Dn} {σ : L2.St} {S : List (Sv × V)} {H : Hp}, Sim K Γ L δ σ S H → (∀ h ∈ hs, h ∈ S) → J.stop ds.length H
  yld : ∀ {i : Nat} {L : List Addr} {δ : Dn} {σ : L2.St} {S : List (Sv × V)} {H H' : Hp} {x : V} {d : PyData}, Sim K Γ L δ σ S H → (∀ h ∈ hs, h ∈ S) → ds[i]? = some d → J.yld i H x H' → Fr K [] H H' ∧ ItR K L H' wk d x
class DI (K : PySem.W.Frag) (Γ : Gm) (wi : TI) (wk : outParam Bool) (f : outParam (Dn → (List PyData → Dn → Prop) → Prop)) : Prop where
  run : ∀ {L : List Addr} {δ : Dn} {σ : L2.St} {S : List (Sv × V)} {H : Hp} {Φ : List PyData → Dn → Prop} {R : It → Hp → Prop}, Sim K Γ L δ σ S H → f δ Φ →
    (∀ ds L' δ' J hs H', Sim K Γ L' δ' σ (hs ++ S) H' → (∀ h ∈ hs, isOwn h.1 = false) → DIt K Γ wk J hs ds → Φ ds δ' → R J H') → wi σ H R
section
variable {K : PySem.W.Frag} {Γ : Gm}
theorem one_own {p : Sv × V} (n : isOwn p.1 = false) : ∀ h ∈ [p], isOwn h.1 = false := fun h hh => by cases List.mem_singleton.mp hh; exact n
theorem dit_tup {a : Addr} {ds : List PyData} : DIt K Γ false (Itt K a) [(.dat (.tuple ds), .ref a)] ds where
  go := fun I h hi => by
    obtain ⟨b, xs, e, t, r⟩ := I.stk _ (h _ (List.mem_singleton.mpr rfl))
    cases e
    exact ⟨xs, xs[_]'(by rw [r.len]; exact hi), t.sq, List.getElem?_eq_getElem _⟩
  stop := fun I h => by
    obtain ⟨b, xs, e, t, r⟩ := I.stk _ (h _ (List.mem_singleton.mpr rfl))
    cases e
    exact ⟨xs, t.sq, by rw [r.len]; exact Nat.le_refl _⟩
  yld := fun I h hd y => by
    obtain ⟨b, xs, e, t, r⟩ := I.stk _ (h _ (List.mem_singleton.mpr rfl))
    cases e
    obtain ⟨rfl, y2⟩ := y
    obtain ⟨w, e1, e2⟩ := r.get hd
    have e3 := y2 xs t.sq
    rw [e1] at e3
    cases e3
    exact ⟨.refl _ _, e2⟩
theorem dit_lst {a : Addr} {ds : List PyData} : DIt K Γ false (Itl K a) [(.dat (.list ds), .ref a)] ds where
  go := fun I h hi => by
    obtain ⟨b, xs, e, _, t, r⟩ := I.stk _ (h _ (List.mem_singleton.mpr rfl))
    cases e
    exact ⟨xs, xs[_]'(by rw [r.len]; exact hi), sqL_of t, List.getElem?_eq_getElem _⟩
  stop := fun I h => by
    obtain ⟨b, xs, e, _, t, r⟩ := I.stk _ (h _ (List.mem_singleton.mpr rfl))
    cases e
    exact ⟨xs, sqL_of t, by rw [r.len]; exact Nat.le_refl _⟩
  yld := fun I h hd y => by
    obtain ⟨b, xs, e, _, t, r⟩ := I.stk _ (h _ (List.mem_singleton.mpr rfl))
    cases e
    obtain ⟨rfl, y2⟩ := y
    obtain ⟨w, e1, e2⟩ := r.get hd
    have e3 := y2 xs (sqL_of t)
    rw [e1] at e3
    cases e3
    exact ⟨.refl _ _, e2⟩
/-- lo, lo + 1, .. -/
def rngD (lo : Int) (n : Nat) : List PyData := (List.range n).map fun (i : Nat) => .int (lo + i)
theorem dit_rng {lo : Int} {n : Nat} {hd : List (Sv × V)} : DIt K Γ false (Itr lo n) hd (rngD lo n) where
  go := fun {i L δ σ S H} _ _ hi => by show i < n; simpa [rngD] using hi
  stop := fun _ _ => by show n ≤ (rngD lo n).length; simp [rngD]
  yld := fun {i L δ σ S H H' x d} _ _ hd y => by
    obtain ⟨rfl, rfl⟩ := y
    have hi : i < n := by
      have := (List.getElem?_eq_some_iff.mp hd).1
      simpa [rngD] using this
    unfold rngD at hd
    rw [List.getElem?_map, List.getElem?_range hi] at hd
    cases hd
    exact ⟨.refl _ _, rfl⟩
instance {a : TE} {fa : Dn → (Sv → Dn → Prop) → Prop} [A : DE K Γ a fa] : DI K Γ (iTup K a) false (fun δ Φ => fa δ fun s δ1 => asD s δ1 fun x δ2 => onT x fun ds => Φ ds δ2) := ⟨fun {L δ σ S H Φ R} I h q => by
  refine DE.data (T := A) I h fun x L1 δ1 v H1 J h1 => ?_
  cases x with
  | tuple ds =>
    obtain ⟨a, xs, rfl, t, r⟩ := J.top
    exact ⟨a, rfl, ⟨xs, t.sq⟩, q ds L1 δ1 _ [_] H1 J (one_own rfl) dit_tup h1⟩
  | _ => exact h1.elim⟩
instance {a : TE} {fa : Dn → (Sv → Dn → Prop) → Prop} [A : DE K Γ a fa] : DI K Γ (iList K a) false (fun δ Φ => fa δ fun s δ1 => asD s δ1 fun x δ2 => onL x fun ds => Φ ds δ2) := ⟨fun {L δ σ S H Φ R} I h q => by
  refine DE.data (T := A) I h fun x L1 δ1 v H1 J h1 => ?_
  cases x with
  | list ds =>
    obtain ⟨a, xs, rfl, n, t, r⟩ := J.top
    exact ⟨a, rfl, ⟨xs, sqL_of t⟩, q ds L1 δ1 _ [_] H1 J (one_own rfl) dit_lst h1⟩
  | _ => exact h1.elim⟩
instance {a : TE} {fa : Dn → (Sv → Dn → Prop) → Prop} [A : DE K Γ a fa] : DI K Γ (iRng1 (tCons a tNil)) false (fun δ Φ => fa δ fun s δ1 => asD s δ1 fun x δ2 => onI x fun j => (-(2 ^ 62) ≤ j ∧ j < 2 ^ 62) ∧ Φ (rngD 0 j.toNat) δ2) := ⟨fun {L δ σ S H Φ R} I h q => by
  refine DE.data (T := A) I h fun x L1 δ1 v H1 J h1 => ?_
  obtain ⟨j, rfl, rfl, h2⟩ := onI_run J.top h1
  exact ⟨j, rfl, h2.1.1, h2.1.2, q _ L1 δ1 _ [_] H1 J (one_own rfl) dit_rng h2.2⟩⟩
instance {a b : TE} {fa fb : Dn → (Sv → Dn → Prop) → Prop} [A : DE K Γ a fa] [B : DE K Γ b fb] : DI K Γ (iRng2 (tCons a (tCons b tNil))) false (fun δ Φ => fa δ fun s δ1 => asD s δ1 fun x δ2 => fb δ2 fun t δ3 => asD t δ3 fun y δ4 => onI x fun i => onI y fun j => (-(2 ^ 62) ≤ i ∧ i < 2 ^ 62 ∧ -(2 ^ 62) ≤ j ∧ j < 2 ^ 62) ∧ Φ (rngD i (j - i).toNat) δ4) := ⟨fun {L δ σ S H Φ R} I h q => by
  refine DE.data (T := A) I h fun x L1 δ1 v H1 J h1 => DE.data (T := B) J h1 fun y L2' δ2 w H2 J2 h2 => ?_
  obtain ⟨i, rfl, rfl, h3⟩ := onI_run J2.pop.top h2
  obtain ⟨j, rfl, rfl, h4⟩ := onI_run J2.top h3
  exact ⟨i, j, rfl, h4.1, q _ L2' δ2 _ [] H2 J2.pop.pop (fun _ z => nomatch z) dit_rng h4.2⟩⟩
end
end B
namespace B
open PySem PySem.Spec PyProof.Rows L2
/-- the slots but ws are as they were -/
def But (ws : List Nat) (σ σ' : L2.St) : Prop := σ'.length = σ.length ∧ ∀ i, i ∉ ws → σ'[i]? = σ[i]?
theorem But.refl {ws : List Nat} {σ : L2.St} : But ws σ σ := ⟨rfl, fun _ _ => rfl⟩
theorem But.trans {ws us : List Nat} {σ σ1 σ2 : L2.St} (a : But ws σ σ1) (b : But us σ1 σ2) : But (ws ++ us) σ σ2 :=
  ⟨b.1.trans a.1, fun i h => (b.2 i fun z => h (List.mem_append_right _ z)).trans (a.2 i fun z => h (List.mem_append_left _ z))⟩
theorem wipe_in : ∀ {vs : List Nat} {σ : L2.St} {k : Nat}, k ∈ vs → k < σ.length → (L2.wipe σ vs)[k]? = some none
  | v :: vs, σ, k, h, hk => by
    show ((L2.wipe σ vs).set v none)[k]? = some none
    rw [List.getElem?_set]
    by_cases e : v = k
    · rw [if_pos e, if_pos (by rw [e, L2.wipe_length]; exact hk)]
    · rw [if_neg e]
      exact wipe_in ((List.mem_cons.mp h).resolve_left fun z => e z.symm) hk
theorem But.wipe {ws vs : List Nat} {σ σ' : L2.St} (a : But ws σ σ') (h : ∀ i ∈ ws, i ∈ vs) : L2.wipe σ' vs = L2.wipe σ vs := by
  apply List.ext_getElem?
  intro i
  by_cases hi : i ∈ vs
  · by_cases hl : i < σ.length
    · rw [wipe_in hi hl, wipe_in hi (by rw [a.1]; exact hl)]
    · rw [List.getElem?_eq_none (by rw [L2.wipe_length, a.1]; omega), List.getElem?_eq_none (by rw [L2.wipe_length]; omega)]
  · rw [wipe_get vs i hi, wipe_get vs i hi, a.2 i fun z => hi (h i z)]
/-- a target's reading: its transformer, the slots it writes -/
class DG (K : PySem.W.Frag) (Γ : Gm) (g : TG) (f : outParam (Sv → Dn → (Dn → Prop) → Prop)) (ws : outParam (List Nat)) : Prop where
  run : ∀ {L : List Addr} {δ : Dn} {σ : L2.St} {S : List (Sv × V)} {H : Hp} {s : Sv} {v : V} {k : Dn → Prop} {Z : L2.St → Hp → Prop}, Sim K Γ L δ σ ((s, v) :: S) H → f s δ k →
    (∀ L' δ' σ' H', Sim K Γ L' δ' σ' S H' → But ws σ σ' → k δ' → Z σ' H') → g v σ H Z
/-- many data on the stack -/
def dst : List PyData → List V → List (Sv × V)
  | d :: ds, v :: vs => (.dat d, v) :: dst ds vs
  | _, _ => []
/-- targets a, b, .. of data that lie on the stack -/
class DGk (K : PySem.W.Frag) (Γ : Gm) (g : TGs) (f : outParam (List PyData → Dn → (Dn → Prop) → Prop)) (ws : outParam (List Nat)) : Prop where
  run : ∀ {ds : List PyData} {vs : List V} {L : List Addr} {δ : Dn} {σ : L2.St} {S : List (Sv × V)} {H : Hp} {k : Dn → Prop} {Z : L2.St → Hp → Prop}, vs.length = ds.length → Sim K Γ L δ σ (dst ds vs ++ S) H → f ds δ k →
    (∀ L' δ' σ' H', Sim K Γ L' δ' σ' S H' → But ws σ σ' → k δ' → Z σ' H') → g vs σ H Z
/-- a tuple of data -/
def onTd (s : Sv) (k : List PyData → Prop) : Prop := match s with
  | .dat (.tuple ds) => k ds
  | _ => False
def oneD (ds : List PyData) (k : PyData → List PyData → Prop) : Prop := match ds with
  | d :: r => k d r
  | [] => False
section
variable {K : PySem.W.Frag} {Γ : Gm}
instance {i : Nat} : DG K Γ (gName i) (fun s δ k => k (δ.put i (some s))) [i] := ⟨fun {L δ σ S H s v k Z} I h q => q L _ _ H (I.store i) ⟨by rw [List.length_set], fun j hj => by
  rw [List.getElem?_set, if_neg fun z => hj (by rw [z]; exact List.mem_singleton.mpr rfl)]⟩ h⟩
theorem Sim.pushAll {L : List Addr} {δ : Dn} {σ : L2.St} {H : Hp} : ∀ {ds : List PyData} {vs : List V} {S : List (Sv × V)}, Sim K Γ L δ σ S H → Dvs K L H ds vs → Sim K Γ L δ σ (dst ds vs ++ S) H
  | [], _, _, I, h => by cases h; exact I
  | d :: ds, _, S, I, ⟨v, r, e, h1, h2⟩ => by
    cases e
    exact (Sim.pushAll I h2).dat h1
instance : DGk K Γ gNil (fun ds δ k => ds = [] ∧ k δ) [] := ⟨fun {ds vs L δ σ S H k Z} e I h q => by
  obtain ⟨rfl, h2⟩ := h
  cases vs with
  | nil => exact ⟨rfl, q L δ σ H I .refl h2⟩
  | cons _ _ => cases e⟩
instance {g : TG} {u : TGs} {f : Sv → Dn → (Dn → Prop) → Prop} {fu : List PyData → Dn → (Dn → Prop) → Prop} {ws us : List Nat} [G : DG K Γ g f ws] [U : DGk K Γ u fu us] : DGk K Γ (gCons g u) (fun ds δ k => oneD ds fun d r => f (.dat d) δ fun δ1 => fu r δ1 k) (ws ++ us) := ⟨fun {ds vs L δ σ S H k Z} e I h q => by
  cases ds with
  | nil => exact h.elim
  | cons d r =>
    cases vs with
    | nil => cases e
    | cons v vs => exact ⟨v, vs, rfl, G.run I h fun L1 δ1 σ1 H1 J b1 h1 => U.run (by simpa using e) J h1 fun L2 δ2 σ2 H2 J2 b2 h2 => q L2 δ2 σ2 H2 J2 (b1.trans b2) h2⟩⟩
instance {n : Nat} {t : TGs} {f : List PyData → Dn → (Dn → Prop) → Prop} {ws : List Nat} [G : DGk K Γ t f ws] : DG K Γ (gTup K n t) (fun s δ k => onTd s fun ds => ds.length = n ∧ f ds δ k) ws := ⟨fun {L δ σ S H s v k Z} I h q => by
  cases s with
  | dat d =>
    cases d with
    | tuple ds =>
      obtain ⟨a, xs, rfl, t, r⟩ := I.top
      have e := r.len
      exact ⟨a, xs, rfl, t.sq, by rw [e]; exact h.1, G.run e (I.pop.pushAll r) h.2 q⟩
    | _ => exact h.elim
  | _ => exact h.elim⟩
/-- a target of items as they are given out -/
class DGi (K : PySem.W.Frag) (Γ : Gm) (wk : Bool) (g : TG) (f : outParam (Sv → Dn → (Dn → Prop) → Prop)) (ws : outParam (List Nat)) : Prop where
  run : ∀ {L : List Addr} {δ : Dn} {σ : L2.St} {S : List (Sv × V)} {H : Hp} {d : PyData} {v : V} {k : Dn → Prop} {Z : L2.St → Hp → Prop}, Sim K Γ L δ σ S H → ItR K L H wk d v → f (.dat d) δ k →
    (∀ L' δ' σ' H', Sim K Γ L' δ' σ' S H' → But ws σ σ' → k δ' → Z σ' H') → g v σ H Z
instance {g : TG} {f : Sv → Dn → (Dn → Prop) → Prop} {ws : List Nat} [G : DG K Γ g f ws] : DGi K Γ false g f ws := ⟨fun I r h q => G.run (I.dat r) h q⟩
instance {n : Nat} {t : TGs} {f : List PyData → Dn → (Dn → Prop) → Prop} {ws : List Nat} [G : DGk K Γ t f ws] : DGi K Γ true (gTup K n t) (fun s δ k => onTd s fun ds => ds.length = n ∧ f ds δ k) ws := ⟨fun {L δ σ S H d v k Z} I r h q => by
  obtain ⟨a, x1, x2, d1, d2, rfl, rfl, e, h1, h2⟩ := r
  have h : [d1, d2].length = n ∧ f [d1, d2] δ k := h
  exact ⟨a, [x1, x2], rfl, sqT_of e, h.1, G.run (ds := [d1, d2]) rfl (I.pushAll (ds := [d1, d2]) (vs := [x1, x2]) ⟨x1, [x2], rfl, h1, x2, [], rfl, h2, rfl⟩) h.2 q⟩⟩
def lcD (fg : Sv → Dn → (Dn → Prop) → Prop) (ft : Dn → (Bool → Dn → Prop) → Prop) (fe : Dn → (Sv → Dn → Prop) → Prop) (vs : List Nat) (Φ : List PyData → Dn → Prop) : List PyData → List PyData → Dn → Prop
  | [], acc, δ => Φ acc (wipeD δ vs)
  | d :: ds, acc, δ => fg (.dat d) (wipeD δ vs) fun δ1 => ft δ1 fun b δ2 => bif b then fe δ2 fun s δ3 => asD s δ3 fun y δ4 => acc.length < 1000000 ∧ lcD fg ft fe vs Φ ds (acc ++ [y]) δ4 else lcD fg ft fe vs Φ ds acc δ2
def lcH (fg : Sv → Dn → (Dn → Prop) → Prop) (ft : Dn → (Bool → Dn → Prop) → Prop) (fe : Dn → (Sv → Dn → Prop) → Prop) (vs : List Nat) (Φ : List PyData → Dn → Prop) (ds acc : List PyData) (δ : Dn) (_ : Tag fg) (_ : Tag ft) (_ : Tag fe) (_ : Tag Φ) : Prop := lcD fg ft fe vs Φ ds acc δ
theorem q_lcH {fg : Sv → Dn → (Dn → Prop) → Prop} {ft : Dn → (Bool → Dn → Prop) → Prop} {fe : Dn → (Sv → Dn → Prop) → Prop} {vs : List Nat} {Φ : List PyData → Dn → Prop} {ds acc : List PyData} {δ : Dn} {a : Tag fg} {b : Tag ft} {c : Tag fe} {d : Tag Φ} : lcH fg ft fe vs Φ ds acc δ a b c d = lcD fg ft fe vs Φ ds acc δ := rfl
theorem Sim.wiped {L : List Addr} {δ : Dn} {σ σ2 : L2.St} {S : List (Sv × V)} {H : Hp} {vs : List Nat} (I : Sim K Γ L δ σ2 S H) (e : L2.wipe σ2 vs = L2.wipe σ vs) : Sim K Γ L (wipeD δ vs) (L2.wipe σ vs) S H := by
  have := I.wipe vs
  rw [e] at this
  exact this
instance {wk : Bool} {wi : TI} {g : TG} {tt : TT} {te : TE} {vs : List Nat} {fi : Dn → (List PyData → Dn → Prop) → Prop} {fg : Sv → Dn → (Dn → Prop) → Prop} {ws : List Nat} {ft : Dn → (Bool → Dn → Prop) → Prop} {fe : Dn → (Sv → Dn → Prop) → Prop}
    [Ii : DI K Γ wi wk fi] [G : DGi K Γ wk g fg ws] [Tt : DT K Γ tt ft] [E : DE K Γ te fe] :
    DE K Γ (tLc wi g tt te vs) (fun δ Φ => (ws.all fun i => vs.contains i) = true ∧ fi δ fun ds δ1 => lcH fg ft fe vs (fun out δ2 => Φ (.own out) δ2) ds [] δ1 .mk .mk .mk .mk) := ⟨fun {L δ σ S H Φ Q} I h q => by
  obtain ⟨hw, h⟩ := h
  have hws : ∀ i ∈ ws, i ∈ vs := fun i hi => by
    have := List.all_eq_true.mp hw i hi
    simpa using this
  refine Ii.run I h fun ds L1 δ1 J hz H1 I1 hno It h1 D nD => ?_
  have I2 : Sim K Γ (D :: L1) δ1 σ ((.own [], .ref D) :: (hz ++ S)) (upd H1 D (.lst [])) := I1.new nD rfl
  refine ⟨fun i m H2 => m = ds.length - i ∧ i ≤ ds.length ∧ ∃ M2 δ2 acc, Sim K Γ M2 (wipeD δ2 vs) (L2.wipe σ vs) ((.own acc, .ref D) :: (hz ++ S)) H2 ∧ lcD fg ft fe vs (fun out δ2 => Φ (.own out) δ2) (ds.drop i) acc δ2,
    ⟨ds.length, by simp, Nat.zero_le _, _, δ1, [], I2.wipe vs, h1⟩, ?_⟩
  rintro i m H2 ⟨rfl, hi, M2, δ2, acc, J2, h2⟩
  have hm : ∀ h ∈ hz, h ∈ (Sv.own acc, V.ref D) :: (hz ++ S) := fun h hh => List.mem_cons_of_mem _ (List.mem_append_left _ hh)
  by_cases hlt : i < ds.length
  · refine .inr ⟨It.go J2 hm hlt, fun H' => i + 1 ≤ ds.length ∧ ∃ M2 δ2 acc, Sim K Γ M2 (wipeD δ2 vs) (L2.wipe σ vs) ((.own acc, .ref D) :: (hz ++ S)) H' ∧ lcD fg ft fe vs (fun out δ2 => Φ (.own out) δ2) (ds.drop (i + 1)) acc δ2,
      fun H' q' => ⟨ds.length - (i + 1), by omega, rfl, q'⟩, fun x H3 y => ?_⟩
    have ed : ds.drop i = ds[i] :: ds.drop (i + 1) := List.drop_eq_getElem_cons hlt
    rw [ed] at h2
    obtain ⟨f3, dx⟩ := It.yld J2 hm (List.getElem?_eq_getElem hlt) y
    refine G.run (J2.more f3) dx h2 fun L4 δ4 σ4 H4 J4 b4 h4 => ?_
    have e4 : L2.wipe σ4 vs = L2.wipe σ vs := by
      rw [b4.wipe hws]
      exact (But.wipe (ws := vs) ⟨L2.wipe_length _ _, fun j hj => wipe_get vs j hj⟩ fun _ z => z)
    refine ⟨e4, ?_⟩
    refine Tt.run J4 h4 fun b L5 δ5 H5 J5 h5 => ?_
    cases b with
    | true =>
      refine iteT (DE.data (T := E) J5 h5 fun y L6 δ6 w H6 J6 h6 => ?_)
      obtain ⟨a, xs, ea, _, _, h3, hx⟩ := J6.pop.top
      cases ea
      have el := hx.len
      have hs := sizeLine_eq
      refine ⟨xs, h3, by omega, by omega, L6, δ6, acc ++ [y], (J6.append h3).wiped e4, h6.2⟩
    | false => exact iteF ⟨by omega, L5, δ5, acc, J5.wiped e4, h5⟩
  · have e : i = ds.length := by omega
    subst e
    rw [List.drop_length] at h2
    exact .inl ⟨It.stop J2 hm, q (.own acc) M2 _ _ H2 (J2.unwipe.thin (List.Sublist.cons_cons _ (List.sublist_append_right _ _))) h2⟩⟩
end
end B
namespace B
open PySem PySem.Spec PyProof.Rows L2
/-- what is wanted behind a statement -/
structure Dk where
  nx : Dn → Prop
  rt : Al → Sv → Prop
  bk : Dn → Prop := fun _ => False
  ct : Dn → Prop := fun _ => False
structure DkR (K : PySem.W.Frag) (Γ : Gm) (S : List (Sv × V)) (Ψ : Dk) (D : Ends) : Prop where
  nx : ∀ {L : List Addr} {δ : Dn} {σ : L2.St} {H : Hp}, Sim K Γ L δ σ S H → Ψ.nx δ → D.nx σ H
  bk : ∀ {L : List Addr} {δ : Dn} {σ : L2.St} {H : Hp}, Sim K Γ L δ σ S H → Ψ.bk δ → D.bk σ H
  ct : ∀ {L : List Addr} {δ : Dn} {σ : L2.St} {H : Hp}, Sim K Γ L δ σ S H → Ψ.ct δ → D.ct σ H
  rt : ∀ {L : List Addr} {δ : Dn} {σ : L2.St} {T : List (Sv × V)} {s : Sv} {v : V} {H : Hp}, Sim K Γ L δ σ ((s, v) :: T) H → isOwn s = false → Ψ.rt δ.al s → D.rt v H
class DS (K : PySem.W.Frag) (Γ : Gm) (t : TS) (f : outParam (Dn → Dk → Prop)) : Prop where
  run : ∀ {L : List Addr} {δ : Dn} {σ : L2.St} {S : List (Sv × V)} {H : Hp} {Ψ : Dk} {D : Ends}, Sim K Γ L δ σ S H → f δ Ψ → DkR K Γ S Ψ D → t D σ H
def dSeq (ft fu : Dn → Dk → Prop) (δ : Dn) (Ψ : Dk) : Prop := ft δ { Ψ with nx := fun δ' => fu δ' Ψ }
theorem q_dSeq {ft fu : Dn → Dk → Prop} {δ : Dn} {Ψ : Dk} : dSeq ft fu δ Ψ = ft δ { Ψ with nx := fun δ' => fu δ' Ψ } := rfl
def dIf (fc : Dn → (Bool → Dn → Prop) → Prop) (ft fu : Dn → Dk → Prop) (δ : Dn) (Ψ : Dk) : Prop := fc δ fun b δ1 => condH b (ft δ1 Ψ) (fu δ1 Ψ) .mk .mk
theorem q_dIf {fc : Dn → (Bool → Dn → Prop) → Prop} {ft fu : Dn → Dk → Prop} {δ : Dn} {Ψ : Dk} : dIf fc ft fu δ Ψ = fc δ fun b δ1 => condH b (ft δ1 Ψ) (fu δ1 Ψ) .mk .mk := rfl
/-- to be stored: a list that another slot owns is let go -/
def asS (s : Sv) (δ : Dn) (k : Sv → Dn → Prop) : Prop :=
  match s with
  | .ali i => asD (.ali i) δ fun d δ' => k (.dat d) δ'
  | s => k s δ
section
variable {K : PySem.W.Frag} {Γ : Gm}
section
variable {L : List Addr} {δ : Dn} {σ : L2.St} {S : List (Sv × V)} {H H' : Hp} {s : Sv} {v : V}
theorem Top.sto {k : Sv → Dn → Prop} (T : Top K Γ L δ σ S H s v) (h : asS s δ k) : ∃ L' δ' t, Sim K Γ L' δ' σ ((t, v) :: S) H ∧ k t δ' := by
  cases s with
  | ali i =>
    obtain ⟨L', δ', d, J, q⟩ := T.dat (s := .ali i) (k := fun d δ' => k (.dat d) δ') h
    exact ⟨L', δ', _, J, q⟩
  | _ => exact ⟨L, δ, _, T, h⟩
theorem Top.drop (T : Top K Γ L δ σ S H s v) : Sim K Γ L δ σ S H := by
  cases s with
  | ali i => exact T.1
  | _ => exact Sim.pop T
/-- what slot k owns goes to the stack -/
theorem Sim.lend {ds : List PyData} {k : Nat} (I : Sim K Γ L δ σ S H) (hd : δ.sl[k]? = some (some (.own ds))) (hv : σ[k]? = some (some v)) : Sim K Γ L (δ.put k none) σ ((.own ds, v) :: S) H := by
  obtain ⟨_, w, e1, e2⟩ := I.slot k _ hd
  rw [hv] at e1
  cases e1
  have J := I.forget k
  exact { J with
    stk := fun p hp => (List.mem_cons.mp hp).elim (fun z => by rw [z]; exact e2) (J.stk p)
    nal := fun p hp => (List.mem_cons.mp hp).elim (fun z j => by rw [z]; exact fun z => (nomatch z)) (J.nal p)
    sepS := fun i s u e o ev p hp ho => (List.mem_cons.mp hp).elim (fun z => by
      rw [z]
      rcases get_set e with h | h
      · exact nomatch h.2.1
      · intro y
        have y' : v = u := y
        subst y'
        exact I.sep k i (.own ds) s v h.1 hd h.2 rfl o hv ev) fun hp => J.sepS i s u e o ev p hp ho
    sepT := List.pairwise_cons.mpr ⟨fun p hp _ o z => I.sepS k _ v hd rfl hv p hp o z.symm, J.sepT⟩
    sepB := fun p hp ho a ea => (List.mem_cons.mp hp).elim (fun z => by
      rw [z] at ea
      have ea' : v = .ref a := ea
      exact I.sepA k _ a hd rfl (ea' ▸ hv)) fun hp => J.sepB p hp ho a ea }
/-- and back -/
theorem Sim.back {ds : List PyData} {k : Nat} (I : Sim K Γ L δ σ ((.own ds, v) :: S) H) (hv : σ[k]? = some (some v)) : Sim K Γ L (δ.put k (some (.own ds))) σ S H := by
  have J := I.store k
  have e : σ.set k (some v) = σ := by
    apply List.ext_getElem?
    intro i
    rw [List.getElem?_set]
    by_cases z : k = i
    · subst z
      have hl := (List.getElem?_eq_some_iff.mp hv).1
      rw [if_pos rfl, if_pos hl, hv]
    · rw [if_neg z]
  rw [e] at J
  exact J
end
instance : DS K Γ tNext (fun δ Ψ => Ψ.nx δ) := ⟨fun {L δ σ S H Ψ D} I h q => q.nx I h⟩
instance : DS K Γ tNever (fun _ _ => False) := ⟨fun {L δ σ S H Ψ D} I h q => h⟩
instance : DS K Γ tCont (fun δ Ψ => Ψ.ct δ) := ⟨fun {L δ σ S H Ψ D} I h q => q.ct I h⟩
instance : DS K Γ tBreak (fun δ Ψ => Ψ.bk δ) := ⟨fun {L δ σ S H Ψ D} I h q => q.bk I h⟩
instance {t u : TS} {ft fu : Dn → Dk → Prop} [T : DS K Γ t ft] [U : DS K Γ u fu] : DS K Γ (tSeq t u) (dSeq ft fu) := ⟨fun {L δ σ S H Ψ D} I h q =>
  T.run I h ⟨fun J hj => U.run J hj q, q.bk, q.ct, q.rt⟩⟩
instance {e : TE} {fe : Dn → (Sv → Dn → Prop) → Prop} [E : DE K Γ e fe] : DS K Γ (tRet e) (fun δ Ψ => fe δ fun s δ1 => asA s δ1 fun t δ2 => Ψ.rt δ2.al t) := ⟨fun {L δ σ S H Ψ D} I h q =>
  E.run I h fun s L1 δ1 v H1 T h1 => by
    obtain ⟨L2, δ2, t, J, n, h2⟩ := T.arg h1
    exact q.rt J n h2⟩
instance : DS K Γ tRetN (fun δ Ψ => Ψ.rt δ.al (.dat .none)) := ⟨fun {L δ σ S H Ψ D} I h q => q.rt (I.dat (d := .none) (v := .non) rfl) rfl h⟩
instance {e : TE} {g : TG} {fe : Dn → (Sv → Dn → Prop) → Prop} {fg : Sv → Dn → (Dn → Prop) → Prop} {ws : List Nat} [E : DE K Γ e fe] [G : DG K Γ g fg ws] : DS K Γ (tAsg e g) (fun δ Ψ => fe δ fun s δ1 => asS s δ1 fun t δ2 => fg t δ2 Ψ.nx) := ⟨fun {L δ σ S H Ψ D} I h q =>
  E.run I h fun s L1 δ1 v H1 T h1 => by
    obtain ⟨L2, δ2, t, J, h2⟩ := T.sto h1
    exact G.run J h2 fun L3 δ3 σ3 H3 J3 _ h3 => q.nx J3 h3⟩
instance {c : TT} {t u : TS} {fc : Dn → (Bool → Dn → Prop) → Prop} {ft fu : Dn → Dk → Prop} [C : DT K Γ c fc] [T : DS K Γ t ft] [U : DS K Γ u fu] : DS K Γ (tIfS c t u) (dIf fc ft fu) := ⟨fun {L δ σ S H Ψ D} I h q =>
  C.run I h fun b L1 δ1 H1 J h1 => by
    cases b with
    | true => exact iteT (T.run J h1 q)
    | false => exact iteF (U.run J h1 q)⟩
/-- x.append(e) -/
instance (priority := 2000) {i : Nat} {e : TE} {fe : Dn → (Sv → Dn → Prop) → Prop} [E : DE K Γ e fe] : DS K Γ (tDrop (tBM K "list" rAppend (tVar i) (tCons e tNil))) (fun δ Ψ => match δ.at_ i with
    | some (.own _) => fe δ fun s δ1 => asD s δ1 fun y δ2 => match δ2.at_ i with
      | some (.own ds) => ds.length < 1000000 ∧ Ψ.nx (δ2.put i (some (.own (ds ++ [y]))))
      | _ => False
    | _ => False) := ⟨fun {L δ σ S H Ψ D} I h q => by
  split at h
  · rename_i ds0 e0
    obtain ⟨_, w, e1, a, xs, rfl, _, _, e2, _⟩ := I.slot i _ (at_some e0)
    refine ⟨.ref a, e1, .inl ⟨rfl, _, sqL_of e2⟩, DE.data (T := E) I h fun y L1 δ1 v H1 J h1 => ?_⟩
    split at h1
    · rename_i ds e3
      have hd := at_some e3
      have J1 := J.pop.lend hd e1
      obtain ⟨b, ys, eb, b1, b2, b3, b4⟩ := J1.top
      cases eb
      have el := b4.len
      have hs := sizeLine_eq
      refine ⟨a, ys, v, rfl, rfl, b3, by omega, q.nx (L := L1) ?_ h1.2⟩
      have tp : SlR K Γ L1 σ H1 (.dat y) v := J.top
      have J2 := ((J1.dat (d := y) tp).append b3).back e1
      rw [put_put] at J2
      exact J2
    · exact h1.elim
  · exact h.elim⟩
instance {e : TE} {fe : Dn → (Sv → Dn → Prop) → Prop} [E : DE K Γ e fe] : DS K Γ (tDrop e) (fun δ Ψ => fe δ fun s δ1 => Ψ.nx δ1) := ⟨fun {L δ σ S H Ψ D} I h q =>
  E.run I h fun s L1 δ1 v H1 T h1 => q.nx T.drop h1⟩
/-- a, b = x, y -/
instance {i j : Nat} {a b : TE} {fa fb : Dn → (Sv → Dn → Prop) → Prop} [A : DE K Γ a fa] [B : DE K Γ b fb] : DS K Γ (tPar i j (tCons a (tCons b tNil))) (fun δ Ψ => i ≠ j ∧ fa δ fun s δ1 => asS s δ1 fun s1 δ2 => fb δ2 fun t δ3 => asS t δ3 fun t1 δ4 => Ψ.nx ((δ4.put i (some s1)).put j (some t1))) := ⟨fun {L δ σ S H Ψ D} I h q => by
  obtain ⟨ne, h⟩ := h
  refine A.run I h fun s L1 δ1 v H1 T h1 => ?_
  obtain ⟨L2', δ2, s1, J2, h2⟩ := T.sto h1
  refine B.run J2 h2 fun t L3 δ3 w H3 T3 h3 => ?_
  obtain ⟨L4, δ4, t1, J4, h4⟩ := T3.sto h3
  have J5 := (J4.store j).store i
  rw [put_comm _ _ (Ne.symm ne), List.set_comm (l := σ) _ _ (Ne.symm ne)] at J5
  exact ⟨v, w, rfl, q.nx J5 h4⟩⟩
/-- for -/
def forD (fg : Sv → Dn → (Dn → Prop) → Prop) (fb : Dn → Dk → Prop) (Ψ : Dk) : List PyData → Dn → Prop
  | [], δ => Ψ.nx δ
  | d :: ds, δ => fg (.dat d) δ fun δ1 => fb δ1 { Ψ with nx := forD fg fb Ψ ds, ct := forD fg fb Ψ ds, bk := Ψ.nx }
def forH (fg : Sv → Dn → (Dn → Prop) → Prop) (fb : Dn → Dk → Prop) (Ψ : Dk) (ds : List PyData) (δ : Dn) (_ : Tag fg) (_ : Tag fb) (_ : Tag Ψ) : Prop := forD fg fb Ψ ds δ
theorem q_forH {fg : Sv → Dn → (Dn → Prop) → Prop} {fb : Dn → Dk → Prop} {Ψ : Dk} {ds : List PyData} {δ : Dn} {a : Tag fg} {b : Tag fb} {c : Tag Ψ} : forH fg fb Ψ ds δ a b c = forD fg fb Ψ ds δ := rfl
def whileH (fc : Dn → (Bool → Dn → Prop) → Prop) (fb : Dn → Dk → Prop) (Ψ : Dk) (δ : Dn) (_ : Tag fc) (_ : Tag fb) (_ : Tag Ψ) : Prop := ∃ W : Nat → Dn → Prop, (∃ m, W m δ) ∧ ∀ m δ, W m δ → fc δ fun b δ1 => condH b (fb δ1 { Ψ with nx := fun δ2 => ∃ m', m' < m ∧ W m' δ2, ct := fun δ2 => ∃ m', m' < m ∧ W m' δ2, bk := Ψ.nx }) (Ψ.nx δ1) .mk .mk
theorem q_whileH {fc : Dn → (Bool → Dn → Prop) → Prop} {fb : Dn → Dk → Prop} {Ψ : Dk} {δ : Dn} {a : Tag fc} {b : Tag fb} {c : Tag Ψ} : whileH fc fb Ψ δ a b c = ∃ W : Nat → Dn → Prop, (∃ m, W m δ) ∧ ∀ m δ, W m δ → fc δ fun b δ1 => condH b (fb δ1 { Ψ with nx := fun δ2 => ∃ m', m' < m ∧ W m' δ2, ct := fun δ2 => ∃ m', m' < m ∧ W m' δ2, bk := Ψ.nx }) (Ψ.nx δ1) .mk .mk := rfl
def dFor (fi : Dn → (List PyData → Dn → Prop) → Prop) (fg : Sv → Dn → (Dn → Prop) → Prop) (fb : Dn → Dk → Prop) (δ : Dn) (Ψ : Dk) : Prop := fi δ fun ds δ1 => forH fg fb Ψ ds δ1 .mk .mk .mk
theorem q_dFor {fi : Dn → (List PyData → Dn → Prop) → Prop} {fg : Sv → Dn → (Dn → Prop) → Prop} {fb : Dn → Dk → Prop} {δ : Dn} {Ψ : Dk} : dFor fi fg fb δ Ψ = fi δ fun ds δ1 => forH fg fb Ψ ds δ1 .mk .mk .mk := rfl
def dWh (fc : Dn → (Bool → Dn → Prop) → Prop) (fb : Dn → Dk → Prop) (δ : Dn) (Ψ : Dk) : Prop := whileH fc fb Ψ δ .mk .mk .mk
theorem q_dWh {fc : Dn → (Bool → Dn → Prop) → Prop} {fb : Dn → Dk → Prop} {δ : Dn} {Ψ : Dk} : dWh fc fb δ Ψ = whileH fc fb Ψ δ .mk .mk .mk := rfl
instance {wk : Bool} {wi : TI} {g : TG} {tb : TS} {fi : Dn → (List PyData → Dn → Prop) → Prop} {fg : Sv → Dn → (Dn → Prop) → Prop} {ws : List Nat} {fb : Dn → Dk → Prop} [Ii : DI K Γ wi wk fi] [G : DGi K Γ wk g fg ws] [Bd : DS K Γ tb fb] :
    DS K Γ (tFor wi g tb) (dFor fi fg fb) := ⟨fun {L δ σ S H Ψ D} I h q => by
  refine Ii.run I h fun ds L1 δ1 J hz H1 I1 hno It h1 => ?_
  have th : ∀ {L : List Addr} {δ : Dn} {σ : L2.St} {H : Hp}, Sim K Γ L δ σ (hz ++ S) H → Sim K Γ L δ σ S H := fun J => J.thin (List.sublist_append_right _ _)
  refine ⟨fun i m σ H2 => m = ds.length - i ∧ i ≤ ds.length ∧ ∃ L2 δ2, Sim K Γ L2 δ2 σ (hz ++ S) H2 ∧ forD fg fb Ψ (ds.drop i) δ2, ⟨ds.length, by simp, Nat.zero_le _, _, δ1, I1, h1⟩, ?_⟩
  rintro i m σ2 H2 ⟨rfl, hi, L2, δ2, J2, h2⟩
  have hm : ∀ h ∈ hz, h ∈ hz ++ S := fun h hh => List.mem_append_left _ hh
  by_cases hlt : i < ds.length
  · refine .inr ⟨It.go J2 hm hlt, fun σ' H' => i + 1 ≤ ds.length ∧ ∃ L2 δ2, Sim K Γ L2 δ2 σ' (hz ++ S) H' ∧ forD fg fb Ψ (ds.drop (i + 1)) δ2, fun σ' H' q' => ⟨ds.length - (i + 1), by omega, rfl, q'⟩, fun x H3 y => ?_⟩
    rw [List.drop_eq_getElem_cons hlt] at h2
    obtain ⟨f3, dx⟩ := It.yld J2 hm (List.getElem?_eq_getElem hlt) y
    refine G.run (J2.more f3) dx h2 fun L4 δ4 σ4 H4 J4 _ h4 => Bd.run J4 h4 ⟨fun J5 h5 => ⟨by omega, _, _, J5, h5⟩, fun J5 h5 => q.nx (th J5) h5, fun J5 h5 => ⟨by omega, _, _, J5, h5⟩, q.rt⟩
  · have e : i = ds.length := by omega
    subst e
    rw [List.drop_length] at h2
    exact .inl ⟨It.stop J2 hm, q.nx (th J2) h2⟩⟩
/-- while -/
instance {c : TT} {tb : TS} {fc : Dn → (Bool → Dn → Prop) → Prop} {fb : Dn → Dk → Prop} [C : DT K Γ c fc] [Bd : DS K Γ tb fb] :
    DS K Γ (tWhile c tb) (dWh fc fb) := ⟨fun {L δ σ S H Ψ D} I h q => by
  obtain ⟨W, ⟨m0, w0⟩, turn⟩ := h
  refine ⟨fun m σ H => ∃ L δ, Sim K Γ L δ σ S H ∧ W m δ, ⟨m0, L, δ, I, w0⟩, ?_⟩
  rintro m σ1 H1 ⟨L1, δ1, J1, w1⟩
  refine C.run J1 (turn m δ1 w1) fun b L2 δ2 H2 J2 h2 => ?_
  cases b with
  | true => exact iteT ⟨fun σ' H' => ∃ L δ m', m' < m ∧ Sim K Γ L δ σ' S H' ∧ W m' δ, fun σ' H' ⟨L, δ, m', hm, J, hw⟩ => ⟨m', hm, L, δ, J, hw⟩,
      Bd.run J2 h2 ⟨fun J ⟨m', hm, hw⟩ => ⟨_, _, m', hm, J, hw⟩, fun J hb => q.nx J hb, fun J ⟨m', hm, hw⟩ => ⟨_, _, m', hm, J, hw⟩, q.rt⟩⟩
  | false => exact iteF (q.nx J2 h2)⟩
end
def callD (g : List Sv → (PyData → Prop) → Prop) (as : List Sv) (Φ : PyData → Prop) (_ : Tag g) (_ : Tag Φ) : Prop := g as Φ
theorem q_callD {g : List Sv → (PyData → Prop) → Prop} {as : List Sv} {Φ : PyData → Prop} {a : Tag g} {b : Tag Φ} : callD g as Φ a b = g as Φ := rfl
def callH (g : Al → List Sv → (Al → Sv → Prop) → Prop) (al : Al) (as : List Sv) (Φ : Al → Sv → Prop) (_ : Tag g) (_ : Tag Φ) : Prop := g al as Φ
theorem q_callH {g : Al → List Sv → (Al → Sv → Prop) → Prop} {al : Al} {as : List Sv} {Φ : Al → Sv → Prop} {a : Tag g} {b : Tag Φ} : callH g al as Φ a b = g al as Φ := rfl
/-- a def's promise: its transformer of the arguments, no known object asked -/
def spD (K : PySem.W.Frag) (n : Nat) (g : List Sv → (PyData → Prop) → Prop) : Sp := fun vs H Q _ => vs.length = n ∧ ∃ (L P : List Addr) (as : List Sv) (Φ : PyData → Prop), ((∀ p ∈ P, p ∈ L) ∧ LamX.Tabs (LT K) H) ∧ (∀ a ∈ L, H a ≠ none) ∧ (∀ p ∈ P, Pen H p) ∧
  AR K ⟨P, P, L, H⟩ L H as vs ∧ g as Φ ∧ ∀ d v H', Fr K P H H' → (∀ p ∈ P, Pen H' p) → Dv K L H' d v → Φ d → Q v H'
/-- a def's promise: its transformer of the known objects and the arguments -/
def spH (K : PySem.W.Frag) (n : Nat) (g : Al → List Sv → (Al → Sv → Prop) → Prop) : Sp := fun vs H Q _ => vs.length = n ∧ ∃ (L W P : List Addr) (al : Al) (as : List Sv) (Φ : Al → Sv → Prop),
  ((∀ p ∈ P, p ∈ W) ∧ LamX.Tabs (LT K) H) ∧ (∀ p ∈ W, p ∈ L) ∧ (∀ a ∈ L, H a ≠ none) ∧ (∀ p ∈ P, Pen H p) ∧ (∀ a o, al a = some o → (a ∈ W ∧ a ∉ P) ∧ ObR K L H a o) ∧ AR K ⟨P, W, L, H⟩ L H as vs ∧ g al as Φ ∧
  ∀ L' al' s v H', Fr K W H H' → (∀ p ∈ P, Pen H' p) → (∀ a ∈ L, a ∈ L') → (∀ a ∈ L', H' a ≠ none) → (∀ a ∈ L', a ∈ L ∨ H a = none) → (∀ a o, al' a = some o → (a ∈ L' ∧ a ∉ P ∧ (a ∈ W ∨ H a = none)) ∧ ObR K L' H' a o) →
    SlR K ⟨P, W, L, H⟩ L' [] H' s v → isOwn s = false → (∀ j, s ≠ .ali j) → Φ al' s → Q v H'
theorem AR.len {K : PySem.W.Frag} {Γ : Gm} {L : List Addr} {H : Hp} : ∀ {ss : List Sv} {vs : List V}, AR K Γ L H ss vs → vs.length = ss.length
  | [], _, h => by cases h; rfl
  | _ :: _, _, ⟨v, r, e, _, _, _, h⟩ => by cases e; show r.length + 1 = _ + 1; rw [h.len]
theorem AR.swap {K : PySem.W.Frag} {Γ Γ' : Gm} (hP : Γ.P = Γ'.P) {L : List Addr} {H : Hp} : ∀ {ss : List Sv} {vs : List V}, AR K Γ L H ss vs → AR K Γ' L H ss vs
  | [], _, h => h
  | s :: ss, _, ⟨v, r, e, h1, h2, h3, h4⟩ => ⟨v, r, e, by
    cases s with
    | own ds => cases h2
    | pen p => exact ⟨h1.1, hP ▸ h1.2⟩
    | _ => exact h1, h2, h3, h4.swap hP⟩
theorem AR.at {K : PySem.W.Frag} {Γ : Gm} {L : List Addr} {H : Hp} {σ : L2.St} : ∀ {ss : List Sv} {vs : List V} {i : Nat} {s : Sv}, AR K Γ L H ss vs → ss[i]? = some s → (∀ j, s ≠ .ali j) ∧ isOwn s = false ∧ ∃ v, vs[i]? = some v ∧ SlR K Γ L σ H s v
  | [], _, _, _, _, e => by simp at e
  | s :: ss, _, 0, t, ⟨v, r, e1, h1, h2, h3, _⟩, e => by
    cases e1
    simp at e
    subst e
    refine ⟨h3, h2, v, rfl, ?_⟩
    cases s with
    | ali j => exact absurd rfl (h3 j)
    | _ => exact h1
  | s :: ss, _, i + 1, t, ⟨v, r, e1, _, _, _, h4⟩, e => by
    cases e1
    obtain ⟨a, b, w, c, d⟩ := h4.at (σ := σ) (i := i) (s := t) (by simpa using e)
    exact ⟨a, b, w, by simpa using c, d⟩
/-- the environment at a def's entry -/
def startS (n : Nat) (as : List Sv) : List (Option Sv) := as.map some ++ List.replicate (n - as.length) none
theorem sim_start {K : PySem.W.Frag} {P W L : List Addr} {H : Hp} {N : List Str} {al : Al} {as : List Sv} {vs : List V} (h1 : (∀ p ∈ P, p ∈ W) ∧ LamX.Tabs (LT K) H) (h1' : ∀ p ∈ W, p ∈ L) (h2 : ∀ a ∈ L, H a ≠ none) (h3 : ∀ p ∈ P, Pen H p)
    (h4 : ∀ a o, al a = some o → (a ∈ W ∧ a ∉ P) ∧ ObR K L H a o) (ar : AR K ⟨P, W, L, H⟩ L H as vs) :
    Sim K ⟨P, W, L, H⟩ L ⟨startS N.length as, al⟩ (L2.start N vs) [] H := by
  have el := ar.len
  have at_ : ∀ {i : Nat} {s : Sv}, (startS N.length as)[i]? = some (some s) → as[i]? = some s := fun {i s} e => by
    unfold startS at e
    by_cases hi : i < as.length
    · rw [List.getElem?_append_left (by simpa using hi), List.getElem?_map] at e
      cases e2 : as[i]? with
      | none => rw [e2] at e; cases e
      | some t => rw [e2] at e; cases e; rfl
    · rw [List.getElem?_append_right (by simpa using hi), List.getElem?_replicate] at e
      split at e <;> cases e
  have st : ∀ {i : Nat} {v : V}, vs[i]? = some v → (L2.start N vs)[i]? = some (some v) := fun {i v} e => by
    unfold L2.start
    have hi := (List.getElem?_eq_some_iff.mp e).1
    rw [List.getElem?_append_left (by simpa using hi), List.getElem?_map, e]
    rfl
  have no : ∀ {i : Nat} {s : Sv}, (startS N.length as)[i]? = some (some s) → isOwn s = true → False := fun e o => by
    obtain ⟨_, b, _⟩ := ar.at (σ := L2.start N vs) (at_ e)
    rw [o] at b
    cases b
  exact {
    t0 := h1.2, fr := .refl _ _, pens := h3, pin := h1.1, win := h1', sub := fun _ z => z, live := h2, old := fun _ z => .inl z
    len := by
      show (startS N.length as).length = _
      unfold startS L2.start
      rw [List.length_append, List.length_append, List.length_map, List.length_map, List.length_replicate, List.length_replicate, el]
    slot := fun i s e => let ⟨a, _, v, c, d⟩ := ar.at (σ := L2.start N vs) (at_ e); ⟨a, v, st c, d⟩
    stk := fun _ z => nomatch z
    nal := fun _ z => nomatch z
    sep := fun i j s t v n e1 e2 o => (no e1 o).elim
    sepS := fun _ _ _ _ _ _ _ z => nomatch z
    sepT := List.Pairwise.nil
    obj := fun a o e => let ⟨q1, q2⟩ := h4 a o e; ⟨⟨h1' a q1.1, q1.2, .inl q1.1⟩, q2⟩
    sepA := fun i s a e o => (no e o).elim
    sepB := fun _ z => nomatch z }
def onD (s : Sv) (k : PyData → Prop) : Prop := match s with
  | .dat d => k d
  | _ => False
theorem run_H {K : PySem.W.Frag} {n : Nat} {N : List Str} {t : TS} {f : Gm → Dn → Dk → Prop} {g : Al → List Sv → (Al → Sv → Prop) → Prop} [T : ∀ Γ, DS K Γ t (f Γ)] {vs : List V} {H : Hp} {Q : VK} {E : XK} (h : spH K n g vs H Q E)
    (hg : ∀ (Γ : Gm) (al : Al) (as : List Sv) (Φ : Al → Sv → Prop), g al as Φ → f Γ ⟨startS N.length as, al⟩ { nx := fun δ => ∃ al', Sub al' δ.al ∧ Φ al' (.dat .none), rt := fun al2 s => ∃ al', Sub al' al2 ∧ Φ al' s }) : t { nx := fun _ H' => Q .non H', rt := Q } (L2.start N vs) H := by
  obtain ⟨_, L, W, P, al, as, Φ, h1, h1', h2, h3, h4, ar, hgs, q⟩ := h
  have fin : ∀ {L2' : List Addr} {δ : Dn} {σ : L2.St} {T : List (Sv × V)} {s : Sv} {v : V} {H2 : Hp}, Sim K ⟨P, W, L, H⟩ L2' δ σ ((s, v) :: T) H2 → isOwn s = false → (∃ al', Sub al' δ.al ∧ Φ al' s) → Q v H2 := fun {L2' δ σ T s v H2} J n hp => by
    obtain ⟨al', hs, hq⟩ := hp
    have na := J.nal _ (List.mem_cons_self ..)
    refine q L2' al' s v H2 J.fr J.pens J.sub J.live J.old (fun a o e => J.obj a o (hs a o e)) ?_ n na hq
    have tp := J.top
    cases s with
    | ali j => exact absurd rfl (na j)
    | own ds => cases n
    | _ => exact tp
  exact (T ⟨P, W, L, H⟩).run (sim_start h1 h1' h2 h3 h4 ar) (hg ⟨P, W, L, H⟩ al as Φ hgs) ⟨fun J hj => fin (J.dat (d := .none) (v := .non) rfl) rfl hj, fun _ z => z.elim, fun _ z => z.elim, fun J n h1 => fin J n h1⟩
section
variable {K : PySem.W.Frag} {Γ : Gm}
theorem Sim.called {L : List Addr} {δ : Dn} {σ : L2.St} {S : List (Sv × V)} {H : Hp} (J : Sim K Γ L δ σ S H) {n : Nat} {g : Al → List Sv → (Al → Sv → Prop) → Prop} {as : List Sv} {vs : List V} {E : XK} {Q : VK} {Φ : Sv → Dn → Prop}
    (ar : AR K Γ L H as vs) (hn : as.length = n) (hg : g δ.al as fun al' s => Φ s (δ.know al'))
    (q : ∀ s L' al' v H', Sim K Γ L' (δ.know al') σ ((s, v) :: S) H' → Φ s (δ.know al') → Q v H') : spH K n g vs H Q E := by
  classical
  have pW : ∀ p ∈ Γ.P, p ∈ L.filter (fun a => decide (a ∈ Γ.P ∨ δ.al a ≠ none)) := fun p hp => List.mem_filter.mpr ⟨J.sub p (J.pin0 p hp), decide_eq_true (.inl hp)⟩
  have inW : ∀ {a : Addr}, a ∈ L.filter (fun a => decide (a ∈ Γ.P ∨ δ.al a ≠ none)) → a ∈ L ∧ (a ∈ Γ.W ∨ Γ.H0 a = none) ∧ (a ∈ Γ.P ∨ δ.al a ≠ none) := fun {a} ha => by
    obtain ⟨h1, h2⟩ := List.mem_filter.mp ha
    have h3 := of_decide_eq_true h2
    refine ⟨h1, ?_, h3⟩
    rcases h3 with z | z
    · exact .inl (J.pin a z)
    · cases e : δ.al a with
      | none => exact absurd e z
      | some o => exact (J.obj a o e).1.2.2
  refine ⟨ar.len.trans hn, L, L.filter (fun a => decide (a ∈ Γ.P ∨ δ.al a ≠ none)), Γ.P, δ.al, as, _, ⟨pW, J.tbs⟩, fun p hp => (inW hp).1, J.live, J.pens, fun a o e => ?_, AR.swap (Γ := Γ) (Γ' := ⟨Γ.P, L.filter (fun a => decide (a ∈ Γ.P ∨ δ.al a ≠ none)), L, H⟩) rfl ar, hg, fun L' al' s v H' f hp sub live old obj rs no na hΦ => ?_⟩
  · obtain ⟨q1, q2⟩ := J.obj a o e
    exact ⟨⟨List.mem_filter.mpr ⟨q1.1, decide_eq_true (.inr fun z => by rw [z] at e; cases e)⟩, q1.2.1⟩, q2⟩
  · have dv : ∀ {d : PyData} {v : V}, Dv K L H d v → Dv K L' H' d v := fun h => Dv.mono f (fun a ha => sub a (inW ha).1) (Dv.sub old h)
    have dvs : ∀ {d : List PyData} {v : List V}, Dvs K L H d v → Dvs K L' H' d v := fun h => Dvs.mono f (fun a ha => sub a (inW ha).1) (Dvs.sub old h)
    have sl : ∀ {s : Sv} {v : V}, SlR K Γ L σ H s v → (isOwn s = true → ∀ a, v = .ref a → δ.al a = none) → SlR K Γ L' σ H' s v := fun {s v} h n => by
      cases s with
      | dat d => exact dv h
      | own ds =>
        obtain ⟨b, xs, e, h1, h2, h3, h4⟩ := h
        refine ⟨b, xs, e, sub b h1, h2, f.ne h3 fun z => ?_, dvs h4⟩
        rcases (inW z).2.2 with y | y
        · exact h2 (J.pin0 b y)
        · exact y (n rfl b e)
      | _ => exact h
    have none_of : ∀ {b : Addr} {u : HO}, H b = some u → b ∉ Γ.L0 → δ.al b = none → al' b = none := fun {b u} e h2 n => by
      cases e2 : al' b with
      | none => rfl
      | some o =>
        rcases (obj b o e2).1.2.2 with z | z
        · rcases (inW z).2.2 with y | y
          · exact absurd (J.pin0 b y) h2
          · exact absurd n y
        · rw [e] at z
          cases z
    have J2 : Sim K Γ L' (δ.know al') σ S H' := {
      t0 := J.t0
      fr := J.fr.cut f fun l hl => (inW hl).2.1
      pens := hp, pin := J.pin, win := J.win
      sub := fun a ha => sub a (J.sub a ha)
      live := live
      old := fun a ha => (old a ha).elim (J.old a) fun z => .inr (J.fr.free _ z)
      len := J.len
      slot := fun i s e => let ⟨n, v, e1, e2⟩ := J.slot i s e; ⟨n, v, e1, sl e2 fun o a ea => J.sepA i s a e o (ea ▸ e1)⟩
      stk := fun p hp => sl (J.stk p hp) (J.sepB p hp)
      nal := J.nal, sep := J.sep, sepS := J.sepS, sepT := J.sepT
      obj := fun a o e => by
        obtain ⟨⟨q1, q2, q3⟩, q4⟩ := obj a o e
        exact ⟨⟨q1, q2, q3.elim (fun z => (inW z).2.1) fun z => .inr (J.fr.free _ z)⟩, q4⟩
      sepA := fun i s a e o ea => by
        obtain ⟨_, v, e1, e2⟩ := J.slot i s e
        rw [ea] at e1
        cases e1
        obtain ⟨b, xs, e3, h1, h2, h3⟩ := e2.at_own o
        cases e3
        exact none_of h3 h2 (J.sepA i s _ e o ea)
      sepB := fun p hp o a ea => by
        obtain ⟨b, xs, e3, h1, h2, h3⟩ := (J.stk p hp).at_own o
        rw [ea] at e3
        cases e3
        exact none_of h3 h2 (J.sepB p hp o _ ea) }
    have rs' : SlR K Γ L' σ H' s v := by
      cases s with
      | ali j => exact absurd rfl (na j)
      | own ds => cases no
      | _ => exact rs
    exact q s L' al' v H' (J2.push rs' no na) hΦ
instance {n : Nat} {g : List Sv → (PyData → Prop) → Prop} {t : TA} {f : Dn → (List Sv → Dn → Prop) → Prop} [A : DA K Γ t f] : DE K Γ (tCall (spD K n g) [] E0 t) (fun δ Φ => f δ fun as δ1 => as.length = n ∧ callD g as (fun d => Φ (.dat d) δ1) .mk .mk) := ⟨fun {L δ σ S H Φ Q} I h q => by
  refine A.run I h fun as L1 δ1 vs H1 J ar h1 => ?_
  rw [List.append_nil]
  refine ⟨ar.len.trans h1.1, L1, Γ.P, as, _, ⟨fun p hp => J.sub p (J.pin0 p hp), J.tbs⟩, J.live, J.pens, AR.swap (Γ := Γ) (Γ' := ⟨Γ.P, Γ.P, L1, H1⟩) rfl ar, h1.2, fun d v H' f1 p1 dv hd => ?_⟩
  exact q (.dat d) L1 δ1 v H' ((J.keep f1 p1).dat dv) hd⟩
theorem Sim.topOf {L : List Addr} {δ : Dn} {σ : L2.St} {S : List (Sv × V)} {H : Hp} {s : Sv} {v : V} (J : Sim K Γ L δ σ ((s, v) :: S) H) : Top K Γ L δ σ S H s v := by
  have na := J.nal _ (List.mem_cons_self ..)
  cases s with
  | ali j => exact absurd rfl (na j)
  | _ => exact J
instance {n : Nat} {g : Al → List Sv → (Al → Sv → Prop) → Prop} {t : TA} {f : Dn → (List Sv → Dn → Prop) → Prop} [A : DA K Γ t f] : DE K Γ (tCall (spH K n g) [] E0 t) (fun δ Φ => f δ fun as δ1 => as.length = n ∧ callH g δ1.al as (fun al' s => Φ s (δ1.know al')) .mk .mk) := ⟨fun {L δ σ S H Φ Q} I h q => by
  refine A.run I h fun as L1 δ1 vs H1 J ar h1 => ?_
  rw [List.append_nil]
  exact J.called ar h1.1 h1.2 fun s L' al' v H' J2 h2 => q s L' _ v H' J2.topOf h2⟩
end
end B
namespace B
open PySem PySem.Spec PyProof.Rows L2
/-- the items of a list or a tuple, looked at -/
def seeS (s : Sv) (δ : Dn) (k : List PyData → Prop) : Prop :=
  match s with
  | .dat (.list ds) => k ds
  | .dat (.tuple ds) => k ds
  | .own ds => k ds
  | .ali i => match δ.at_ i with
    | some (.own ds) => k ds
    | some (.dat (.list ds)) => k ds
    | some (.dat (.tuple ds)) => k ds
    | _ => False
  | _ => False
section
variable {K : PySem.W.Frag} {Γ : Gm}
theorem see_run {L : List Addr} {δ : Dn} {σ : L2.St} {S : List (Sv × V)} {H : Hp} {s : Sv} {v : V} {k : List PyData → Prop} (T : Top K Γ L δ σ S H s v) (h : seeS s δ k) :
    ∃ a xs ds, v = .ref a ∧ ((H a = some (.lst xs)) ∨ Tp K H a xs) ∧ Dvs K L H ds xs ∧ k ds := by
  have dat : ∀ {d : PyData}, Dv K L H d v → seeS (.dat d) δ k → ∃ a xs ds, v = .ref a ∧ ((H a = some (.lst xs)) ∨ Tp K H a xs) ∧ Dvs K L H ds xs ∧ k ds := fun {d} dv h => by
    cases d with
    | list ds =>
      obtain ⟨a, xs, e, _, t, r⟩ := dv
      exact ⟨a, xs, ds, e, .inl t, r, h⟩
    | tuple ds =>
      obtain ⟨a, xs, e, t, r⟩ := dv
      exact ⟨a, xs, ds, e, .inr t, r, h⟩
    | _ => exact h.elim
  cases s with
  | dat d => exact dat (Sim.top T) h
  | pen p => exact h.elim
  | fn a => exact h.elim
  | ref a => exact h.elim
  | own ds =>
    obtain ⟨a, xs, e, _, _, t, r⟩ := Sim.top T
    exact ⟨a, xs, ds, e, .inl t, r, h⟩
  | ali i =>
    obtain ⟨I, hv⟩ := T
    unfold seeS at h
    dsimp only at h
    split at h
    · rename_i ds e
      obtain ⟨_, w, e1, a, xs, e2, _, _, t, r⟩ := I.slot i _ (at_some e)
      rw [hv] at e1
      cases e1
      exact ⟨a, xs, ds, e2, .inl t, r, h⟩
    · rename_i ds e
      obtain ⟨_, w, e1, e2⟩ := I.slot i _ (at_some e)
      rw [hv] at e1
      cases e1
      exact dat (d := .list ds) e2 h
    · rename_i ds e
      obtain ⟨_, w, e1, e2⟩ := I.slot i _ (at_some e)
      rw [hv] at e1
      cases e1
      exact dat (d := .tuple ds) e2 h
    · exact h.elim
/-- len -/
instance {e : TE} {fe : Dn → (Sv → Dn → Prop) → Prop} [E : DE K Γ e fe] : DE K Γ (tCB (rLenS K) (tCons e tNil)) (fun δ Φ => fe δ fun s δ1 => seeS s δ1 fun ds => Φ (.dat (.int (ds.length : Int))) δ1) := ⟨fun {L δ σ S H Φ Q} I h q =>
  E.run I h fun s L1 δ1 v H1 T h1 => by
    obtain ⟨a, xs, ds, rfl, t, r, h2⟩ := see_run T h1
    refine ⟨a, xs, rfl, t.imp sqL_of Tp.sq, ?_⟩
    rw [r.len]
    exact q (.dat (.int _)) L1 δ1 _ H1 (T.drop.dat rfl) h2⟩
/-- tuple(a list or a tuple) -/
instance {e : TE} {fe : Dn → (Sv → Dn → Prop) → Prop} [E : DE K Γ e fe] : DE K Γ (tCB (rTupZ K) (tCons e tNil)) (fun δ Φ => fe δ fun s δ1 => seeS s δ1 fun ds => Φ (.dat (.tuple ds)) δ1) := ⟨fun {L δ σ S H Φ Q} I h q =>
  E.run I h fun s L1 δ1 v H1 T h1 => by
    obtain ⟨a, xs, ds, rfl, t, r, h2⟩ := see_run T h1
    refine ⟨a, xs, rfl, ?_⟩
    rcases t with t | t
    · exact .inl ⟨sqL_of t, fun l o nl od => q (.dat (.tuple ds)) L1 δ1 _ _ ((T.drop.more (.new nl)).dat ⟨l, xs, rfl, .made od, r.mono (P := []) (.new nl) fun _ z => nomatch z⟩) h2⟩
    · exact .inr ⟨t.sq, q (.dat (.tuple ds)) L1 δ1 _ H1 (T.drop.dat ⟨a, xs, rfl, t, r⟩) h2⟩⟩
/-- all, any of a list of bools -/
def boolsD : List PyData → Option (List Bool)
  | [] => some []
  | .bool b :: ds => (boolsD ds).map fun bs => b :: bs
  | _ :: _ => none
theorem bools_run {L : List Addr} {H : Hp} : ∀ {ds : List PyData} {xs : List V} {bs : List Bool}, Dvs K L H ds xs → boolsD ds = some bs → xs = bs.map V.bl
  | [], _, _, h, e => by cases e; exact h
  | .bool b :: ds, _, bs, ⟨v, r, e1, h1, h2⟩, e => by
    unfold boolsD at e
    cases e3 : boolsD ds with
    | none => rw [e3] at e; cases e
    | some cs =>
      rw [e3] at e
      cases e
      cases (show v = .bl b from h1)
      rw [e1, bools_run h2 e3]
      rfl
  | .none :: _, _, _, _, e => by cases e
  | .int _ :: _, _, _, _, e => by cases e
  | .str _ :: _, _, _, _, e => by cases e
  | .tuple _ :: _, _, _, _, e => by cases e
  | .list _ :: _, _, _, _, e => by cases e
  | .dict _ :: _, _, _, _, e => by cases e
def onBs (ds : List PyData) (k : List Bool → Prop) : Prop := match boolsD ds with
  | some bs => k bs
  | none => False
instance {e : TE} {fe : Dn → (Sv → Dn → Prop) → Prop} [E : DE K Γ e fe] : DE K Γ (tCB (rAll K) (tCons e tNil)) (fun δ Φ => fe δ fun s δ1 => asD s δ1 fun d δ2 => onL d fun ds => onBs ds fun bs => Φ (.dat (.bool (bs.all id))) δ2) := ⟨fun {L δ σ S H Φ Q} I h q =>
  DE.data (T := E) I h fun d L1 δ1 v H1 J h1 => by
    cases d with
    | list ds =>
      obtain ⟨a, xs, rfl, _, t, r⟩ := J.top
      have h2 : onBs ds fun bs => Φ (.dat (.bool (bs.all id))) δ1 := h1
      unfold onBs at h2
      split at h2
      · rename_i bs e
        have ex := bools_run r e
        subst ex
        exact ⟨a, bs, rfl, sqL_of t, q (.dat (.bool _)) L1 δ1 _ H1 (J.pop.dat rfl) h2⟩
      · exact h2.elim
    | _ => exact h1.elim⟩
/-- isinstance(x, int) and the like -/
theorem isi_run {T : String} {isi : PyData → Bool} (hk : ∀ d, PySem.W.kitOne K (.type (tyD d)) (.type T) = some (isi d)) (hc : ClsV (.ty T) (.type T)) {e : TE} {fe : Dn → (Sv → Dn → Prop) → Prop} [E : DE K Γ e fe] :
    DE K Γ (tCB (rIsi K) (tCons e (tCons (tC (.ty T)) tNil))) (fun δ Φ => fe δ fun s δ1 => asD s δ1 fun d δ2 => Φ (.dat (.bool (isi d))) δ2) := ⟨fun {L δ σ S H Φ Q} I h q =>
  DE.data (T := E) I h fun d L1 δ1 v H1 J h1 => ⟨v, .ty T, _, _, isi d, rfl, hc, Dv.ty J.top, hk d, q (.dat (.bool _)) L1 δ1 _ H1 (J.pop.dat rfl) h1⟩⟩
end
def drawD (as : List Sv) (Φ : Int → Prop) : Prop := match as with
  | [.pen _, .dat (.int m)] => (1 ≤ m ∧ m ≤ 1000000) ∧ ∀ d, 0 ≤ d → d < m → Φ d
  | _ => False
def drawH (as : List Sv) (Φ : Int → Prop) (_ : Tag Φ) : Prop := drawD as Φ
theorem q_drawH {as : List Sv} {Φ : Int → Prop} {t : Tag Φ} : drawH as Φ t = drawD as Φ := rfl
def fn1 (F : PyData → (PyData → Prop) → Prop) (as : List Sv) (Φ : PyData → Prop) : Prop := match as with
  | [.dat x1] => F x1 Φ
  | _ => False
def fn2 (F : PyData → PyData → (PyData → Prop) → Prop) (as : List Sv) (Φ : PyData → Prop) : Prop := match as with
  | [.dat x1, .dat x2] => F x1 x2 Φ
  | _ => False
def fn3 (F : PyData → PyData → PyData → (PyData → Prop) → Prop) (as : List Sv) (Φ : PyData → Prop) : Prop := match as with
  | [.dat x1, .dat x2, .dat x3] => F x1 x2 x3 Φ
  | _ => False
def fn4 (F : PyData → PyData → PyData → PyData → (PyData → Prop) → Prop) (as : List Sv) (Φ : PyData → Prop) : Prop := match as with
  | [.dat x1, .dat x2, .dat x3, .dat x4] => F x1 x2 x3 x4 Φ
  | _ => False
def pn0 (F : (PyData → Prop) → Prop) (as : List Sv) (Φ : PyData → Prop) : Prop := match as with
  | [.pen _] => F Φ
  | _ => False
def pn1 (F : PyData → (PyData → Prop) → Prop) (as : List Sv) (Φ : PyData → Prop) : Prop := match as with
  | [.pen _, .dat x1] => F x1 Φ
  | _ => False
def pn2 (F : PyData → PyData → (PyData → Prop) → Prop) (as : List Sv) (Φ : PyData → Prop) : Prop := match as with
  | [.pen _, .dat x1, .dat x2] => F x1 x2 Φ
  | _ => False
def pn3 (F : PyData → PyData → PyData → (PyData → Prop) → Prop) (as : List Sv) (Φ : PyData → Prop) : Prop := match as with
  | [.pen _, .dat x1, .dat x2, .dat x3] => F x1 x2 x3 Φ
  | _ => False
end B
set_option maxHeartbeats 4000000
namespace B
open PySem PySem.Spec PyProof.Rows L2
/-- how many unlike ones among the first i -/
def unl (xs : List Str) : Nat → Nat
  | 0 => 0
  | i + 1 => if (xs.take i).any (· == xs.getD i Str.empty) then unl xs i else unl xs i + 1
end B
namespace B
open PySem PySem.Spec PyProof.Rows L2
def tLenSetS (K : PySem.W.Frag) (ta : TE) : TE := fun σ H Q => ta σ H fun x H1 => ∃ (l : Addr) (xs : List Str), x = .ref l ∧ (SqL K H1 l (xs.map V.str) ∨ SqT K H1 l (xs.map V.str)) ∧ xs.length ≤ 1000 ∧ Q (.int (unl xs xs.length : Nat)) H1
/-- data that are texts -/
def textsD : List PyData → Option (List Str)
  | [] => some []
  | .str x :: ds => (textsD ds).map fun xs => x :: xs
  | _ :: _ => none
theorem texts_run {K : PySem.W.Frag} {L : List Addr} {H : Hp} : ∀ {ds : List PyData} {vs : List V} {xs : List Str}, Dvs K L H ds vs → textsD ds = some xs → vs = xs.map V.str
  | [], _, _, h, e => by cases e; exact h
  | .str b :: ds, _, bs, ⟨v, r, e1, h1, h2⟩, e => by
    unfold textsD at e
    cases e3 : textsD ds with
    | none => rw [e3] at e; cases e
    | some cs =>
      rw [e3] at e
      cases e
      cases (show v = .str b from h1)
      rw [e1, texts_run h2 e3]
      rfl
  | .none :: _, _, _, _, e => by cases e
  | .int _ :: _, _, _, _, e => by cases e
  | .bool _ :: _, _, _, _, e => by cases e
  | .tuple _ :: _, _, _, _, e => by cases e
  | .list _ :: _, _, _, _, e => by cases e
  | .dict _ :: _, _, _, _, e => by cases e
def onXs (ds : List PyData) (k : List Str → Prop) : Prop := match textsD ds with
  | some xs => k xs
  | none => False
section
variable {K : PySem.W.Frag} {Γ : Gm}
instance {e : TE} {fe : Dn → (Sv → Dn → Prop) → Prop} [E : DE K Γ e fe] : DE K Γ (tLenSetS K e) (fun δ Φ => fe δ fun s δ1 => seeS s δ1 fun ds => onXs ds fun xs => xs.length ≤ 1000 ∧ Φ (.dat (.int (unl xs xs.length : Nat))) δ1) := ⟨fun {L δ σ S H Φ Q} I h q =>
  E.run I h fun s L1 δ1 v H1 T h1 => by
    obtain ⟨a, vs, ds, rfl, t, r, h2⟩ := see_run T h1
    unfold onXs at h2
    split at h2
    · rename_i xs e
      have ex := texts_run r e
      subst ex
      exact ⟨a, xs, rfl, t.imp sqL_of Tp.sq, h2.1, q (.dat (.int _)) L1 δ1 _ H1 (T.drop.dat rfl) h2.2⟩
    · exact h2.elim⟩
end
end B
namespace B
open PySem PySem.Spec PyProof.Rows L2
/-- the value of scalar data -/
def vD : PyData → Option V
  | .none => some .non
  | .bool b => some (.bl b)
  | .int i => some (.int i)
  | .str x => some (.str x)
  | _ => none
def vDs : List PyData → Option (List V)
  | [] => some []
  | d :: ds => match vD d, vDs ds with
    | some v, some vs => some (v :: vs)
    | _, _ => none
theorem vD_run {K : PySem.W.Frag} {L : List Addr} {H : Hp} {d : PyData} {v u : V} (h : Dv K L H d v) (e : vD d = some u) : v = u ∧ flatV u = true := by
  cases d <;> (unfold vD at e; cases e) <;> exact ⟨h, rfl⟩
theorem vDs_run {K : PySem.W.Frag} {L : List Addr} {H : Hp} : ∀ {ds : List PyData} {vs us : List V}, Dvs K L H ds vs → vDs ds = some us → vs = us ∧ us.all flatV = true
  | [], _, _, h, e => by cases e; exact ⟨h, rfl⟩
  | d :: ds, _, us, ⟨v, r, e1, h1, h2⟩, e => by
    unfold vDs at e
    split at e
    · rename_i v0 us0 a b
      cases e
      obtain ⟨rfl, f⟩ := vD_run h1 a
      obtain ⟨rfl, g⟩ := vDs_run h2 b
      exact ⟨e1, by rw [List.all_cons, f, g]; rfl⟩
    · cases e
def inD (x : PyData) (ds : List PyData) (k : Bool → Prop) : Prop := match vD x, vDs ds with
  | some v, some vs => k (inV v vs)
  | _, _ => False
def seqD (y : PyData) (k : List PyData → Prop) : Prop := match y with
  | .list ds => k ds
  | .tuple ds => k ds
  | _ => False
section
variable {K : PySem.W.Frag} {Γ : Gm}
instance {neg : Bool} : DR K Γ (rIn K neg) (fun x y Φ => seqD y fun ds => inD x ds fun b => Φ (.bool (if neg then !b else b))) := ⟨fun {L H x y v u Φ Q} dx dy h q => by
  have key : ∀ {ds : List PyData} {a : Addr} {xs : List V}, u = .ref a → (SqL K H a xs ∨ SqT K H a xs) → Dvs K L H ds xs → (inD x ds fun b => Φ (.bool (if neg then !b else b))) → rIn K neg v u H Q := fun {ds a xs} e t r h => by
    unfold inD at h
    split at h
    · rename_i v0 vs0 e1 e2
      obtain ⟨rfl, f⟩ := vD_run dx e1
      obtain ⟨rfl, g⟩ := vDs_run r e2
      exact ⟨a, xs, e, t, f, g, q (.bool _) (.bl _) H (.refl _ _) rfl h⟩
    · exact h.elim
  cases y with
  | list ds =>
    obtain ⟨a, xs, e, n, t, r⟩ := dy
    exact key e (.inl (sqL_of t)) r h
  | tuple ds =>
    obtain ⟨a, xs, e, t, r⟩ := dy
    exact key e (.inr t.sq) r h
  | _ => exact h.elim⟩
end
def rSign (neg : Bool) : R2 := fun x y H Q => ∃ (c : Nat) (z : Str), x = .str ⟨#[c]⟩ ∧ y = .str z ∧ Q (.bl (if neg then !decide (c ∈ z.cps.toList) else decide (c ∈ z.cps.toList))) H
def rLenTx : List V → Hp → VK → Prop := fun xs H Q => ∃ z, xs = [.str z] ∧ z.length ≤ sizeLine ∧ Q (.int z.length) H
def onX (x : PyData) (k : Str → Prop) : Prop := match x with
  | .str z => k z
  | _ => False
theorem onX_run {L : List Addr} {H : Hp} {K : PySem.W.Frag} {x : PyData} {v : V} {k : Str → Prop} (d : Dv K L H x v) (h : onX x k) : ∃ i, x = .str i ∧ v = .str i ∧ k i := by
  cases x <;> first | exact h.elim | exact ⟨_, rfl, d, h⟩
/-- a text of one sign -/
def oneC (z : Str) (k : Nat → Prop) : Prop := match z.cps.toList with
  | [c] => k c
  | _ => False
def signsD (z : Str) : List PyData := z.cps.toList.map fun c => .str ⟨#[c]⟩
section
variable {K : PySem.W.Frag} {Γ : Gm}
instance {neg : Bool} : DR K Γ (rSign neg) (fun x y Φ => onX x fun a => onX y fun z => oneC a fun c => Φ (.bool (if neg then !decide (c ∈ z.cps.toList) else decide (c ∈ z.cps.toList)))) := ⟨fun {L H x y v u Φ Q} dx dy h q => by
  obtain ⟨a, rfl, rfl, h1⟩ := onX_run dx h
  obtain ⟨z, rfl, rfl, h2⟩ := onX_run dy h1
  unfold oneC at h2
  split at h2
  · rename_i c e
    refine ⟨c, z, ?_, rfl, q (.bool _) (.bl _) H (.refl _ _) rfl h2⟩
    obtain ⟨⟨l⟩⟩ := a
    have e' : l = [c] := e
    rw [e']
  · exact h2.elim⟩
instance {e : TE} {fe : Dn → (Sv → Dn → Prop) → Prop} [E : DE K Γ e fe] : DE K Γ (tCB rLenTx (tCons e tNil)) (fun δ Φ => fe δ fun s δ1 => asD s δ1 fun d δ2 => onX d fun z => z.length ≤ sizeLine ∧ Φ (.dat (.int (z.length : Int))) δ2) := ⟨fun {L δ σ S H Φ Q} I h q =>
  DE.data (T := E) I h fun d L1 δ1 v H1 J h1 => by
    obtain ⟨z, rfl, rfl, h2⟩ := onX_run J.top h1
    exact ⟨z, rfl, h2.1, q (.dat (.int _)) L1 δ1 _ H1 (J.pop.dat rfl) h2.2⟩⟩
instance {e : TE} {fe : Dn → (Sv → Dn → Prop) → Prop} [E : DE K Γ e fe] : DI K Γ (iStr e) false (fun δ Φ => fe δ fun s δ1 => asD s δ1 fun d δ2 => onX d fun z => Φ (signsD z) δ2) := ⟨fun {L δ σ S H Φ R} I h q =>
  DE.data (T := E) I h fun d L1 δ1 v H1 J h1 => by
    obtain ⟨z, rfl, rfl, h2⟩ := onX_run J.top h1
    refine ⟨z, rfl, q (signsD z) L1 δ1 (Its z) [_] H1 J (one_own rfl) ?_ h2⟩
    have W := walk_str (z := z)
    have el : (signsD z).length = z.cps.size := by simp [signsD]
    exact {
      go := fun {i L δ σ S H} _ _ hi => W.goes i H (by rw [← el]; exact hi) trivial
      stop := fun {L δ σ S H} _ _ => by rw [el]; exact W.stops H trivial
      yld := fun {i L δ σ S H H' x d} _ _ hd y => by
        have hi : i < z.cps.size := by
          rw [← el]
          exact (List.getElem?_eq_some_iff.mp hd).1
        obtain ⟨rfl, c, hc, rfl⟩ := W.yields i H x H' hi trivial y
        unfold signsD at hd
        rw [List.getElem?_map, Array.getElem?_toList, hc] at hd
        cases hd
        exact ⟨.refl _ _, rfl⟩ }⟩
/-- list + list: a new one -/
instance (priority := 2000) {a b : TE} {fa fb : Dn → (Sv → Dn → Prop) → Prop} [A : DE K Γ a fa] [B : DE K Γ b fb] :
    DE K Γ (tOp rCat a b) (fun δ Φ => fa δ fun s δ1 => asD s δ1 fun x δ2 => fb δ2 fun t δ3 => asD t δ3 fun y δ4 => onL x fun ds => onL y fun es => ds.length + es.length ≤ 1000000 ∧ Φ (.own (ds ++ es)) δ4) := ⟨fun {L δ σ S H Φ Q} I h q => by
  refine DE.data (T := A) I h fun x L1 δ1 v H1 J h1 => DE.data (T := B) J h1 fun y L2' δ2 u H2 J2 h2 => ?_
  cases x with
  | list ds =>
    cases y with
    | list es =>
      obtain ⟨a, xs, rfl, n1, t1, r1⟩ := J2.pop.top
      obtain ⟨b, ys, rfl, n2, t2, r2⟩ := J2.top
      have l1 := r1.len
      have l2 := r2.len
      have hs := sizeLine_eq
      have h3 : ds.length + es.length ≤ 1000000 ∧ Φ (.own (ds ++ es)) δ2 := h2
      refine ⟨a, b, xs, ys, rfl, rfl, t1, t2, by omega, fun p np => q (.own (ds ++ es)) _ δ2 _ _ (J2.pop.pop.new np (r1.app r2)) h3.2⟩
    | _ => exact h2.elim
  | _ => exact h2.elim⟩
end
def tGT (K : PySem.W.Frag) (ws : List Str) : TE := fun _ H Q => ∀ a, (∃ (o : Obj) (its : Array Value) (n : Nat), K.lookup a = some o ∧ o.cls = .type "tuple" ∧ o.dict = none ∧ o.data = .seq its n ∧ its.size ≤ sizeLine ∧ Vals (ws.map V.str) its.toList) → Q (.ref a) H
theorem dvs_texts {K : PySem.W.Frag} {L : List Addr} {H : Hp} : ∀ xs : List Str, Dvs K L H (xs.map PyData.str) (xs.map V.str)
  | [] => rfl
  | x :: xs => ⟨_, _, rfl, rfl, dvs_texts xs⟩
instance {K : PySem.W.Frag} {Γ : Gm} {ws : List Str} : DE K Γ (tGT K ws) (fun δ Φ => decide (4 ≤ ws.length) = true ∧ Φ (.dat (.tuple (ws.map PyData.str))) δ) := ⟨fun {L δ σ S H Φ Q} I h q a ha => by
  refine q (.dat (.tuple (ws.map PyData.str))) L δ _ H (I.dat ⟨a, _, rfl, .inr ⟨?_, .inr ha⟩, dvs_texts ws⟩) h.2
  have h4 := of_decide_eq_true h.1
  unfold keyV
  rw [List.length_map, decide_eq_false (by omega : ¬ ws.length < 4), Bool.and_false, Bool.false_and]⟩
section
variable {K : PySem.W.Frag} {Γ : Gm}
instance {a : TE} {fa : Dn → (Sv → Dn → Prop) → Prop} [A : DE K Γ a fa] : DT K Γ (tB a) (fun δ Φ => fa δ fun s δ1 => asD s δ1 fun x δ2 => onBo x fun b => Φ b δ2) := ⟨fun {L δ σ S H Φ Q} I h q => by
  refine DE.data (T := A) I h fun x L1 δ1 v H1 J h1 => ?_
  obtain ⟨b, rfl, rfl, h2⟩ := onBo_run J.top h1
  exact ⟨b, rfl, q b L1 δ1 H1 J.pop h2⟩⟩
end
end B
namespace B
open PySem PySem.Spec PyProof.Rows L2
section
variable {fg : Sv → Dn → (Dn → Prop) → Prop} {ft : Dn → (Bool → Dn → Prop) → Prop} {fe : Dn → (Sv → Dn → Prop) → Prop} {vs : List Nat} {Φ : List PyData → Dn → Prop}
/-- each item gives f of it (filtered by c) -/
theorem lcD_by {δ0 : Dn} (c : PyData → Bool) (f : PyData → PyData) : ∀ {ds acc : List PyData} {δ : Dn}, wipeD δ vs = δ0 → acc.length + ds.length ≤ 1000000 →
    (∀ d ∈ ds, ∀ (k : PyData → Dn → Prop) (m : Dn → Prop), (c d = true → ∀ δ4, wipeD δ4 vs = δ0 → k (f d) δ4) → (c d = false → ∀ δ4, wipeD δ4 vs = δ0 → m δ4) →
      fg (.dat d) δ0 fun δ1 => ft δ1 fun b δ2 => bif b then fe δ2 fun s δ3 => asD s δ3 k else m δ2) →
    Φ (acc ++ (ds.filter c).map f) δ0 → lcD fg ft fe vs Φ ds acc δ
  | [], acc, δ, e, _, _, h => by
    unfold lcD
    rw [e]
    simpa using h
  | d :: ds, acc, δ, e, hl, hs, h => by
    unfold lcD
    rw [e]
    rw [List.length_cons] at hl
    refine hs d (List.mem_cons_self ..) _ _ (fun hc δ4 e4 => ⟨by omega, ?_⟩) fun hc δ4 e4 => ?_
    · refine lcD_by c f e4 (by rw [List.length_append, List.length_singleton]; omega) (fun x hx => hs x (List.mem_cons_of_mem _ hx)) ?_
      rw [List.filter_cons, if_pos hc] at h
      simpa using h
    · refine lcD_by c f e4 (by omega) (fun x hx => hs x (List.mem_cons_of_mem _ hx)) ?_
      rw [List.filter_cons, if_neg (by rw [hc]; decide)] at h
      exact h
/-- no test -/
theorem lcD_map {δ0 : Dn} (f : PyData → PyData) {ds acc : List PyData} {δ : Dn} (e : wipeD δ vs = δ0) (hl : acc.length + ds.length ≤ 1000000)
    (hs : ∀ d ∈ ds, ∀ (k : PyData → Dn → Prop), (∀ δ4, wipeD δ4 vs = δ0 → k (f d) δ4) → fg (.dat d) δ0 fun δ1 => fe δ1 fun s δ3 => asD s δ3 k) (h : Φ (acc ++ ds.map f) δ0) :
    lcD fg (fun δ Φ => Φ true δ) fe vs Φ ds acc δ := by
  refine lcD_by (fun _ => true) f e hl (fun d hd k m hk _ => hs d hd k (hk rfl)) ?_
  have : ds.filter (fun _ => true) = ds := by simp
  rw [this]
  exact h
end
theorem atD_at {ds : List PyData} {i : Int} {j : Nat} {d : PyData} {k : PyData → Prop} (hi : i = (j : Int)) (e : ds[j]? = some d) (h : k d) : atD ds i k := by
  unfold atD
  rw [hi, atI_nat e]
  exact h
end B
namespace B
open PySem PySem.Spec PyProof.Rows L2
instance (priority := 2000) {K : PySem.W.Frag} {Γ : Gm} {a : Addr} : DE K Γ (tC (.ref a)) (fun δ Φ => Φ (.fn a) δ) := ⟨fun {L δ σ S H Φ Q} I h q => q (.fn a) L δ _ H (I.push (s := .fn a) rfl rfl fun _ z => nomatch z) h⟩
theorem pe_globF {X : Cx} {x : Str} {a : Addr} {pos : Pos} (hg : Gl X x) (hm : X.mg x = some (.ref a)) (hd : (x == ("__debug__" : Str)) = false := by decide) : PE X (.Name x pos) (tC (.ref a)) := pe_glob hg hm rfl hd
section
variable {P : Program} {wd : World} {K : PySem.W.Frag} {mg : Str → Option Value} {base : Heap} {k j : Nat} {x m : Str} {C : Addr} {sp sp' : Sp}
theorem Cal.imp (c : Cal P wd K mg base k x sp) (h : ∀ vs H Q E, sp' vs H Q E → sp vs H Q E) (hj : k ≤ j) : Cal P wd K mg base j x sp' := by
  obtain ⟨f, fd, ps, F, r⟩ := c.ex
  exact ⟨f, fd, ps, (F.imp h).mono hj, r⟩
theorem Met.imp (c : Met P wd K mg base k C m sp) (h : ∀ vs H Q E, sp' vs H Q E → sp vs H Q E) (hj : k ≤ j) : Met P wd K mg base j C m sp' := by
  obtain ⟨f, fd, ps, c1, c2, F, r⟩ := c.ex
  exact ⟨f, fd, ps, c1, c2, (F.imp h).mono hj, r⟩
end
def fnD (i : Nat) (n : Nat) (G : Addr → Option (List Sv → (PyData → Prop) → Prop)) (δ : Dn) (k : (List Sv → (PyData → Prop) → Prop) → Prop) : Prop := match δ.at_ i with
  | some (.fn a) => match G a with
    | some g => k g
    | none => False
  | _ => False
instance {K : PySem.W.Frag} {Γ : Gm} {i n : Nat} {G : Addr → Option (List Sv → (PyData → Prop) → Prop)} {t : TA} {f : Dn → (List Sv → Dn → Prop) → Prop} [A : DA K Γ t f] :
    DE K Γ (tCallA i (fun a => (G a).map (spD K n)) t) (fun δ Φ => fnD i n G δ fun g => f δ fun as δ1 => as.length = n ∧ callD g as (fun d => Φ (.dat d) δ1) .mk .mk) := ⟨fun {L δ σ S H Φ Q} I h q => by
  unfold fnD at h
  split at h
  · rename_i a e
    obtain ⟨_, v, e1, e2⟩ := I.slot i _ (getD_some e)
    cases (show v = .ref a from e2)
    split at h
    · rename_i g eg
      refine ⟨a, spD K n g, e1, (by show Option.map (spD K n) (G a) = _; rw [eg]; rfl), A.run I h fun as L1 δ1 vs H1 J ar h1 => ?_⟩
      refine ⟨ar.len.trans h1.1, L1, Γ.P, as, _, ⟨fun p hp => J.sub p (J.pin0 p hp), J.tbs⟩, J.live, J.pens, AR.swap (Γ := Γ) (Γ' := ⟨Γ.P, Γ.P, L1, H1⟩) rfl ar, h1.2, fun d v H' f1 p1 dv hd => ?_⟩
      exact q (.dat d) L1 δ1 v H' ((J.keep f1 p1).dat dv) hd
    · exact h.elim
  · exact h.elim⟩
end B
set_option maxHeartbeats 1000000
namespace B
open PySem PySem.Spec PyProof.Rows L2 LamX NdefX
/-- a lambda's words, the cells that it caught, its code object -/
structure LF where
  qual : Str
  params : Arguments
  body : Expr
  scope : Scope
  cl : List (Str × Addr)
  c : Addr
abbrev LF.fd (F : LF) (pm ctv : Value) : FuncData := PySem.W.kla_fn "<lambda>" F.qual F.params F.body F.scope F.cl pm (.ref F.c) ctv
/-- the object at f is the lambda F -/
def LamO (f : Addr) (F : LF) : HO := .ext fun h => ∃ (od : Option Addr) (sl : Array (Option Value)) (pm ctv : Value), h.get? f = some (⟨.type "function", od, .func (F.fd pm ctv), sl⟩ : Obj)
theorem lamO_tbl {f : Addr} {F : LF} (ps : Array Value) : LamO f F ≠ .tbl ps := by
  unfold LamO
  exact fun z => nomatch z
theorem codO_tbl {c : Addr} {q : Str} (ps : Array Value) : CodeO c q ≠ .tbl ps := codeO_ne ps
theorem mu_lam {f : Addr} {F : LF} : ¬ Mu (some (LamO f F)) := by
  unfold LamO
  exact mu_ext
theorem Fr.lam {K : PySem.W.Frag} {L : List Addr} {H H' : Hp} {f : Addr} {F : LF} (r : Fr K L H H') (h : H f = some (LamO f F)) : H' f = some (LamO f F) := r.kept _ _ h (.inr mu_lam) lamO_tbl
theorem Fr.cod {K : PySem.W.Frag} {L : List Addr} {H H' : Hp} {c : Addr} {q : Str} (r : Fr K L H H') (h : H c = some (CodeO c q)) : H' c = some (CodeO c q) := r.kept _ _ h (.inr mu_code) codO_tbl
section
variable {X : Cx} {pins : List (Addr × Obj)} {σ : L2.St} {H : Hp} {s : Shared}
/-- the reading of a lambda: a new function -/
def tLam (K : PySem.W.Frag) (mk : Addr → LF) : TE := fun σ H Q => Tabs (LT K) H ∧ ∀ (f c' : Addr) (H1 : Hp), Fr K [] H H1 → H f = none → H1 f = some (LamO f (mk c')) → H1 c' = some (CodeO c' (mk c').qual) → Q (.ref f) H1
end
structure LamOk (P : Program) (w : World) (K : PySem.W.Frag) (mg : Str → Option Value) (base : Heap) (CX : CXT) (k : Nat) (f : Addr) (F : LF) (ps fr : List Str) (sp : List (Option V) → Sp) : Prop where
  arity : ∀ {ws vs H Q E}, sp ws vs H Q E → vs.length = ps.length
  go : ∀ {A : Around} {outer : List Env} {s : Shared} {H : Hp} {us : List Value} {vs : List V} {ws : List (Option V)} {Q : VK} {E : XK}, Room k A → Env0 P w K mg base A outer s H → H f = some (LamO f F) → H F.c = some (CodeO F.c F.qual) →
    CellsAt F.cl fr ws s.heap H → Vals vs us → sp ws vs H Q E →
    codeAny (model P w) A (.call (.ref f) ⟨us, []⟩) (CR CX outer P w H s Q E) s
/-- caught cells that stand in the base: nothing changes them while the def runs that got the lambda -/
structure BaseC (base : Heap) (cl : List (Str × Addr)) (fr : List Str) (ws : List (Option V)) : Prop where
  many : ws.length = fr.length
  cell : ∀ y c, cl.lookup y = some c → ∃ v, base.IsCell c v
  apart : ∀ x y c, cl.lookup x = some c → cl.lookup y = some c → x = y
  val : ∀ (i : Nat) (y : Str), fr[i]? = some y → ∃ c, cl.lookup y = some c ∧ ∀ v, ws[i]? = some (some v) → ∃ u, L2.RelV v u ∧ base.IsCell c (some u)
/-- x(..): the slot i holds the lambda F at f -/
def tAct (i : Nat) (f : Addr) (F : LF) (sp : Sp) (E : XK) (t : TA) : TE := fun σ H Q => σ[i]? = some (some (.ref f)) ∧ H f = some (LamO f F) ∧ t σ H fun vs H1 => H1 f = some (LamO f F) ∧ H1 F.c = some (CodeO F.c F.qual) ∧ sp vs H1 Q E
abbrev SpS := Heap → Sp
/-- x(..): cl, fr: the cells that the lambda among the arguments caught, their names; js: where these stand among the frame's own -/
def tCallS (cl : List (Str × Addr)) (fr : List Str) (js : List Nat) (sp : SpS) (E : XK) (t : TA) : TE := fun σ H Q => t σ H fun vs H1 => ∀ base : Heap, BaseC base cl fr (js.map (slotAt σ)) → sp base vs H1 Q E
end B
namespace B
open PySem PySem.Spec PyProof.Rows L2 LamX NdefX
/-- a lambda's promise, cs what its caught cells hold: as a def of its parameters and of these -/
def spC (K : PySem.W.Frag) (m n : Nat) (g : Al → List Sv → (Al → Sv → Prop) → Prop) : List (Option V) → Sp := fun ws vs H Q E => vs.length = m ∧ ∃ cs : List V, ws = cs.map some ∧ spH K n g (vs ++ cs) H Q E
/-- the lambda F at f does what ga tells -/
class Acts (K : PySem.W.Frag) (Γ : Gm) (f : Addr) (F : LF) (sp : Sp) (m : outParam Nat) (ga : outParam (Al → List Sv → (Al → Sv → Prop) → Prop)) : Prop where
  at_ : Γ.H0 f = some (LamO f F)
  cd : Γ.H0 F.c = some (CodeO F.c F.qual)
  run : ∀ {L : List Addr} {δ : Dn} {σ : L2.St} {S : List (Sv × V)} {H : Hp} {as : List Sv} {vs : List V} {Q : VK} {Φ : Sv → Dn → Prop}, Sim K Γ L δ σ S H → AR K Γ L H as vs → as.length = m → ga δ.al as (fun al' s => Φ s (δ.know al')) →
    (∀ s L' al' v H', Sim K Γ L' (δ.know al') σ ((s, v) :: S) H' → Φ s (δ.know al') → Q v H') → sp vs H Q E0
def fnIs (o : Option Sv) (f : Addr) : Prop := o = some (.fn f)
section
variable {K : PySem.W.Frag} {Γ : Gm}
instance {i : Nat} {f : Addr} {F : LF} {sp : Sp} {m : Nat} {ga : Al → List Sv → (Al → Sv → Prop) → Prop} {t : TA} {fa : Dn → (List Sv → Dn → Prop) → Prop} [C : Acts K Γ f F sp m ga] [A : DA K Γ t fa] :
    DE K Γ (tAct i f F sp E0 t) (fun δ Φ => fnIs (δ.at_ i) f ∧ fa δ fun as δ1 => as.length = m ∧ ga δ1.al as fun al' s => Φ s (δ1.know al')) := ⟨fun {L δ σ S H Φ Q} I h q => by
  obtain ⟨h0, h⟩ := h
  obtain ⟨_, v, e1, e2⟩ := I.slot i _ (at_some (show δ.at_ i = some (.fn f) from h0))
  cases (show v = .ref f from e2)
  refine ⟨e1, I.fr.lam C.at_, A.run I h fun as L1 δ1 vs H1 J ar h1 => ⟨J.fr.lam C.at_, J.fr.cod C.cd, ?_⟩⟩
  exact C.run J ar h1.1 h1.2 fun s L' al' v H' J2 h2 => q s L' _ v H' J2.topOf h2⟩
theorem AR.append {L : List Addr} {H : Hp} : ∀ {ss ts : List Sv} {vs us : List V}, AR K Γ L H ss vs → AR K Γ L H ts us → AR K Γ L H (ss ++ ts) (vs ++ us)
  | [], _, _, _, h, g => by cases h; exact g
  | _ :: _, _, _, _, ⟨v, r, e, h1, h2, h3, h4⟩, g => by cases e; exact ⟨v, r ++ _, rfl, h1, h2, h3, h4.append g⟩
end
/-- what a def that gets a lambda promises; ga: what the lambda does of its arguments -/
def spS (P : Program) (w : World) (K : PySem.W.Frag) (mg : Str → Option Value) (CX : CXT) (j n m : Nat) (ls : List Str) (gS : Al → List Sv → (Al → List Sv → (Al → Sv → Prop) → Prop) → (Al → Sv → Prop) → Prop) : SpS := fun base vs H Q E => vs.length = n + 1 ∧
  ∃ (us : List V) (f : Addr) (F : LF) (fr : List Str) (cs : List V) (nC : Nat) (gl : Al → List Sv → (Al → Sv → Prop) → Prop), vs = us ++ [.ref f] ∧ H f = some (LamO f F) ∧ H F.c = some (CodeO F.c F.qual) ∧ BaseC base F.cl fr (cs.map some) ∧ LamOk P w K mg base CX j f F ls fr (spC K m nC gl) ∧
    spH K (n + 1 + cs.length) (fun al as' Φ => ∃ as csv, as' = as ++ (.fn f :: csv) ∧ as.length = n ∧ csv.length + m = nC ∧ gS al as (fun al as Φ => gl al (as ++ csv) Φ) Φ) (us ++ (.ref f :: cs)) H Q E
/-- what the caught slots hold -/
def catchS : List (Option Sv) → List Nat → Option (List Sv)
  | _, [] => some []
  | sl, j :: js => match sl.getD j none with
    | some (.dat d) => (catchS sl js).map fun r => .dat d :: r
    | some (.fn a) => (catchS sl js).map fun r => .fn a :: r
    | some (.ref a) => (catchS sl js).map fun r => .ref a :: r
    | some (.pen a) => (catchS sl js).map fun r => .pen a :: r
    | _ => none
def onC (o : Option (List Sv)) (k : List Sv → Prop) : Prop := match o with
  | some c => k c
  | none => False
theorem catch_run {K : PySem.W.Frag} {Γ : Gm} {L : List Addr} {δ : Dn} {σ : L2.St} {S : List (Sv × V)} {H : Hp} (I : Sim K Γ L δ σ S H) : ∀ {js : List Nat} {csv : List Sv}, catchS δ.sl js = some csv → ∃ cs : List V, js.map (slotAt σ) = cs.map some ∧ cs.length = csv.length ∧ AR K Γ L H csv cs
  | [], csv, h => by cases h; exact ⟨[], rfl, rfl, rfl⟩
  | j :: js, csv, h => by
    have one : ∀ {s : Sv} {csv' : List Sv}, δ.sl.getD j none = some s → (∀ i, s ≠ .ali i) → isOwn s = false → (catchS δ.sl js).map (fun r => s :: r) = some csv' → ∃ cs : List V, (j :: js).map (slotAt σ) = cs.map some ∧ cs.length = csv'.length ∧ AR K Γ L H csv' cs := fun {s csv'} e na no h => by
      cases hc : catchS δ.sl js with
      | none => rw [hc] at h; cases h
      | some r =>
        rw [hc] at h
        cases h
        obtain ⟨cs, e1, e2, e3⟩ := catch_run I (js := js) hc
        obtain ⟨_, v, ev, sr⟩ := I.slot j s (getD_some e)
        refine ⟨v :: cs, ?_, by rw [List.length_cons, List.length_cons, e2], v, cs, rfl, ?_, no, na, e3⟩
        · rw [List.map_cons, List.map_cons, e1, slotAt_of ev]
        · cases s with
          | ali i => exact absurd rfl (na i)
          | own d => cases no
          | _ => exact sr
    unfold catchS at h
    split at h
    · rename_i d e; exact one e (fun _ z => nomatch z) rfl h
    · rename_i d e; exact one e (fun _ z => nomatch z) rfl h
    · rename_i d e; exact one e (fun _ z => nomatch z) rfl h
    · rename_i d e; exact one e (fun _ z => nomatch z) rfl h
    · cases h
/-- the lambdas that mk makes keep a promise -/
class LamIs (P : Program) (w : World) (K : PySem.W.Frag) (mg : Str → Option Value) (CX : CXT) (j : Nat) (mk : Addr → LF) (cl : List (Str × Addr)) (ls fr : List Str) (m : Nat) (nC : outParam Nat) (gl : outParam (Al → List Sv → (Al → Sv → Prop) → Prop)) : Prop where
  cl : ∀ c', (mk c').cl = cl
  c : ∀ c', (mk c').c = c'
  ok : ∀ base f c', LamOk P w K mg base CX j f (mk c') ls fr (spC K m nC gl)
section
variable {P : Program} {w : World} {K : PySem.W.Frag} {mg : Str → Option Value} {base : Heap} {CX : CXT} {j n m nC : Nat} {ls fr : List Str} {cl : List (Str × Addr)} {js : List Nat} {mk : Addr → LF} {gl : Al → List Sv → (Al → Sv → Prop) → Prop} {Γ : Gm} {te : TE} {fe : Dn → (Sv → Dn → Prop) → Prop}
  {gS : Al → List Sv → (Al → List Sv → (Al → Sv → Prop) → Prop) → (Al → Sv → Prop) → Prop}
/-- f(e, lambda ..) -/
instance [M : LamIs P w K mg CX j mk cl ls fr m nC gl] [E : DE K Γ te fe] : DE K Γ (tCallS cl fr js (spS P w K mg CX j 1 m ls gS) E0 (tCons te (tCons (tLam K mk) tNil)))
    (fun δ Φ => fe δ fun s δ1 => asA s δ1 fun t δ2 => onC (catchS δ2.sl js) fun csv => csv.length + m = nC ∧ gS δ2.al [t] (fun al as Φ => gl al (as ++ csv) Φ) fun al' s => Φ s (δ2.know al')) := ⟨fun {L δ σ S H Φ Q} I h q => by
  refine E.run I h fun s L1 δ1 v H1 T h1 => ?_
  obtain ⟨L2, δ2, t, J, no, h2⟩ := T.arg h1
  unfold onC at h2
  split at h2
  · rename_i csv ec
    refine ⟨J.tbs, fun f c' H2 fr2 nf e1 e2 => ?_⟩
    have J2 := J.more fr2
    obtain ⟨cs, ej, el, arC⟩ := catch_run J2 ec
    intro base' C
    rw [ej] at C
    rw [← M.cl c'] at C
    have tp := J2.top
    have na := J2.nal _ (List.mem_cons_self ..)
    have arT : AR K Γ L2 H2 [t, .fn f] [v, .ref f] := ⟨v, _, rfl, (by
      cases t with
      | ali j => exact absurd rfl (na j)
      | own d => cases no
      | _ => exact tp), no, na, _, _, rfl, rfl, rfl, (fun _ z => nomatch z), rfl⟩
    have e2' : H2 (mk c').c = some (CodeO (mk c').c (mk c').qual) := by rw [M.c c']; exact e2
    refine ⟨rfl, [v], f, mk c', fr, cs, nC, gl, rfl, e1, e2', C, M.ok base' f c', ?_⟩
    have ar := arT.append arC
    refine J2.pop.called (δ := δ2) (as := [t, .fn f] ++ csv) (vs := [v, .ref f] ++ cs) ar (by rw [List.length_append, el]; rfl) ⟨[t], csv, rfl, rfl, h2.1, h2.2⟩ fun s L' al' v H' J3 h3 => q s L' _ v H' J3.topOf h3
  · exact h2.elim⟩
/-- f(lambda ..) -/
instance [M : LamIs P w K mg CX j mk cl ls fr m nC gl] : DE K Γ (tCallS cl fr js (spS P w K mg CX j 0 m ls gS) E0 (tCons (tLam K mk) tNil))
    (fun δ Φ => onC (catchS δ.sl js) fun csv => csv.length + m = nC ∧ gS δ.al [] (fun al as Φ => gl al (as ++ csv) Φ) fun al' s => Φ s (δ.know al')) := ⟨fun {L δ σ S H Φ Q} J h2 q => by
  unfold onC at h2
  split at h2
  · rename_i csv ec
    refine ⟨J.tbs, fun f c' H2 fr2 nf e1 e2 => ?_⟩
    have J2 := J.more fr2
    obtain ⟨cs, ej, el, arC⟩ := catch_run J2 ec
    intro base' C
    rw [ej] at C
    rw [← M.cl c'] at C
    have arT : AR K Γ L H2 [.fn f] [.ref f] := ⟨_, _, rfl, rfl, rfl, (fun _ z => nomatch z), rfl⟩
    have e2' : H2 (mk c').c = some (CodeO (mk c').c (mk c').qual) := by rw [M.c c']; exact e2
    refine ⟨rfl, [], f, mk c', fr, cs, nC, gl, rfl, e1, e2', C, M.ok base' f c', ?_⟩
    refine Sim.called (n := 0 + 1 + cs.length) (g := fun al as' Φ => ∃ as csv', as' = as ++ (.fn f :: csv') ∧ as.length = 0 ∧ csv'.length + m = nC ∧ gS al as (fun al as Φ => gl al (as ++ csv') Φ) Φ) J2 (as := [.fn f] ++ csv) (vs := [.ref f] ++ cs) (arT.append arC) (by rw [List.length_append, el]; rfl) ⟨[], csv, rfl, rfl, h2.1, h2.2⟩ fun s L' al' v H' J3 h3 => q s L' _ v H' J3.topOf h3
  · exact h2.elim⟩
end
end B
namespace B
open PySem PySem.Spec PyProof.Rows L2
def topS (i : Nat) : Stmt := PySem.Challenge.pw_nearlay_k91_classes_of_refusals.main.body.getD i (.Pass ⟨0, 0, 0, 0⟩)
end B
namespace B
open PySem PySem.Spec PyProof.Rows L2
abbrev Fct := PySem.W.Frag → Bool
def obsX (fs : List Fct) (fn : List He.DefD) (K : PySem.W.Frag) : He.AlD := (fs.all (fun f => f K) && fn.all fun d => d.ok K, fn.map fun d => He.fnW K d.at_)
def SaysX (fs : List Fct) (fn : List He.DefD) (K : PySem.W.Frag) : Prop := obsX fs fn K = He.valD fn
/-- facts and defs may be looked at apart -/
theorem obsX_join {fs : List Fct} {fn : List He.DefD} {K : PySem.W.Frag} (h1 : obsX fs [] K = He.valD []) (h2 : obsX [] fn K = He.valD fn) : obsX fs fn K = He.valD fn := by
  have a := (He.ba (show (fs.all (fun f => f K) && true) = true from congrArg (fun z : He.AlD => z.1) h1)).1
  have b : (fn.all fun d => d.ok K) = true := congrArg (fun z : He.AlD => z.1) h2
  have c : (fn.map fun d => He.fnW K d.at_) = fn.map He.DefD.val := congrArg (fun z : He.AlD => z.2) h2
  show (fs.all (fun f => f K) && fn.all fun d => d.ok K, fn.map fun d => He.fnW K d.at_) = (true, fn.map He.DefD.val)
  rw [a, b, c] <;> rfl
/-- one run looked at twice -/
theorem run_join {σ α β γ δ ε : Type} {e : Option σ} {l : σ → α} {m : σ → β} {o1 : σ → γ} {o2 : σ → δ} {o : σ → ε} {a : α} {b : β} {c : γ} {d : δ} {f : ε} (h1 : e.map (fun s => (l s, m s, o1 s)) = some (a, b, c)) (h2 : e.map o2 = some d)
    (j : ∀ s, o1 s = c → o2 s = d → o s = f) : e.map (fun s => (l s, m s, o s)) = some (a, b, f) := by
  cases e with
  | none => cases h1
  | some s =>
    have q : (l s, m s, o1 s) = (a, b, c) := Option.some.inj h1
    have q2 : o2 s = d := Option.some.inj h2
    obtain ⟨q3, q4⟩ := Prod.mk.inj q
    obtain ⟨q5, q6⟩ := Prod.mk.inj q4
    show some (l s, m s, o s) = some (a, b, f)
    rw [q3, q5, j s q6 q2]
section
variable {fs : List Fct} {fn : List He.DefD} {K : PySem.W.Frag} {mg : Str → Option Value} {h : Heap}
theorem SaysX.fact (c : SaysX fs fn K) (i : Nat) {f : Fct} (h : fs[i]? = some f := by rfl) : f K = true := by
  have c1 := (He.ba (show (fs.all (fun f => f K) && fn.all fun d => d.ok K) = true from congrArg (fun z : He.AlD => z.1) c)).1
  exact List.all_eq_true.mp c1 f (List.mem_of_getElem? h)
theorem SaysX.def_ (c : SaysX fs fn K) (i : Nat) {d : He.DefD} (h : fn[i]? = some d := by rfl) : ∃ fd, FunD K d.name d.qual d.params d.body d.scope (d.dvs K) (d.kws K) (He.fAd K d.at_) fd := by
  have c2 := (He.ba (show (fs.all (fun f => f K) && fn.all fun d => d.ok K) = true from congrArg (fun z : He.AlD => z.1) c)).2
  have e : fn.map (fun d => He.fnW K d.at_) = fn.map He.DefD.val := congrArg (fun z : He.AlD => z.2) c
  have e2 : (fn.map fun d => He.fnW K d.at_)[i]? = (fn.map He.DefD.val)[i]? := by rw [e]
  rw [List.getElem?_map, List.getElem?_map, h] at e2
  exact He.DefD.funD (Option.some.inj e2) (List.all_eq_true.mp c2 d (List.mem_of_getElem? h))
abbrev dD (x : Str) (st : Stmt) : He.DefD := ⟨(x, none), x, x, defArgs st, defBody st, defScope st, [], []⟩
abbrev dM (C m q : Str) (st : Stmt) : He.DefD := ⟨(C, some m), m, q, defArgs st, defBody st, defScope st, [], []⟩
theorem funD_fun {x q : Str} {st : Stmt} {f : Addr} {fd : FuncData} (F : FunD K x q (defArgs st) (defBody st) (defScope st) [] [] f fd) : Fun K x q st f fd := by
  obtain ⟨oc, od, dV, kV, doc, pm, an, cdv, ct, osl, e, lk, hcd, hD, hK⟩ := F.ex
  rcases hD with ⟨_, rfl⟩ | ⟨n, _⟩
  · exact ⟨⟨oc, od, kV, doc, pm, an, cdv, ct, osl, e, lk, hcd⟩, F.kp⟩
  · exact absurd rfl n
theorem defAt_h {x : Str} {st : Stmt} {ps : List Str} (F : ∃ fd, FunD K x x (defArgs st) (defBody st) (defScope st) [] [] (He.ga K x) fd) (g : mg x = some (.ref (He.ga K x)))
    (hb : ∀ (kV doc pm : Value) (an : Option Addr) (cdv ct : Value) (us : List Value), us.length = ps.length → bindArgs (PySem.W.fnOf x x (defArgs st) (defBody st) (defScope st) .none kV doc pm an cdv ct) ⟨us, []⟩ = pure (ps.zip us)) : DefAt K mg x st ps := by
  obtain ⟨fd, F⟩ := F
  exact ⟨_, fd, funD_fun F, g, (funD_fun F).binds hb⟩
theorem lawFd {x : Str} {st : Stmt} {p : Str} {f : Addr} {fd : FuncData} (F : FunD K x x (defArgs st) (defBody st) (defScope st) [] [] f fd)
    (hb : ∀ (kV doc pm : Value) (an : Option Addr) (cdv ct : Value) (us : List Value), us.length = 1 → bindArgs (PySem.W.fnOf x x (defArgs st) (defBody st) (defScope st) .none kV doc pm an cdv ct) ⟨us, []⟩ = pure ([p].zip us)) (s : Shared) (v : Value) : BindsTo s fd ⟨[v], []⟩ [(p, v)] :=
  FunD.bindsA (ps := [p]) F hb s [v] rfl
abbrev fG (x : Str) : Fct := fun K => (He.Fa.glo x).ok K
abbrev fZ (x : Str) : Fct := fun K => (He.Fa.free x).ok K
abbrev fI (x : Str) (i : Int) : Fct := fun K => (He.Fa.int x i).ok K
/-- a tuple of texts -/
def strsB (ws : List Str) (vs : List Value) : Bool := match ws, vs with
  | [], [] => true
  | w :: ws, .str x _ :: vs => decide (x = w) && strsB ws vs
  | _, _ => false
def fT (x : Str) (ws : List Str) : Fct := fun K => He.eqO (PySem.W.nsIn K mainGlobals x) (some (some (.ref (He.ga K x)))) && match K.lookup (He.ga K x) with
  | some ⟨.type c, none, .seq its _, _⟩ => decide (c = "tuple") && (decide (its.size ≤ sizeLine) && strsB ws its.toList)
  | _ => false
end
def exc1 (x : Str) (CL : Str) (K : PySem.W.Frag) : Bool := (He.Fa.glo x).ok K && ((decide (x = "NoText") || PySem.W.excIn K (He.ga K x) [.type "ValueError", .type "Exception", .type "BaseException", .type "object"] "ValueError.__new__") && (PySem.W.keepIn K (.ref (He.ga K x)) && (PySem.W.subIn K (.ref (He.ga K x)) (.type "BaseException") == some true &&
  (PySem.W.typeIn K (.ref (He.ga K x)) == some (.type "type") && (PySem.W.findIn K (.ref (He.ga K x)) "__getattribute__" == some (some (.builtin "BaseException.__getattribute__")) && (PySem.W.findIn K (.ref (He.ga K x)) "__getattr__" == some none && (PySem.W.hasDictIn K (He.ga K x) &&
  (PySem.W.findIn K (.ref (He.ga K x)) "__class__" == some (some (.builtin "object.__class__")) && (PySem.W.specialIn K (.builtin "object.__class__") "__get__" == some (some (.builtin "getset_descriptor.__get__")) && (PySem.W.takesIn K (.builtin "object.__class__") == some true &&
  (PySem.W.mroIn K (He.ga K x) (.type "object") == some true && (PySem.W.exmOne K (.ref (He.ga K x)) (.ref (He.ga K CL)) == some true && PySem.W.kitOne K (.ref (He.ga K x)) (.type "ValueError") == some true))))))))))))
def fX (CL : Str) (xs : List Str) : Fct := fun K => xs.all (fun x => exc1 x CL K) && (decide (xs.map (He.ga K)).Nodup && xs.all fun x => xs.all fun y => PySem.W.kitOne K (.ref (He.ga K x)) (.ref (He.ga K y)) == some (decide (He.ga K x = He.ga K y)))
/-- the class that all stand under; one with its own __init__ -/
def fL (CL : Str) (xs : List Str) : Fct := fun K => exc1 CL CL K && xs.all fun x => PySem.W.kitOne K (.ref (He.ga K x)) (.ref (He.ga K CL)) == some true && PySem.W.kitOne K (.ref (He.ga K CL)) (.ref (He.ga K x)) == some false
def oexB (K : PySem.W.Frag) (C : Addr) : Bool := match K.lookup C with
  | some ⟨.type "type", _, .cls cd, sl⟩ => (match cd.mro, sl.toList with
    | .ref C' :: bm, [_, _, _, _, some (.builtin n), _] => C' == C && n == "ValueError.__new__" && !cd.hasDel && cd.hasDict && PySem.HandSPX.refsVE bm
    | _, _ => false)
  | _ => false
def initB : Option PySem.W.CFound → Bool
  | some (.val (.builtin n)) => n == "ValueError.__init__"
  | _ => false
def fNt (CL x f : Str) : Fct := fun K => (He.Fa.glo x).ok K && ((He.Fa.glo CL).ok K && (oexB K (He.ga K x) && (PySem.W.findIn K (.ref (He.ga K x)) "__setattr__" == some (some (.builtin "object.__setattr__")) && (PySem.W.subIn K (.ref (He.ga K x)) (.type "BaseException") == some true &&
  (PySem.W.typeIn K (.ref (He.ga K x)) == some (.type "type") && (PySem.W.keepIn K (.ref (He.ga K x)) && (PySem.W.findIn K (.ref (He.ga K x)) f == some none && (PySem.W.findIn K (.ref (He.ga K x)) "__init__" == some (some (.ref (He.ma K (He.ga K x) "__init__"))) &&
  (PySem.W.typeIn K (.ref (He.ma K (He.ga K x) "__init__")) == some (.type "function") && (PySem.W.findIn K (.ref (He.ga K x)) "__getattribute__" == some (some (.builtin "BaseException.__getattribute__")) && (PySem.W.findIn K (.ref (He.ga K x)) "__getattr__" == some none && (PySem.W.hasDictIn K (He.ga K x) &&
  (PySem.W.readsIn K (He.ga K CL) (.type "type") && (PySem.W.specialIn K (.ref (He.ga K CL)) "__getattribute__" == some (some (.builtin "type.__getattribute__")) && initB (PySem.W.findCls K (.ref (He.ga K CL)) (.type "type") "__init__")))))))))))))))
def allX : List Str := ["NoProgram", "NoInputs", "NoFaces", "NoSize", "NoLaying", "NoMoves", "NoMemory", "NoNear", "NoTouches", "TooMany", "NoNumber", "NoDeed", "NoLine", "NoWork", "NoText"]
end B
namespace B
open PySem PySem.Spec PyProof.Rows L2
/-- the tables stand empty -/
def emptB (g : Addr → Option Obj) (K : PySem.W.Frag) : Bool := (LT K).all fun p => match g p.1 with
  | some o => He.emptyTab o
  | none => false
abbrev AlT : Type := He.AlD × Bool
def obsT (n : Nat) (fs : List Fct) (fn : List He.DefD) (g : Addr → Option Obj) : AlT := (obsX fs fn (He.frT g (List.range n)), emptB g (He.frT g (List.range n)))
theorem obsT_join {n : Nat} {fs : List Fct} {fn : List He.DefD} {g : Addr → Option Obj} (h1 : obsT n fs [] g = (He.valD [], true)) (h2 : obsT n [] fn g = (He.valD fn, true)) : obsT n fs fn g = (He.valD fn, true) := by
  obtain ⟨a, b⟩ := Prod.mk.inj (show (obsX fs [] (He.frT g (List.range n)), emptB g (He.frT g (List.range n))) = (He.valD [], true) from h1)
  obtain ⟨c, _⟩ := Prod.mk.inj (show (obsX [] fn (He.frT g (List.range n)), emptB g (He.frT g (List.range n))) = (He.valD fn, true) from h2)
  show (obsX fs fn (He.frT g (List.range n)), emptB g (He.frT g (List.range n))) = (He.valD fn, true)
  rw [obsX_join a c, b]
structure SaysT (fs : List Fct) (fn : List He.DefD) (h : Heap) (K : PySem.W.Frag) : Prop where
  x : SaysX fs fn K
  out : ∀ p ∈ LT K, K.lookup p.1 = none
  empty : ∀ p ∈ LT K, h.get? p.1 = some { cls := .none, data := .fields #[] }
theorem saysT_of {n : Nat} {fs : List Fct} {fn : List He.DefD} {h : Heap} (e : obsT n fs fn h.get? = (He.valD fn, true)) : SaysT fs fn h (He.frT h.get? (List.range n)) := by
  have e1 : obsX fs fn (He.frT h.get? (List.range n)) = He.valD fn := congrArg (fun z : AlT => z.1) e
  have e2 : emptB h.get? (He.frT h.get? (List.range n)) = true := congrArg (fun z : AlT => z.2) e
  have key : ∀ p ∈ LT (He.frT h.get? (List.range n)), ∃ o, h.get? p.1 = some o ∧ He.emptyTab o = true := fun p hp => by
    have h3 := List.all_eq_true.mp e2 p hp
    cases q : h.get? p.1 with
    | none => rw [q] at h3; cases h3
    | some o => rw [q] at h3; exact ⟨o, rfl, h3⟩
  exact ⟨e1, fun p hp => by
    obtain ⟨o, q, z⟩ := key p hp
    exact He.frT_none q z, fun p hp => by
    obtain ⟨o, q, z⟩ := key p hp
    rw [q, He.emptyTab_eq z]⟩
def hookT (n : Nat) (fs : List Fct) (fn : List He.DefD) : PySem.W.Hook where
  α := AlT
  obs := fun s => obsT n fs fn s.heap.get?
  val := fun _ => (He.valD fn, true)
  says := fun _ h => ∃ K : PySem.W.Frag, K.In h ∧ SaysT fs fn h K
  of := fun _ _ e => ⟨_, He.frT_in, saysT_of e⟩
  keeps := fun _ _ _ ⟨K, hK, c⟩ k => ⟨K, PySem.W.Frag.In.keeps hK k, ⟨c.x, c.out, fun p hp => k _ _ (c.empty p hp)⟩⟩
theorem obsT_eq {n : Nat} {fs : List Fct} {fn : List He.DefD} {g : Addr → Option Obj} {s : Shared} (h : ∀ a, g a = s.heap.get? a) : obsT n fs fn g = (hookT n fs fn).obs s := by
  have e : g = s.heap.get? := funext h
  rw [e] <;> rfl
/-- the pairs of code object and table -/
def CT (K : PySem.W.Frag) : List (Addr × Addr) := (lamDefs.filter fun x => PySem.W.codeHdIn K (codAt K x) (tblAt K (codAt K x))).map fun x => (codAt K x, tblAt K (codAt K x))
theorem CT_in {K : PySem.W.Frag} {p : Addr × Addr} (h : p ∈ CT K) : PySem.W.codeHdIn K p.1 p.2 = true ∧ ∃ q ∈ LT K, q.1 = p.2 := by
  obtain ⟨x, hx, e⟩ := List.mem_map.mp h
  cases e
  exact ⟨(List.mem_filter.mp hx).2, _, List.mem_map.mpr ⟨x, hx, rfl⟩, rfl⟩
theorem LT_in {K : PySem.W.Frag} {q : Addr × Str} (h : q ∈ LT K) : ∃ p ∈ CT K, p.2 = q.1 := by
  obtain ⟨x, hx, e⟩ := List.mem_map.mp h
  cases e
  exact ⟨_, List.mem_map.mpr ⟨x, hx, rfl⟩, rfl⟩
theorem tabs_start {K : PySem.W.Frag} {H : Hp} (h : ∀ p ∈ CT K, H p.2 = some (.tbl #[])) : LamX.Tabs (LT K) H := fun q hq => by
  obtain ⟨p, hp, e⟩ := LT_in hq
  have h1 := h p hp
  rw [e] at h1
  show LamX.TabS H q.1 q.2
  exact LamX.TabS.nil h1
end B
namespace B
open PySem PySem.Spec PyProof.Rows L2
abbrev s__law_cell : Stmt := (topS 18)
abbrev s__law_pen : Stmt := (topS 19)
abbrev s__law_draw : Stmt := (topS 20)
abbrev s_NoText_init : Stmt := (inClass (topS 16) 0)
abbrev s__law_kinds : Stmt := (topS 21)
abbrev s__law_made : Stmt := (topS 22)
abbrev s_law : Stmt := (topS 23)
section
set_option maxHeartbeats 4000000
def fcts0 : List Fct := [fG "_law_cell",
  fG "_law_pen",
  fG "_law_draw",
  fZ "len",
  fZ "int",
  fX "LayError" allX,
  fL "LayError" allX,
  fNt "LayError" "NoText" "line",
  fG "_law_kinds",
  fG "_law_made",
  fZ "isinstance",
  fZ "enumerate",
  fZ "range",
  fZ "ValueError",
  fG "law"]
def fcts : List Fct := fcts0
def fns0 : List He.DefD := [dD "_law_cell" s__law_cell,
  dD "_law_pen" s__law_pen,
  dD "_law_draw" s__law_draw,
  dM "NoText" "__init__" "NoText.__init__" s_NoText_init,
  dD "_law_kinds" s__law_kinds,
  dD "_law_made" s__law_made,
  dD "law" s_law]
def fns : List He.DefD := fns0
def topNames0 : List PySem.Str := ["__name__",
  "LayError",
  "NoProgram",
  "NoInputs",
  "NoFaces",
  "NoSize",
  "NoLaying",
  "NoMoves",
  "NoMemory",
  "NoNear",
  "NoTouches",
  "TooMany",
  "NoNumber",
  "NoDeed",
  "NoLine",
  "NoWork",
  "NoText",
  "_law_cell",
  "_law_pen",
  "_law_draw",
  "_law_kinds",
  "_law_made"]
def topNames : List PySem.Str := topNames0
abbrev hk : PySem.W.Hook := hookT 1500 fcts fns
def obH (s : PySem.W.SharedT) : AlT := obsT 1500 fcts fns (HandSHeadRun.getT s)
theorem obH_eq (s : PySem.W.SharedT) : obH s = hk.obs s.abs := obsT_eq (HandSHeadRun.getT_eq s)
abbrev Rw : PySem.W.OpenRow := PySem.W.OpenLaw.row PySem.Challenge.rw_nearlay_k91_classes_of_refusals
set_option maxHeartbeats 0 in
theorem runH1 (w : World) : HandSHeadRun.RunEq Rw (PySem.W.view Rw.prog [23]) (hookT 1500 fcts []) (fun s => obsT 1500 fcts [] (HandSHeadRun.getT s)) 100000 topNames w := by
  intro os
  kernel_rfl
set_option maxHeartbeats 0 in
theorem runH2 (w : World) (os : OsState) : (HandSHeadRun.endF (HandSHeadRun.stepQ (HandSHeadRun.denQ HandSHeadRun.tabQ) Rw.prog w) 100000 Rw.prog w os).map (fun s => obsT 1500 [] fns (HandSHeadRun.getT s)) = some (He.valD fns, true) := by
  kernel_rfl
theorem runH (w : World) : HandSHeadRun.RunEq Rw (PySem.W.view Rw.prog [23]) hk obH 100000 topNames w := fun os => run_join (runH1 w os) (runH2 w os) fun _ => obsT_join
end
end B
namespace B
open PySem PySem.Spec PyProof.Rows L2
/-- the known object that is told -/
def onR (s : Sv) (k : Addr → Prop) : Prop := match s with
  | .ref a => k a
  | _ => False
def asIns (al : Al) (a : Addr) (k : Addr → Addr → List (Str × Sv) → Prop) : Prop := match al a with
  | some (.ins C dx fs) => k C dx fs
  | _ => False
def asLst (al : Al) (a : Addr) (k : List Sv → Prop) : Prop := match al a with
  | some (.lst ss) => k ss
  | _ => False
def onF (fs : List (Str × Sv)) (f : Str) (k : Sv → Prop) : Prop := match fs.lookup f with
  | some s => k s
  | none => False
theorem asLst_of {al : Al} {a : Addr} {ss : List Sv} {k : List Sv → Prop} (e : al a = some (.lst ss)) (h : k ss) : asLst al a k := by
  unfold asLst; rw [e]; exact h
def putS (f : Str) (v : Sv) : List (Str × Sv) → List (Str × Sv)
  | [] => [(f, v)]
  | (g, x) :: r => if g = f then (g, v) :: r else (g, x) :: putS f v r
section
variable {K : PySem.W.Frag} {Γ : Gm}
section
variable {L : List Addr} {δ : Dn} {σ : L2.St} {S : List (Sv × V)} {H : Hp} {s : Sv} {v : V}
theorem Top.ref {k : Addr → Prop} (T : Top K Γ L δ σ S H s v) (h : onR s k) : ∃ a, s = .ref a ∧ v = .ref a ∧ Sim K Γ L δ σ S H ∧ k a := by
  cases s with
  | ref a => exact ⟨a, rfl, Sim.top T, Sim.pop T, h⟩
  | _ => exact h.elim
theorem Sim.ins {a : Addr} {k : Addr → Addr → List (Str × Sv) → Prop} (I : Sim K Γ L δ σ S H) (h : asIns δ.al a k) : ∃ C dx fs vs, δ.al a = some (.ins C dx fs) ∧ H a = some (.ins C dx vs) ∧ SvF K L H fs vs ∧ k C dx fs := by
  unfold asIns at h
  split at h
  · rename_i C dx fs e
    obtain ⟨vs, e2, e3⟩ := (I.obj a _ e).2
    exact ⟨C, dx, fs, vs, e, e2, e3, h⟩
  · exact h.elim
theorem Sim.lst {a : Addr} {k : List Sv → Prop} (I : Sim K Γ L δ σ S H) (h : asLst δ.al a k) : ∃ ss xs, δ.al a = some (.lst ss) ∧ H a = some (.lst xs) ∧ SvIs K L H ss xs ∧ k ss := by
  unfold asLst at h
  split at h
  · rename_i ss e
    obtain ⟨xs, e2, e3⟩ := (I.obj a _ e).2
    exact ⟨ss, xs, e, e2, e3, h⟩
  · exact h.elim
theorem SvF.lookup {f : Str} : ∀ {fs : List (Str × Sv)} {vs : List (Str × V)} {s : Sv}, SvF K L H fs vs → fs.lookup f = some s → ∃ v, vs.lookup f = some v ∧ SvI K L H s v
  | [], _, _, _, e => by cases e
  | (g, t) :: fs, _, s, ⟨v, r, e1, h1, h2⟩, e => by
    cases e1
    by_cases z : (f == g) = true
    · simp only [List.lookup, z] at e ⊢
      cases e
      exact ⟨v, rfl, h1⟩
    · have z' : (f == g) = false := by simpa using z
      simp only [List.lookup, z'] at e ⊢
      exact h2.lookup e
theorem SvF.miss {f : Str} : ∀ {fs : List (Str × Sv)} {vs : List (Str × V)}, SvF K L H fs vs → fs.lookup f = none → vs.lookup f = none
  | [], _, h, _ => by cases h; rfl
  | (g, t) :: fs, _, ⟨v, r, e1, h1, h2⟩, e => by
    cases e1
    by_cases z : (f == g) = true
    · simp only [List.lookup, z] at e
      cases e
    · have z' : (f == g) = false := by simpa using z
      simp only [List.lookup, z'] at e ⊢
      exact h2.miss e
theorem SvF.len : ∀ {fs : List (Str × Sv)} {vs : List (Str × V)}, SvF K L H fs vs → vs.length = fs.length
  | [], _, h => by cases h; rfl
  | _ :: _, _, ⟨v, r, e, _, h⟩ => by cases e; show r.length + 1 = _ + 1; rw [h.len]
theorem SvF.put {f : Str} {s : Sv} {v : V} (hs : SvI K L H s v) : ∀ {fs : List (Str × Sv)} {vs : List (Str × V)}, SvF K L H fs vs → SvF K L H (putS f s fs) (putF f v vs)
  | [], _, h => by cases h; exact ⟨v, [], rfl, hs, rfl⟩
  | (g, t) :: fs, _, ⟨w, r, e1, h1, h2⟩ => by
    cases e1
    unfold putS putF
    split
    · exact ⟨v, r, rfl, hs, h2⟩
    · exact ⟨w, _, rfl, h1, h2.put hs⟩
theorem SvIs.len : ∀ {ss : List Sv} {vs : List V}, SvIs K L H ss vs → vs.length = ss.length
  | [], _, h => by cases h; rfl
  | _ :: _, _, ⟨v, r, e, _, h⟩ => by cases e; show r.length + 1 = _ + 1; rw [h.len]
theorem SvIs.get : ∀ {ss : List Sv} {vs : List V} {i : Nat} {s : Sv}, SvIs K L H ss vs → ss[i]? = some s → ∃ v, vs[i]? = some v ∧ SvI K L H s v
  | [], _, _, _, _, e => by simp at e
  | s :: ss, _, 0, t, ⟨v, r, e, h1, h2⟩, g => by
    cases e
    simp at g
    subst g
    exact ⟨v, rfl, h1⟩
  | s :: ss, _, i + 1, t, ⟨v, r, e, h1, h2⟩, g => by
    cases e
    obtain ⟨w, e', h'⟩ := h2.get (i := i) (by simpa using g)
    exact ⟨w, by simpa using e', h'⟩
theorem SvIs.app : ∀ {ss ts : List Sv} {vs us : List V}, SvIs K L H ss vs → SvIs K L H ts us → SvIs K L H (ss ++ ts) (vs ++ us)
  | [], _, _, _, h, g => by cases h; exact g
  | _ :: _, _, _, _, ⟨v, r, e, h1, h2⟩, g => by cases e; exact ⟨v, r ++ _, rfl, h1, h2.app g⟩
theorem SvIs.set : ∀ {ss : List Sv} {vs : List V} {i : Nat} {s : Sv} {v : V}, SvIs K L H ss vs → SvI K L H s v → SvIs K L H (ss.set i s) (vs.set i v)
  | [], _, _, _, _, h, _ => by cases h; exact rfl
  | _ :: _, _, 0, _, _, ⟨w, r, e, h1, h2⟩, g => by cases e; exact ⟨_, _, rfl, g, h2⟩
  | _ :: _, _, i + 1, _, _, ⟨w, r, e, h1, h2⟩, g => by cases e; exact ⟨_, _, rfl, h1, h2.set g⟩
theorem SvIs.dropLast : ∀ {ss : List Sv} {vs : List V}, SvIs K L H ss vs → SvIs K L H ss.dropLast vs.dropLast
  | [], _, h => by cases h; exact rfl
  | [_], _, ⟨w, r, e, h1, h2⟩ => by cases e; cases h2; exact rfl
  | _ :: s :: ss, _, ⟨w, r, e, h1, w2, r2, e2, h2, h3⟩ => by
    cases e
    cases e2
    exact ⟨w, _, rfl, h1, SvIs.dropLast (ss := s :: ss) ⟨w2, r2, rfl, h2, h3⟩⟩
theorem Sim.item (I : Sim K Γ L δ σ S H) (h : SvI K L H s v) (np : ∀ p, s ≠ .pen p) : Top K Γ L δ σ S H s v := by
  cases s with
  | dat d => exact I.dat h
  | ref a => exact I.push (s := .ref a) h rfl fun _ z => nomatch z
  | fn a => exact I.push (s := .fn a) h rfl fun _ z => nomatch z
  | pen p => exact absurd rfl (np p)
  | own ds => exact h.elim
  | ali i => exact h.elim
/-- what may stand within an object -/
def inOb (s : Sv) (k : Sv → Prop) : Prop := match s with
  | .dat d => k (.dat d)
  | .ref a => k (.ref a)
  | .fn a => k (.fn a)
  | _ => False
theorem inOb_run {k : Sv → Prop} (h : inOb s k) (r : SlR K Γ L σ H s v) : SvI K L H s v ∧ k s := by
  cases s with
  | dat d => exact ⟨r, h⟩
  | ref d => exact ⟨r, h⟩
  | fn d => exact ⟨r, h⟩
  | _ => exact h.elim
theorem inOb_top {k : Sv → Prop} (I : Sim K Γ L δ σ S H) (r : SvI K L H s v) (h : inOb s k) : Top K Γ L δ σ S H s v ∧ k s := by
  cases s with
  | dat d => exact ⟨I.item r (fun _ z => nomatch z), h⟩
  | ref d => exact ⟨I.item r (fun _ z => nomatch z), h⟩
  | fn d => exact ⟨I.item r (fun _ z => nomatch z), h⟩
  | _ => exact h.elim
end
instance {e : TE} {f : Str} {fe : Dn → (Sv → Dn → Prop) → Prop} [E : DE K Γ e fe] : DE K Γ (tFld K e f) (fun δ Φ => fe δ fun s δ1 => onR s fun a => asIns δ1.al a fun C _ fs => (Cls K C ∧ NoAttr K C f) ∧ onF fs f fun t => inOb t fun t => Φ t δ1) := ⟨fun {L δ σ S H Φ Q} I h q =>
  E.run I h fun s L1 δ1 v H1 T h1 => by
    obtain ⟨a, rfl, rfl, J, h2⟩ := T.ref h1
    obtain ⟨C, dx, fs, vs, e1, e2, e3, ⟨c, n⟩, h3⟩ := J.ins h2
    unfold onF at h3
    split at h3
    · rename_i t et
      obtain ⟨w, e4, e5⟩ := e3.lookup et
      obtain ⟨T2, h4⟩ := inOb_top J e5 h3
      exact ⟨a, C, dx, vs, w, rfl, e2, c, n, e4, q t L1 δ1 w H1 T2 h4⟩
    · exact h3.elim⟩
theorem Sim.put_ins {L : List Addr} {δ : Dn} {σ : L2.St} {S : List (Sv × V)} {H : Hp} {a C dx : Addr} {fs : List (Str × Sv)} {vs : List (Str × V)} {f : Str} {s : Sv} {v : V} (J : Sim K Γ L δ σ S H) (e1 : δ.al a = some (.ins C dx fs)) (e2 : H a = some (.ins C dx vs)) (e3 : SvF K L H fs vs) (i : SvI K L H s v) :
    Sim K Γ L (δ.know (oup δ.al a (.ins C dx (putS f s fs)))) σ S (upd H a (.ins C dx (putF f v vs))) := by
  have aL := (J.obj a _ e1).1.1
  have f1 : Fr K [a] H (upd H a (.ins C dx (putF f v vs))) := .wr e2 trivial (by simp)
  have inL : ∀ b ∈ [a], b ∈ L := fun b hb => by cases List.mem_singleton.mp hb; exact aL
  exact J.wrOb e1 ⟨_, upd_same, (e3.put i).to fun d v => Dv.mono f1 inL⟩
/-- o.f = e -/
instance {eo ev : TE} {f : Str} {fo fv : Dn → (Sv → Dn → Prop) → Prop} [O : DE K Γ eo fo] [E : DE K Γ ev fv] : DS K Γ (sFld K eo ev f) (fun δ Ψ => fv δ fun s δ1 => asA s δ1 fun t δ2 => inOb t fun t => fo δ2 fun u δ3 => onR u fun a => asIns δ3.al a fun C dx fs => ((Cls K C ∧ NoAttr K C f) ∧ fs.length < 1000) ∧ Ψ.nx (δ3.know (oup δ3.al a (.ins C dx (putS f t fs))))) := ⟨fun {L δ σ S H Ψ D} I h q => by
  refine E.run I h fun s L1 δ1 v H1 T h1 => ?_
  obtain ⟨L2, δ2, t, J, nt, h2⟩ := T.arg h1
  have h3 := (inOb_run h2 J.top).2
  refine O.run J h3 fun u L3 δ3 w H3 T3 h4 => ?_
  obtain ⟨a, rfl, rfl, J3, h5⟩ := T3.ref h4
  obtain ⟨C, dx, fs, vs, e1, e2, e3, ⟨⟨c, n⟩, hl⟩, h6⟩ := J3.ins h5
  refine ⟨a, C, dx, vs, rfl, e2, c, n, by rw [e3.len]; exact hl, q.nx (J3.pop.put_ins e1 e2 e3 ?_) h6⟩
  exact (inOb_run (k := fun _ => True) (s := t) (by cases t <;> first | trivial | exact h2) J3.top).1⟩
/-- a target o.f -/
instance {eo : TE} {f : Str} {fo : Dn → (Sv → Dn → Prop) → Prop} [O : DE K Γ eo fo] : DG K Γ (gFld K eo f) (fun s δ k => inOb s fun t => fo δ fun u δ3 => onR u fun a => asIns δ3.al a fun C dx fs => ((Cls K C ∧ NoAttr K C f) ∧ fs.length < 1000) ∧ k (δ3.know (oup δ3.al a (.ins C dx (putS f t fs))))) [] := ⟨fun {L δ σ S H s v k Z} I h q => by
  have h3 := (inOb_run h I.top).2
  refine O.run I h3 fun u L3 δ3 w H3 T3 h4 => ?_
  obtain ⟨a, rfl, rfl, J3, h5⟩ := T3.ref h4
  obtain ⟨C, dx, fs, vs, e1, e2, e3, ⟨⟨c, n⟩, hl⟩, h6⟩ := J3.ins h5
  refine ⟨a, C, dx, vs, rfl, e2, c, n, by rw [e3.len]; exact hl, q L3 _ σ _ (J3.pop.put_ins e1 e2 e3 ?_) .refl h6⟩
  exact (inOb_run (k := fun _ => True) (s := s) (by cases s <;> first | trivial | exact h) J3.top).1⟩
/-- o.f += e -/
instance {eo ev : TE} {r : R2} {f : Str} {fo fv : Dn → (Sv → Dn → Prop) → Prop} {g : PyData → PyData → (PyData → Prop) → Prop} [R : DR K Γ r g] [O : DE K Γ eo fo] [E : DE K Γ ev fv] : DS K Γ (sFldAug K eo ev r f) (fun δ Ψ => fo δ fun u δ1 => onR u fun a => asIns δ1.al a fun C _ fs => (Cls K C ∧ NoAttr K C f) ∧ onF fs f fun t => onD t fun x => fv δ1 fun s δ2 => asD s δ2 fun y δ3 => g x y fun z => asIns δ3.al a fun C' dx' fs' => (C' = C ∧ fs'.length < 1000) ∧ Ψ.nx (δ3.know (oup δ3.al a (.ins C' dx' (putS f (.dat z) fs'))))) := ⟨fun {L δ σ S H Ψ D} I h q => by
  refine O.run I h fun u L1 δ1 v H1 T h1 => ?_
  obtain ⟨a, rfl, rfl, J, h2⟩ := T.ref h1
  obtain ⟨C, dx, fs, vs, e1, e2, e3, ⟨c, n⟩, h3⟩ := J.ins h2
  unfold onF at h3
  split at h3
  · rename_i t et
    obtain ⟨w, e4, e5⟩ := e3.lookup et
    cases t with
    | dat x =>
      refine ⟨a, C, dx, vs, w, rfl, e2, c, n, e4, ?_⟩
      refine DE.data (T := E) (J.dat (d := x) e5) h3 fun y L2 δ2 vy H2 J2 h4 => ?_
      refine R.run J2.pop.top J2.top h4 fun z vz H3 f3 dz h5 => ?_
      have J3 := J2.pop.pop.more f3
      obtain ⟨C', dx', fs', vs', e6, e7, e8, ⟨rfl, hl⟩, h6⟩ := J3.ins h5
      refine ⟨dx', vs', e7, by rw [e8.len]; exact hl, q.nx (J3.put_ins (s := .dat z) e6 e7 e8 dz) h6⟩
    | _ => exact h3.elim
  · exact h3.elim⟩
instance : DR K Γ rAdd (fun x y Φ => onI x fun i => onI y fun j => Φ (.int (i + j))) := ⟨fun dx dy h q => by
  obtain ⟨i, rfl, rfl, h1⟩ := onI_run dx h
  obtain ⟨j, rfl, rfl, h2⟩ := onI_run dy h1
  exact ⟨i, j, rfl, rfl, q (.int (i + j)) _ _ (.refl _ _) rfl h2⟩⟩
instance : DR K Γ rSub (fun x y Φ => onI x fun i => onI y fun j => Φ (.int (i - j))) := ⟨fun dx dy h q => by
  obtain ⟨i, rfl, rfl, h1⟩ := onI_run dx h
  obtain ⟨j, rfl, rfl, h2⟩ := onI_run dy h1
  exact ⟨i, j, rfl, rfl, q (.int (i - j)) _ _ (.refl _ _) rfl h2⟩⟩
instance {C : Addr} {m : Str} {n : Nat} {g : Al → List Sv → (Al → Sv → Prop) → Prop} {eo : TE} {t : TA} {fo : Dn → (Sv → Dn → Prop) → Prop} {f : Dn → (List Sv → Dn → Prop) → Prop} [O : DE K Γ eo fo] [A : DA K Γ t f] :
    DE K Γ (tMeth C m (spH K n g) [] E0 eo t) (fun δ Φ => fo δ fun s δ1 => onR s fun a => asIns δ1.al a fun C' _ fs => (C' = C ∧ fs.lookup m = none) ∧ f δ1 fun as δ2 => as.length + 1 = n ∧ callH g δ2.al (.ref a :: as) (fun al' s => Φ s (δ2.know al')) .mk .mk) := ⟨fun {L δ σ S H Φ Q} I h q => by
  refine O.run I h fun s L1 δ1 v H1 T h1 => ?_
  obtain ⟨a, rfl, rfl, J, h2⟩ := T.ref h1
  obtain ⟨C', dx, fs, vs, e1, e2, e3, ⟨rfl, hn⟩, h3⟩ := J.ins h2
  refine ⟨a, dx, vs, rfl, e2, e3.miss hn, A.run J h3 fun as L2 δ2 vs H2 J2 ar h4 => ?_⟩
  rw [List.append_nil]
  exact J2.called (as := .ref a :: as) ⟨_, _, rfl, rfl, rfl, (fun _ z => nomatch z), ar⟩ h4.1 h4.2 fun s L' al' v H' J3 h5 => q s L' _ v H' J3.topOf h5⟩
instance {C : Addr} {n : Nat} {g : Al → List Sv → (Al → Sv → Prop) → Prop} {t : TA} {f : Dn → (List Sv → Dn → Prop) → Prop} [A : DA K Γ t f] :
    DE K Γ (tMake C (spH K n g) [] E0 t) (fun δ Φ => f δ fun as δ1 => as.length + 1 = n ∧ ∀ x dx, δ1.al x = none → callH g (oup δ1.al x (.ins C dx [])) (.ref x :: as) (fun al' s => s = .dat .none ∧ Φ (.ref x) (δ1.know al')) .mk .mk) := ⟨fun {L δ σ S H Φ Q} I h q => by
  refine A.run I h fun as L1 δ1 vs H1 J ar h1 => ?_
  rw [List.append_nil]
  intro x dx nx ndx ne
  have nx2 : (upd H1 dx (.own x)) x = none := by rw [upd_ne (Ne.symm ne)]; exact nx
  have J1 : Sim K Γ L1 δ1 σ S (upd H1 dx (.own x)) := J.more (.new ndx)
  have al0 := (J1.fresh nx2).1
  have J2 := J1.newOb (u := .ins C dx []) (o := .ins C dx []) nx2 ⟨[], upd_same, rfl⟩
  have ar2 : AR K Γ (x :: L1) (upd (upd H1 dx (.own x)) x (.ins C dx [])) (.ref x :: as) (.ref x :: vs) := by
    refine ⟨_, _, rfl, rfl, rfl, (fun _ z => nomatch z), ?_⟩
    have mo : ∀ {ss : List Sv} {ws : List V}, AR K Γ L1 H1 ss ws → AR K Γ (x :: L1) (upd (upd H1 dx (.own x)) x (.ins C dx [])) ss ws := by
      intro ss
      induction ss with
      | nil => exact fun h => h
      | cons s ss ih =>
        rintro ws ⟨w, r, e, q1, q2, q3, q4⟩
        refine ⟨w, r, e, ?_, q2, q3, ih q4⟩
        have fr : Fr K [] H1 (upd (upd H1 dx (.own x)) x (.ins C dx [])) := (Fr.new ndx).trans (.new nx2)
        cases s with
        | dat d => exact Dv.mono fr (fun _ z => nomatch z) (Dv.sub (fun b hb => (List.mem_cons.mp hb).elim (fun e => .inr (e ▸ nx)) .inl) q1)
        | own ds => cases q2
        | ali j => exact absurd rfl (q3 j)
        | _ => exact q1
    exact mo ar
  refine J2.called (as := .ref x :: as) (Φ := fun s δ3 => s = .dat .none ∧ Φ (.ref x) δ3) ar2 h1.1 (h1.2 x dx al0) fun s L' al' v H' J3 h5 => ?_
  obtain ⟨rfl, h6⟩ := h5
  have tv : v = .non := J3.top
  exact ⟨tv, q (.ref x) L' _ _ H' (J3.pop.push (s := .ref x) rfl rfl fun _ z => nomatch z) h6⟩⟩
def tRef (t : TE) : TE := t
/-- a list under construction becomes a known object -/
def asR (s : Sv) (δ : Dn) (k : Sv → Dn → Prop) : Prop := match s with
  | .own ds => ∀ p, δ.al p = none → k (.ref p) (δ.know (oup δ.al p (.lst (ds.map .dat))))
  | s => k s δ
instance {t : TE} {f : Dn → (Sv → Dn → Prop) → Prop} [E : DE K Γ t f] : DE K Γ (tRef t) (fun δ Φ => f δ fun s δ1 => asR s δ1 Φ) := ⟨fun {L δ σ S H Φ Q} I h q =>
  E.run I h fun s L1 δ1 v H1 T h1 => by
    cases s with
    | own ds =>
      obtain ⟨a, xs, rfl, _⟩ := Sim.top T
      obtain ⟨n, _, J⟩ := Sim.toRef T
      exact q (.ref a) L1 _ _ H1 (J.push (s := .ref a) rfl rfl fun _ z => nomatch z) (h1 a n)
    | _ => exact q _ L1 δ1 v H1 T h1⟩
/-- a list of objects -/
def tLstO (t : TA) : TE := tLst t
def allOb : List Sv → Bool
  | [] => true
  | .dat _ :: ss => allOb ss
  | .ref _ :: ss => allOb ss
  | .fn _ :: ss => allOb ss
  | _ :: _ => false
theorem allOb_run {L : List Addr} {H : Hp} : ∀ {ss : List Sv} {vs : List V}, AR K Γ L H ss vs → allOb ss = true → SvIs K L H ss vs
  | [], _, h, _ => h
  | s :: ss, _, ⟨v, r, e, h1, h2, h3, h4⟩, ha => by
    cases s with
    | dat d => exact ⟨v, r, e, h1, allOb_run h4 ha⟩
    | ref d => exact ⟨v, r, e, h1, allOb_run h4 ha⟩
    | fn d => exact ⟨v, r, e, h1, allOb_run h4 ha⟩
    | _ => cases ha
theorem SvIs.mono {L L' P : List Addr} {H H' : Hp} (s : ∀ a, a ∈ L' → a ∈ L ∨ H a = none) (f : Fr K P H H') (hP : ∀ a ∈ P, a ∈ L') {ss : List Sv} {vs : List V} (h : SvIs K L H ss vs) : SvIs K L' H' ss vs := h.to fun d v z => Dv.mono f hP (Dv.sub s z)
instance {t : TA} {f : Dn → (List Sv → Dn → Prop) → Prop} [A : DA K Γ t f] : DE K Γ (tLstO t) (fun δ Φ => f δ fun ss δ1 => (allOb ss = true ∧ ss.length ≤ 1000000) ∧ ∀ p, δ1.al p = none → Φ (.ref p) (δ1.know (oup δ1.al p (.lst ss)))) := ⟨fun {L δ σ S H Φ Q} I h q => by
  refine A.run I h fun ss L1 δ1 vs H1 J ar h1 => ?_
  have sv := allOb_run ar h1.1.1
  refine ⟨by rw [sv.len]; exact Nat.le_trans h1.1.2 (by decide), fun p np => ?_⟩
  have J2 := J.newOb (u := .lst vs) (o := .lst ss) np ⟨vs, upd_same, sv.mono (fun b hb => (List.mem_cons.mp hb).elim (fun e => .inr (e ▸ np)) .inl) (.new np) (P := []) fun _ z => nomatch z⟩
  exact q (.ref p) _ _ _ _ (J2.push (s := .ref p) rfl rfl fun _ z => nomatch z) (h1.2 p (J.fresh np).1)⟩
end
end B
namespace B
open PySem PySem.Spec PyProof.Rows L2
def keyD : PyData → Option Key
  | .int i => some (.inl i)
  | .str x => some (.inr x)
  | _ => none
def keysD : List PyData → Option (List Key)
  | [] => some []
  | d :: ds => match keyD d, keysD ds with
    | some k, some ks => some (k :: ks)
    | _, _ => none
section
variable {κ : Type} [DecidableEq κ]
def getE {α : Type} (es : List (κ × α)) (k : κ) : Option α := (es.find? fun e => decide (e.1 = k)).map (·.2)
def putE {α : Type} (es : List (κ × α)) (k : κ) (x : α) : List (κ × α) := if (es.any fun e => decide (e.1 = k)) then es.map fun e => if e.1 = k then (e.1, x) else e else es ++ [(k, x)]
end
theorem keyD_run {K : PySem.W.Frag} {L : List Addr} {H : Hp} {d : PyData} {v : V} {k : Key} (h : Dv K L H d v) (e : keyD d = some k) : v = kV k := by
  cases d <;> (unfold keyD at e; cases e) <;> exact h
theorem keysD_run {K : PySem.W.Frag} {L : List Addr} {H : Hp} : ∀ {ds : List PyData} {vs : List V} {ks : List Key}, Dvs K L H ds vs → keysD ds = some ks → vs = ks.map kV
  | [], _, _, h, e => by cases e; exact h
  | d :: ds, _, ks, ⟨v, r, e1, h1, h2⟩, e => by
    unfold keysD at e
    split at e
    · rename_i a b
      cases e
      rw [e1, keyD_run h1 a, keysD_run h2 b]
      rfl
    · cases e
section
variable {κ : Type} [DecidableEq κ] {K : PySem.W.Frag} {L : List Addr} {H : Hp}
theorem DvK.get {k : κ} : ∀ {es : List (κ × PyData)} {kvs : List (κ × V)}, DvK K L H es kvs → (getE es k = none → valV kvs k = none) ∧ ∀ d, getE es k = some d → ∃ v, valV kvs k = some v ∧ Dv K L H d v
  | [], _, h => by cases h; exact ⟨(fun _ => rfl), (fun _ e => by cases e)⟩
  | (j, x) :: es, _, ⟨v, r, e, h1, h2⟩ => by
    cases e
    have ih := h2.get (k := k)
    unfold getE valV at ih ⊢
    by_cases z : j = k
    · simp only [List.find?_cons, z, decide_true]
      exact ⟨(fun e => by cases e), (fun d e => by cases e; exact ⟨v, rfl, h1⟩)⟩
    · simp only [List.find?_cons, z, decide_false]
      exact ih
theorem DvK.len {κ : Type} : ∀ {es : List (κ × PyData)} {kvs : List (κ × V)}, DvK K L H es kvs → kvs.length = es.length
  | [], _, h => by cases h; rfl
  | _ :: _, _, ⟨v, r, e, _, h⟩ => by cases e; show r.length + 1 = _ + 1; rw [h.len]
theorem DvK.any {k : κ} : ∀ {es : List (κ × PyData)} {kvs : List (κ × V)}, DvK K L H es kvs → (kvs.any fun e => decide (e.1 = k)) = es.any fun e => decide (e.1 = k)
  | [], _, h => by cases h; rfl
  | (j, x) :: es, _, ⟨v, r, e, _, h⟩ => by cases e; simp only [List.any_cons, h.any]
theorem DvK.repl {k : κ} {d : PyData} {v : V} (hd : Dv K L H d v) : ∀ {es : List (κ × PyData)} {kvs : List (κ × V)}, DvK K L H es kvs → DvK K L H (es.map fun e => if e.1 = k then (e.1, d) else e) (kvs.map fun e => if e.1 = k then (e.1, v) else e)
  | [], _, h => by cases h; exact rfl
  | (j, x) :: es, _, ⟨w, r, e, h1, h⟩ => by
    cases e
    rw [List.map_cons, List.map_cons]
    by_cases z : j = k
    · simp only [z, if_true]
      exact ⟨v, _, rfl, hd, h.repl hd⟩
    · simp only [z, if_false]
      exact ⟨w, _, rfl, h1, h.repl hd⟩
theorem DvK.snoc {κ : Type} {k : κ} {d : PyData} {v : V} (hd : Dv K L H d v) : ∀ {es : List (κ × PyData)} {kvs : List (κ × V)}, DvK K L H es kvs → DvK K L H (es ++ [(k, d)]) (kvs ++ [(k, v)])
  | [], _, h => by cases h; exact ⟨v, [], rfl, hd, rfl⟩
  | (j, x) :: es, _, ⟨w, r, e, h1, h⟩ => by cases e; exact ⟨w, _, rfl, h1, h.snoc hd⟩
theorem DvK.put {k : κ} {d : PyData} {v : V} (hd : Dv K L H d v) {es : List (κ × PyData)} {kvs : List (κ × V)} (h : DvK K L H es kvs) : DvK K L H (putE es k d) (putK kvs k v) := by
  unfold putE putK
  rw [h.any]
  split
  · exact h.repl hd
  · exact h.snoc hd
end
/-- what a known dict holds under a key -/
def dictAt (al : Al) (a : Addr) (y : PyData) (k : Option PyData → Prop) : Prop := match al a with
  | some (.dK es) => match keyD y with
    | some κ => k (getE es κ)
    | none => False
  | some (.dT es) => match y with
    | .tuple ds => (ds ≠ [] ∧ ds.length < 4) ∧ match keysD ds with
      | some κs => k (getE es κs)
      | none => False
    | _ => False
  | some (.fT es) => match y with
    | .tuple ds => (ds ≠ [] ∧ ds.length < 4) ∧ match keysD ds with
      | some κs => k (getE es κs)
      | none => False
    | _ => False
  | _ => False
def dictPut (al : Al) (a : Addr) (y d : PyData) (k : Al → Prop) : Prop := match al a with
  | some (.dK es) => match keyD y with
    | some κ => es.length < 1000000 ∧ k (oup al a (.dK (putE es κ d)))
    | none => False
  | some (.dT es) => match y with
    | .tuple ds => (ds ≠ [] ∧ ds.length < 4) ∧ match keysD ds with
      | some κs => es.length < 1000000 ∧ k (oup al a (.dT (putE es κs d)))
      | none => False
    | _ => False
  | _ => False
section
variable {K : PySem.W.Frag} {Γ : Gm}
section
variable {L : List Addr} {δ : Dn} {σ : L2.St} {S : List (Sv × V)} {H : Hp} {s : Sv} {v : V}
theorem keyV_keys {ks : List Key} (h0 : ks ≠ []) (h4 : ks.length < 4) : keyV (ks.map kV) = true := by
  unfold keyV
  have e1 : (ks.map kV).isEmpty = false := by cases ks with | nil => exact absurd rfl h0 | cons _ _ => rfl
  rw [e1, List.length_map, decide_eq_true h4]
  show (true && true && _) = true
  rw [List.all_map]
  show (true && _) = true
  rw [Bool.true_and]
  refine List.all_eq_true.mpr fun k _ => ?_
  cases k <;> rfl
theorem keysD_len : ∀ {ds : List PyData} {ks : List Key}, keysD ds = some ks → ks.length = ds.length
  | [], _, e => by cases e; rfl
  | d :: ds, ks, e => by
    unfold keysD at e
    split at e
    · rename_i a b
      cases e
      rw [List.length_cons, List.length_cons, keysD_len b]
    · cases e
theorem tp_key {b : Addr} {vs : List V} {ds : List PyData} {ks : List Key} (h : Tp K H b vs) (ev : vs = ks.map kV) (ek : keysD ds = some ks) (h1 : ds ≠ []) (h2 : ds.length < 4) : H b = some (.tup vs) := by
  have el := keysD_len ek
  refine h.key ?_
  rw [ev]
  exact keyV_keys (fun z => h1 (List.length_eq_zero_iff.mp (by rw [← el, z]; rfl))) (by omega)
theorem Sim.dget {a : Addr} {y : PyData} {k : Option PyData → Prop} (I : Sim K Γ L δ σ S H) (dy : Dv K L H y v) (h : dictAt δ.al a y k) : ∃ o od, DGet H a v o ∧ IsD H a ∧ k od ∧ (od = none → o = none) ∧ ∀ d, od = some d → ∃ x, o = some x ∧ Dv K L H d x := by
  unfold dictAt at h
  split at h
  · rename_i es e
    obtain ⟨kvs, e2, e3⟩ := (I.obj a _ e).2
    split at h
    · rename_i κ ek
      have g := e3.get (k := κ)
      refine ⟨_, getE es κ, ?_, .inl ⟨kvs, .inl e2⟩, h, g.1, g.2⟩
      rw [keyD_run dy ek]
      exact DGet.k e2
    · exact h.elim
  · rename_i es e
    obtain ⟨kvs, e2, e3⟩ := (I.obj a _ e).2
    cases y with
    | tuple ds =>
      obtain ⟨⟨h0, h4⟩, h⟩ := h
      split at h
      · rename_i κs ek
        obtain ⟨b, vs, rfl, t, r⟩ := dy
        have ev := keysD_run r ek
        have el := r.len
        have tb := tp_key t ev ek h0 h4
        rw [ev] at tb
        have g := e3.get (k := κs)
        exact ⟨_, getE es κs, DGet.t e2 tb, .inr ⟨kvs, .inl e2⟩, h, g.1, g.2⟩
      · exact h.elim
    | _ => exact h.elim
  · rename_i es e
    obtain ⟨od, kvs, e2, e3⟩ := (I.obj a _ e).2
    cases y with
    | tuple ds =>
      obtain ⟨⟨h0, h4⟩, h⟩ := h
      split at h
      · rename_i κs ek
        obtain ⟨b, vs, rfl, t, r⟩ := dy
        have ev := keysD_run r ek
        have el := r.len
        have tb := tp_key t ev ek h0 h4
        rw [ev] at tb
        have g := e3.get (k := κs)
        exact ⟨_, getE es κs, Or.inr ⟨kvs, κs, b, .inr ⟨od, e2⟩, rfl, tb, rfl⟩, .inr ⟨kvs, .inr ⟨od, e2⟩⟩, h, g.1, g.2⟩
      · exact h.elim
    | _ => exact h.elim
  · exact h.elim
theorem Sim.dput {a : Addr} {y d : PyData} {k : Al → Prop} {u : V} (I : Sim K Γ L δ σ S H) (dy : Dv K L H y v) (dd : Dv K L H d u) (h : dictPut δ.al a y d k) : ∃ H' al', DPut H a v u H' ∧ Sim K Γ L (δ.know al') σ S H' ∧ k al' := by
  unfold dictPut at h
  have hs := sizeLine_eq
  split at h
  · rename_i es e
    obtain ⟨⟨aL, _⟩, kvs, e2, e3⟩ := I.obj a _ e
    split at h
    · rename_i κ ek
      have el := e3.len
      have f1 : Fr K [a] H (upd H a (.dK (putK kvs κ u))) := .wr e2 trivial (by simp)
      have inL : ∀ b ∈ [a], b ∈ L := fun b hb => by cases List.mem_singleton.mp hb; exact aL
      refine ⟨_, _, ?_, I.wrOb (u := .dK (putK kvs κ u)) (o' := .dK (putE es κ d)) e ⟨_, upd_same, (e3.put dd).to fun d v => Dv.mono f1 inL⟩, h.2⟩
      rw [keyD_run dy ek]
      exact DPut.k e2 (by omega)
    · exact h.elim
  · rename_i es e
    obtain ⟨⟨aL, _⟩, kvs, e2, e3⟩ := I.obj a _ e
    cases y with
    | tuple ds =>
      obtain ⟨⟨h0, h4⟩, h⟩ := h
      split at h
      · rename_i κs ek
        obtain ⟨b, vs, rfl, t, r⟩ := dy
        have ev := keysD_run r ek
        have el := r.len
        have tb := tp_key t ev ek h0 h4
        rw [ev] at tb
        have el2 := e3.len
        have f1 : Fr K [a] H (upd H a (.dT (putK kvs κs u))) := .wr e2 trivial (by simp)
        have inL : ∀ b ∈ [a], b ∈ L := fun b hb => by cases List.mem_singleton.mp hb; exact aL
        exact ⟨_, _, DPut.t e2 tb (by omega), I.wrOb (u := .dT (putK kvs κs u)) (o' := .dT (putE es κs d)) e ⟨_, upd_same, (e3.put dd).to fun d v => Dv.mono f1 inL⟩, h.2⟩
      · exact h.elim
    | _ => exact h.elim
  · exact h.elim
end
def someD (o : Option PyData) (k : PyData → Prop) : Prop := match o with
  | some d => k d
  | none => False
/-- d[k] -/
instance {td ty : TE} {fd fy : Dn → (Sv → Dn → Prop) → Prop} [D : DE K Γ td fd] [Y : DE K Γ ty fy] : DE K Γ (tDGet td ty) (fun δ Φ => fd δ fun s δ1 => onR s fun a => fy δ1 fun t δ2 => asD t δ2 fun y δ3 => dictAt δ3.al a y fun o => someD o fun d => Φ (.dat d) δ3) := ⟨fun {L δ σ S H Φ Q} I h q => by
  refine D.run I h fun s L1 δ1 v H1 T h1 => ?_
  obtain ⟨a, rfl, rfl, J, h2⟩ := T.ref h1
  refine DE.data (T := Y) J h2 fun y L2 δ2 u H2 J2 h3 => ?_
  obtain ⟨o, od, g, _, h4, n, sm⟩ := J2.pop.dget J2.top h3
  cases od with
  | none => exact h4.elim
  | some d =>
    obtain ⟨x, rfl, dx⟩ := sm d rfl
    exact ⟨a, x, rfl, g, q (.dat d) L2 δ2 x H2 (J2.pop.dat dx) h4⟩⟩
/-- k in d -/
instance {td ty : TE} {fd fy : Dn → (Sv → Dn → Prop) → Prop} [D : DE K Γ td fd] [Y : DE K Γ ty fy] : DE K Γ (tDIn ty td) (fun δ Φ => fy δ fun t δ1 => asD t δ1 fun y δ2 => fd δ2 fun s δ3 => onR s fun a => dictAt δ3.al a y fun o => Φ (.dat (.bool o.isSome)) δ3) := ⟨fun {L δ σ S H Φ Q} I h q => by
  refine DE.data (T := Y) I h fun y L1 δ1 u H1 J1 h1 => D.run J1 h1 fun s L2 δ2 v H2 T h2 => ?_
  obtain ⟨a, rfl, rfl, J, h3⟩ := T.ref h2
  obtain ⟨o, od, g, _, h4, n, sm⟩ := J.pop.dget J.top h3
  have e : o.isSome = od.isSome := by
    cases od with
    | none => rw [n rfl]; rfl
    | some d => obtain ⟨x, rfl, _⟩ := sm d rfl; rfl
  refine ⟨a, o, rfl, g, ?_⟩
  rw [e]
  exact q (.dat (.bool od.isSome)) L2 δ2 (.bl od.isSome) H2 (J.pop.dat rfl) h4⟩
instance {td ty : TE} {fd fy : Dn → (Sv → Dn → Prop) → Prop} [D : DE K Γ td fd] [Y : DE K Γ ty fy] : DE K Γ (tDNotIn ty td) (fun δ Φ => fy δ fun t δ1 => asD t δ1 fun y δ2 => fd δ2 fun s δ3 => onR s fun a => dictAt δ3.al a y fun o => Φ (.dat (.bool (!o.isSome))) δ3) := ⟨fun {L δ σ S H Φ Q} I h q => by
  refine DE.data (T := Y) I h fun y L1 δ1 u H1 J1 h1 => D.run J1 h1 fun s L2 δ2 v H2 T h2 => ?_
  obtain ⟨a, rfl, rfl, J, h3⟩ := T.ref h2
  obtain ⟨o, od, g, _, h4, n, sm⟩ := J.pop.dget J.top h3
  have e : o.isSome = od.isSome := by
    cases od with
    | none => rw [n rfl]; rfl
    | some d => obtain ⟨x, rfl, _⟩ := sm d rfl; rfl
  refine ⟨a, o, rfl, g, ?_⟩
  rw [e]
  exact q (.dat (.bool (!od.isSome))) L2 δ2 (.bl (!od.isSome)) H2 (J.pop.dat rfl) h4⟩
/-- d[k] = v -/
instance {td ty tv : TE} {fd fy fv : Dn → (Sv → Dn → Prop) → Prop} [D : DE K Γ td fd] [Y : DE K Γ ty fy] [E : DE K Γ tv fv] : DS K Γ (sDPut td ty tv) (fun δ Ψ => fv δ fun s δ1 => asD s δ1 fun x δ2 => fd δ2 fun t δ3 => onR t fun a => fy δ3 fun u δ4 => asD u δ4 fun y δ5 => dictPut δ5.al a y x fun al' => Ψ.nx (δ5.know al')) := ⟨fun {L δ σ S H Ψ Dd} I h q => by
  refine DE.data (T := E) I h fun x L1 δ1 v H1 J1 h1 => D.run J1 h1 fun s L2 δ2 w H2 T h2 => ?_
  obtain ⟨a, rfl, rfl, J, h3⟩ := T.ref h2
  refine DE.data (T := Y) J h3 fun y L3 δ3 u H3 J3 h4 => ?_
  obtain ⟨H', al', g, J4, h5⟩ := J3.pop.pop.dput J3.top J3.pop.top h4
  exact ⟨a, H', rfl, g, q.nx J4 h5⟩⟩
/-- d.get(k, x) -/
instance {td ty tx : TE} {fd fy fx : Dn → (Sv → Dn → Prop) → Prop} [D : DE K Γ td fd] [Y : DE K Γ ty fy] [X : DE K Γ tx fx] : DE K Γ (tDGet2 td ty tx) (fun δ Φ => fd δ fun s δ1 => onR s fun a => ((∃ es, δ1.al a = some (.dK es)) ∨ ∃ es, δ1.al a = some (.dT es)) ∧ fy δ1 fun t δ2 => asD t δ2 fun y δ3 => fx δ3 fun u δ4 => asD u δ4 fun x δ5 => dictAt δ5.al a y fun o => Φ (.dat (o.getD x)) δ5) := ⟨fun {L δ σ S H Φ Q} I h q => by
  refine D.run I h fun s L1 δ1 v H1 T h1 => ?_
  obtain ⟨a, rfl, rfl, J, hd, h2⟩ := T.ref h1
  have isd : IsD H1 a := by
    rcases hd with ⟨es, e⟩ | ⟨es, e⟩
    · obtain ⟨kvs, e2, _⟩ := (J.obj a _ e).2
      exact .inl ⟨kvs, .inl e2⟩
    · obtain ⟨kvs, e2, _⟩ := (J.obj a _ e).2
      exact .inr ⟨kvs, .inl e2⟩
  refine ⟨a, rfl, isd, DE.data (T := Y) J h2 fun y L2 δ2 u H2 J2 h3 => DE.data (T := X) J2 h3 fun x L3 δ3 w H3 J3 h4 => ?_⟩
  obtain ⟨o, od, g, _, h5, n, sm⟩ := J3.pop.pop.dget J3.pop.top h4
  refine ⟨o, g, ?_⟩
  cases od with
  | none =>
    rw [n rfl]
    exact q (.dat x) L3 δ3 w H3 (J3.pop.pop.dat J3.top) h5
  | some d =>
    obtain ⟨z, rfl, dz⟩ := sm d rfl
    exact q (.dat d) L3 δ3 z H3 (J3.pop.pop.dat dz) h5⟩
instance : DE K Γ tDNewK (fun δ Φ => ∀ p, δ.al p = none → Φ (.ref p) (δ.know (oup δ.al p (.dK [])))) := ⟨fun {L δ σ S H Φ Q} I h q => by
  intro p np
  have J := I.newOb (u := .dK []) (o := .dK []) np ⟨[], upd_same, rfl⟩
  exact q (.ref p) _ _ _ _ (J.push (s := .ref p) rfl rfl fun _ z => nomatch z) (h p (I.fresh np).1)⟩
instance : DE K Γ tDNewT (fun δ Φ => ∀ p, δ.al p = none → Φ (.ref p) (δ.know (oup δ.al p (.dT [])))) := ⟨fun {L δ σ S H Φ Q} I h q => by
  intro p np
  have J := I.newOb (u := .dT []) (o := .dT []) np ⟨[], upd_same, rfl⟩
  exact q (.ref p) _ _ _ _ (J.push (s := .ref p) rfl rfl fun _ z => nomatch z) (h p (I.fresh np).1)⟩
/-- len(d) -/
def rLenD : List V → Hp → VK → Prop := fun xs H Q => ∃ a kvs, xs = [V.ref a] ∧ H a = some (.dK kvs) ∧ Q (.int kvs.length) H
def asDK (al : Al) (a : Addr) (k : List (Key × PyData) → Prop) : Prop := match al a with
  | some (.dK es) => k es
  | _ => False
instance {e : TE} {fe : Dn → (Sv → Dn → Prop) → Prop} [E : DE K Γ e fe] : DE K Γ (tCB rLenD (tCons e tNil)) (fun δ Φ => fe δ fun s δ1 => onR s fun a => asDK δ1.al a fun es => Φ (.dat (.int (es.length : Int))) δ1) := ⟨fun {L δ σ S H Φ Q} I h q =>
  E.run I h fun s L1 δ1 v H1 T h1 => by
    obtain ⟨a, rfl, rfl, J, h2⟩ := T.ref h1
    unfold asDK at h2
    split at h2
    · rename_i es e
      obtain ⟨kvs, e2, e3⟩ := (J.obj a _ e).2
      refine ⟨a, kvs, rfl, e2, ?_⟩
      rw [e3.len]
      exact q (.dat (.int _)) L1 δ1 _ H1 (J.dat rfl) h2
    · exact h2.elim⟩
def atS (ss : List Sv) (i : Int) (k : Sv → Prop) : Prop := match atI ss i with
  | some s => k s
  | none => False
/-- the items of a list, looked at -/
def seeL (s : Sv) (δ : Dn) (k : List PyData → Prop) : Prop := match s with
  | .dat (.list ds) => k ds
  | .own ds => k ds
  | .ali i => match δ.at_ i with
    | some (.own ds) => k ds
    | some (.dat (.list ds)) => k ds
    | _ => False
  | _ => False
theorem seeL_run {L : List Addr} {δ : Dn} {σ : L2.St} {S : List (Sv × V)} {H : Hp} {s : Sv} {v : V} {k : List PyData → Prop} (T : Top K Γ L δ σ S H s v) (h : seeL s δ k) :
    ∃ a xs ds, v = .ref a ∧ H a = some (.lst xs) ∧ Dvs K L H ds xs ∧ k ds := by
  cases s with
  | dat d =>
    cases d with
    | list ds =>
      obtain ⟨a, xs, e, _, t, r⟩ := Sim.top T
      exact ⟨a, xs, ds, e, t, r, h⟩
    | _ => exact h.elim
  | own ds =>
    obtain ⟨a, xs, e, _, _, t, r⟩ := Sim.top T
    exact ⟨a, xs, ds, e, t, r, h⟩
  | ali i =>
    obtain ⟨I, hv⟩ := T
    unfold seeL at h
    dsimp only at h
    split at h
    · rename_i ds e
      obtain ⟨_, w, e1, a, xs, e2, _, _, t, r⟩ := I.slot i _ (at_some e)
      rw [hv] at e1
      cases e1
      exact ⟨a, xs, ds, e2, t, r, h⟩
    · rename_i ds e
      obtain ⟨_, w, e1, a, xs, e2, _, t, r⟩ := I.slot i _ (at_some e)
      rw [hv] at e1
      cases e1
      exact ⟨a, xs, ds, e2, t, r, h⟩
    · exact h.elim
  | _ => exact h.elim
/-- what stands on the stack while the rest is reckoned -/
theorem Top.hold {L : List Addr} {δ : Dn} {σ : L2.St} {S : List (Sv × V)} {H : Hp} {s : Sv} {v : V} (T : Top K Γ L δ σ S H s v) : ∃ S', Sim K Γ L δ σ S' H ∧ ∀ {L2 : List Addr} {δ2 : Dn} {H2 : Hp} {p : Sv × V}, Sim K Γ L2 δ2 σ (p :: S') H2 → Top K Γ L2 δ2 σ S H2 s v ∧ SlR K Γ L2 σ H2 p.1 p.2 := by
  cases s with
  | ali i => exact ⟨S, T.1, fun J => ⟨⟨J.pop, T.2⟩, J.top⟩⟩
  | _ => exact ⟨_, T, fun J => ⟨J.pop, J.top⟩⟩
/-- s[i], s a list -/
def ixS (s : Sv) (i : Int) (δ : Dn) (k : Sv → Dn → Prop) : Prop := match s with
  | .ref a => asLst δ.al a fun ss => atS ss i fun t => inOb t fun t => k t δ
  | s => seeL s δ fun ds => atD ds i fun d => k (.dat d) δ
theorem ixS_run {L3 : List Addr} {δ3 : Dn} {σ : L2.St} {S3 : List (Sv × V)} {H3 : Hp} {i : Int} {s : Sv} {v : V} {Φ : Sv → Dn → Prop} (T3 : Top K Γ L3 δ3 σ S3 H3 s v) (h3 : ixS s i δ3 Φ) :
    ∃ a xs w t, v = .ref a ∧ H3 a = some (.lst xs) ∧ atI xs i = some w ∧ Top K Γ L3 δ3 σ S3 H3 t w ∧ Φ t δ3 := by
  have dat : seeL s δ3 (fun ds => atD ds i fun d => Φ (.dat d) δ3) → ∃ a xs w t, v = .ref a ∧ H3 a = some (.lst xs) ∧ atI xs i = some w ∧ Top K Γ L3 δ3 σ S3 H3 t w ∧ Φ t δ3 := fun h4 => by
    obtain ⟨a, xs, ds, rfl, t, r, h5⟩ := seeL_run T3 h4
    unfold atD at h5
    split at h5
    · rename_i d e
      obtain ⟨w, e2, dw⟩ := atI_dvs r e
      exact ⟨a, xs, w, .dat d, rfl, t, e2, T3.drop.dat dw, h5⟩
    · exact h5.elim
  cases s with
  | ref a =>
    obtain ⟨ss, xs, e1, e2, e3, h4⟩ := (Sim.pop T3).lst h3
    have ev : v = .ref a := Sim.top T3
    subst ev
    unfold atS at h4
    split at h4
    · rename_i t et
      have ew : ∃ w, atI xs i = some w ∧ SvI K L3 H3 t w := by
        unfold atI at et ⊢
        rw [e3.len]
        cases e4 : ixN ss.length i with
        | none => rw [e4] at et; cases et
        | some j =>
          rw [e4] at et
          exact e3.get (show ss[j]? = some t from et)
      obtain ⟨w, e5, e6⟩ := ew
      obtain ⟨T4, h5⟩ := inOb_top (Sim.pop T3) e6 h4
      exact ⟨a, xs, w, t, rfl, e2, e5, T4, h5⟩
    · exact h4.elim
  | _ => exact dat h3
instance (priority := 2000) {a b : TE} {fa fb : Dn → (Sv → Dn → Prop) → Prop} [A : DE K Γ a fa] [B : DE K Γ b fb] :
    DE K Γ (tOp (rIxL K) a b) (fun δ Φ => fa δ fun s δ1 => fb δ1 fun t δ2 => asD t δ2 fun y δ3 => onI y fun i => ixS s i δ3 Φ) := ⟨fun {L δ σ S H Φ Q} I h q => by
  refine A.run I h fun s L1 δ1 v H1 T h1 => ?_
  obtain ⟨S', J, hold⟩ := T.hold
  refine DE.data (T := B) J h1 fun y L2 δ2 w H2 J2 h2 => ?_
  obtain ⟨T2, dy⟩ := hold J2
  obtain ⟨i, rfl, rfl, h3⟩ := onI_run dy h2
  obtain ⟨a, xs, u, t, rfl, e1, e2, T4, h5⟩ := ixS_run T2 h3
  exact ⟨a, xs, i, u, rfl, rfl, sqL_of e1, e2, q t L2 δ2 u H2 T4 h5⟩⟩
/-- the length of a list or a tuple -/
def lenS (s : Sv) (δ : Dn) (k : Nat → Prop) : Prop := match s with
  | .ref a => asLst δ.al a fun ss => k ss.length
  | s => seeS s δ fun ds => k ds.length
instance (priority := 2000) {e : TE} {fe : Dn → (Sv → Dn → Prop) → Prop} [E : DE K Γ e fe] : DE K Γ (tCB (rLenS K) (tCons e tNil)) (fun δ Φ => fe δ fun s δ1 => lenS s δ1 fun n => Φ (.dat (.int (n : Int))) δ1) := ⟨fun {L δ σ S H Φ Q} I h q =>
  E.run I h fun s L1 δ1 v H1 T h1 => by
    have fin : seeS s δ1 (fun ds => Φ (.dat (.int (ds.length : Int))) δ1) → rLenS K [v] H1 Q := fun h1 => by
      obtain ⟨a, xs, ds, rfl, t, r, h2⟩ := see_run T h1
      refine ⟨a, xs, rfl, t.imp sqL_of Tp.sq, ?_⟩
      rw [r.len]
      exact q (.dat (.int _)) L1 δ1 _ H1 (T.drop.dat rfl) h2
    cases s with
    | ref a =>
      have ev : v = .ref a := Sim.top T
      subst ev
      obtain ⟨ss, xs, e1, e2, e3, h4⟩ := (Sim.pop T).lst h1
      refine ⟨a, xs, rfl, .inl (sqL_of e2), ?_⟩
      rw [e3.len]
      exact q (.dat (.int _)) L1 δ1 _ H1 ((Sim.pop T).dat rfl) h4
    | _ => exact fin h1⟩
/-- a known list is written -/
theorem Sim.wrL {L : List Addr} {δ : Dn} {σ : L2.St} {S : List (Sv × V)} {H : Hp} {a : Addr} {ss ss' : List Sv} {xs xs' : List V} (I : Sim K Γ L δ σ S H) (e1 : δ.al a = some (.lst ss)) (e2 : H a = some (.lst xs)) (r : SvIs K L H ss' xs') : Sim K Γ L (δ.know (oup δ.al a (.lst ss'))) σ S (upd H a (.lst xs')) := by
  have aL := (I.obj a _ e1).1.1
  have f1 : Fr K [a] H (upd H a (.lst xs')) := .wr e2 trivial (by simp)
  have inL : ∀ b ∈ [a], b ∈ L := fun b hb => by cases List.mem_singleton.mp hb; exact aL
  exact I.wrOb e1 ⟨_, upd_same, r.to fun d v => Dv.mono f1 inL⟩
/-- s.append(x) -/
def appS (s : Sv) (fe : Dn → (Sv → Dn → Prop) → Prop) (δ : Dn) (k : Dn → Prop) : Prop := match s with
  | .ali i => (match δ.at_ i with | some (.own _) => True | _ => False) ∧ fe δ fun t δ2 => asD t δ2 fun y δ3 => match δ3.at_ i with
    | some (.own ds) => ds.length < 1000000 ∧ k (δ3.put i (some (.own (ds ++ [y]))))
    | _ => False
  | .ref a => (asLst δ.al a fun _ => True) ∧ fe δ fun t δ2 => asA t δ2 fun u δ3 => inOb u fun u => asLst δ3.al a fun ss => ss.length < 1000000 ∧ k (δ3.know (oup δ3.al a (.lst (ss ++ [u]))))
  | _ => False
instance (priority := 3000) {eo e : TE} {fo fe : Dn → (Sv → Dn → Prop) → Prop} [O : DE K Γ eo fo] [E : DE K Γ e fe] : DS K Γ (tDrop (tBM K "list" rAppend eo (tCons e tNil))) (fun δ Ψ => fo δ fun s δ1 => appS s fe δ1 Ψ.nx) := ⟨fun {L δ σ S H Ψ D} I h q => by
  refine O.run I h fun s L0 δ0 v0 H0 T0 h0 => ?_
  have hs := sizeLine_eq
  cases s with
  | ali i =>
    obtain ⟨I0, hv0⟩ := T0
    obtain ⟨hk, h⟩ := h0
    split at hk
    · rename_i ds0 e0
      obtain ⟨_, w, e1, a, xs, rfl, _, _, e2, _⟩ := I0.slot i _ (at_some e0)
      rw [hv0] at e1
      cases e1
      refine ⟨.inl ⟨rfl, _, sqL_of e2⟩, DE.data (T := E) I0 h fun y L1 δ1 v H1 J h1 => ?_⟩
      split at h1
      · rename_i ds e3
        have hd := at_some e3
        have J1 := J.pop.lend hd hv0
        obtain ⟨b, ys, eb, b1, b2, b3, b4⟩ := J1.top
        cases eb
        have el := b4.len
        refine ⟨a, ys, v, rfl, rfl, b3, by omega, q.nx (L := L1) ?_ h1.2⟩
        have tp : SlR K Γ L1 σ H1 (.dat y) v := J.top
        have J2 := ((J1.dat (d := y) tp).append b3).back hv0
        rw [put_put] at J2
        exact J2
      · exact h1.elim
    · exact hk.elim
  | ref a =>
    have ev : v0 = .ref a := Sim.top T0
    subst ev
    obtain ⟨hk, h⟩ := h0
    obtain ⟨ss0, xs0, e1, e2, e3, _⟩ := (Sim.pop T0).lst hk
    refine ⟨.inl ⟨rfl, _, sqL_of e2⟩, E.run (Sim.pop T0) h fun t L1 δ1 v H1 T1 h1 => ?_⟩
    obtain ⟨L2, δ2, u, J, nu, h2⟩ := T1.arg h1
    obtain ⟨iu, h3⟩ := inOb_run h2 J.top
    obtain ⟨ss, xs, e4, e5, e6, hl, h4⟩ := J.lst h3
    have el := e6.len
    exact ⟨a, xs, v, rfl, rfl, e5, by omega, q.nx (J.pop.wrL e4 e5 (e6.app (ts := [_]) ⟨v, [], rfl, iu, rfl⟩)) h4⟩
  | _ => exact h0.elim⟩
/-- s.extend(a list of data) -/
instance (priority := 3000) {eo e : TE} {fo fe : Dn → (Sv → Dn → Prop) → Prop} [O : DE K Γ eo fo] [E : DE K Γ e fe] : DS K Γ (tDrop (tBM K "list" rExtend eo (tCons e tNil))) (fun δ Ψ => fo δ fun s δ1 => onR s fun a => (asLst δ1.al a fun _ => True) ∧ fe δ1 fun t δ2 => asD t δ2 fun y δ3 => onL y fun ds => asLst δ3.al a fun ss => ss.length + ds.length ≤ 1000000 ∧ Ψ.nx (δ3.know (oup δ3.al a (.lst (ss ++ ds.map .dat))))) := ⟨fun {L δ σ S H Ψ D} I h q => by
  refine O.run I h fun s L0 δ0 v0 H0 T0 h0 => ?_
  have hs := sizeLine_eq
  obtain ⟨a, rfl, rfl, J0, hk, h1⟩ := T0.ref h0
  obtain ⟨ss0, xs0, e1, e2, e3, _⟩ := J0.lst hk
  refine ⟨.inl ⟨rfl, _, sqL_of e2⟩, DE.data (T := E) J0 h1 fun y L1 δ1 v H1 J h2 => ?_⟩
  cases y with
  | list ds =>
    obtain ⟨b, ys, rfl, nb, t, r⟩ := J.top
    obtain ⟨ss, xs, e4, e5, e6, hl, h4⟩ := J.lst h2
    have el := e6.len
    have el2 := r.len
    have sv : ∀ {ds : List PyData} {xs : List V}, Dvs K L1 H1 ds xs → SvIs K L1 H1 (ds.map .dat) xs := by
      intro ds
      induction ds with
      | nil => exact fun h => h
      | cons d ds ih => exact fun ⟨x, r, e, q1, q2⟩ => ⟨x, r, e, q1, ih q2⟩
    exact ⟨a, b, xs, ys, rfl, rfl, e5, t, by omega, q.nx (J.pop.wrL e4 e5 (e6.app (sv r))) h4⟩
  | _ => exact h2.elim⟩
/-- s.pop() -/
instance {eo : TE} {fo : Dn → (Sv → Dn → Prop) → Prop} [O : DE K Γ eo fo] : DE K Γ (tBM0 K "list" rPop eo) (fun δ Φ => fo δ fun s δ1 => onR s fun a => asLst δ1.al a fun ss => match ss[ss.length - 1]? with
    | some t => inOb t fun t => Φ t (δ1.know (oup δ1.al a (.lst ss.dropLast)))
    | none => False) := ⟨fun {L δ σ S H Φ Q} I h q => by
  refine O.run I h fun s L0 δ0 v0 H0 T0 h0 => ?_
  obtain ⟨a, rfl, rfl, J0, h1⟩ := T0.ref h0
  obtain ⟨ss, xs, e1, e2, e3, h2⟩ := J0.lst h1
  refine ⟨.inl ⟨rfl, _, sqL_of e2⟩, ?_⟩
  split at h2
  · rename_i t et
    obtain ⟨w, e4, e5⟩ := e3.get et
    have el := e3.len
    have aL := (J0.obj a _ e1).1.1
    have f1 : Fr K [a] H0 (upd H0 a (.lst xs.dropLast)) := .wr e2 trivial (by simp)
    have inL : ∀ b ∈ [a], b ∈ L0 := fun b hb => by cases List.mem_singleton.mp hb; exact aL
    have e6 : SvI K L0 (upd H0 a (.lst xs.dropLast)) t w := e5.to fun d v => Dv.mono f1 inL
    obtain ⟨T2, h3⟩ := inOb_top (J0.wrL e1 e2 e3.dropLast) e6 h2
    exact ⟨a, xs, w, rfl, rfl, e2, by rw [el]; exact e4, q t L0 _ w _ T2 h3⟩
  · exact h2.elim⟩
/-- a[i] = x -/
def setS (a : Addr) (i : Int) (x : Sv) (δ : Dn) (k : Dn → Prop) : Prop := asLst δ.al a fun ss => match ixN ss.length i with
  | some j => inOb x fun x => k (δ.know (oup δ.al a (.lst (ss.set j x))))
  | none => False
instance {eo ei : TE} {fo fi : Dn → (Sv → Dn → Prop) → Prop} [O : DE K Γ eo fo] [Ii : DE K Γ ei fi] : DG K Γ (gSub eo ei rSetL) (fun x δ k => fo δ fun s δ1 => onR s fun a => fi δ1 fun t δ2 => asD t δ2 fun y δ3 => onI y fun i => setS a i x δ3 k) [] := ⟨fun {L δ σ S H x v k Z} I h q => by
  refine O.run I h fun s L1 δ1 w H1 T h1 => ?_
  obtain ⟨a, rfl, rfl, J, h2⟩ := T.ref h1
  refine DE.data (T := Ii) J h2 fun y L2 δ2 u H2 J2 h2 => ?_
  obtain ⟨i, rfl, rfl, h3⟩ := onI_run J2.top h2
  obtain ⟨ss, xs, e1, e2, e3, h4⟩ := J2.lst h3
  split at h4
  · rename_i j ej
    obtain ⟨ix, h5⟩ := inOb_run h4 J2.pop.top
    exact ⟨a, xs, i, j, rfl, rfl, e2, by rw [e3.len]; exact ej, q L2 _ σ _ (J2.pop.pop.wrL e1 e2 (e3.set ix)) .refl h5⟩
  · exact h4.elim⟩
def dstS : List Sv → List V → List (Sv × V)
  | s :: ss, v :: vs => (s, v) :: dstS ss vs
  | _, _ => []
def plainSv (s : Sv) : Bool := match s with
  | .dat _ => true
  | .ref _ => true
  | .fn _ => true
  | _ => false
class DGs (K : PySem.W.Frag) (Γ : Gm) (g : TGs) (f : outParam (List Sv → Dn → (Dn → Prop) → Prop)) (ws : outParam (List Nat)) : Prop where
  run : ∀ {ds : List Sv} {vs : List V} {L : List Addr} {δ : Dn} {σ : L2.St} {S : List (Sv × V)} {H : Hp} {k : Dn → Prop} {Z : L2.St → Hp → Prop}, vs.length = ds.length → Sim K Γ L δ σ (dstS ds vs ++ S) H → f ds δ k →
    (∀ L' δ' σ' H', Sim K Γ L' δ' σ' S H' → But ws σ σ' → k δ' → Z σ' H') → g vs σ H Z
def oneS (ds : List Sv) (k : Sv → List Sv → Prop) : Prop := match ds with
  | d :: r => k d r
  | [] => False
instance : DGs K Γ gNil (fun ds δ k => ds = [] ∧ k δ) [] := ⟨fun {ds vs L δ σ S H k Z} e I h q => by
  obtain ⟨rfl, h2⟩ := h
  cases vs with
  | nil => exact ⟨rfl, q L δ σ H I .refl h2⟩
  | cons _ _ => cases e⟩
instance {g : TG} {u : TGs} {f : Sv → Dn → (Dn → Prop) → Prop} {fu : List Sv → Dn → (Dn → Prop) → Prop} {ws us : List Nat} [G : DG K Γ g f ws] [U : DGs K Γ u fu us] : DGs K Γ (gCons g u) (fun ds δ k => oneS ds fun d r => f d δ fun δ1 => fu r δ1 k) (ws ++ us) := ⟨fun {ds vs L δ σ S H k Z} e I h q => by
  cases ds with
  | nil => exact h.elim
  | cons d r =>
    cases vs with
    | nil => cases e
    | cons v vs => exact ⟨v, vs, rfl, G.run I h fun L1 δ1 σ1 H1 J b1 h1 => U.run (by simpa using e) J h1 fun L2 δ2 σ2 H2 J2 b2 h2 => q L2 δ2 σ2 H2 J2 (b1.trans b2) h2⟩⟩
theorem Sim.pushS {L : List Addr} {δ : Dn} {σ : L2.St} {H : Hp} : ∀ {ss : List Sv} {vs : List V} {S : List (Sv × V)}, Sim K Γ L δ σ S H → SvIs K L H ss vs → ss.all plainSv = true → Sim K Γ L δ σ (dstS ss vs ++ S) H
  | [], _, _, I, h, _ => by cases h; exact I
  | s :: ss, _, S, I, ⟨v, r, e, h1, h2⟩, ha => by
    cases e
    have hb := Bool.and_eq_true_iff.mp ha
    have J := Sim.pushS I h2 hb.2
    cases s with
    | dat d => exact J.dat h1
    | ref a => exact J.push (s := .ref a) h1 rfl fun _ z => nomatch z
    | fn a => exact J.push (s := .fn a) h1 rfl fun _ z => nomatch z
    | _ => exact nomatch hb.1
instance {n : Nat} {t : TGs} {f : List Sv → Dn → (Dn → Prop) → Prop} {ws : List Nat} [G : DGs K Γ t f ws] : DG K Γ (gUnl K n t) (fun s δ k => onR s fun a => asLst δ.al a fun ss => (ss.length = n ∧ ss.all plainSv = true) ∧ f ss δ k) ws := ⟨fun {L δ σ S H s v k Z} I h q => by
  obtain ⟨a, rfl, rfl, J, h2⟩ := (I.topOf).ref h
  obtain ⟨ss, xs, e1, e2, e3, ⟨hn, hp⟩, h4⟩ := J.lst h2
  have el := e3.len
  exact ⟨a, xs, rfl, sqL_of e2, by rw [el]; exact hn, G.run el (J.pushS e3 hp) h4 q⟩⟩
/-- the items of a list or a tuple, a known list too -/
def seeR (s : Sv) (δ : Dn) (k : List PyData → Prop) : Prop := match s with
  | .ref a => asLst δ.al a fun ss => match datas ss with
    | some ds => k ds
    | none => False
  | s => seeS s δ k
theorem datas_dvs {L : List Addr} {H : Hp} : ∀ {ss : List Sv} {vs : List V} {ds : List PyData}, SvIs K L H ss vs → datas ss = some ds → Dvs K L H ds vs
  | [], _, _, h, e => by cases e; exact h
  | s :: ss, _, ds, ⟨v, r, e1, h1, h2⟩, e => by
    cases s with
    | dat d =>
      unfold datas at e
      cases e3 : datas ss with
      | none => rw [e3] at e; cases e
      | some es => rw [e3] at e; cases e; exact ⟨v, r, e1, h1, datas_dvs h2 e3⟩
    | _ => cases e
theorem seeR_run {L : List Addr} {δ : Dn} {σ : L2.St} {S : List (Sv × V)} {H : Hp} {s : Sv} {v : V} {k : List PyData → Prop} (T : Top K Γ L δ σ S H s v) (h : seeR s δ k) :
    ∃ a xs ds, v = .ref a ∧ ((H a = some (.lst xs)) ∨ Tp K H a xs) ∧ Dvs K L H ds xs ∧ k ds := by
  cases s with
  | ref a =>
    have ev : v = .ref a := Sim.top T
    subst ev
    obtain ⟨ss, xs, e1, e2, e3, h4⟩ := (Sim.pop T).lst h
    split at h4
    · rename_i ds e
      exact ⟨a, xs, ds, rfl, .inl e2, datas_dvs e3 e, h4⟩
    · exact h4.elim
  | _ => exact see_run T h
instance (priority := 2000) {neg : Bool} {a b : TE} {fa fb : Dn → (Sv → Dn → Prop) → Prop} [A : DE K Γ a fa] [B : DE K Γ b fb] :
    DE K Γ (tOp (rIn K neg) a b) (fun δ Φ => fa δ fun s δ1 => asD s δ1 fun x δ2 => fb δ2 fun t δ3 => seeR t δ3 fun ds => inD x ds fun b => Φ (.dat (.bool (if neg then !b else b))) δ3) := ⟨fun {L δ σ S H Φ Q} I h q => by
  refine DE.data (T := A) I h fun x L1 δ1 v H1 J h1 => B.run J h1 fun t L2 δ2 w H2 T2 h2 => ?_
  obtain ⟨a', xs, ds, rfl, ht, r, h3⟩ := seeR_run T2 h2
  unfold inD at h3
  split at h3
  · rename_i v0 vs0 e1 e2
    obtain ⟨rfl, f⟩ := vD_run T2.drop.top e1
    obtain ⟨rfl, g⟩ := vDs_run r e2
    exact ⟨a', _, rfl, ht.imp sqL_of Tp.sq, f, g, q (.dat (.bool _)) L2 δ2 (.bl _) H2 (T2.drop.pop.dat rfl) h3⟩
  · exact h3.elim⟩
def rEq0 (K : PySem.W.Frag) (neg : Bool) : R2 := fun x y H Q => ∃ a b xs ys, x = .ref a ∧ y = .ref b ∧ H a = some (.lst xs) ∧ H b = some (.lst ys) ∧ (xs = [] ∨ ys = []) ∧ Q (.bl (if neg then !decide (xs.length = ys.length) else decide (xs.length = ys.length))) H
def emptyOn (s : Sv) (δ : Dn) (k : Bool → Prop) : Prop := match s with
  | .ref a => asLst δ.al a fun ss => k ss.isEmpty
  | s => seeL s δ fun ds => k ds.isEmpty
/-- s == [], s != [] -/
instance (priority := 2000) {neg : Bool} {a b : TE} {fa fb : Dn → (Sv → Dn → Prop) → Prop} [A : DE K Γ a fa] [B : DE K Γ b fb] :
    DE K Γ (tOp (rEq0 K neg) a b) (fun δ Φ => fa δ fun s δ1 => fb δ1 fun t δ2 => (match t with | .own [] => True | _ => False) ∧ emptyOn s δ2 fun e => Φ (.dat (.bool (if neg then !e else e))) δ2) := ⟨fun {L δ σ S H Φ Q} I h q => by
  refine A.run I h fun s L1 δ1 v H1 T h1 => ?_
  obtain ⟨S', J, hold⟩ := T.hold
  refine B.run J h1 fun t L2 δ2 w H2 T2 h2 => ?_
  obtain ⟨ht, h3⟩ := h2
  split at ht
  · obtain ⟨b, ys, rfl, _, _, eb, rb⟩ := Sim.top T2
    have ry : ys = [] := rb
    subst ry
    obtain ⟨T3, _⟩ := hold T2
    have fin : seeL s δ2 (fun ds => Φ (.dat (.bool (if neg then !ds.isEmpty else ds.isEmpty))) δ2) → rEq0 K neg v (.ref b) H2 Q := fun h4 => by
      obtain ⟨a, xs, ds, rfl, t, r, h5⟩ := seeL_run T3 h4
      refine ⟨a, b, xs, [], rfl, rfl, t, eb, .inr rfl, ?_⟩
      have e : decide (xs.length = ([] : List V).length) = ds.isEmpty := by
        rw [r.len]
        cases ds <;> simp
      rw [e]
      exact q (.dat (.bool _)) L2 δ2 (.bl _) H2 (T3.drop.dat rfl) h5
    cases s with
    | ref a =>
      have ev : v = .ref a := Sim.top T3
      subst ev
      obtain ⟨ss, xs, e1, e2, e3, h4⟩ := (Sim.pop T3).lst h3
      refine ⟨a, b, xs, [], rfl, rfl, e2, eb, .inr rfl, ?_⟩
      have e : decide (xs.length = ([] : List V).length) = ss.isEmpty := by
        rw [e3.len]
        cases ss <;> simp
      rw [e]
      exact q (.dat (.bool _)) L2 δ2 (.bl _) H2 ((Sim.pop T3).dat rfl) h4
    | _ => exact fin h3
  · exact ht.elim⟩
def rEqT0 (K : PySem.W.Frag) (neg : Bool) : R2 := fun x y H Q => ∃ a b xs ys, x = .ref a ∧ y = .ref b ∧ SqT K H a xs ∧ SqT K H b ys ∧ (xs = [] ∨ ys = []) ∧ Q (.bl (if neg then !decide (xs.length = ys.length) else decide (xs.length = ys.length))) H
instance {neg : Bool} : DR K Γ (rEqT0 K neg) (fun x y Φ => onT x fun ds => onT y fun es => es = [] ∧ Φ (.bool (if neg then !ds.isEmpty else ds.isEmpty))) := ⟨fun {L H x y v u Φ Q} dx dy h q => by
  cases x with
  | tuple ds =>
    cases y with
    | tuple es =>
      obtain ⟨h1, h2⟩ : es = [] ∧ Φ (.bool (if neg then !ds.isEmpty else ds.isEmpty)) := h
      subst h1
      obtain ⟨a, xs, rfl, t, r⟩ := dx
      obtain ⟨b, ys, rfl, t', r'⟩ := dy
      cases r'
      refine ⟨a, b, xs, [], rfl, rfl, t.sq, t'.sq, .inr rfl, ?_⟩
      have e : decide (xs.length = ([] : List V).length) = ds.isEmpty := by
        rw [r.len]
        cases ds <;> simp
      rw [e]
      exact q (.bool _) (.bl _) H (.refl _ _) rfl h2
    | _ => exact h.elim
  | _ => exact h.elim⟩
def noneOn (s : Sv) (k : Bool → Prop) : Prop := match s with
  | .ref _ => k false
  | .dat .none => k true
  | .dat _ => k false
  | _ => False
instance (priority := 2000) {a b : TE} {fa fb : Dn → (Sv → Dn → Prop) → Prop} [A : DE K Γ a fa] [B : DE K Γ b fb] :
    DE K Γ (tOp rIsN a b) (fun δ Φ => fa δ fun s δ1 => fb δ1 fun t δ2 => (match t with | .dat .none => True | _ => False) ∧ noneOn s fun b => Φ (.dat (.bool b)) δ2) := ⟨fun {L δ σ S H Φ Q} I h q => by
  refine A.run I h fun s L1 δ1 v H1 T h1 => ?_
  obtain ⟨S', J, hold⟩ := T.hold
  refine B.run J h1 fun t L2 δ2 w H2 T2 h2 => ?_
  obtain ⟨ht, h3⟩ := h2
  split at ht
  · have ew : w = .non := Sim.top T2
    subst ew
    obtain ⟨T3, _⟩ := hold T2
    refine ⟨rfl, ?_⟩
    cases s with
    | ref a =>
      have ev : v = .ref a := Sim.top T3
      subst ev
      exact q (.dat (.bool false)) L2 δ2 (.bl false) H2 ((Sim.pop T3).dat rfl) h3
    | dat d =>
      have dv : Dv K L2 H2 d v := Sim.top T3
      have no : (∀ z, d ≠ z → z = PyData.none → decide (v = V.non) = false) := fun z hz hn => by
        subst hn
        refine decide_eq_false fun e => ?_
        subst e
        cases d with
        | none => exact hz rfl
        | tuple ds => obtain ⟨a, xs, e, _⟩ := dv; cases e
        | list ds => obtain ⟨a, xs, e, _⟩ := dv; cases e
        | dict ds => obtain ⟨_, a, e, _⟩ := dv; cases e
        | _ => cases dv
      cases d with
      | none =>
        have ev : v = .non := dv
        subst ev
        exact q (.dat (.bool true)) L2 δ2 (.bl true) H2 ((Sim.pop T3).dat rfl) h3
      | _ =>
        rw [no .none (fun z => nomatch z) rfl]
        exact q (.dat (.bool false)) L2 δ2 (.bl false) H2 ((Sim.pop T3).dat rfl) h3
    | _ => exact h3.elim
  · exact ht.elim⟩
/-- x if t else y -/
instance {c : TT} {a b : TE} {fc : Dn → (Bool → Dn → Prop) → Prop} {fa fb : Dn → (Sv → Dn → Prop) → Prop} [C : DT K Γ c fc] [A : DE K Γ a fa] [B : DE K Γ b fb] : DE K Γ (tIf c a b) (fun δ Φ => fc δ fun d δ1 => condH d (fa δ1 Φ) (fb δ1 Φ) .mk .mk) := ⟨fun {L δ σ S H Φ Q} I h q =>
  C.run I h fun d L1 δ1 H1 J h1 => by
    cases d with
    | true => exact iteT (A.run J h1 q)
    | false => exact iteF (B.run J h1 q)⟩
/-- int(an int or a bool) -/
def rInt1 : List V → Hp → VK → Prop := fun xs H Q => (∃ i, xs = [.int i] ∧ Q (.int i) H) ∨ ∃ k, xs = [.bl k] ∧ Q (.int (if k then 1 else 0)) H
def intOn (d : PyData) (k : Int → Prop) : Prop := match d with
  | .int i => k i
  | .bool b => k (bif b then 1 else 0)
  | _ => False
instance {e : TE} {fe : Dn → (Sv → Dn → Prop) → Prop} [E : DE K Γ e fe] : DE K Γ (tCB rInt1 (tCons e tNil)) (fun δ Φ => fe δ fun s δ1 => asD s δ1 fun d δ2 => intOn d fun i => Φ (.dat (.int i)) δ2) := ⟨fun {L δ σ S H Φ Q} I h q =>
  DE.data (T := E) I h fun d L1 δ1 v H1 J h1 => by
    cases d with
    | int i =>
      cases (show v = .int i from J.top)
      exact .inl ⟨i, rfl, q (.dat (.int i)) L1 δ1 _ H1 (J.pop.dat rfl) h1⟩
    | bool b =>
      cases (show v = .bl b from J.top)
      refine .inr ⟨b, rfl, ?_⟩
      have h1 : Φ (.dat (.int (bif b then 1 else 0))) δ1 := h1
      cases b <;> exact q (.dat (.int _)) L1 δ1 _ H1 (J.pop.dat rfl) h1
    | _ => exact h1.elim⟩
instance {eo ei ev : TE} {f : Int → Int → Int} {fo fi fv : Dn → (Sv → Dn → Prop) → Prop} [O : DE K Γ eo fo] [Ii : DE K Γ ei fi] [E : DE K Γ ev fv] : DS K Γ (tAugS eo ei ev (rIxL K) (ipI f) rSetL) (fun δ Ψ => fo δ fun s δ1 => onR s fun a => fi δ1 fun t δ2 => asD t δ2 fun y δ3 => onI y fun i => asLst δ3.al a fun ss => atS ss i fun t => onD t fun x => onI x fun n => fv δ3 fun u δ4 => asD u δ4 fun z δ5 => onI z fun m => setS a i (.dat (.int (f n m))) δ5 Ψ.nx) := ⟨fun {L δ σ S H Ψ D} I h q => by
  refine O.run I h fun s L1 δ1 w H1 T h1 => ?_
  obtain ⟨a, rfl, rfl, J, h2⟩ := T.ref h1
  refine DE.data (T := Ii) J h2 fun y L2 δ2 u H2 J2 h3 => ?_
  obtain ⟨i, rfl, rfl, h4⟩ := onI_run J2.top h3
  obtain ⟨ss, xs, e1, e2, e3, h5⟩ := J2.lst h4
  unfold atS at h5
  split at h5
  · rename_i t et
    have ew : ∃ w, atI xs i = some w ∧ SvI K L2 H2 t w := by
      unfold atI at et ⊢
      rw [e3.len]
      cases e4 : ixN ss.length i with
      | none => rw [e4] at et; cases et
      | some j =>
        rw [e4] at et
        exact e3.get (show ss[j]? = some t from et)
    obtain ⟨w, e5, e6⟩ := ew
    cases t with
    | dat x =>
      obtain ⟨n, rfl, rfl, h6⟩ := onI_run (v := w) (K := K) (L := L2) (H := H2) e6 h5
      refine ⟨a, xs, i, _, rfl, rfl, sqL_of e2, e5, DE.data (T := E) J2.pop h6 fun z L3 δ3 v H3 J3 h7 => ?_⟩
      obtain ⟨m, rfl, rfl, h8⟩ := onI_run J3.top h7
      refine ⟨n, m, rfl, rfl, ?_⟩
      obtain ⟨ss3, xs3, e7, e8, e9, h9⟩ := J3.lst h8
      split at h9
      · rename_i j ej
        exact ⟨a, xs3, i, j, rfl, rfl, e8, by rw [e9.len]; exact ej, q.nx (J3.pop.wrL e7 e8 (e9.set (s := .dat (.int (f n m))) rfl)) h9⟩
      · exact h9.elim
    | _ => exact h5.elim
  · exact h5.elim⟩
end
end B
namespace B
open PySem PySem.Spec PyProof.Rows L2
section
variable {X : Cx}
/-- dict(a tuple of pairs) -/
def rDictT (K : PySem.W.Frag) : List V → Hp → VK → Prop := fun xs H Q => ∃ (a : Addr) (ps : List Addr) (kvs : List (Key × V)), xs = [.ref a] ∧ Tp K H a (ps.map V.ref) ∧ Paired (fun p kv => SqT K H p [kV kv.1, kv.2]) ps kvs ∧
    ∀ p, H p = none → Q (.ref p) (upd H p (.dK (mergeK [] kvs)))
end
/-- pairs with keys -/
def pairsD : List PyData → Option (List (Key × PyData))
  | [] => some []
  | .tuple [k, d] :: ds => match keyD k, pairsD ds with
    | some k, some r => some ((k, d) :: r)
    | _, _ => none
  | _ :: _ => none
def mergeE {α : Type} (es more : List (Key × α)) : List (Key × α) := more.foldl (fun acc e => putE acc e.1 e.2) es
section
variable {K : PySem.W.Frag} {L : List Addr} {H : Hp}
theorem pairsD_run : ∀ {ds : List PyData} {vs : List V} {es : List (Key × PyData)}, Dvs K L H ds vs → pairsD ds = some es → ∃ (ps : List Addr) (kvs : List (Key × V)), vs = ps.map V.ref ∧ Paired (fun p kv => SqT K H p [kV kv.1, kv.2]) ps kvs ∧ DvK K L H es kvs
  | [], _, es, h, e => by cases e; exact ⟨[], [], h, .nil, rfl⟩
  | d :: ds, _, es, ⟨v, r, e1, h1, h2⟩, e => by
    unfold pairsD at e
    split at e
    · rename_i z
      cases z
    · rename_i k x ds' z
      cases z
      split at e
      · rename_i k' r' a b
        cases e
        obtain ⟨ps, kvs, rfl, p1, p2⟩ := pairsD_run h2 b
        obtain ⟨p, xs, rfl, t, x1, r1, rfl, dk, x2, r2, rfl, dx, rfl⟩ := h1
        have ek := keyD_run dk a
        subst ek
        exact ⟨p :: ps, (k', x2) :: kvs, e1, .cons t.sq p1, x2, kvs, rfl, dx, p2⟩
      · cases e
    · cases e
theorem DvK.merge : ∀ {more : List (Key × PyData)} {kvs : List (Key × V)} {es : List (Key × PyData)} {acc : List (Key × V)}, DvK K L H more kvs → DvK K L H es acc → DvK K L H (mergeE es more) (mergeK acc kvs)
  | [], _, _, _, h, g => by cases h; exact g
  | (k, d) :: more, _, es, acc, ⟨v, r, e, h1, h2⟩, g => by
    cases e
    exact DvK.merge (es := putE es k d) (acc := putK acc k v) h2 (g.put h1)
end
section
variable {K : PySem.W.Frag} {Γ : Gm}
def pairsOf (ds : List PyData) (k : List (Key × PyData) → Prop) : Prop := match pairsD ds with
  | some es => k es
  | none => False
instance {e : TE} {fe : Dn → (Sv → Dn → Prop) → Prop} [E : DE K Γ e fe] : DE K Γ (tCB (rDictT K) (tCons e tNil)) (fun δ Φ => fe δ fun s δ1 => asD s δ1 fun x δ2 => onT x fun ds => pairsOf ds fun es => ∀ p, δ2.al p = none → Φ (.ref p) (δ2.know (oup δ2.al p (.dK (mergeE [] es))))) := ⟨fun {L δ σ S H Φ Q} I h q =>
  DE.data (T := E) I h fun x L1 δ1 v H1 J h1 => by
    cases x with
    | tuple ds =>
      have h2 : pairsOf ds fun es => ∀ p, δ1.al p = none → Φ (.ref p) (δ1.know (oup δ1.al p (.dK (mergeE [] es)))) := h1
      unfold pairsOf at h2
      split at h2
      · rename_i es e
        obtain ⟨a, xs, rfl, t, r⟩ := J.top
        obtain ⟨ps, kvs, rfl, p1, p2⟩ := pairsD_run r e
        refine ⟨a, ps, kvs, rfl, t, p1, fun p np => ?_⟩
        have dv : DvK K (p :: L1) (upd H1 p (.dK (mergeK [] kvs))) (mergeE [] es) (mergeK [] kvs) := (p2.merge (es := []) (acc := []) rfl).to fun d v z => Dv.mono (P := []) (.new np) (fun _ z => nomatch z) (Dv.sub (fun b hb => (List.mem_cons.mp hb).elim (fun e => .inr (e ▸ np)) .inl) z)
        have J2 := J.pop.newOb (u := .dK (mergeK [] kvs)) (o := .dK (mergeE [] es)) np ⟨_, upd_same, dv⟩
        exact q (.ref p) _ _ _ _ (J2.push (s := .ref p) rfl rfl fun _ z => nomatch z) (h2 p (J.fresh np).1)
      · exact h2.elim
    | _ => exact h1.elim⟩
def dcD (fg : Sv → Dn → (Dn → Prop) → Prop) (ft : Dn → (Bool → Dn → Prop) → Prop) (fk fv : Dn → (Sv → Dn → Prop) → Prop) (vs : List Nat) (p : Addr) (Φ : Dn → Prop) : List PyData → Dn → Prop
  | [], δ => Φ (wipeD δ vs)
  | d :: ds, δ => fg (.dat d) (wipeD δ vs) fun δ1 => ft δ1 fun b δ2 => bif b then fk δ2 fun s δ3 => asD s δ3 fun y δ4 => fv δ4 fun t δ5 => asD t δ5 fun z δ6 => asDK δ6.al p fun es => someK y fun k => es.length < 1000000 ∧ dcD fg ft fk fv vs p Φ ds (δ6.know (oup δ6.al p (.dK (putE es k z)))) else dcD fg ft fk fv vs p Φ ds δ2
where someK (y : PyData) (k : Key → Prop) : Prop := match keyD y with
  | some κ => k κ
  | none => False
instance {wk : Bool} {wi : TI} {g : TG} {tt : TT} {tk tv : TE} {vs : List Nat} {fi : Dn → (List PyData → Dn → Prop) → Prop} {fg : Sv → Dn → (Dn → Prop) → Prop} {ws : List Nat} {ft : Dn → (Bool → Dn → Prop) → Prop} {fk fv : Dn → (Sv → Dn → Prop) → Prop}
    [Ii : DI K Γ wi wk fi] [G : DGi K Γ wk g fg ws] [Tt : DT K Γ tt ft] [Ek : DE K Γ tk fk] [Ev : DE K Γ tv fv] :
    DE K Γ (tDc wi g tt tk tv vs) (fun δ Φ => (ws.all fun i => vs.contains i) = true ∧ fi δ fun ds δ1 => ∀ p, δ1.al p = none → dcD fg ft fk fv vs p (fun δ2 => Φ (.ref p) δ2) ds (δ1.know (oup δ1.al p (.dK [])))) := ⟨fun {L δ σ S H Φ Q} I h q => by
  obtain ⟨hw, h⟩ := h
  have hws : ∀ i ∈ ws, i ∈ vs := fun i hi => by
    have := List.all_eq_true.mp hw i hi
    simpa using this
  refine Ii.run I h fun ds L1 δ1 J hz H1 I1 hno It h1 D nD => ?_
  have I2 := I1.newOb (u := .dK []) (o := .dK []) nD ⟨[], upd_same, rfl⟩
  refine ⟨fun i m H2 => m = ds.length - i ∧ i ≤ ds.length ∧ ∃ M2 δ2, Sim K Γ M2 (wipeD δ2 vs) (L2.wipe σ vs) (hz ++ S) H2 ∧ dcD fg ft fk fv vs D (fun δ2 => Φ (.ref D) δ2) (ds.drop i) δ2,
    ⟨ds.length, by simp, Nat.zero_le _, _, _, I2.wipe vs, h1 D (I1.fresh nD).1⟩, ?_⟩
  rintro i m H2 ⟨rfl, hi, M2, δ2, J2, h2⟩
  have hm : ∀ h ∈ hz, h ∈ hz ++ S := fun h hh => List.mem_append_left _ hh
  by_cases hlt : i < ds.length
  · refine .inr ⟨It.go J2 hm hlt, fun H' => i + 1 ≤ ds.length ∧ ∃ M2 δ2, Sim K Γ M2 (wipeD δ2 vs) (L2.wipe σ vs) (hz ++ S) H' ∧ dcD fg ft fk fv vs D (fun δ2 => Φ (.ref D) δ2) (ds.drop (i + 1)) δ2,
      fun H' q' => ⟨ds.length - (i + 1), by omega, rfl, q'⟩, fun x H3 y => ?_⟩
    have ed : ds.drop i = ds[i] :: ds.drop (i + 1) := List.drop_eq_getElem_cons hlt
    rw [ed] at h2
    obtain ⟨f3, dx⟩ := It.yld J2 hm (List.getElem?_eq_getElem hlt) y
    refine G.run (J2.more f3) dx h2 fun L4 δ4 σ4 H4 J4 b4 h4 => ?_
    have e4 : L2.wipe σ4 vs = L2.wipe σ vs := by
      rw [b4.wipe hws]
      exact (But.wipe (ws := vs) ⟨L2.wipe_length _ _, fun j hj => wipe_get vs j hj⟩ fun _ z => z)
    refine ⟨e4, ?_⟩
    refine Tt.run J4 h4 fun b L5 δ5 H5 J5 h5 => ?_
    cases b with
    | true =>
      refine iteT (DE.data (T := Ek) J5 h5 fun y L6 δ6 w H6 J6 h6 => DE.data (T := Ev) J6 h6 fun z L7 δ7 u H7 J7 h7 => ?_)
      unfold asDK at h7
      split at h7
      · rename_i es e7
        unfold dcD.someK at h7
        split at h7
        · rename_i k ek
          obtain ⟨⟨aL, _⟩, kvs, e8, e9⟩ := J7.obj D _ e7
          have el := e9.len
          have hs := sizeLine_eq
          have f1 : Fr K [D] H7 (upd H7 D (.dK (putK kvs k u))) := .wr e8 trivial (by simp)
          have inL : ∀ b ∈ [D], b ∈ L7 := fun b hb => by cases List.mem_singleton.mp hb; exact aL
          have J8 := J7.pop.pop.wrOb (u := .dK (putK kvs k u)) (o' := .dK (putE es k z)) e7 ⟨_, upd_same, (e9.put J7.top).to fun d v => Dv.mono f1 inL⟩
          exact ⟨kvs, k, keyD_run J7.pop.top ek, e8, by omega, by omega, L7, _, J8.wiped e4, h7.2⟩
        · exact h7.elim
      · exact h7.elim
    | false => exact iteF ⟨by omega, L5, δ5, J5.wiped e4, h5⟩
  · have e : i = ds.length := by omega
    subst e
    rw [List.drop_length] at h2
    have J3 := J2.unwipe.thin (List.sublist_append_right hz S)
    exact .inl ⟨It.stop J2 hm, q (.ref D) M2 _ _ H2 (J3.push (s := .ref D) rfl rfl fun _ z => nomatch z) h2⟩⟩
end
end B
namespace B
open PySem PySem.Spec PyProof.Rows L2
def zipD (ds es : List PyData) : List PyData := (ds.zip es).map fun p => .tuple [p.1, p.2]
def enumD (ds : List PyData) : List PyData := zipD (rngD 0 ds.length) ds
theorem zipD_at {ds es : List PyData} {i : Nat} {d : PyData} (h : (zipD ds es)[i]? = some d) : ∃ x y, ds[i]? = some x ∧ es[i]? = some y ∧ d = .tuple [x, y] := by
  unfold zipD at h
  rw [List.getElem?_map] at h
  cases e : (ds.zip es)[i]? with
  | none => rw [e] at h; cases h
  | some p =>
    rw [e] at h
    have e2 := List.getElem?_zip_eq_some.mp e
    exact ⟨p.1, p.2, e2.1, e2.2, (Option.some.inj h).symm⟩
theorem zipD_len (ds es : List PyData) : (zipD ds es).length = min ds.length es.length := by simp [zipD]
theorem enumD_len (ds : List PyData) : (enumD ds).length = ds.length := by simp [enumD, zipD_len, rngD]
def zipOn (x y : PyData) (k : List PyData → Prop) : Prop := match x, y with
  | .tuple ds, .tuple es => k (zipD ds es)
  | .list ds, .list es => k (zipD ds es)
  | _, _ => False
section
variable {K : PySem.W.Frag} {Γ : Gm}
theorem pair_new {L : List Addr} {H : Hp} {T : Addr} {x y : V} {d e : PyData} (n : H T = none) (h1 : Dv K L H d x) (h2 : Dv K L H e y) : Fr K [] H (upd H T (.tup [x, y])) ∧ ItR K L (upd H T (.tup [x, y])) true (.tuple [d, e]) (.ref T) :=
  ⟨.new n, T, x, y, d, e, rfl, rfl, upd_same, h1.mono (P := []) (.new n) (fun _ z => nomatch z), h2.mono (P := []) (.new n) (fun _ z => nomatch z)⟩
theorem dit_zipT {a b : Addr} {ds es : List PyData} : DIt K Γ true (RZ.ItzT K a b) [(.dat (.tuple ds), .ref a), (.dat (.tuple es), .ref b)] (zipD ds es) where
  go := fun {i L δ σ S H} I h hi => by
    obtain ⟨_, xs, e, t, r⟩ := I.stk _ (h _ (List.mem_cons_self ..))
    obtain ⟨_, ys, e', t', r'⟩ := I.stk _ (h _ (List.mem_cons_of_mem _ (List.mem_cons_self ..)))
    cases e
    cases e'
    rw [zipD_len] at hi
    exact ⟨xs, ys, xs[i]'(by rw [r.len]; omega), ys[i]'(by rw [r'.len]; omega), t.sq, t'.sq, List.getElem?_eq_getElem _, List.getElem?_eq_getElem _⟩
  stop := fun I h => by
    obtain ⟨_, xs, e, t, r⟩ := I.stk _ (h _ (List.mem_cons_self ..))
    obtain ⟨_, ys, e', t', r'⟩ := I.stk _ (h _ (List.mem_cons_of_mem _ (List.mem_cons_self ..)))
    cases e
    cases e'
    refine ⟨xs, ys, t.sq, t'.sq, ?_⟩
    rw [zipD_len, r.len, r'.len]
    omega
  yld := fun I h hd y => by
    obtain ⟨_, xs, e, t, r⟩ := I.stk _ (h _ (List.mem_cons_self ..))
    obtain ⟨_, ys, e', t', r'⟩ := I.stk _ (h _ (List.mem_cons_of_mem _ (List.mem_cons_self ..)))
    cases e
    cases e'
    obtain ⟨x, y2, h1, h2, rfl⟩ := zipD_at hd
    obtain ⟨T, v, w, rfl, nT, rfl, hx, hy⟩ := y
    obtain ⟨v', e1, d1⟩ := r.get h1
    obtain ⟨w', e2, d2⟩ := r'.get h2
    have e3 := hx xs t.sq
    have e4 := hy ys t'.sq
    rw [e1] at e3
    rw [e2] at e4
    cases e3
    cases e4
    exact pair_new nT d1 d2
theorem dit_zipL {a b : Addr} {ds es : List PyData} : DIt K Γ true (Itz K a b) [(.dat (.list ds), .ref a), (.dat (.list es), .ref b)] (zipD ds es) where
  go := fun {i L δ σ S H} I h hi => by
    obtain ⟨_, xs, e, _, t, r⟩ := I.stk _ (h _ (List.mem_cons_self ..))
    obtain ⟨_, ys, e', _, t', r'⟩ := I.stk _ (h _ (List.mem_cons_of_mem _ (List.mem_cons_self ..)))
    cases e
    cases e'
    rw [zipD_len] at hi
    exact ⟨xs, ys, xs[i]'(by rw [r.len]; omega), ys[i]'(by rw [r'.len]; omega), sqL_of t, sqL_of t', List.getElem?_eq_getElem _, List.getElem?_eq_getElem _⟩
  stop := fun I h => by
    obtain ⟨_, xs, e, _, t, r⟩ := I.stk _ (h _ (List.mem_cons_self ..))
    obtain ⟨_, ys, e', _, t', r'⟩ := I.stk _ (h _ (List.mem_cons_of_mem _ (List.mem_cons_self ..)))
    cases e
    cases e'
    refine ⟨xs, ys, sqL_of t, sqL_of t', ?_⟩
    rw [zipD_len, r.len, r'.len]
    omega
  yld := fun I h hd y => by
    obtain ⟨_, xs, e, _, t, r⟩ := I.stk _ (h _ (List.mem_cons_self ..))
    obtain ⟨_, ys, e', _, t', r'⟩ := I.stk _ (h _ (List.mem_cons_of_mem _ (List.mem_cons_self ..)))
    cases e
    cases e'
    obtain ⟨x, y2, h1, h2, rfl⟩ := zipD_at hd
    obtain ⟨T, v, w, rfl, nT, rfl, hx, hy⟩ := y
    obtain ⟨v', e1, d1⟩ := r.get h1
    obtain ⟨w', e2, d2⟩ := r'.get h2
    have e3 := hx xs (sqL_of t)
    have e4 := hy ys (sqL_of t')
    rw [e1] at e3
    rw [e2] at e4
    cases e3
    cases e4
    exact pair_new nT d1 d2
theorem enumD_at {ds : List PyData} {i : Nat} {d : PyData} (h : (enumD ds)[i]? = some d) : ∃ y, ds[i]? = some y ∧ d = .tuple [.int (i : Int), y] := by
  obtain ⟨x, y, h1, h2, e⟩ := zipD_at h
  refine ⟨y, h2, ?_⟩
  rw [e]
  have hi := (List.getElem?_eq_some_iff.mp h2).1
  unfold rngD at h1
  rw [List.getElem?_map, List.getElem?_range hi] at h1
  have : x = .int (0 + (i : Int)) := (Option.some.inj h1).symm
  rw [this, Int.zero_add]
theorem dit_enT {a : Addr} {ds : List PyData} : DIt K Γ true (IteT K a) [(.dat (.tuple ds), .ref a)] (enumD ds) where
  go := fun {i L δ σ S H} I h hi => by
    obtain ⟨_, xs, e, t, r⟩ := I.stk _ (h _ (List.mem_cons_self ..))
    cases e
    rw [enumD_len] at hi
    exact ⟨xs, xs[i]'(by rw [r.len]; omega), t.sq, List.getElem?_eq_getElem _⟩
  stop := fun I h => by
    obtain ⟨_, xs, e, t, r⟩ := I.stk _ (h _ (List.mem_cons_self ..))
    cases e
    refine ⟨xs, t.sq, ?_⟩
    rw [enumD_len, r.len]
    omega
  yld := fun I h hd y => by
    obtain ⟨_, xs, e, t, r⟩ := I.stk _ (h _ (List.mem_cons_self ..))
    cases e
    obtain ⟨y2, h2, rfl⟩ := enumD_at hd
    obtain ⟨T, w, rfl, nT, rfl, hy⟩ := y
    obtain ⟨w', e2, d2⟩ := r.get h2
    have e4 := hy xs t.sq
    rw [e2] at e4
    cases e4
    exact pair_new (d := .int _) nT rfl d2
theorem dit_enL {a : Addr} {ds : List PyData} : DIt K Γ true (Ite K a) [(.dat (.list ds), .ref a)] (enumD ds) where
  go := fun {i L δ σ S H} I h hi => by
    obtain ⟨_, xs, e, _, t, r⟩ := I.stk _ (h _ (List.mem_cons_self ..))
    cases e
    rw [enumD_len] at hi
    exact ⟨xs, xs[i]'(by rw [r.len]; omega), sqL_of t, List.getElem?_eq_getElem _⟩
  stop := fun I h => by
    obtain ⟨_, xs, e, _, t, r⟩ := I.stk _ (h _ (List.mem_cons_self ..))
    cases e
    refine ⟨xs, sqL_of t, ?_⟩
    rw [enumD_len, r.len]
    omega
  yld := fun I h hd y => by
    obtain ⟨_, xs, e, _, t, r⟩ := I.stk _ (h _ (List.mem_cons_self ..))
    cases e
    obtain ⟨y2, h2, rfl⟩ := enumD_at hd
    obtain ⟨T, w, rfl, nT, rfl, hy⟩ := y
    obtain ⟨w', e2, d2⟩ := r.get h2
    have e4 := hy xs (sqL_of t)
    rw [e2] at e4
    cases e4
    exact pair_new (d := .int _) nT rfl d2
instance {a b : TE} {fa fb : Dn → (Sv → Dn → Prop) → Prop} [A : DE K Γ a fa] [B : DE K Γ b fb] : DI K Γ (RZ.iZipA K (tCons a (tCons b tNil))) true (fun δ Φ => fa δ fun s δ1 => asD s δ1 fun x δ2 => fb δ2 fun t δ3 => asD t δ3 fun y δ4 => zipOn x y fun ds => Φ ds δ4) := ⟨fun {L δ σ S H Φ R} I h q => by
  refine DE.data (T := A) I h fun x L1 δ1 v H1 J h1 => DE.data (T := B) J h1 fun y L2' δ2 w H2 J2 h2 => ?_
  have sw : ∀ {p r : Sv × V}, Sim K Γ L2' δ2 σ (p :: r :: S) H2 → isOwn p.1 = false → isOwn r.1 = false → Sim K Γ L2' δ2 σ ([r, p] ++ S) H2 := fun {p r} J n1 n2 => by
    obtain ⟨ps, pv⟩ := p
    obtain ⟨rs, rv⟩ := r
    have hp := J.stk (ps, pv) (List.mem_cons_self ..)
    have hr := J.stk (rs, rv) (List.mem_cons_of_mem _ (List.mem_cons_self ..))
    have np := J.nal (ps, pv) (List.mem_cons_self ..)
    have nr := J.nal (rs, rv) (List.mem_cons_of_mem _ (List.mem_cons_self ..))
    exact (J.pop.pop.push hp n1 np).push hr n2 nr
  have nn : ∀ {p r : Sv × V}, isOwn p.1 = false → isOwn r.1 = false → ∀ h ∈ [r, p], isOwn h.1 = false := fun n1 n2 h hh => by
    rcases List.mem_cons.mp hh with z | z
    · rw [z]; exact n2
    · rw [List.mem_singleton.mp z]; exact n1
  cases x with
  | tuple ds =>
    cases y with
    | tuple es =>
      have h2 : Φ (zipD ds es) δ2 := h2
      obtain ⟨a', xs, rfl, t, r⟩ := J2.pop.top
      obtain ⟨b', ys, rfl, t', r'⟩ := J2.top
      exact ⟨a', b', xs, ys, rfl, .inr ⟨t.sq, t'.sq, q _ L2' δ2 _ [_, _] H2 (sw J2 rfl rfl) (nn (p := (.dat (.tuple es), .ref b')) (r := (.dat (.tuple ds), .ref a')) rfl rfl) dit_zipT h2⟩⟩
    | _ => exact h2.elim
  | list ds =>
    cases y with
    | list es =>
      have h2 : Φ (zipD ds es) δ2 := h2
      obtain ⟨a', xs, rfl, _, t, r⟩ := J2.pop.top
      obtain ⟨b', ys, rfl, _, t', r'⟩ := J2.top
      exact ⟨a', b', xs, ys, rfl, .inl ⟨sqL_of t, sqL_of t', q _ L2' δ2 _ [_, _] H2 (sw J2 rfl rfl) (nn (p := (.dat (.list es), .ref b')) (r := (.dat (.list ds), .ref a')) rfl rfl) dit_zipL h2⟩⟩
    | _ => exact h2.elim
  | _ => exact h2.elim⟩
instance {a : TE} {fa : Dn → (Sv → Dn → Prop) → Prop} [A : DE K Γ a fa] : DI K Γ (iEnumT K (tCons a tNil)) true (fun δ Φ => fa δ fun s δ1 => asD s δ1 fun x δ2 => onT x fun ds => Φ (enumD ds) δ2) := ⟨fun {L δ σ S H Φ R} I h q => by
  refine DE.data (T := A) I h fun x L1 δ1 v H1 J h1 => ?_
  cases x with
  | tuple ds =>
    obtain ⟨a', xs, rfl, t, r⟩ := J.top
    exact ⟨a', xs, rfl, t.sq, q _ L1 δ1 _ [_] H1 J (one_own rfl) dit_enT h1⟩
  | _ => exact h1.elim⟩
instance {a : TE} {fa : Dn → (Sv → Dn → Prop) → Prop} [A : DE K Γ a fa] : DI K Γ (iEnum K (tCons a tNil)) true (fun δ Φ => fa δ fun s δ1 => asD s δ1 fun x δ2 => onL x fun ds => Φ (enumD ds) δ2) := ⟨fun {L δ σ S H Φ R} I h q => by
  refine DE.data (T := A) I h fun x L1 δ1 v H1 J h1 => ?_
  cases x with
  | list ds =>
    obtain ⟨a', xs, rfl, _, t, r⟩ := J.top
    exact ⟨a', xs, rfl, sqL_of t, q _ L1 δ1 _ [_] H1 J (one_own rfl) dit_enL h1⟩
  | _ => exact h1.elim⟩
end
end B
namespace B
open PySem PySem.Spec PyProof.Rows L2
/-- dict(zip(t, u)), t of texts -/
def tDictZip (K : PySem.W.Frag) (ta : TA) : TE := fun σ H Q => ta σ H fun vs H1 => ∃ (a b : Addr) (ks : List Key) (ys : List V), vs = [.ref a, .ref b] ∧ SqT K H1 a (ks.map kV) ∧ SqT K H1 b ys ∧ ∀ p, H1 p = none → Q (.ref p) (upd H1 p (.dK (mergeK [] (ks.zip ys))))
section
variable {K : PySem.W.Frag} {Γ : Gm}
def keysOn (ds : List PyData) (k : List Key → Prop) : Prop := match keysD ds with
  | some ks => k ks
  | none => False
instance {a b : TE} {fa fb : Dn → (Sv → Dn → Prop) → Prop} [A : DE K Γ a fa] [B : DE K Γ b fb] : DE K Γ (tDictZip K (tCons a (tCons b tNil))) (fun δ Φ => fa δ fun s δ1 => asD s δ1 fun x δ2 => fb δ2 fun t δ3 => asD t δ3 fun y δ4 => onT x fun ds => onT y fun es => keysOn ds fun ks => ∀ p, δ4.al p = none → Φ (.ref p) (δ4.know (oup δ4.al p (.dK (mergeE [] (ks.zip es)))))) := ⟨fun {L δ σ S H Φ Q} I h q => by
  refine DE.data (T := A) I h fun x L1 δ1 v H1 J h1 => DE.data (T := B) J h1 fun y L2' δ2 w H2 J2 h2 => ?_
  cases x with
  | tuple ds =>
    cases y with
    | tuple es =>
      have h3 : keysOn ds fun ks => ∀ p, δ2.al p = none → Φ (.ref p) (δ2.know (oup δ2.al p (.dK (mergeE [] (ks.zip es))))) := h2
      unfold keysOn at h3
      split at h3
      · rename_i ks ek
        obtain ⟨a', xs, rfl, t, r⟩ := J2.pop.top
        obtain ⟨b', ys, rfl, t', r'⟩ := J2.top
        have ex := keysD_run r ek
        subst ex
        refine ⟨a', b', ks, ys, rfl, t.sq, t'.sq, fun p np => ?_⟩
        have zz : ∀ {ks : List Key} {es : List PyData} {ys : List V}, Dvs K L2' H2 es ys → DvK K L2' H2 (ks.zip es) (ks.zip ys) := by
          intro ks
          induction ks with
          | nil => exact fun _ => rfl
          | cons k ks ih =>
            intro es ys h
            cases es with
            | nil => cases h; exact rfl
            | cons e es =>
              obtain ⟨x, r, rfl, h1, h2⟩ := h
              exact ⟨x, _, rfl, h1, ih h2⟩
        have dv : DvK K (p :: L2') (upd H2 p (.dK (mergeK [] (ks.zip ys)))) (mergeE [] (ks.zip es)) (mergeK [] (ks.zip ys)) := ((zz r').merge (es := []) (acc := []) rfl).to fun d v z => Dv.mono (P := []) (.new np) (fun _ z => nomatch z) (Dv.sub (fun b hb => (List.mem_cons.mp hb).elim (fun e => .inr (e ▸ np)) .inl) z)
        have J3 := J2.pop.pop.newOb (u := .dK (mergeK [] (ks.zip ys))) (o := .dK (mergeE [] (ks.zip es))) np ⟨_, upd_same, dv⟩
        exact q (.ref p) _ _ _ _ (J3.push (s := .ref p) rfl rfl fun _ z => nomatch z) (h3 p (J2.fresh np).1)
      · exact h3.elim
    | _ => exact h2.elim
  | none => exact h2.elim
  | bool _ => exact h2.elim
  | int _ => exact h2.elim
  | str _ => exact h2.elim
  | list _ => exact h2.elim
  | dict _ => exact h2.elim⟩
end
end B
namespace B
open PySem PySem.Spec PyProof.Rows L2
def varS (o : Option Sv) (i : Nat) (Φ : Sv → Dn → Prop) (δ : Dn) : Prop := match o with
  | some (.dat d) => Φ (.dat d) δ
  | some (.pen p) => Φ (.pen p) δ
  | some (.own _) => Φ (.ali i) δ
  | some (.fn a) => Φ (.fn a) δ
  | some (.ref a) => Φ (.ref a) δ
  | _ => False
section
variable {l : List (Option Sv)} {al : Al} {δ : Dn} {i : Nat} {d : PyData} {ds : List PyData} {a : Addr} {Φ : Sv → Dn → Prop} {k : PyData → Dn → Prop} {kS : Sv → Dn → Prop} {kL : List PyData → Prop} {kP : PyData → Prop} {kA : Addr → Prop} {kI : Int → Prop} {kN : Nat → Prop} {kB : Bool → Prop} {kX : Str → Prop} {kQ : Sv → Prop} {kD : Dn → Prop}
theorem q_var : varD i ⟨l, al⟩ Φ = varS (l.getD i none) i Φ ⟨l, al⟩ := rfl
theorem q_vdat : varS (some (.dat d)) i Φ δ = Φ (.dat d) δ := rfl
theorem q_vpen : varS (some (.pen a)) i Φ δ = Φ (.pen a) δ := rfl
theorem q_vown : varS (some (.own ds)) i Φ δ = Φ (.ali i) δ := rfl
theorem q_vfn : varS (some (.fn a)) i Φ δ = Φ (.fn a) δ := rfl
theorem q_vref : varS (some (.ref a)) i Φ δ = Φ (.ref a) δ := rfl
def aliS (o : Option Sv) (i : Nat) (k : PyData → Dn → Prop) (δ : Dn) : Prop := match o with
  | some (.own ds) => k (.list ds) (δ.put i (some (.dat (.list ds))))
  | some (.dat d) => k d δ
  | _ => False
theorem q_asD : asD (.dat d) δ k = k d δ := rfl
theorem q_asDo : asD (.own ds) δ k = k (.list ds) δ := rfl
theorem q_asDa : asD (.ali i) ⟨l, al⟩ k = aliS (l.getD i none) i k ⟨l, al⟩ := rfl
theorem q_aown : aliS (some (.own ds)) i k δ = k (.list ds) (δ.put i (some (.dat (.list ds)))) := rfl
theorem q_adat : aliS (some (.dat d)) i k δ = k d δ := rfl
theorem q_asA : asA (.dat d) δ kS = kS (.dat d) δ := rfl
theorem q_asAp : asA (.pen a) δ kS = kS (.pen a) δ := rfl
theorem q_asAf : asA (.fn a) δ kS = kS (.fn a) δ := rfl
theorem q_asAr : asA (.ref a) δ kS = kS (.ref a) δ := rfl
theorem q_asAo : asA (.own ds) δ kS = kS (.dat (.list ds)) δ := rfl
theorem q_asAa : asA (.ali i) δ kS = asD (.ali i) δ (fun d δ' => kS (.dat d) δ') := rfl
theorem q_asS : asS (.dat d) δ kS = kS (.dat d) δ := rfl
theorem q_asSo : asS (.own ds) δ kS = kS (.own ds) δ := rfl
theorem q_asSp : asS (.pen a) δ kS = kS (.pen a) δ := rfl
theorem q_asSf : asS (.fn a) δ kS = kS (.fn a) δ := rfl
theorem q_asSr : asS (.ref a) δ kS = kS (.ref a) δ := rfl
theorem q_asSa : asS (.ali i) δ kS = asD (.ali i) δ (fun d δ' => kS (.dat d) δ') := rfl
theorem q_asR : asR (.dat d) δ kS = kS (.dat d) δ := rfl
theorem q_asRr : asR (.ref a) δ kS = kS (.ref a) δ := rfl
theorem q_asRo : asR (.own ds) δ kS = ∀ p, δ.al p = none → kS (.ref p) (δ.know (oup δ.al p (.lst (ds.map .dat)))) := rfl
theorem q_onD : onD (.dat d) kP = kP d := rfl
theorem q_onR : onR (.ref a) kA = kA a := rfl
theorem q_inOb : inOb (.dat d) kQ = kQ (.dat d) := rfl
theorem q_inObr : inOb (.ref a) kQ = kQ (.ref a) := rfl
theorem q_inObf : inOb (.fn a) kQ = kQ (.fn a) := rfl
theorem q_onT : onT (.tuple ds) kL = kL ds := rfl
theorem q_onL : onL (.list ds) kL = kL ds := rfl
theorem q_onI {n : Int} : onI (.int n) kI = kI n := rfl
theorem q_onX {z : Str} : onX (.str z) kX = kX z := rfl
theorem q_onBo {b : Bool} : onBo (.bool b) kB = kB b := rfl
theorem q_onTd : onTd (.dat (.tuple ds)) kL = kL ds := rfl
theorem q_seqL : seqD (.list ds) kL = kL ds := rfl
theorem q_seqT : seqD (.tuple ds) kL = kL ds := rfl
theorem q_intI {n : Int} : intOn (.int n) kI = kI n := rfl
theorem q_intB {b : Bool} : intOn (.bool b) kI = kI (bif b then 1 else 0) := rfl
theorem q_none : noneOn (.dat .none) kB = kB true := rfl
theorem q_noneR : noneOn (.ref a) kB = kB false := rfl
theorem q_one {r : List PyData} {k2 : PyData → List PyData → Prop} : oneD (d :: r) k2 = k2 d r := rfl
theorem q_oneS {s : Sv} {r : List Sv} {k2 : Sv → List Sv → Prop} : oneS (s :: r) k2 = k2 s r := rfl
theorem q_seeL : seeS (.dat (.list ds)) δ kL = kL ds := rfl
theorem q_seeT : seeS (.dat (.tuple ds)) δ kL = kL ds := rfl
theorem q_seeO : seeS (.own ds) δ kL = kL ds := rfl
def seeA (o : Option Sv) (k : List PyData → Prop) : Prop := match o with
  | some (.own ds) => k ds
  | some (.dat (.list ds)) => k ds
  | some (.dat (.tuple ds)) => k ds
  | _ => False
theorem q_seeA : seeS (.ali i) ⟨l, al⟩ kL = seeA (l.getD i none) kL := rfl
theorem q_seeAo : seeA (some (.own ds)) kL = kL ds := rfl
theorem q_seeAl : seeA (some (.dat (.list ds))) kL = kL ds := rfl
theorem q_seeAt : seeA (some (.dat (.tuple ds))) kL = kL ds := rfl
theorem q_srL : seeR (.dat d) δ kL = seeS (.dat d) δ kL := rfl
theorem q_srO : seeR (.own ds) δ kL = kL ds := rfl
theorem q_srA : seeR (.ali i) δ kL = seeS (.ali i) δ kL := rfl
theorem q_lenS : lenS (.dat d) δ kN = seeS (.dat d) δ (fun ds => kN ds.length) := rfl
theorem q_lenO : lenS (.own ds) δ kN = kN ds.length := rfl
theorem q_lenA : lenS (.ali i) δ kN = seeS (.ali i) δ (fun ds => kN ds.length) := rfl
theorem q_lenR : lenS (.ref a) δ kN = asLst δ.al a (fun ss => kN ss.length) := rfl
theorem q_slL : seeL (.dat (.list ds)) δ kL = kL ds := rfl
theorem q_slO : seeL (.own ds) δ kL = kL ds := rfl
def seeB (o : Option Sv) (k : List PyData → Prop) : Prop := match o with
  | some (.own ds) => k ds
  | some (.dat (.list ds)) => k ds
  | _ => False
theorem q_slA : seeL (.ali i) ⟨l, al⟩ kL = seeB (l.getD i none) kL := rfl
theorem q_slAo : seeB (some (.own ds)) kL = kL ds := rfl
theorem q_slAl : seeB (some (.dat (.list ds))) kL = kL ds := rfl
theorem q_ixR {n : Int} : ixS (.ref a) n δ kS = asLst δ.al a (fun ss => atS ss n fun t => inOb t fun t => kS t δ) := rfl
theorem q_ixL {n : Int} : ixS (.dat d) n δ kS = seeL (.dat d) δ (fun ds => atD ds n fun d => kS (.dat d) δ) := rfl
theorem q_ixO {n : Int} : ixS (.own ds) n δ kS = atD ds n (fun d => kS (.dat d) δ) := rfl
theorem q_ixA {n : Int} : ixS (.ali i) n δ kS = seeL (.ali i) δ (fun ds => atD ds n fun d => kS (.dat d) δ) := rfl
def appA (o : Option Sv) (i : Nat) (y : PyData) (k : Dn → Prop) (δ : Dn) : Prop := match o with
  | some (.own ds) => ds.length < 1000000 ∧ k (δ.put i (some (.own (ds ++ [y]))))
  | _ => False
theorem q_appA {fe : Dn → (Sv → Dn → Prop) → Prop} : appS (.ali i) fe δ kD = ((match δ.at_ i with | some (.own _) => True | _ => False) ∧ fe δ fun t δ2 => asD t δ2 fun y δ3 => appA (δ3.at_ i) i y kD δ3) := rfl
theorem q_appAo {y : PyData} : appA (some (.own ds)) i y kD δ = (ds.length < 1000000 ∧ kD (δ.put i (some (.own (ds ++ [y]))))) := rfl
theorem q_appR {fe : Dn → (Sv → Dn → Prop) → Prop} : appS (.ref a) fe δ kD = ((asLst δ.al a fun _ => True) ∧ fe δ fun t δ2 => asA t δ2 fun u δ3 => inOb u fun u => asLst δ3.al a fun ss => ss.length < 1000000 ∧ kD (δ3.know (oup δ3.al a (.lst (ss ++ [u]))))) := rfl
theorem q_emR {kB : Bool → Prop} : emptyOn (.ref a) δ kB = asLst δ.al a (fun ss => kB ss.isEmpty) := rfl
theorem q_zipT {es : List PyData} : zipOn (.tuple ds) (.tuple es) kL = kL (zipD ds es) := rfl
theorem q_zipL {es : List PyData} : zipOn (.list ds) (.list es) kL = kL (zipD ds es) := rfl
theorem q_some : someD (some d) kP = kP d := rfl
theorem q_fn1 {F : PyData → (PyData → Prop) → Prop} {x1 : PyData} : fn1 F [.dat x1] kP = F x1 kP := rfl
theorem q_fn2 {F : PyData → PyData → (PyData → Prop) → Prop} {x1 x2 : PyData} : fn2 F [.dat x1, .dat x2] kP = F x1 x2 kP := rfl
theorem q_fn3 {F : PyData → PyData → PyData → (PyData → Prop) → Prop} {x1 x2 x3 : PyData} : fn3 F [.dat x1, .dat x2, .dat x3] kP = F x1 x2 x3 kP := rfl
theorem q_fn4 {F : PyData → PyData → PyData → PyData → (PyData → Prop) → Prop} {x1 x2 x3 x4 : PyData} : fn4 F [.dat x1, .dat x2, .dat x3, .dat x4] kP = F x1 x2 x3 x4 kP := rfl
theorem q_pn0 {F : (PyData → Prop) → Prop} : pn0 F [.pen a] kP = F kP := rfl
theorem q_pn1 {F : PyData → (PyData → Prop) → Prop} {x1 : PyData} : pn1 F [.pen a, .dat x1] kP = F x1 kP := rfl
theorem q_pn2 {F : PyData → PyData → (PyData → Prop) → Prop} {x1 x2 : PyData} : pn2 F [.pen a, .dat x1, .dat x2] kP = F x1 x2 kP := rfl
theorem q_pn3 {F : PyData → PyData → PyData → (PyData → Prop) → Prop} {x1 x2 x3 : PyData} : pn3 F [.pen a, .dat x1, .dat x2, .dat x3] kP = F x1 x2 x3 kP := rfl
theorem q_scaI {n : Int} : sca (.int n) kP = kP (.int n) := rfl
theorem q_scaS {z : Str} : sca (.str z) kP = kP (.str z) := rfl
theorem q_scaB {b : Bool} : sca (.bl b) kP = kP (.bool b) := rfl
theorem q_scaN : sca .non kP = kP .none := rfl
def fnS (o : Option Sv) (G : Addr → Option (List Sv → (PyData → Prop) → Prop)) (k : (List Sv → (PyData → Prop) → Prop) → Prop) : Prop := match o with
  | some (.fn a) => match G a with
    | some g => k g
    | none => False
  | _ => False
theorem q_fnD {n : Nat} {G : Addr → Option (List Sv → (PyData → Prop) → Prop)} {k2 : (List Sv → (PyData → Prop) → Prop) → Prop} : fnD i n G ⟨l, al⟩ k2 = fnS (l.getD i none) G k2 := rfl
theorem q_all0 {k2 : List PyData → Prop} : allD [] k2 = k2 [] := rfl
theorem q_all1 {d1 : PyData} {k2 : List PyData → Prop} : allD [.dat d1] k2 = k2 [d1] := rfl
theorem q_all2 {d1 d2 : PyData} {k2 : List PyData → Prop} : allD [.dat d1, .dat d2] k2 = k2 [d1, d2] := rfl
theorem q_all3 {d1 d2 d3 : PyData} {k2 : List PyData → Prop} : allD [.dat d1, .dat d2, .dat d3] k2 = k2 [d1, d2, d3] := rfl
theorem q_all4 {d1 d2 d3 d4 : PyData} {k2 : List PyData → Prop} : allD [.dat d1, .dat d2, .dat d3, .dat d4] k2 = k2 [d1, d2, d3, d4] := rfl
theorem q_all5 {d1 d2 d3 d4 d5 : PyData} {k2 : List PyData → Prop} : allD [.dat d1, .dat d2, .dat d3, .dat d4, .dat d5] k2 = k2 [d1, d2, d3, d4, d5] := rfl
theorem q_wipe0 : wipeD δ [] = δ := rfl
theorem q_wipe {v : Nat} {vs : List Nat} : wipeD δ (v :: vs) = (wipeD δ vs).put v none := rfl
theorem q_start {n : Nat} {as : List Sv} : startS n as = as.map some ++ List.replicate (n - as.length) none := rfl
/-- equal scalars -/
theorem q_eqI {x y : Int} : eqS (.int x) (.int y) = some (decide (x = y)) := rfl
theorem q_eqX {x y : Str} : eqS (.str x) (.str y) = some (decide (x = y)) := rfl
theorem q_eqB {x y : Bool} : eqS (.bool x) (.bool y) = some (decide (x = y)) := rfl
theorem q_onB {b : Bool} : onB (some b) kB = kB b := rfl
theorem q_at0 {r : List PyData} : atD (d :: r) 0 kP = kP d := by
  unfold atD
  have : atI (d :: r) 0 = some d := atI_nat (j := 0) rfl
  rw [this]
theorem q_at1 {d1 : PyData} {r : List PyData} : atD (d1 :: d :: r) 1 kP = kP d := by
  unfold atD
  have : atI (d1 :: d :: r) 1 = some d := atI_nat (j := 1) rfl
  rw [this]
theorem q_at2 {d1 d2 : PyData} {r : List PyData} : atD (d1 :: d2 :: d :: r) 2 kP = kP d := by
  unfold atD
  have : atI (d1 :: d2 :: d :: r) 2 = some d := atI_nat (j := 2) rfl
  rw [this]
theorem q_at3 {d1 d2 d3 : PyData} {r : List PyData} : atD (d1 :: d2 :: d3 :: d :: r) 3 kP = kP d := by
  unfold atD
  have : atI (d1 :: d2 :: d3 :: d :: r) 3 = some d := atI_nat (j := 3) rfl
  rw [this]
theorem q_at4 {d1 d2 d3 d4 : PyData} {r : List PyData} : atD (d1 :: d2 :: d3 :: d4 :: d :: r) 4 kP = kP d := by
  unfold atD
  have : atI (d1 :: d2 :: d3 :: d4 :: d :: r) 4 = some d := atI_nat (j := 4) rfl
  rw [this]
theorem q_tup {x : List PyData} : isiTup (.tuple x) = true := rfl
theorem q_strT {x : List PyData} : isiStr (.tuple x) = false := rfl
theorem q_str {x : Str} : isiStr (.str x) = true := rfl
theorem q_int {x : Int} : isiInt (.int x) = true := rfl
theorem q_bool {x : Int} : isiBool (.int x) = false := rfl
end
end B
namespace B
open PySem PySem.Spec PyProof.Rows L2
def rDictL (K : PySem.W.Frag) : List V → Hp → VK → Prop := fun xs H Q => ∃ (a : Addr) (ps : List Addr) (kvs : List (Key × V)), xs = [.ref a] ∧ SqL K H a (ps.map V.ref) ∧ Paired (fun p kv => SqT K H p [kV kv.1, kv.2]) ps kvs ∧
    ∀ p, H p = none → Q (.ref p) (upd H p (.dK (mergeK [] kvs)))
def keyP : Key → PyData
  | .inl i => .int i
  | .inr s => .str s
theorem keyP_dv {K : PySem.W.Frag} {L : List Addr} {H : Hp} : ∀ k : Key, Dv K L H (keyP k) (kV k)
  | .inl _ => rfl
  | .inr _ => rfl
theorem keysP_dv {K : PySem.W.Frag} {L : List Addr} {H : Hp} : ∀ {es : List (Key × PyData)} {kvs : List (Key × V)}, DvK K L H es kvs → Dvs K L H (es.map fun e => keyP e.1) (kvs.map fun kv => kV kv.1)
  | [], _, h => by cases h; exact rfl
  | (k, d) :: es, _, ⟨v, r, e, _, h2⟩ => by cases e; exact ⟨_, _, rfl, keyP_dv k, keysP_dv h2⟩
theorem texts_dvs {K : PySem.W.Frag} {L : List Addr} {H : Hp} : ∀ xs : List Str, Dvs K L H (xs.map .str) (xs.map V.str)
  | [] => rfl
  | x :: xs => ⟨_, _, rfl, rfl, texts_dvs xs⟩
instance {K : PySem.W.Frag} {Γ : Gm} {a : TE} {l u : TO} {fa : Dn → (Sv → Dn → Prop) → Prop} {fl fu : Dn → (Option Int → Dn → Prop) → Prop} [A : DE K Γ a fa] [Lo : DO K Γ l fl] [Hi : DO K Γ u fu] :
    DE K Γ (L2.tSl (rSlL K) a l u) (fun δ Φ => fa δ fun s δ1 => asD s δ1 fun x δ2 => fl δ2 fun lo δ3 => fu δ3 fun hi δ4 => onL x fun ds => Φ (.own (cutD ds lo hi)) δ4) := ⟨fun {L δ σ S H Φ Q} I h q => by
  refine DE.data (T := A) I h fun x L1 δ1 v H1 J h1 => Lo.run J h1 fun lo L2 δ2 H2 J2 h2 => Hi.run J2 h2 fun hi L3 δ3 H3 J3 h3 => ?_
  cases x with
  | list ds =>
    obtain ⟨a, xs, rfl, n, t, r⟩ := J3.top
    have e := r.len
    refine ⟨a, xs, rfl, sqL_of t, fun p np => q (.own (cutD ds lo hi)) _ _ _ _ (J3.pop.new np ?_) h3⟩
    unfold cutV cutD
    rw [e]
    exact (r.drop).take
  | _ => exact h3.elim⟩
section
variable {K : PySem.W.Frag} {Γ : Gm}
instance {e : TE} {fe : Dn → (Sv → Dn → Prop) → Prop} [E : DE K Γ e fe] : DE K Γ (tCB (rDictL K) (tCons e tNil)) (fun δ Φ => fe δ fun s δ1 => asD s δ1 fun x δ2 => onL x fun ds => pairsOf ds fun es => ∀ p, δ2.al p = none → Φ (.ref p) (δ2.know (oup δ2.al p (.dK (mergeE [] es))))) := ⟨fun {L δ σ S H Φ Q} I h q =>
  DE.data (T := E) I h fun x L1 δ1 v H1 J h1 => by
    cases x with
    | list ds =>
      have h2 : pairsOf ds fun es => ∀ p, δ1.al p = none → Φ (.ref p) (δ1.know (oup δ1.al p (.dK (mergeE [] es)))) := h1
      unfold pairsOf at h2
      split at h2
      · rename_i es e
        obtain ⟨a, xs, rfl, _, t, r⟩ := J.top
        obtain ⟨ps, kvs, rfl, p1, p2⟩ := pairsD_run r e
        refine ⟨a, ps, kvs, rfl, sqL_of t, p1, fun p np => ?_⟩
        have dv : DvK K (p :: L1) (upd H1 p (.dK (mergeK [] kvs))) (mergeE [] es) (mergeK [] kvs) := (p2.merge (es := []) (acc := []) rfl).to fun d v z => Dv.mono (P := []) (.new np) (fun _ z => nomatch z) (Dv.sub (fun b hb => (List.mem_cons.mp hb).elim (fun e => .inr (e ▸ np)) .inl) z)
        have J2 := J.pop.newOb (u := .dK (mergeK [] kvs)) (o := .dK (mergeE [] es)) np ⟨_, upd_same, dv⟩
        exact q (.ref p) _ _ _ _ (J2.push (s := .ref p) rfl rfl fun _ z => nomatch z) (h2 p (J.fresh np).1)
      · exact h2.elim
    | _ => exact h1.elim⟩
instance {e : TE} {fe : Dn → (Sv → Dn → Prop) → Prop} [E : DE K Γ e fe] : DE K Γ (tCB rListD (tCons e tNil)) (fun δ Φ => fe δ fun s δ1 => onR s fun a => asDK δ1.al a fun es => Φ (.own (es.map fun e => keyP e.1)) δ1) := ⟨fun {L δ σ S H Φ Q} I h q =>
  E.run I h fun s L1 δ1 v H1 T h1 => by
    obtain ⟨a, rfl, rfl, J, h2⟩ := T.ref h1
    unfold asDK at h2
    split at h2
    · rename_i es e
      obtain ⟨kvs, e2, e3⟩ := (J.obj a _ e).2
      exact ⟨a, kvs, rfl, e2, fun p np => q (.own _) _ _ _ _ (J.new np (keysP_dv e3)) h2⟩
    · exact h2.elim⟩
instance {e : TE} {fe : Dn → (Sv → Dn → Prop) → Prop} [E : DE K Γ e fe] : DE K Γ (tCB (rSortedS K) (tCons e tNil)) (fun δ Φ => fe δ fun s δ1 => asD s δ1 fun x δ2 => onL x fun ds => onXs ds fun xs => xs.length < 64 ∧ ∀ ys : List Str, ys.Perm xs → Φ (.own (ys.map .str)) δ2) := ⟨fun {L δ σ S H Φ Q} I h q =>
  DE.data (T := E) I h fun x L1 δ1 v H1 J h1 => by
    cases x with
    | list ds =>
      have h2 : onXs ds fun xs => xs.length < 64 ∧ ∀ ys : List Str, ys.Perm xs → Φ (.own (ys.map .str)) δ1 := h1
      unfold onXs at h2
      split at h2
      · rename_i xs e
        obtain ⟨a, vs, rfl, _, t, r⟩ := J.top
        have ev := texts_run r e
        subst ev
        exact ⟨a, xs, rfl, sqL_of t, h2.1, fun ys p pm _ np => q (.own _) _ _ _ _ (J.pop.new np (texts_dvs ys)) (h2.2 ys pm)⟩
      · exact h2.elim
    | _ => exact h1.elim⟩
theorem put3 (δ : Dn) {i j l : Nat} (x y z : Option Sv) (h1 : i ≠ j) (h2 : i ≠ l) (h3 : j ≠ l) : ((δ.put l z).put j y).put i x = ((δ.put i x).put j y).put l z := by
  rw [put_comm z y (Ne.symm h3), put_comm z x (Ne.symm h2), put_comm y x (Ne.symm h1)]
/-- a, b, c = x, y, z -/
instance {i j l : Nat} {a b c : TE} {fa fb fc : Dn → (Sv → Dn → Prop) → Prop} [A : DE K Γ a fa] [B : DE K Γ b fb] [C : DE K Γ c fc] : DS K Γ (tPar3 i j l (tCons a (tCons b (tCons c tNil)))) (fun δ Ψ => (i ≠ j ∧ i ≠ l ∧ j ≠ l) ∧ fa δ fun s δ1 => asS s δ1 fun s1 δ2 => fb δ2 fun t δ3 => asS t δ3 fun t1 δ4 => fc δ4 fun u δ5 => asS u δ5 fun u1 δ6 => Ψ.nx (((δ6.put i (some s1)).put j (some t1)).put l (some u1))) := ⟨fun {L δ σ S H Ψ D} I h q => by
  obtain ⟨⟨n1, n2, n3⟩, h⟩ := h
  refine A.run I h fun s L1 δ1 v H1 T h1 => ?_
  obtain ⟨L2', δ2, s1, J2, h2⟩ := T.sto h1
  refine B.run J2 h2 fun t L3 δ3 w H3 T3 h3 => ?_
  obtain ⟨L4, δ4, t1, J4, h4⟩ := T3.sto h3
  refine C.run J4 h4 fun u L5 δ5 x H5 T5 h5 => ?_
  obtain ⟨L6, δ6, u1, J6, h6⟩ := T5.sto h5
  have J7 := ((J6.store l).store j).store i
  rw [put3 δ6 _ _ _ n1 n2 n3] at J7
  have es : ((σ.set l (some x)).set j (some w)).set i (some v) = ((σ.set i (some v)).set j (some w)).set l (some x) := by
    rw [List.set_comm (l := σ) (some x) (some w) (Ne.symm n3), List.set_comm (some x) (some v) (Ne.symm n2), List.set_comm (l := σ) (some w) (some v) (Ne.symm n1)]
  rw [es] at J7
  exact ⟨v, w, x, rfl, q.nx J7 h6⟩⟩
end
end B
namespace B
open PySem PySem.Spec PyProof.Rows L2 LamX NdefX
/-- where a known state may raise an exception of the class C -/
class XW (K : PySem.W.Frag) (Γ : Gm) (W : WX) (Ξ : outParam (Dn → Addr → Prop)) : Prop where
  out : ∀ {L : List Addr} {δ : Dn} {σ : L2.St} {S : List (Sv × V)} {H : Hp} {C : Addr}, Sim K Γ L δ σ S H → Ξ δ C → W (.ref C) none σ H
/-- pure: its transformer of the arguments, no known object asked -/
def spDX (K : PySem.W.Frag) (n : Nat) (g : List Sv → (PyData → Prop) → (Addr → Prop) → Prop) : Sp := fun vs H Q E => vs.length = n ∧ ∃ (L P : List Addr) (as : List Sv) (Φ : PyData → Prop) (Ξ : Addr → Prop), ((∀ p ∈ P, p ∈ L) ∧ LamX.Tabs (LT K) H) ∧ (∀ a ∈ L, H a ≠ none) ∧ (∀ p ∈ P, Pen H p) ∧
  AR K ⟨P, P, L, H⟩ L H as vs ∧ g as Φ Ξ ∧ (∀ d v H', Fr K P H H' → (∀ p ∈ P, Pen H' p) → Dv K L H' d v → Φ d → Q v H') ∧ ∀ C H', Fr K P H H' → (∀ p ∈ P, Pen H' p) → Ξ C → E (.ref C) none H'
/-- with known objects -/
def spX (K : PySem.W.Frag) (n : Nat) (g : Al → List Sv → (Al → Sv → Prop) → (Al → Addr → Prop) → Prop) : Sp := fun vs H Q E => vs.length = n ∧ ∃ (L W P : List Addr) (al : Al) (as : List Sv) (Φ : Al → Sv → Prop) (Ξ : Al → Addr → Prop),
  ((∀ p ∈ P, p ∈ W) ∧ LamX.Tabs (LT K) H) ∧ (∀ p ∈ W, p ∈ L) ∧ (∀ a ∈ L, H a ≠ none) ∧ (∀ p ∈ P, Pen H p) ∧ (∀ a o, al a = some o → (a ∈ W ∧ a ∉ P) ∧ ObR K L H a o) ∧ AR K ⟨P, W, L, H⟩ L H as vs ∧ g al as Φ Ξ ∧
  (∀ L' al' s v H', Fr K W H H' → (∀ p ∈ P, Pen H' p) → (∀ a ∈ L, a ∈ L') → (∀ a ∈ L', H' a ≠ none) → (∀ a ∈ L', a ∈ L ∨ H a = none) → (∀ a o, al' a = some o → (a ∈ L' ∧ a ∉ P ∧ (a ∈ W ∨ H a = none)) ∧ ObR K L' H' a o) →
    SlR K ⟨P, W, L, H⟩ L' [] H' s v → isOwn s = false → (∀ j, s ≠ .ali j) → Φ al' s → Q v H') ∧
  ∀ L' al' C H', Fr K W H H' → (∀ p ∈ P, Pen H' p) → (∀ a ∈ L, a ∈ L') → (∀ a ∈ L', H' a ≠ none) → (∀ a ∈ L', a ∈ L ∨ H a = none) → (∀ a o, al' a = some o → (a ∈ L' ∧ a ∉ P ∧ (a ∈ W ∨ H a = none)) ∧ ObR K L' H' a o) → Ξ al' C → E (.ref C) none H'
section
variable {K : PySem.W.Frag} {Γ : Gm}
/-- what a callee may change -/
def maySet (Γ : Gm) (L : List Addr) (δ : Dn) : List Addr := by
  classical
  exact L.filter fun a => decide (a ∈ Γ.P ∨ δ.al a ≠ none)
theorem maySet_in {L : List Addr} {δ : Dn} {σ : L2.St} {S : List (Sv × V)} {H : Hp} (J : Sim K Γ L δ σ S H) {a : Addr} (ha : a ∈ maySet Γ L δ) : a ∈ L ∧ (a ∈ Γ.W ∨ Γ.H0 a = none) ∧ (a ∈ Γ.P ∨ δ.al a ≠ none) := by
  classical
  obtain ⟨h1, h2⟩ := List.mem_filter.mp ha
  have h3 := of_decide_eq_true h2
  refine ⟨h1, ?_, h3⟩
  rcases h3 with z | z
  · exact .inl (J.pin a z)
  · cases e : δ.al a with
    | none => exact absurd e z
    | some o => exact (J.obj a o e).1.2.2
theorem in_maySet {L : List Addr} {δ : Dn} {a : Addr} (h1 : a ∈ L) (h2 : a ∈ Γ.P ∨ δ.al a ≠ none) : a ∈ maySet Γ L δ := by
  classical
  exact List.mem_filter.mpr ⟨h1, decide_eq_true h2⟩
/-- behind a call -/
theorem Sim.behind {L L' : List Addr} {δ : Dn} {σ : L2.St} {S : List (Sv × V)} {H H' : Hp} {al' : Al} (J : Sim K Γ L δ σ S H) (f : Fr K (maySet Γ L δ) H H') (hp : ∀ p ∈ Γ.P, Pen H' p) (sub : ∀ a ∈ L, a ∈ L') (live : ∀ a ∈ L', H' a ≠ none) (old : ∀ a ∈ L', a ∈ L ∨ H a = none)
    (obj : ∀ a o, al' a = some o → (a ∈ L' ∧ a ∉ Γ.P ∧ (a ∈ maySet Γ L δ ∨ H a = none)) ∧ ObR K L' H' a o) : Sim K Γ L' (δ.know al') σ S H' := by
  have dv : ∀ {d : PyData} {v : V}, Dv K L H d v → Dv K L' H' d v := fun h => Dv.mono f (fun a ha => sub a (maySet_in J ha).1) (Dv.sub old h)
  have dvs : ∀ {d : List PyData} {v : List V}, Dvs K L H d v → Dvs K L' H' d v := fun h => Dvs.mono f (fun a ha => sub a (maySet_in J ha).1) (Dvs.sub old h)
  have sl : ∀ {s : Sv} {v : V}, SlR K Γ L σ H s v → (isOwn s = true → ∀ a, v = .ref a → δ.al a = none) → SlR K Γ L' σ H' s v := fun {s v} h n => by
    cases s with
    | dat d => exact dv h
    | own ds =>
      obtain ⟨b, xs, e, h1, h2, h3, h4⟩ := h
      refine ⟨b, xs, e, sub b h1, h2, f.ne h3 fun z => ?_, dvs h4⟩
      rcases (maySet_in J z).2.2 with y | y
      · exact h2 (J.pin0 b y)
      · exact y (n rfl b e)
    | _ => exact h
  have none_of : ∀ {b : Addr} {u : HO}, H b = some u → b ∉ Γ.L0 → δ.al b = none → al' b = none := fun {b u} e h2 n => by
    cases e2 : al' b with
    | none => rfl
    | some o =>
      rcases (obj b o e2).1.2.2 with z | z
      · rcases (maySet_in J z).2.2 with y | y
        · exact absurd (J.pin0 b y) h2
        · exact absurd n y
      · rw [e] at z
        cases z
  exact {
    t0 := J.t0
    fr := J.fr.cut f fun l hl => (maySet_in J hl).2.1
    pens := hp, pin := J.pin, win := J.win
    sub := fun a ha => sub a (J.sub a ha)
    live := live
    old := fun a ha => (old a ha).elim (J.old a) fun z => .inr (J.fr.free _ z)
    len := J.len
    slot := fun i s e => let ⟨n, v, e1, e2⟩ := J.slot i s e; ⟨n, v, e1, sl e2 fun o a ea => J.sepA i s a e o (ea ▸ e1)⟩
    stk := fun p hp => sl (J.stk p hp) (J.sepB p hp)
    nal := J.nal, sep := J.sep, sepS := J.sepS, sepT := J.sepT
    obj := fun a o e => by
      obtain ⟨⟨q1, q2, q3⟩, q4⟩ := obj a o e
      exact ⟨⟨q1, q2, q3.elim (fun z => (maySet_in J z).2.1) fun z => .inr (J.fr.free _ z)⟩, q4⟩
    sepA := fun i s a e o ea => by
      obtain ⟨_, v, e1, e2⟩ := J.slot i s e
      rw [ea] at e1
      cases e1
      obtain ⟨b, xs, e3, h1, h2, h3⟩ := e2.at_own o
      cases e3
      exact none_of h3 h2 (J.sepA i s _ e o ea)
    sepB := fun p hp o a ea => by
      obtain ⟨b, xs, e3, h1, h2, h3⟩ := (J.stk p hp).at_own o
      rw [ea] at e3
      cases e3
      exact none_of h3 h2 (J.sepB p hp o _ ea) }
theorem SlR.gm {Γ' : Gm} (hP : Γ.P = Γ'.P) {L : List Addr} {σ τ : L2.St} {H : Hp} {s : Sv} {v : V} (h : SlR K Γ L σ H s v) (no : isOwn s = false) (na : ∀ j, s ≠ .ali j) : SlR K Γ' L τ H s v := by
  cases s with
  | ali j => exact absurd rfl (na j)
  | own ds => cases no
  | pen p => exact ⟨h.1, hP ▸ h.2⟩
  | _ => exact h
theorem Sim.calledX {L : List Addr} {δ : Dn} {σ : L2.St} {S : List (Sv × V)} {H : Hp} (J : Sim K Γ L δ σ S H) {n : Nat} {g : Al → List Sv → (Al → Sv → Prop) → (Al → Addr → Prop) → Prop} {as : List Sv} {vs : List V} {E : XK} {Q : VK} {Φ : Sv → Dn → Prop} {Ξ : Dn → Addr → Prop}
    (ar : AR K Γ L H as vs) (hn : as.length = n) (hg : g δ.al as (fun al' s => Φ s (δ.know al')) (fun al' C => Ξ (δ.know al') C))
    (q : ∀ s L' al' v H', Sim K Γ L' (δ.know al') σ ((s, v) :: S) H' → Φ s (δ.know al') → Q v H')
    (qx : ∀ C L' al' H', Sim K Γ L' (δ.know al') σ S H' → Ξ (δ.know al') C → E (.ref C) none H') : spX K n g vs H Q E := by
  refine ⟨ar.len.trans hn, L, maySet Γ L δ, Γ.P, δ.al, as, _, _, ⟨fun p hp => in_maySet (J.sub p (J.pin0 p hp)) (.inl hp), J.tbs⟩, fun p hp => (maySet_in J hp).1, J.live, J.pens, fun a o e => ?_, AR.swap (Γ := Γ) (Γ' := ⟨Γ.P, maySet Γ L δ, L, H⟩) rfl ar, hg,
    fun L' al' s v H' f hp sub live old obj rs no na hΦ => q s L' al' v H' ((J.behind f hp sub live old obj).push (SlR.gm (Γ := ⟨Γ.P, maySet Γ L δ, L, H⟩) (Γ' := Γ) rfl rs no na) no na) hΦ, fun L' al' C H' f hp sub live old obj hx => qx C L' al' H' (J.behind f hp sub live old obj) hx⟩
  obtain ⟨q1, q2⟩ := J.obj a o e
  exact ⟨⟨in_maySet q1.1 (.inr fun z => by rw [z] at e; cases e), q1.2.1⟩, q2⟩
def callDX (g : List Sv → (PyData → Prop) → (Addr → Prop) → Prop) (as : List Sv) (Φ : PyData → Prop) (Ξ : Addr → Prop) (_ : Tag g) (_ : Tag Φ) (_ : Tag Ξ) : Prop := g as Φ Ξ
def callX (g : Al → List Sv → (Al → Sv → Prop) → (Al → Addr → Prop) → Prop) (al : Al) (as : List Sv) (Φ : Al → Sv → Prop) (Ξ : Al → Addr → Prop) (_ : Tag g) (_ : Tag Φ) (_ : Tag Ξ) : Prop := g al as Φ Ξ
instance {n : Nat} {g : List Sv → (PyData → Prop) → (Addr → Prop) → Prop} {t : TA} {f : Dn → (List Sv → Dn → Prop) → Prop} {W : WX} {Ξ : Dn → Addr → Prop} [XI : XW K Γ W Ξ] [A : DA K Γ t f] : DE K Γ (L2.tCallS (spDX K n g) (WE W) t) (fun δ Φ => f δ fun as δ1 => as.length = n ∧ callDX g as (fun d => Φ (.dat d) δ1) (fun C => Ξ δ1 C) .mk .mk .mk) := ⟨fun {L δ σ S H Φ Q} I h q => by
  refine A.run I h fun as L1 δ1 vs H1 J ar h1 => ?_
  refine ⟨ar.len.trans h1.1, L1, Γ.P, as, _, _, ⟨fun p hp => J.sub p (J.pin0 p hp), J.tbs⟩, J.live, J.pens, AR.swap (Γ := Γ) (Γ' := ⟨Γ.P, Γ.P, L1, H1⟩) rfl ar, h1.2, fun d v H' f1 p1 dv hd => ?_, fun C H' f1 p1 hx => XI.out (J.keep f1 p1) hx⟩
  exact q (.dat d) L1 δ1 v H' ((J.keep f1 p1).dat dv) hd⟩
instance {n : Nat} {g : Al → List Sv → (Al → Sv → Prop) → (Al → Addr → Prop) → Prop} {t : TA} {f : Dn → (List Sv → Dn → Prop) → Prop} {W : WX} {Ξ : Dn → Addr → Prop} [XI : XW K Γ W Ξ] [A : DA K Γ t f] : DE K Γ (L2.tCallS (spX K n g) (WE W) t) (fun δ Φ => f δ fun as δ1 => as.length = n ∧ callX g δ1.al as (fun al' s => Φ s (δ1.know al')) (fun al' C => Ξ (δ1.know al') C) .mk .mk .mk) := ⟨fun {L δ σ S H Φ Q} I h q => by
  refine A.run I h fun as L1 δ1 vs H1 J ar h1 => ?_
  exact J.calledX ar h1.1 h1.2 (fun s L' al' v H' J2 h2 => q s L' _ v H' J2.topOf h2) fun C L' al' H' J2 h2 => XI.out J2 h2⟩
def tRaise (W : WX) (C : Addr) : TS := fun _ σ H => W (.ref C) none σ H
instance {W : WX} {C : Addr} {Ξ : Dn → Addr → Prop} [XI : XW K Γ W Ξ] : DS K Γ (tRaise W C) (fun δ _ => Ξ δ C) := ⟨fun {L δ σ S H Ψ D} I h q => XI.out I h⟩
end
/-- an own class of exceptions -/
structure ExcAt (K : PySem.W.Frag) (mg : Str → Option Value) (x : Str) (C : Addr) : Prop where
  q : PySem.W.excIn K C [.type "ValueError", .type "Exception", .type "BaseException", .type "object"] "ValueError.__new__" = true
  g : mg x = some (.ref C)
  k : PySem.W.keepIn K (.ref C) = true
  b : PySem.W.subIn K (.ref C) (.type "BaseException") = some true
  t : PySem.W.typeIn K (.ref C) = some (.type "type")
section
variable {X : Cx} {W : WX} {C : Addr} {x m : Str} {j k : Nat} {p p2 pos pos' : Pos} {sp : Sp} {e : Expr} {es : List Expr} {t : TA}
structure CalX (P : Program) (w : World) (K : PySem.W.Frag) (mg : Str → Option Value) (base : Heap) (k : Nat) (x : Str) (sp : Sp) : Prop where
  ex : ∃ (f : Addr) (fd : FuncData) (ps : List Str), FnOk P w K mg base (L2.CX P w) k f fd ps sp ∧ mg x = some (.ref f) ∧ PySem.W.keepIn K (.ref f) = true ∧ Binds K fd ps []
theorem CalX.imp {P : Program} {w : World} {K : PySem.W.Frag} {mg : Str → Option Value} {base : Heap} {k k' : Nat} {x : Str} {sp sp' : Sp} (c : CalX P w K mg base k x sp) (h : ∀ vs H Q E, sp' vs H Q E → sp vs H Q E) (hk : k ≤ k') : CalX P w K mg base k' x sp' := by
  obtain ⟨f, fd, ps, F, a, b, c⟩ := c.ex
  exact ⟨f, fd, ps, (F.mono hk).imp h, a, b, c⟩
end
end B
namespace B
open PySem PySem.Spec PyProof.Rows L2 LamX NdefX
def spCX (K : PySem.W.Frag) (m n : Nat) (g : Al → List Sv → (Al → Sv → Prop) → (Al → Addr → Prop) → Prop) : List (Option V) → Sp := fun ws vs H Q E => vs.length = m ∧ ∃ cs : List V, ws = cs.map some ∧ spX K n g (vs ++ cs) H Q E
/-- the lambdas that mk makes keep a promise, or raise -/
class LamIsX (P : Program) (w : World) (K : PySem.W.Frag) (mg : Str → Option Value) (j : Nat) (mk : Addr → LF) (cl : List (Str × Addr)) (ls fr : List Str) (m : Nat) (nC : outParam Nat) (gl : outParam (Al → List Sv → (Al → Sv → Prop) → (Al → Addr → Prop) → Prop)) : Prop where
  cl : ∀ c', (mk c').cl = cl
  c : ∀ c', (mk c').c = c'
  ok : ∀ base f c', LamOk P w K mg base (L2.CX P w) j f (mk c') ls fr (spCX K m nC gl)
/-- what a def that gets such a lambda promises -/
def spSX (P : Program) (w : World) (K : PySem.W.Frag) (mg : Str → Option Value) (j n m : Nat) (ls : List Str) (gS : Al → List Sv → (Al → List Sv → (Al → Sv → Prop) → (Al → Addr → Prop) → Prop) → (Al → Sv → Prop) → Prop) : SpS := fun base vs H Q E => vs.length = n + 1 ∧
  ∃ (us : List V) (f : Addr) (F : LF) (fr : List Str) (cs : List V) (nC : Nat) (gl : Al → List Sv → (Al → Sv → Prop) → (Al → Addr → Prop) → Prop), vs = us ++ [.ref f] ∧ H f = some (LamO f F) ∧ H F.c = some (CodeO F.c F.qual) ∧ BaseC base F.cl fr (cs.map some) ∧ LamOk P w K mg base (L2.CX P w) j f F ls fr (spCX K m nC gl) ∧
    spH K (n + 1 + cs.length) (fun al as' Φ => ∃ as csv, as' = as ++ (.fn f :: csv) ∧ as.length = n ∧ csv.length + m = nC ∧ gS al as (fun al as Φ Ξ => gl al (as ++ csv) Φ Ξ) Φ) (us ++ (.ref f :: cs)) H Q E
section
variable {P : Program} {w : World} {K : PySem.W.Frag} {mg : Str → Option Value} {CX : CXT} {j n m nC : Nat} {ls fr : List Str} {cl : List (Str × Addr)} {js : List Nat} {mk : Addr → LF} {gl : Al → List Sv → (Al → Sv → Prop) → (Al → Addr → Prop) → Prop} {Γ : Gm}
  {gS : Al → List Sv → (Al → List Sv → (Al → Sv → Prop) → (Al → Addr → Prop) → Prop) → (Al → Sv → Prop) → Prop}
/-- f(lambda: ..) -/
instance [M : LamIsX P w K mg j mk cl ls fr m nC gl] : DE K Γ (tCallS cl fr js (spSX P w K mg j 0 m ls gS) E0 (tCons (tLam K mk) tNil))
    (fun δ Φ => onC (catchS δ.sl js) fun csv => csv.length + m = nC ∧ gS δ.al [] (fun al as Φ Ξ => gl al (as ++ csv) Φ Ξ) fun al' s => Φ s (δ.know al')) := ⟨fun {L δ σ S H Φ Q} J h2 q => by
  unfold onC at h2
  split at h2
  · rename_i csv ec
    refine ⟨J.tbs, fun f c' H2 fr2 nf e1 e2 => ?_⟩
    have J2 := J.more fr2
    obtain ⟨cs, ej, el, arC⟩ := catch_run J2 ec
    intro base' C
    rw [ej] at C
    rw [← M.cl c'] at C
    have arT : AR K Γ L H2 [.fn f] [.ref f] := ⟨_, _, rfl, rfl, rfl, (fun _ z => nomatch z), rfl⟩
    have e2' : H2 (mk c').c = some (CodeO (mk c').c (mk c').qual) := by rw [M.c c']; exact e2
    refine ⟨rfl, [], f, mk c', fr, cs, nC, gl, rfl, e1, e2', C, M.ok base' f c', ?_⟩
    refine Sim.called (n := 0 + 1 + cs.length) (g := fun al as' Φ => ∃ as csv', as' = as ++ (.fn f :: csv') ∧ as.length = 0 ∧ csv'.length + m = nC ∧ gS al as (fun al as Φ Ξ => gl al (as ++ csv') Φ Ξ) Φ) J2 (as := [.fn f] ++ csv) (vs := [.ref f] ++ cs) (arT.append arC) (by rw [List.length_append, el]; rfl) ⟨[], csv, rfl, rfl, h2.1, h2.2⟩ fun s L' al' v H' J3 h3 => q s L' _ v H' J3.topOf h3
  · exact h2.elim⟩
end
class ActsX (K : PySem.W.Frag) (Γ : Gm) (f : Addr) (F : LF) (sp : Sp) (m : outParam Nat) (ga : outParam (Al → List Sv → (Al → Sv → Prop) → (Al → Addr → Prop) → Prop)) : Prop where
  at_ : Γ.H0 f = some (LamO f F)
  cd : Γ.H0 F.c = some (CodeO F.c F.qual)
  run : ∀ {L : List Addr} {δ : Dn} {σ : L2.St} {S : List (Sv × V)} {H : Hp} {as : List Sv} {vs : List V} {Q : VK} {E : XK} {Φ : Sv → Dn → Prop} {Ξ : Dn → Addr → Prop}, Sim K Γ L δ σ S H → AR K Γ L H as vs → as.length = m → ga δ.al as (fun al' s => Φ s (δ.know al')) (fun al' C => Ξ (δ.know al') C) →
    (∀ s L' al' v H', Sim K Γ L' (δ.know al') σ ((s, v) :: S) H' → Φ s (δ.know al') → Q v H') → (∀ C L' al' H', Sim K Γ L' (δ.know al') σ S H' → Ξ (δ.know al') C → E (.ref C) none H') → sp vs H Q E
def tActX (i : Nat) (f : Addr) (F : LF) (sp : Sp) (W : WX) (t : TA) : TE := fun σ H Q => σ[i]? = some (some (.ref f)) ∧ H f = some (LamO f F) ∧ t σ H fun vs H1 => H1 f = some (LamO f F) ∧ H1 F.c = some (CodeO F.c F.qual) ∧ sp vs H1 Q (WE W σ)
section
variable {K : PySem.W.Frag} {Γ : Gm}
instance {i : Nat} {f : Addr} {F : LF} {sp : Sp} {m : Nat} {ga : Al → List Sv → (Al → Sv → Prop) → (Al → Addr → Prop) → Prop} {t : TA} {fa : Dn → (List Sv → Dn → Prop) → Prop} {W : WX} {Ξ : Dn → Addr → Prop} [XI : XW K Γ W Ξ] [C : ActsX K Γ f F sp m ga] [A : DA K Γ t fa] :
    DE K Γ (tActX i f F sp W t) (fun δ Φ => fnIs (δ.at_ i) f ∧ fa δ fun as δ1 => as.length = m ∧ ga δ1.al as (fun al' s => Φ s (δ1.know al')) (fun al' C => Ξ (δ1.know al') C)) := ⟨fun {L δ σ S H Φ Q} I h q => by
  obtain ⟨h0, h⟩ := h
  obtain ⟨_, v, e1, e2⟩ := I.slot i _ (at_some (show δ.at_ i = some (.fn f) from h0))
  cases (show v = .ref f from e2)
  refine ⟨e1, I.fr.lam C.at_, A.run I h fun as L1 δ1 vs H1 J ar h1 => ⟨J.fr.lam C.at_, J.fr.cod C.cd, ?_⟩⟩
  exact C.run J ar h1.1 h1.2 (fun s L' al' v H' J2 h2 => q s L' _ v H' J2.topOf h2) fun C' L' al' H' J2 h2 => XI.out J2 h2⟩
end
class CvOf (c : V) (cv : outParam Value) : Prop where
  of : ∀ u, RelV c u → u = cv
instance {a : Addr} : CvOf (.ref a) (.ref a) := ⟨fun u h => h⟩
instance {t : String} : CvOf (.ty t) (.type t) := ⟨fun u h => h⟩
def rIsP (K : PySem.W.Frag) (a : Addr) (cls : Value) (d : Option Addr) : List V → Hp → VK → Prop := fun xs H Q => ∃ (D : Addr) (c : V) (cv : Value) (b : Bool), cls = .ref D ∧ d = none ∧ ExcC K D ∧ xs = [.ref a, c] ∧ (∀ u, RelV c u → u = cv) ∧ PySem.W.kitOne K (.ref D) cv = some b ∧ Q (.bl b) H
def isP (K : PySem.W.Frag) (a : Addr) (cls : Value) (d : Option Addr) (cv : Value) (o : Option Sv) (k : Bool → Prop) : Prop := o = some (.fn a) ∧ ∃ D b, cls = .ref D ∧ d = none ∧ ExcC K D ∧ PySem.W.kitOne K (.ref D) cv = some b ∧ k b
section
variable {K : PySem.W.Frag} {Γ : Gm}
instance {i : Nat} {a : Addr} {cls : Value} {d : Option Addr} {c : V} {cv : Value} [V' : CvOf c cv] : DE K Γ (tCB (rIsP K a cls d) (tCons (tVar i) (tCons (tC c) tNil))) (fun δ Φ => isP K a cls d cv (δ.at_ i) fun b => Φ (.dat (.bool b)) δ) := ⟨fun {L δ σ S H Φ Q} I h q => by
  obtain ⟨h0, D, b, h1, h2, h3, h4, h5⟩ := h
  obtain ⟨_, v, e1, e2⟩ := I.slot i _ (at_some h0)
  cases (show v = .ref a from e2)
  exact ⟨_, e1, D, c, cv, b, h1, h2, h3, rfl, V'.of, h4, q (.dat (.bool b)) L δ _ H (I.dat rfl) h5⟩⟩
end
def rCntB (K : PySem.W.Frag) : V → List V → Hp → VK → Prop := fun x xs H Q => ∃ (a : Addr) (bs : List Bool) (b : Bool), x = .ref a ∧ xs = [.bl b] ∧ SqL K H a (bs.map V.bl) ∧ Q (.int (bs.count b : Nat)) H
def rIdxB (K : PySem.W.Frag) : V → List V → Hp → VK → Prop := fun x xs H Q => ∃ (a : Addr) (bs : List Bool) (b : Bool) (j : Nat), x = .ref a ∧ xs = [.bl b] ∧ SqL K H a (bs.map V.bl) ∧ bs[j]? = some b ∧ (∀ m, m < j → bs[m]? ≠ some b) ∧ Q (.int (j : Nat)) H
def blsD : List PyData → Option (List Bool)
  | [] => some []
  | .bool b :: ds => (blsD ds).map (b :: ·)
  | _ :: _ => none
theorem blsD_vals {K : PySem.W.Frag} {L : List Addr} {H : Hp} : ∀ {ds : List PyData} {bs : List Bool} {xs : List V}, blsD ds = some bs → Dvs K L H ds xs → xs = bs.map V.bl
  | [], bs, xs, h, r => by cases h; exact r
  | d :: ds, bs, xs, h, ⟨x, ys, e, h1, h2⟩ => by
    cases d with
    | bool b =>
      cases e2 : blsD ds with
      | none => rw [show blsD (.bool b :: ds) = (blsD ds).map (b :: ·) from rfl, e2] at h; cases h
      | some cs =>
        rw [show blsD (.bool b :: ds) = (blsD ds).map (b :: ·) from rfl, e2] at h
        cases h
        rw [e, show x = .bl b from h1, blsD_vals e2 h2]
        rfl
    | _ => cases h
def onTr (o : Option (List Bool)) (k : List Bool → Prop) : Prop := match o with
  | some bs => k bs
  | none => False
def idxB (bs : List Bool) (b : Bool) (k : Nat → Prop) : Prop := ∃ j, bs[j]? = some b ∧ (∀ m, m < j → bs[m]? ≠ some b) ∧ k j
section
variable {K : PySem.W.Frag} {Γ : Gm}
instance {eo e : TE} {fo fe : Dn → (Sv → Dn → Prop) → Prop} [O : DE K Γ eo fo] [E : DE K Γ e fe] : DE K Γ (tBM K "list" (rCntB K) eo (tCons e tNil)) (fun δ Φ => fo δ fun s δ1 => asD s δ1 fun x δ2 => onL x fun ds => onTr (blsD ds) fun bs => fe δ2 fun t δ3 => asD t δ3 fun y δ4 => onBo y fun b => Φ (.dat (.int (bs.count b : Nat))) δ4) := ⟨fun {L δ σ S H Φ Q} I h q => by
  refine DE.data (T := O) I h fun x L1 δ1 v H1 J h1 => ?_
  cases x with
  | list ds =>
    have h1 : onTr (blsD ds) _ := h1
    unfold onTr at h1
    split at h1
    · rename_i bs eb
      obtain ⟨a, xs, rfl, n, t, r⟩ := J.top
      refine ⟨.inl ⟨rfl, _, sqL_of t⟩, DE.data (T := E) J h1 fun y L2 δ2 u H2 J2 h2 => ?_⟩
      cases y with
      | bool b =>
        obtain ⟨a', xs', e', n', t', r'⟩ := J2.pop.top
        cases e'
        cases (show u = .bl b from J2.top)
        refine ⟨a, bs, b, rfl, rfl, ?_, q (.dat (.int _)) L2 δ2 _ H2 (J2.pop.pop.dat rfl) h2⟩
        rw [← blsD_vals eb r']
        exact sqL_of t'
      | _ => exact h2.elim
    · exact h1.elim
  | _ => exact h1.elim⟩
instance {eo e : TE} {fo fe : Dn → (Sv → Dn → Prop) → Prop} [O : DE K Γ eo fo] [E : DE K Γ e fe] : DE K Γ (tBM K "list" (rIdxB K) eo (tCons e tNil)) (fun δ Φ => fo δ fun s δ1 => asD s δ1 fun x δ2 => onL x fun ds => onTr (blsD ds) fun bs => fe δ2 fun t δ3 => asD t δ3 fun y δ4 => onBo y fun b => idxB bs b fun j => Φ (.dat (.int (j : Nat))) δ4) := ⟨fun {L δ σ S H Φ Q} I h q => by
  refine DE.data (T := O) I h fun x L1 δ1 v H1 J h1 => ?_
  cases x with
  | list ds =>
    have h1 : onTr (blsD ds) _ := h1
    unfold onTr at h1
    split at h1
    · rename_i bs eb
      obtain ⟨a, xs, rfl, n, t, r⟩ := J.top
      refine ⟨.inl ⟨rfl, _, sqL_of t⟩, DE.data (T := E) J h1 fun y L2 δ2 u H2 J2 h2 => ?_⟩
      cases y with
      | bool b =>
        obtain ⟨a', xs', e', n', t', r'⟩ := J2.pop.top
        cases e'
        cases (show u = .bl b from J2.top)
        obtain ⟨j, hj, hm, h3⟩ := h2
        refine ⟨a, bs, b, j, rfl, rfl, ?_, hj, hm, q (.dat (.int _)) L2 δ2 _ H2 (J2.pop.pop.dat rfl) h3⟩
        rw [← blsD_vals eb r']
        exact sqL_of t'
      | _ => exact h2.elim
    · exact h1.elim
  | _ => exact h1.elim⟩
end
end B
namespace L2H
open PySem PySem.Spec PyProof.Rows L2
theorem RoomH.units {k : Nat} {A : Around} (r : RoomH k A) : A.units + 64 < cLine := by have := r.un; omega
end L2H
namespace B
open PySem PySem.Spec PyProof.Rows L2 LamX NdefX
/-- a promise told of the exception's address and class -/
abbrev SpP := Addr → Addr → Sp
def tCallP (a : Addr) (cls : Value) (d : Option Addr) (sp : SpP) (t : TA) : TE := fun σ H Q => t σ H fun vs H1 => ∃ C, cls = .ref C ∧ d = none ∧ sp a C vs H1 Q E0
/-- its promise: a text, by the class -/
def spP (K : PySem.W.Frag) (g : Addr → (Str → Prop) → Prop) : SpP := fun a C vs H Q _ => vs = [.ref a] ∧ LamX.Tabs (LT K) H ∧ ∃ Φ : Str → Prop, g C Φ ∧ ∀ z H', Fr K [] H H' → Φ z → Q (.str z) H'
section
variable {K : PySem.W.Frag} {Γ : Gm}
instance {i : Nat} {a : Addr} {cls : Value} {d : Option Addr} {g : Addr → (Str → Prop) → Prop} : DE K Γ (tCallP a cls d (spP K g) (tCons (tVar i) tNil)) (fun δ Φ => δ.at_ i = some (.fn a) ∧ ∃ C, cls = .ref C ∧ d = none ∧ g C (fun z => Φ (.dat (.str z)) δ)) := ⟨fun {L δ σ S H Φ Q} I h q => by
  obtain ⟨h0, C, h1, h2, h3⟩ := h
  obtain ⟨_, v, e1, e2⟩ := I.slot i _ (at_some h0)
  cases (show v = .ref a from e2)
  exact ⟨_, e1, C, h1, h2, rfl, I.tbs, _, h3, fun z H' f hz => q (.dat (.str z)) L δ _ H' ((I.more f).dat rfl) hz⟩⟩
end
/-- what a class's name stands for -/
structure ExcNm (K : PySem.W.Frag) (mg : Str → Option Value) (x : Str) (C : Addr) : Prop where
  g : mg x = some (.ref C)
structure ExcTab (K : PySem.W.Frag) (mg : Str → Option Value) (CL : Addr) (xs : List Str) (Cs : List Addr) : Prop where
  len : xs.length = Cs.length
  gl : ∀ (i : Nat) (x : Str) (C : Addr), xs[i]? = some x → Cs[i]? = some C → ExcNm K mg x C
  at_ : ∀ (i : Nat) (x : Str) (C : Addr), xs[i]? = some x → Cs[i]? = some C → x ≠ "NoText" → ExcAt K mg x C
  nd : Cs.Nodup
  ec : ∀ C ∈ Cs, ExcC K C
  ex : ∀ C ∈ Cs, PySem.W.exmOne K (.ref C) (.ref CL) = some true
  va : ∀ C ∈ Cs, PySem.W.kitOne K (.ref C) (.type "ValueError") = some true
  ki : ∀ C ∈ Cs, ∀ D ∈ Cs, PySem.W.kitOne K (.ref C) (.ref D) = some (decide (C = D))
theorem exc1_ok {K : PySem.W.Frag} {h : Heap} {mg : Str → Option Value} {x CL : Str} (X : K.In h) (G : h.Ns mainGlobals mg) (b : exc1 x CL K = true) : mg x = some (.ref (He.ga K x)) ∧ (x ≠ "NoText" → ExcAt K mg x (He.ga K x)) ∧ ExcC K (He.ga K x) ∧ PySem.W.exmOne K (.ref (He.ga K x)) (.ref (He.ga K CL)) = some true ∧ PySem.W.kitOne K (.ref (He.ga K x)) (.type "ValueError") = some true := by
  obtain ⟨b1, b⟩ := He.ba b
  obtain ⟨b2, b⟩ := He.ba b
  obtain ⟨b3, b⟩ := He.ba b
  obtain ⟨b4, b⟩ := He.ba b
  obtain ⟨b5, b⟩ := He.ba b
  obtain ⟨b6, b⟩ := He.ba b
  obtain ⟨b7, b⟩ := He.ba b
  obtain ⟨b8, b⟩ := He.ba b
  obtain ⟨b9, b⟩ := He.ba b
  obtain ⟨b10, b⟩ := He.ba b
  obtain ⟨b11, b⟩ := He.ba b
  obtain ⟨b12, b⟩ := He.ba b
  obtain ⟨b13, b14⟩ := He.ba b
  exact ⟨He.glo_ok X G b1, fun ne => ⟨((Bool.or_eq_true _ _).mp b2).elim (fun z => absurd (of_decide_eq_true z) ne) id, He.glo_ok X G b1, b3, eq_of_beq b4, eq_of_beq b5⟩, ⟨eq_of_beq b6, eq_of_beq b7, eq_of_beq b4, b8, eq_of_beq b9, eq_of_beq b10, eq_of_beq b11, eq_of_beq b12⟩, eq_of_beq b13, eq_of_beq b14⟩
theorem fX_ok {K : PySem.W.Frag} {h : Heap} {mg : Str → Option Value} {CL : Str} {xs : List Str} (X : K.In h) (G : h.Ns mainGlobals mg) (b : fX CL xs K = true) : ExcTab K mg (He.ga K CL) xs (xs.map (He.ga K)) := by
  obtain ⟨b1, b⟩ := He.ba b
  obtain ⟨b2, b3⟩ := He.ba b
  have one : ∀ C ∈ xs.map (He.ga K), ∃ x ∈ xs, He.ga K x = C := fun C hC => List.mem_map.mp hC
  have at_ : ∀ x ∈ xs, _ := fun x hx => exc1_ok X G (List.all_eq_true.mp b1 x hx)
  refine ⟨(List.length_map ..).symm, fun i x C hx hC => ?_, fun i x C hx hC ne => ?_, of_decide_eq_true b2, fun C hC => ?_, fun C hC => ?_, fun C hC => ?_, fun C hC D hD => ?_⟩
  · rw [List.getElem?_map, hx] at hC
    cases hC
    exact ⟨(at_ x (List.mem_of_getElem? hx)).1⟩
  · rw [List.getElem?_map, hx] at hC
    cases hC
    exact (at_ x (List.mem_of_getElem? hx)).2.1 ne
  · obtain ⟨x, hx, rfl⟩ := one C hC
    exact (at_ x hx).2.2.1
  · obtain ⟨x, hx, rfl⟩ := one C hC
    exact (at_ x hx).2.2.2.1
  · obtain ⟨x, hx, rfl⟩ := one C hC
    exact (at_ x hx).2.2.2.2
  · obtain ⟨x, hx, rfl⟩ := one C hC
    obtain ⟨y, hy, rfl⟩ := one D hD
    exact eq_of_beq (List.all_eq_true.mp (List.all_eq_true.mp b3 x hx) y hy)
end B
namespace B
open PySem PySem.Spec PyProof.Rows L2
def tCatR (a b : TE) : TE := tOp rCat a b
section
variable {K : PySem.W.Frag} {Γ : Gm}
instance {a b : TE} {fa fb : Dn → (Sv → Dn → Prop) → Prop} [A : DE K Γ a fa] [B : DE K Γ b fb] :
    DE K Γ (tCatR a b) (fun δ Φ => fa δ fun s δ1 => onR s fun p => fb δ1 fun t δ2 => asD t δ2 fun y δ3 => asLst δ3.al p fun ss => allD ss fun ds => onL y fun es => ds.length + es.length ≤ 1000000 ∧ Φ (.own (ds ++ es)) δ3) := ⟨fun {L δ σ S H Φ Q} I h q => by
  refine A.run I h fun s L1 δ1 v H1 T h1 => ?_
  obtain ⟨p, rfl, rfl, J, h2⟩ := T.ref h1
  refine DE.data (T := B) J h2 fun y L2' δ2 u H2 J2 h3 => ?_
  obtain ⟨ss, xs, e1, e2, e3, h4⟩ := J2.lst h3
  unfold allD at h4
  split at h4
  · rename_i ds ed
    have r1 := datas_dvs e3 ed
    cases y with
    | list es =>
      obtain ⟨b, ys, rfl, n2, t2, r2⟩ := J2.top
      have l1 := r1.len
      have l2 := r2.len
      have hs := sizeLine_eq
      have h5 : ds.length + es.length ≤ 1000000 ∧ Φ (.own (ds ++ es)) δ2 := h4
      exact ⟨p, b, xs, ys, rfl, rfl, e2, t2, by omega, fun c np => q (.own (ds ++ es)) _ δ2 _ _ (J2.pop.new np (r1.app r2)) h5.2⟩
    | _ => exact h4.elim
  · exact h4.elim⟩
end
end B
set_option maxHeartbeats 1000000
namespace B
open PySem PySem.Spec PyProof.Rows L2 LamX NdefX
/-- looks at the heap: an exception without a dict; one whose dict is at d; a dict of fields -/
def exP (a C : Addr) : Heap → Prop := fun h => ∃ (oe : Obj) (vs : Array Value), h.get? a = some oe ∧ Zc (.ref C) none oe ∧ oe.data = .fields vs ∧ vs[1]? = some .none ∧ vs[2]? = some .none ∧ 4 < vs.size
def exN (a C d : Addr) : Heap → Prop := fun h => ∃ t1 : Addr, h.get? a = some ({ cls := .ref C, dict := some d, data := .fields #[.ref t1, .none, .none, .none, .bool false, .none] } : Obj)
def exF (d : Addr) (fs : List (Str × V)) : Heap → Prop := fun h => ∃ mA, h.Ns1 d mA ∧ ∀ f, RelO (fs.lookup f) (mA f)
/-- at a an exception of class C is known -/
def ExK (al : Al) (a C : Addr) : Prop := al a = some (.ext (exP a C)) ∨ ∃ d fs, al a = some (.ext (exN a C d)) ∧ al d = some (.ext (exF d fs))
theorem ExK.sub {al al' : Al} {a C : Addr} (h : ExK al a C) (s : Sub al al') : ExK al' a C := by
  rcases h with e | ⟨d, fs, e1, e2⟩
  · exact .inl (s _ _ e)
  · exact .inr ⟨d, fs, s _ _ e1, s _ _ e2⟩
section
variable {X : Cx} {K : PySem.W.Frag}
def rIsV (K : PySem.W.Frag) : List V → Hp → VK → Prop := fun xs H Q => ∃ (a C : Addr) (c : V) (cv : Value) (b : Bool), xs = [.ref a, c] ∧ (∀ u, RelV c u → u = cv) ∧ ExcC K C ∧ (H a = some (.ext (exP a C)) ∨ ∃ d fs, H a = some (.ext (exN a C d)) ∧ H d = some (.ext (exF d fs))) ∧
  PySem.W.kitOne K (.ref C) cv = some b ∧ Q (.bl b) H
theorem call_isV (hK : X.K = K) : CallR X (.builtin "isinstance") (rIsV K) := by
  subst hK
  intro pins s σ H xs us Q I r h
  obtain ⟨a, C, c, cv, b, rfl, hcv, E, ha, e, q⟩ := h
  cases r with
  | cons rx rr =>
    cases rr with
    | cons rt rr =>
      cases rr
      cases rx
      have ec := hcv _ rt
      subst ec
      rcases ha with ha | ⟨d, fs, ha, hd⟩
      · have z : ObjOk X.prog X.w H s.heap a (.ext (exP a C)) := I.hok a _ ha
        obtain ⟨⟨oe, vs, hg, hz, hv, _⟩, _⟩ := z
        have J : PySem.W.InstAt s.heap a oe C none := by
          obtain ⟨oc, od, oda, osl⟩ := oe
          obtain ⟨h1, h2⟩ := hz
          dsimp only at h1 h2 hv
          subst h1 h2 hv
          exact ⟨hg, rfl, rfl, trivial⟩
        exact PySem.W.kia_one (PySem.W.handS_kitx_exc E.hg E.hk E.hs E.hd E.ha E.hn E.ht E.hm) I.kIn J e (fun z => nomatch z) fun tk => ⟨.bl b, H, I.kept (t' := tk) fun _ _ z => z, rfl, q⟩
      · have z : ObjOk X.prog X.w H s.heap a (.ext (exN a C d)) := I.hok a _ ha
        have y : ObjOk X.prog X.w H s.heap d (.ext (exF d fs)) := I.hok d _ hd
        obtain ⟨⟨t1, hg⟩, _⟩ := z
        obtain ⟨⟨mA, hns, _⟩, _⟩ := y
        obtain ⟨oD, _, _, hoD, _⟩ := hns
        have J : PySem.W.InstAt s.heap a { cls := .ref C, dict := some d, data := .fields #[.ref t1, .none, .none, .none, .bool false, .none] } C (some oD) := ⟨hg, rfl, rfl, hoD⟩
        have hcl : (PySem.W.clsIn X.K C).isSome = true := by
          obtain ⟨cd, hc, _⟩ := PySem.W.any_some E.hd
          rw [hc]; rfl
        exact PySem.W.kia_one (PySem.W.kitx_exc hcl E.hg E.hk E.hs E.ha E.hn E.ht E.hm) I.kIn J e (fun z => nomatch z) fun tk => ⟨.bl b, H, I.kept (t' := tk) fun _ _ z => z, rfl, q⟩
def tExc (C : Addr) (ta : TE) : TE := fun σ H Q => ta σ H fun _ H1 => ∀ a, H1 a = none → Q (.ref a) (upd H1 a (.ext (exP a C)))
theorem pe_excV {C : Addr} {x : Str} {e : Expr} {ta : TE} {p pos : Pos} (F : ExcAt X.K X.mg x C) (hg : Gl X x) (he : PE X e ta) (hdb : (x == ("__debug__" : Str)) = false := by decide)
    (hs : starEach [e] X.env = (false, eval e X.env) :: starEach [] X.env := by rfl) : PE X (.Call (.Name x p) [e] [] pos) (tExc C ta) :=
  pe_exc1 PySem.F.excBase_ValueError F.q F.g F.k hg he hs hdb
/-- LayError.__init__, as the class tells it -/
structure IniX (K : PySem.W.Frag) (mg : Str → Option Value) (L : Addr) : Prop where
  g : mg "LayError" = some (.ref L)
  rd : PySem.W.readsIn K L (.type "type") = true
  ga : PySem.W.specialIn K (.ref L) "__getattribute__" = some (some (.builtin "type.__getattribute__"))
  at_ : PySem.W.findCls K (.ref L) (.type "type") "__init__" = some (.val (.builtin "ValueError.__init__"))
theorem pe_layinit {L : Addr} {e : Expr} {es : List Expr} {ta : TA} {p1 p2 pos : Pos} {pl : Sem Bool} (T : IniX X.K X.mg L) (hg : Gl X "LayError") (ha : PA X (e :: es) ta)
    (hc : eval (.Call (.Attribute (.Name "LayError" p1) "__init__" p2) (e :: es) [] pos) X.env = (do
      let ov ← eval (.Name "LayError" p1) X.env
      standAt p2.atName
      let (f, first) ← holding [ov] (getMethod ov "__init__" pl)
      callWith pos f first (backTo pos (starEach (e :: es) X.env)) (backToKw pos (keywordEach [] X.env))) := by rfl)
    (he : starEach (e :: es) X.env = (false, eval e X.env) :: starEach es X.env := by rfl) (hpl : (backTo pos (starEach es X.env)).any (·.1) = false := by rfl) :
    PE X (.Call (.Attribute (.Name "LayError" p1) "__init__" p2) (e :: es) [] pos) (tVeI X.K ta) := by
  refine ⟨fun pins s σ H Q I h => ?_⟩
  refine PySem.W.methodCall_KW (ld_glob I hg T.g ?_ (by decide)) hc
  refine PySem.W.method_cls I.kIn T.ga (PySem.W.cls_value I.kIn T.rd T.at_ rfl ?_)
  refine PyProof.Rows.callWith_method1 (thn (ha.run pos pins _ σ H _ (I.tok _) h) fun us s1 ⟨vs, H1, I1, r1, a, C, ws, ev, hl, T, ea, q⟩ => ?_) he hpl
  subst ev
  cases r1 with
  | @cons _ u0 _ ur ra rw' =>
    obtain rfl : u0 = Value.ref a := ra
    have hlen : ur.length ≤ sizeLine := by
      rw [← Paired.length rw', sizeLine_eq]
      omega
    exact oinit_ok T I1 ea hlen fun s' J => ⟨.non, H1, J, rfl, q⟩
/-- what is known of the class and its __init__ -/
structure NtAt (K : PySem.W.Frag) (mg : Str → Option Value) (x : Str) (C : Addr) (q : Str) (st : Stmt) (ps : List Str) : Prop where
  g : mg x = some (.ref C)
  T : OexC K C
  no : PySem.W.findIn K (.ref C) "line" = some none
  ex : ∃ (f : Addr) (fd : FuncData), FunD K "__init__" q (defArgs st) (defBody st) (defScope st) [] [] f fd ∧ PySem.W.findIn K (.ref C) "__init__" = some (some (.ref f)) ∧ PySem.W.typeIn K (.ref f) = some (.type "function") ∧ Binds K fd ps []
/-- the promise of such an __init__ -/
def spNt (K : PySem.W.Frag) (C : Addr) : Sp := fun vs H Q _ => ∃ (a : Addr) (y : V), vs = [.ref a, y] ∧ H a = some (exo a C none) ∧ ∀ d, H d = none → d ≠ a → Q .non (upd (upd H d (exd d [("line", y)])) a (exo a C (some d)))
def tExcN (C : Addr) (t : TA) : TE := fun σ H Q => t σ H fun vs H1 => ∃ y, vs = [y] ∧ ∀ a d, H1 a = none → d ≠ a → (upd H1 a (exo a C none)) d = none → Q (.ref a) (upd (upd (upd H1 a (exo a C none)) d (exd d [("line", y)])) a (exo a C (some d)))
structure MkN (P : Program) (w : World) (K : PySem.W.Frag) (mg : Str → Option Value) (base : Heap) (k : Nat) (x : Str) (C : Addr) : Prop where
  ex : ∃ (f : Addr) (fd : FuncData) (ps : List Str), FnOk P w K mg base CX0 k f fd ps (spNt K C) ∧ mg x = some (.ref C) ∧ OexC K C ∧ PySem.W.findIn K (.ref C) "__init__" = some (some (.ref f)) ∧ PySem.W.typeIn K (.ref f) = some (.type "function") ∧ Binds K fd ps []
theorem pe_excN {C : Addr} {x : Str} {k j : Nat} {e : Expr} {t : TA} {p pos : Pos} (M : MkN X.prog X.w X.K X.mg X.base k x C) (hr : Room j X.A) (hk : k + 1 ≤ j) (hg : Gl X x) (ha : PA X [e] t)
    (hdb : (x == ("__debug__" : Str)) = false := by decide) (he : starEach [e] X.env = (false, eval e X.env) :: starEach [] X.env := by rfl) (hpl : (backTo pos (starEach [] X.env)).any (·.1) = false := by rfl) :
    PE X (.Call (.Name x p) [e] [] pos) (tExcN C t) := by
  obtain ⟨fI, fd, ps, F1, hm, T, iC, tI, hb⟩ := M.ex
  have hr := hr.mono hk
  refine ⟨fun pins s σ H Q I h => ?_⟩
  obtain ⟨nm, q, N, bs, bm, sn, sub, ab, col, dd, k0, k1, k2, k3, k5, hC, hbm⟩ := T.cls
  refine wpAny_Call_Name_kw (ld_glob I hg hm ?_ hdb)
  refine PySem.W.callWith_K (h₀ := X.base) I.ok.mod.kin T.kC (thn (ha.run pos pins s σ H _ I h) fun us s1 ⟨vs, H1, I1, r1, y, ey, q1⟩ => ⟨I1.kIn, ?_⟩) he hpl
  subst ey
  show wpAny _ _ (call (.ref C) us) _ _ _
  obtain ⟨hp, g, dr, tk, os⟩ := s1
  have hsz : hp.objs.size ≤ hp.objs.size + 1 := Nat.le_succ _
  have hn : H1 (hp.objs.size + 1) = none := I1.hok.fresh hsz
  have kk : ∀ b o, hp.get? b = some o → ((hp.push (PySem.W.kdv_tup us)).push (PySem.HandSPX.excO C hp.objs.size)).get? b = some o := fun b o e => Heap.get?_push_of_some _ (Heap.get?_push_of_some _ e)
  have hget : ((hp.push (PySem.W.kdv_tup us)).push (PySem.HandSPX.excO C hp.objs.size)).get? (hp.objs.size + 1) = some (PySem.HandSPX.excO C hp.objs.size) := by heap_get
  have I2 : Inv X pins σ (upd H1 (hp.objs.size + 1) (exo (hp.objs.size + 1) C none)) ⟨(hp.push (PySem.W.kdv_tup us)).push (PySem.HandSPX.excO C hp.objs.size), g, dr, tk, os⟩ :=
    I1.laid (t' := tk) (a := hp.objs.size + 1) (o := exo (hp.objs.size + 1) C none) (h' := (hp.push (PySem.W.kdv_tup us)).push (PySem.HandSPX.excO C hp.objs.size)) kk hsz (exo_ok hget)
  have r2 : Vals [V.ref (hp.objs.size + 1), y] (Value.ref (hp.objs.size + 1) :: us) := .cons rfl r1
  have hq : spNt X.K C [V.ref (hp.objs.size + 1), y] (upd H1 (hp.objs.size + 1) (exo (hp.objs.size + 1) C none)) (fun v H2 => v = .non ∧ Q (.ref (hp.objs.size + 1)) H2) E0 :=
    ⟨_, y, rfl, upd_same, fun d hd ne => ⟨rfl, q1 _ d hn ne hd⟩⟩
  have hl : (Value.ref (hp.objs.size + 1) :: us).length = ps.length := by
    have e := r2.length
    rw [F1.len _ _ _ _ hq] at e
    exact e.symm
  have hus : us.length ≤ sizeLine := by
    rw [← Paired.length r1, sizeLine_eq]
    show 1 ≤ _
    omega
  have hbb := hb ⟨(hp.push (PySem.W.kdv_tup us)).push (PySem.HandSPX.excO C hp.objs.size), g, dr, tk, os⟩ (Value.ref (hp.objs.size + 1) :: us) I2.kIn (by rw [List.append_nil]; exact hl)
  rw [List.append_nil] at hbb
  refine wpAny_call (PySem.HandSPX.call_own F.excBase_ValueError (fun Y => PySem.HandSPX.refsVE_contains Y bm hbm) (I1.kIn _ _ hC) (PySem.W.looks_findIn I1.kIn iC) (fun self => PySem.W.bind_fn I1.kIn self tI) hus
    (codeAny_mono (F1.run _ X.stack _ _ ⟨Value.ref (hp.objs.size + 1) :: us, []⟩ (Value.ref (hp.objs.size + 1) :: us) _ _ (fun _ _ _ => False) (hr.make C us []) (I2.env0.make C us []) hbb r2 hq) fun r s' hq' => ?_))
  cases r with
  | error er => exact pass0 pins σ _ _ er s' I2 hq'
  | ok fl =>
    cases fl with
    | ret u =>
      obtain ⟨v, H3, J, rv, rfl, qv⟩ := I2.after hq'
      cases (show u = Value.none from rv)
      exact ⟨rfl, .ref (hp.objs.size + 1), H3, J, rfl, qv⟩
    | next => exact False.elim hq'
    | brk => exact False.elim hq'
    | cont => exact False.elim hq'
/-- a.line -/
def tLine (K : PySem.W.Frag) (to : TE) : TE := fun σ H Q => to σ H fun x H1 => ∃ (a C d : Addr) (y : V), x = .ref a ∧ XfC K C ∧ PySem.W.findIn K (.ref C) "line" = some none ∧ H1 a = some (.ext (exN a C d)) ∧ H1 d = some (.ext (exF d [("line", y)])) ∧ Q y H1
theorem pe_line (hK : X.K = K) {e : Expr} {to : TE} {pos : Pos} (he : PE X e to) (hb : attributeBase e "line" X.env (eval e X.env) = eval e X.env := by rfl) : PE X (.Attribute e "line" pos) (tLine K to) := by
  subst hK
  refine ⟨fun pins s σ H Q I h => ?_⟩
  refine attr_of hb (thn (he.run pins s σ H _ I h) fun u s1 hh => ?_)
  obtain ⟨x, H1, I1, rx, a, C, d, y, ex, T, hno, ha, hd, q⟩ := hh
  subst ex
  obtain rfl : u = Value.ref a := rx
  have z : ObjOk X.prog X.w H1 s1.heap a (.ext (exN a C d)) := I1.hok a _ ha
  have w : ObjOk X.prog X.w H1 s1.heap d (.ext (exF d [("line", y)])) := I1.hok d _ hd
  obtain ⟨⟨t1, hg⟩, _⟩ := z
  obtain ⟨⟨mA, hns, hr⟩, _⟩ := w
  obtain ⟨oD, es, ep, hoD, hl⟩ := hns
  have hns : s1.heap.Ns1 d mA := ⟨oD, es, ep, hoD, hl⟩
  obtain ⟨od, ho, hl⟩ := lookIn_ns hns
  obtain ⟨u, hu, ru⟩ := RelO.some_of (v := y) (o := mA "line") (by exact hr "line")
  have J : PySem.W.InstAt s1.heap a { cls := .ref C, dict := some d, data := .fields #[.ref t1, .none, .none, .none, .bool false, .none] } C (some od) := ⟨hg, rfl, rfl, ho⟩
  exact HandSPX.exc_get I1.kIn J T.ga T.gg T.exC (PySem.W.findObj_own T.hdC hno rfl (by rw [hl, hu])) (handed_of ru) ⟨y, H1, I1.tok _, ru, q⟩
end
def isV (K : PySem.W.Frag) (al : Al) (a : Addr) (cv : Value) (k : Bool → Prop) : Prop := ∃ C b, ExK al a C ∧ ExcC K C ∧ PySem.W.kitOne K (.ref C) cv = some b ∧ k b
theorem isV_of {K : PySem.W.Frag} {al : Al} {a C : Addr} {cv : Value} {b : Bool} {k : Bool → Prop} (h : ExK al a C) (x : ExcC K C) (e : PySem.W.kitOne K (.ref C) cv = some b) (q : k b) : isV K al a cv k := ⟨C, b, h, x, e, q⟩
section
variable {K : PySem.W.Frag} {Γ : Gm}
theorem ExK.at {L : List Addr} {δ : Dn} {σ : L2.St} {S : List (Sv × V)} {H : Hp} {a C : Addr} (I : Sim K Γ L δ σ S H) (h : ExK δ.al a C) : H a = some (.ext (exP a C)) ∨ ∃ d fs, H a = some (.ext (exN a C d)) ∧ H d = some (.ext (exF d fs)) := by
  rcases h with e | ⟨d, fs, e1, e2⟩
  · exact .inl (I.obj _ _ e).2
  · exact .inr ⟨d, fs, (I.obj _ _ e1).2, (I.obj _ _ e2).2⟩
instance {e : TE} {fe : Dn → (Sv → Dn → Prop) → Prop} {c : V} {cv : Value} [E : DE K Γ e fe] [V' : CvOf c cv] : DE K Γ (tCB (rIsV K) (tCons e (tCons (tC c) tNil))) (fun δ Φ => fe δ fun s δ1 => onR s fun a => isV K δ1.al a cv fun b => Φ (.dat (.bool b)) δ1) := ⟨fun {L δ σ S H Φ Q} I h q =>
  E.run I h fun s L1 δ1 v H1 T h1 => by
    obtain ⟨a, rfl, rfl, J, C, b, h2, h3, h4, h5⟩ := T.ref h1
    exact ⟨a, C, c, cv, b, rfl, V'.of, h3, h2.at J, h4, q (.dat (.bool b)) L1 δ1 (.bl b) H1 (J.dat (d := .bool b) rfl) h5⟩⟩
instance {C : Addr} {e : TE} {fe : Dn → (Sv → Dn → Prop) → Prop} [E : DE K Γ e fe] : DE K Γ (tExc C e) (fun δ Φ => fe δ fun s δ1 => ∀ a, δ1.al a = none → Φ (.ref a) (δ1.know (oup δ1.al a (.ext (exP a C))))) := ⟨fun {L δ σ S H Φ Q} I h q =>
  E.run I h fun s L1 δ1 v H1 T h1 => fun a na => by
    have J := T.drop
    have J2 := J.newOb (u := .ext (exP a C)) (o := .ext (exP a C)) na upd_same
    exact q (.ref a) _ _ _ _ (J2.push (s := .ref a) rfl rfl fun _ z => nomatch z) (h1 a (J.fresh na).1)⟩
instance {C : Addr} {t : TA} {f : Dn → (List Sv → Dn → Prop) → Prop} [A : DA K Γ t f] : DE K Γ (tExcN C t) (fun δ Φ => f δ fun as δ1 => ∃ n : Int, as = [.dat (.int n)] ∧ ∀ a d, δ1.al a = none → δ1.al d = none → d ≠ a → Φ (.ref a) (δ1.know (oup (oup δ1.al d (.ext (exF d [("line", .int n)]))) a (.ext (exN a C d))))) := ⟨fun {L δ σ S H Φ Q} I h q => by
  refine A.run I h fun ss L1 δ1 vs H1 J ar h1 => ?_
  obtain ⟨n, rfl, h2⟩ := h1
  obtain ⟨y, r, rfl, h3, _, _, h4⟩ := ar
  cases (show r = [] from h4)
  cases (show y = .int n from h3)
  refine ⟨_, rfl, fun a d na ne nd => ?_⟩
  have nd0 : H1 d = none := by rw [upd_ne ne] at nd; exact nd
  have e : upd (upd (upd H1 a (exo a C none)) d (exd d [("line", V.int n)])) a (exo a C (some d)) = upd (upd H1 d (.ext (exF d [("line", V.int n)]))) a (.ext (exN a C d)) := by
    funext b
    by_cases h1 : b = a
    · rw [h1, upd_same, upd_same]; rfl
    · rw [upd_ne h1, upd_ne h1]
      by_cases h2 : b = d
      · rw [h2, upd_same, upd_same]; rfl
      · rw [upd_ne h2, upd_ne h2, upd_ne h1]
  rw [e]
  have J1 := J.newOb (u := .ext (exF d [("line", V.int n)])) (o := .ext (exF d [("line", .int n)])) nd0 upd_same
  have na1 : (upd H1 d (.ext (exF d [("line", V.int n)]))) a = none := by rw [upd_ne (Ne.symm ne)]; exact na
  have J2 := J1.newOb (u := .ext (exN a C d)) (o := .ext (exN a C d)) na1 upd_same
  exact q (.ref a) _ _ _ _ (J2.push (s := .ref a) rfl rfl fun _ z => nomatch z) (h2 a d (J.fresh na).1 (J.fresh nd0).1 ne)⟩
instance {e : TE} {fe : Dn → (Sv → Dn → Prop) → Prop} [E : DE K Γ e fe] : DE K Γ (tLine K e) (fun δ Φ => fe δ fun s δ1 => onR s fun a => ∃ C d n, XfC K C ∧ PySem.W.findIn K (.ref C) "line" = some none ∧ δ1.al a = some (.ext (exN a C d)) ∧ δ1.al d = some (.ext (exF d [("line", .int n)])) ∧ Φ (.dat (.int n)) δ1) := ⟨fun {L δ σ S H Φ Q} I h q =>
  E.run I h fun s L1 δ1 v H1 T h1 => by
    obtain ⟨a, rfl, rfl, J, C, d, n, h2, h3, h4, h5, h6⟩ := T.ref h1
    exact ⟨a, C, d, .int n, rfl, h2, h3, (J.obj _ _ h4).2, (J.obj _ _ h5).2, q (.dat (.int n)) L1 δ1 (.int n) H1 (J.dat (d := .int n) rfl) h6⟩⟩
end
theorem oexB_ok {K : PySem.W.Frag} {C : Addr} (h : oexB K C = true) : ∃ nm q N bs bm sn sub ab col dd k0 k1 k2 k3 k5, K.lookup C = some (excClassObj nm q C N bs bm true sn sub ab col dd k0 k1 k2 k3 k5 "ValueError.__new__") ∧ PySem.HandSPX.refsVE bm = true := by
  unfold oexB at h
  split at h
  · rename_i dd cd sl ho
    split at h
    · rename_i C' bm k0 k1 k2 k3 n k5 hm hs
      simp only [Bool.and_eq_true, beq_iff_eq, Bool.not_eq_true'] at h
      obtain ⟨⟨⟨⟨rfl, rfl⟩, hdel⟩, hh⟩, hb⟩ := h
      obtain ⟨nm, bs, mro, ns, qn, hd, sn, sub, ab, col, del⟩ := cd
      dsimp only at hm hdel hh
      subst hm hdel hh
      have hsl : sl = #[k0, k1, k2, k3, some (.builtin "ValueError.__new__"), k5] := by
        obtain ⟨l⟩ := sl
        simp only at hs
        rw [hs]
      subst hsl
      exact ⟨nm, qn, ns, bs, bm, sn, sub, ab, col, dd, k0, k1, k2, k3, k5, ho, hb⟩
    · cases h
  · cases h
theorem initB_ok {o : Option PySem.W.CFound} (h : initB o = true) : o = some (.val (.builtin "ValueError.__init__")) := by
  unfold initB at h
  split at h
  · rw [eq_of_beq h]
  · cases h
theorem fL_ok {K : PySem.W.Frag} {h : Heap} {mg : Str → Option Value} {CL : Str} {xs : List Str} (X : K.In h) (G : h.Ns mainGlobals mg) (ne : CL ≠ "NoText") (b : fL CL xs K = true) : ExcAt K mg CL (He.ga K CL) ∧ ExcC K (He.ga K CL) ∧ PySem.W.kitOne K (.ref (He.ga K CL)) (.type "ValueError") = some true ∧
    ∀ C ∈ xs.map (He.ga K), PySem.W.kitOne K (.ref C) (.ref (He.ga K CL)) = some true ∧ PySem.W.kitOne K (.ref (He.ga K CL)) (.ref C) = some false := by
  obtain ⟨b1, b2⟩ := He.ba b
  have o := exc1_ok X G b1
  refine ⟨o.2.1 ne, o.2.2.1, o.2.2.2.2, fun C hC => ?_⟩
  obtain ⟨x, hx, rfl⟩ := List.mem_map.mp hC
  obtain ⟨c1, c2⟩ := He.ba (List.all_eq_true.mp b2 x hx)
  exact ⟨eq_of_beq c1, eq_of_beq c2⟩
theorem fNt_ok {K : PySem.W.Frag} {h : Heap} {mg : Str → Option Value} {CL x : Str} {q : Str} {st : Stmt} {ps : List Str} (X : K.In h) (G : h.Ns mainGlobals mg) (b : fNt CL x "line" K = true) (hL : CL = "LayError")
    (F : ∃ fd, FunD K "__init__" q (defArgs st) (defBody st) (defScope st) [] [] (He.ma K (He.ga K x) "__init__") fd)
    (hb : ∀ (kV doc pm : Value) (an : Option Addr) (cdv ct : Value) (us : List Value), us.length = ps.length → bindArgs (PySem.W.fnOf "__init__" q (defArgs st) (defBody st) (defScope st) .none kV doc pm an cdv ct) ⟨us, []⟩ = pure (ps.zip us)) :
    NtAt K mg x (He.ga K x) q st ps ∧ XfC K (He.ga K x) ∧ IniX K mg (He.ga K CL) := by
  subst hL
  obtain ⟨b1, b⟩ := He.ba b
  obtain ⟨b2, b⟩ := He.ba b
  obtain ⟨b3, b⟩ := He.ba b
  obtain ⟨b4, b⟩ := He.ba b
  obtain ⟨b5, b⟩ := He.ba b
  obtain ⟨b6, b⟩ := He.ba b
  obtain ⟨b7, b⟩ := He.ba b
  obtain ⟨b8, b⟩ := He.ba b
  obtain ⟨b9, b⟩ := He.ba b
  obtain ⟨b10, b⟩ := He.ba b
  obtain ⟨b11, b⟩ := He.ba b
  obtain ⟨b12, b⟩ := He.ba b
  obtain ⟨b13, b⟩ := He.ba b
  obtain ⟨b14, b⟩ := He.ba b
  obtain ⟨b15, b16⟩ := He.ba b
  obtain ⟨fd, F⟩ := F
  exact ⟨⟨He.glo_ok X G b1, ⟨oexB_ok b3, eq_of_beq b4, eq_of_beq b5, eq_of_beq b6, b7⟩, eq_of_beq b8, _, fd, F, eq_of_beq b9, eq_of_beq b10, (funD_fun F).binds hb⟩,
    ⟨eq_of_beq b11, eq_of_beq b12, eq_of_beq b5, b13⟩, ⟨He.glo_ok X G b2, b14, eq_of_beq b15, initB_ok b16⟩⟩
end B
namespace B
open PySem PySem.Spec PyProof.Rows L2
def tCatO (a b : TE) : TE := tOp rCat a b
theorem pe_catO {X : Cx} {a b : TE} {l r : Expr} {pos : Pos} (ha : PE X l a) (hb : PE X r b) : PE X (.BinOp l .Add r pos) (tCatO a b) := pe_op op_cat ha hb
def iEnumO (K : PySem.W.Frag) (ta : TA) : TI := iEnum K ta
theorem pi_enumO (K : PySem.W.Frag) {X : Cx} {e : Expr} {ta : TA} {p pos tpos : Pos} {elts : List Expr} {kk : Nat} (h : X.K = K) (hg : Gl X "enumerate") (hm : X.mg "enumerate" = none) (ha : PA X [e] ta) (hs : starEach [e] X.env = [(false, eval e X.env)] := by rfl) :
    PI X (.Tuple elts kk tpos) (.Call (.Name "enumerate" p) [e] [] pos) (iEnumO K ta) := by subst h; exact pi_enum hg hm ha hs
/-- over the known list at a, from place i on -/
def forE (a : Addr) (all : List Sv) (f1 f2 : Sv → Dn → (Dn → Prop) → Prop) (fb : Dn → Dk → Prop) (Ψ : Dk) : Nat → List Sv → Dn → Prop
  | _, [], δ => Ψ.nx δ
  | i, s :: ss, δ => inOb s fun t => f1 (.dat (.int i)) δ fun δ1 => f2 t δ1 fun δ2 => fb δ2 { Ψ with nx := fun δ3 => δ3.al a = some (.lst all) ∧ forE a all f1 f2 fb Ψ (i + 1) ss δ3, ct := fun δ3 => δ3.al a = some (.lst all) ∧ forE a all f1 f2 fb Ψ (i + 1) ss δ3, bk := Ψ.nx }
section
variable {K : PySem.W.Frag} {Γ : Gm}
instance {a b : TE} {fa fb : Dn → (Sv → Dn → Prop) → Prop} [A : DE K Γ a fa] [B : DE K Γ b fb] :
    DE K Γ (tCatO a b) (fun δ Φ => fa δ fun s δ1 => onR s fun p => fb δ1 fun t δ2 => onR t fun q => asLst δ2.al p fun ss => asLst δ2.al q fun ts => ss.length + ts.length ≤ 1000000 ∧ ∀ r, δ2.al r = none → Φ (.ref r) (δ2.know (oup δ2.al r (.lst (ss ++ ts))))) := ⟨fun {L δ σ S H Φ Q} I h q => by
  refine A.run I h fun s L1 δ1 v H1 T h1 => ?_
  obtain ⟨p, rfl, rfl, J, h2⟩ := T.ref h1
  refine B.run J h2 fun t L2' δ2 u H2 T2 h3 => ?_
  obtain ⟨p2, rfl, rfl, J2, h4⟩ := T2.ref h3
  obtain ⟨ss, xs, e1, e2, e3, h5⟩ := J2.lst h4
  obtain ⟨ts, ys, d1, d2, d3, h6⟩ := J2.lst h5
  have l1 := e3.len
  have l2 := d3.len
  have hs := sizeLine_eq
  refine ⟨p, p2, xs, ys, rfl, rfl, e2, d2, by omega, fun r nr => ?_⟩
  have J3 := J2.newOb (u := .lst (xs ++ ys)) (o := .lst (ss ++ ts)) nr ⟨_, upd_same, (e3.app d3).mono (fun b hb => (List.mem_cons.mp hb).elim (fun e => .inr (e ▸ nr)) .inl) (.new nr) (P := []) fun _ z => nomatch z⟩
  exact q (.ref r) _ _ _ _ (J3.push (s := .ref r) rfl rfl fun _ z => nomatch z) (h6.2 r (J2.fresh nr).1)⟩
theorem inOb_in {s : Sv} {k : Sv → Prop} (h : inOb s k) : k s ∧ ∀ p, s ≠ .pen p := by
  cases s with
  | dat d => exact ⟨h, fun _ z => nomatch z⟩
  | ref d => exact ⟨h, fun _ z => nomatch z⟩
  | fn d => exact ⟨h, fun _ z => nomatch z⟩
  | _ => exact h.elim
theorem Sim.itemS {L : List Addr} {δ : Dn} {σ : L2.St} {S : List (Sv × V)} {H : Hp} {s : Sv} {v : V} (I : Sim K Γ L δ σ S H) (h : SvI K L H s v) (np : ∀ p, s ≠ .pen p) : Sim K Γ L δ σ ((s, v) :: S) H := by
  cases s with
  | dat d => exact I.dat h
  | ref a => exact I.push (s := .ref a) h rfl fun _ z => nomatch z
  | fn a => exact I.push (s := .fn a) h rfl fun _ z => nomatch z
  | pen p => exact absurd rfl (np p)
  | own ds => exact h.elim
  | ali i => exact h.elim
/-- for i, x in enumerate(a known list) -/
instance {ta : TE} {g1 g2 : TG} {tb : TS} {fa : Dn → (Sv → Dn → Prop) → Prop} {f1 f2 : Sv → Dn → (Dn → Prop) → Prop} {w1 w2 : List Nat} {fb : Dn → Dk → Prop} [A : DE K Γ ta fa] [G1 : DG K Γ g1 f1 w1] [G2 : DG K Γ g2 f2 w2] [Bd : DS K Γ tb fb] :
    DS K Γ (tFor (iEnumO K (tCons ta tNil)) (gTup K 2 (gCons g1 (gCons g2 gNil))) tb) (fun δ Ψ => fa δ fun s δ1 => onR s fun a => asLst δ1.al a fun ss => forE a ss f1 f2 fb Ψ 0 ss δ1) := ⟨fun {L δ σ S H Ψ D} I h q => by
  refine A.run I h fun s L1 δ1 v H1 T h1 => ?_
  obtain ⟨a, rfl, rfl, I1, h2⟩ := T.ref h1
  obtain ⟨ss, xs, e1, e2, e3, h3⟩ := I1.lst h2
  refine ⟨a, xs, rfl, sqL_of e2, ?_⟩
  refine ⟨fun i m σ H2 => m = ss.length - i ∧ i ≤ ss.length ∧ ∃ L2 δ2, Sim K Γ L2 δ2 σ S H2 ∧ δ2.al a = some (.lst ss) ∧ forE a ss f1 f2 fb Ψ i (ss.drop i) δ2, ⟨ss.length, by simp, Nat.zero_le _, _, δ1, I1, e1, h3⟩, ?_⟩
  rintro i m σ2 H2 ⟨rfl, hi, L2, δ2, J2, ea, h2⟩
  obtain ⟨ys, ey, hy⟩ : ∃ ys, H2 a = some (.lst ys) ∧ SvIs K L2 H2 ss ys := (J2.obj a _ ea).2
  have ly := hy.len
  by_cases hlt : i < ss.length
  · refine .inr ⟨⟨ys, ys[i]'(by omega), sqL_of ey, List.getElem?_eq_getElem _⟩, fun σ' H' => i + 1 ≤ ss.length ∧ ∃ L2 δ2, Sim K Γ L2 δ2 σ' S H' ∧ δ2.al a = some (.lst ss) ∧ forE a ss f1 f2 fb Ψ (i + 1) (ss.drop (i + 1)) δ2, fun σ' H' q' => ⟨ss.length - (i + 1), by omega, rfl, q'⟩, fun x H3 y => ?_⟩
    rw [List.drop_eq_getElem_cons hlt] at h2
    obtain ⟨T, w, rfl, nT, rfl, hw⟩ := y
    obtain ⟨w', e4, e5⟩ := hy.get (List.getElem?_eq_getElem hlt)
    have e6 := hw ys (sqL_of ey)
    rw [e4] at e6
    cases e6
    have f3 : Fr K [] H2 (upd H2 T (.tup [.int (i : Nat), w])) := .new nT
    have J3 := J2.more f3
    have e7 : SvI K L2 (upd H2 T (.tup [.int (i : Nat), w])) ss[i] w := e5.to fun d v => Dv.mono f3 fun _ z => nomatch z
    refine ⟨T, [.int (i : Nat), w], rfl, sqT_of upd_same, rfl, ?_⟩
    obtain ⟨h2, np⟩ := inOb_in h2
    have J4 := (J3.itemS e7 np).push (s := .dat (.int (i : Nat))) (v := .int (i : Nat)) rfl rfl fun _ z => nomatch z
    refine ⟨_, _, rfl, G1.run J4 h2 fun L4 δ4 σ4 H4 J5 _ h4 => ?_⟩
    exact ⟨_, _, rfl, G2.run J5 h4 fun L5 δ5 σ5 H5 J6 _ h6 => ⟨rfl, Bd.run J6 h6 ⟨fun J7 ⟨h7, h8⟩ => ⟨by omega, _, _, J7, h7, h8⟩, fun J7 h7 => q.nx J7 h7, fun J7 ⟨h7, h8⟩ => ⟨by omega, _, _, J7, h7, h8⟩, q.rt⟩⟩⟩
  · have e : i = ss.length := by omega
    subst e
    rw [List.drop_length] at h2
    exact .inl ⟨⟨ys, sqL_of ey, by omega⟩, q.nx J2 h2⟩⟩
theorem forE_by {a : Addr} {all : List Sv} {f1 f2 : Sv → Dn → (Dn → Prop) → Prop} {fb : Dn → Dk → Prop} {Ψ : Dk} (Pv : Nat → Dn → Prop) : ∀ {ss : List Sv} {i : Nat} {δ : Dn}, Pv i δ → (∀ i δ, Pv i δ → δ.al a = some (.lst all)) →
    (∀ (j : Nat) (s : Sv), ss[j]? = some s → ∀ δ, Pv (i + j) δ → ∀ nx : Dn → Prop, (∀ δ', Pv (i + j + 1) δ' → nx δ') → inOb s fun t => f1 (.dat (.int ((i + j : Nat) : Int))) δ fun δ1 => f2 t δ1 fun δ2 => fb δ2 { Ψ with nx := nx, ct := nx, bk := Ψ.nx }) →
    (∀ δ, Pv (i + ss.length) δ → Ψ.nx δ) → forE a all f1 f2 fb Ψ i ss δ
  | [], i, δ, h0, _, _, hd => hd δ (by simpa using h0)
  | s :: ss, i, δ, h0, ha, hs, hd => by
    unfold forE
    refine hs 0 s rfl δ h0 _ fun δ' h' => ⟨ha _ _ h', ?_⟩
    refine forE_by Pv (i := i + 1) (by simpa using h') ha (fun j e he δ hp nx hn => ?_) fun δ hp => hd δ ?_
    · have := hs (j + 1) e (by simpa using he) δ (by rw [show i + (j + 1) = i + 1 + j by omega]; exact hp) nx (fun δ' q => hn δ' (by rw [show i + 1 + j + 1 = i + (j + 1) + 1 by omega]; exact q))
      rw [show i + 1 + j = i + (j + 1) by omega]
      exact this
    · rw [List.length_cons, show i + (ss.length + 1) = i + 1 + ss.length by omega]
      exact hp
end
end B
namespace B
open PySem PySem.Spec PyProof.Rows L2
theorem sc__law_cell : FnScope ["_law_script", "_law_k"] ["_law_script", "_law_k"] (defScope s__law_cell) := ⟨rfl, rfl, rfl, by decide +kernel, rfl, by decide +kernel, by decide +kernel⟩
theorem sc__law_pen : FnScope ["_law_cell_here"] ["_law_cell_here"] (defScope s__law_pen) := ⟨rfl, rfl, rfl, by decide +kernel, rfl, by decide +kernel, by decide +kernel⟩
theorem sc__law_draw : FnScope ["_law_pen_here", "_law_many", "_law_digit"] ["_law_pen_here", "_law_many"] (defScope s__law_draw) := ⟨rfl, rfl, rfl, by decide +kernel, rfl, by decide +kernel, by decide +kernel⟩
structure PTxt (K : PySem.W.Frag) (mg : Str → Option Value) : Prop where
  d__law_cell : DefAt K mg "_law_cell" s__law_cell ["_law_script", "_law_k"]
  d__law_pen : DefAt K mg "_law_pen" s__law_pen ["_law_cell_here"]
  d__law_draw : DefAt K mg "_law_draw" s__law_draw ["_law_pen_here", "_law_many"]
  z_len : mg "len" = none
  z_int : mg "int" = none
section
variable {P : Program} {w : World} {K : PySem.W.Frag} {mg : Str → Option Value} {base : Heap}
def spCell' (K : PySem.W.Frag) : Sp := fun vs H Q _ => ∃ (a : Addr) (ns : List Int) (k : Nat), vs = [.ref a, .int (k : Int)] ∧ SqL K H a (ns.map V.int) ∧ ∀ z, Q (.int z) H
theorem cal_cell (T : PTxt K mg) : Cal P w K mg base 1 "_law_cell" (spCell' K) := by
  refine T.d__law_cell.cal sc__law_cell (fun vs H Q E h => ?_) (fun f cdv A outer s H vs Q E hr h => ?_)
  · obtain ⟨a, ns, k, rfl, _⟩ := h
    rfl
  · obtain ⟨a, ns, k, rfl, ha, q⟩ := h
    refine ⟨_, (pss_cons (ps_if (pt_cmpR op_lt (pv 1) (pe_callB (call_lenK K (by rfl)) (by rfl) T.z_len bt_len (pa_cons (pv 0) pa_nil)) (nomark _))
  (pss_one (ps_ret (pe_ix (ix_listK K (by rfl)) (pv 0) (pv 1) (fun _ _ => rfl))))
  pss_nil)
  (pss_one (ps_ret pe_int))), ?_⟩
    refine ⟨_, rfl, _, rfl, a, _, rfl, .inl ha, _, _, rfl, rfl, _, rfl, ite_b (fun c => ?_) (fun c => ?_)⟩
    · have c' : k < ns.length := by
        have h := of_decide_eq_true c
        rw [List.length_map] at h
        omega
      refine ⟨_, rfl, _, rfl, a, _, _, .int ns[k], rfl, rfl, ha, atI_nat (by rw [List.getElem?_map, List.getElem?_eq_getElem c']; rfl), q _⟩
    · exact q _
def spPen (K : PySem.W.Frag) : Sp := fun vs H Q _ => ∃ (x : Int), vs = [.int x] ∧ ∀ p H', H p = none → Fr K [] H H' → Pen H' p → Q (.ref p) H'
theorem cal_pen (T : PTxt K mg) : Cal P w K mg base 1 "_law_pen" (spPen K) := by
  refine T.d__law_pen.cal sc__law_pen (fun vs H Q E h => ?_) (fun f cdv A outer s H vs Q E hr h => ?_)
  · obtain ⟨x, rfl, _⟩ := h
    rfl
  · obtain ⟨x, rfl, q⟩ := h
    refine ⟨_, (pss_one (ps_ret (pe_lst (pa_cons (pv 0) (pa_cons (pe_callTy call_int1 (by rfl) T.z_int bt_int (pa_cons (pe_cmpR op_ge (pv 0) (pe_op op_pow pe_int pe_int) (nomark _)) pa_nil)) pa_nil))))), ?_⟩
    refine ⟨_, rfl, _, rfl, _, _, rfl, rfl, ⟨by decide, by decide, by decide⟩, _, _, rfl, rfl, .inr ⟨_, rfl, (by show 2 ≤ sizeLine; decide), fun p np => ?_⟩⟩
    exact q p _ np (.new np) ⟨_, _, upd_same⟩
def spDraw (K : PySem.W.Frag) : Sp := fun vs H Q _ => ∃ (p : Addr) (m : Int), vs = [.ref p, .int m] ∧ Pen H p ∧ 1 ≤ m ∧ m ≤ 1000000 ∧ ∀ d H', 0 ≤ d → d < m → Fr K [p] H H' → Pen H' p → Q (.int d) H'
theorem cal_draw (T : PTxt K mg) : Cal P w K mg base 1 "_law_draw" (spDraw K) := by
  refine T.d__law_draw.cal sc__law_draw (fun vs H Q E h => ?_) (fun f cdv A outer s H vs Q E hr h => ?_)
  · obtain ⟨p, m, rfl, _⟩ := h
    rfl
  · obtain ⟨p, m, rfl, ⟨x, fl, hp⟩, m1, m2, q⟩ := h
    refine ⟨_, (pss_cons (ps_if (pt_cmpR op_eq (pe_ix (ix_listK K (by rfl)) (pv 0) pe_int (fun _ _ => rfl)) pe_int (nomark _))
  (pss_cons (ps_set (i := 2) sc__law_draw.nd rfl (by first | exact .inl rfl | exact .inr rfl) (pe_op op_mod (pe_ix (ix_listK K (by rfl)) (pv 0) pe_int (fun _ _ => rfl)) (pv 1)))
  (pss_cons (ps_asg (pe_op op_fdiv (pe_ix (ix_listK K (by rfl)) (pv 0) pe_int (fun _ _ => rfl)) (pv 1)) (pg_sub (pv 0) pe_int set_list))
  (pss_one (ps_ret (pv 2)))))
  pss_nil)
  (pss_cons (ps_asg (pe_op op_mod (pe_op op_add (pe_op op_mul (pe_op op_mod (pe_ix (ix_listK K (by rfl)) (pv 0) pe_int (fun _ _ => rfl)) pe_int) pe_int) pe_int) pe_int) (pg_sub (pv 0) pe_int set_list))
  (pss_one (ps_ret (pe_op op_mod (pe_op op_fdiv (pe_op op_mod (pe_op op_add (pe_op op_mul (pe_ix (ix_listK K (by rfl)) (pv 0) pe_int (fun _ _ => rfl)) (pe_ix (ix_listK K (by rfl)) (pv 0) pe_int (fun _ _ => rfl))) (pe_op op_mul pe_int (pe_ix (ix_listK K (by rfl)) (pv 0) pe_int (fun _ _ => rfl)))) pe_int) pe_int) (pv 1)))))), ?_⟩
    have g0 : ∀ (u v : V), atI [u, v] 0 = some u := fun _ _ => rfl
    have g1 : ∀ (u v : V), atI [u, v] 1 = some v := fun _ _ => rfl
    refine ⟨_, rfl, p, _, _, _, rfl, rfl, sqL_of hp, g1 _ _, rfl, _, rfl, ite_b (fun c => ?_) (fun c => ?_)⟩
    · refine ⟨_, rfl, p, _, _, _, rfl, rfl, sqL_of hp, g0 _ _, _, rfl, _, _, rfl, rfl, by omega, ?_⟩
      refine ⟨_, rfl, p, _, _, _, rfl, rfl, sqL_of hp, g0 _ _, _, rfl, _, _, rfl, rfl, ⟨by omega, by omega⟩, _, rfl, p, _, _, 0, rfl, rfl, hp, rfl, ?_⟩
      refine ⟨_, rfl, ?_⟩
      exact q _ _ (Int.emod_nonneg _ (by omega)) (Int.emod_lt_of_pos _ (by omega)) (.wr hp trivial (by simp)) ⟨_, _, upd_same⟩
    · have b1 := Int.emod_nonneg x (show (2147483629 : Int) ≠ 0 by decide)
      have b2 := Int.emod_lt_of_pos x (show (0 : Int) < 2147483629 by decide)
      refine ⟨_, rfl, p, _, _, _, rfl, rfl, sqL_of hp, g0 _ _, _, _, rfl, rfl, (by show (0 : Int) < 2147483629; decide), _, _, rfl, rfl, .inl ⟨by omega, by omega⟩, _, _, rfl, rfl, _, _, rfl, rfl, (by show (0 : Int) < 2147483629; decide), ?_⟩
      refine ⟨_, rfl, p, _, _, 0, rfl, rfl, hp, rfl, ?_⟩
      have b3 := Int.emod_nonneg (x % 2147483629 * 48271 + 11) (show (2147483629 : Int) ≠ 0 by decide)
      have b4 := Int.emod_lt_of_pos (x % 2147483629 * 48271 + 11) (show (0 : Int) < 2147483629 by decide)
      have fr : Fr K [p] H (upd H p (.lst [.int ((x % 2147483629 * 48271 + 11) % 2147483629), .int fl])) := .wr hp trivial (by simp)
      have hp' : (upd H p (.lst [.int ((x % 2147483629 * 48271 + 11) % 2147483629), .int fl])) p = some (.lst [.int ((x % 2147483629 * 48271 + 11) % 2147483629), .int fl]) := upd_same
      refine ⟨_, rfl, p, _, _, _, rfl, rfl, sqL_of hp', g0 _ _, _, rfl, p, _, _, _, rfl, rfl, sqL_of hp', g0 _ _, _, _, rfl, rfl, .inl ⟨by omega, by omega⟩, ?_⟩
      refine ⟨_, rfl, p, _, _, _, rfl, rfl, sqL_of hp', g0 _ _, _, _, rfl, rfl, .inl ⟨by decide, by decide⟩, _, _, rfl, rfl, _, _, rfl, rfl, (by show (0 : Int) < 2147483647; decide), _, _, rfl, rfl, ⟨by decide, by decide⟩, _, rfl, _, _, rfl, rfl, by omega, ?_⟩
      exact q _ _ (Int.emod_nonneg _ (by omega)) (Int.emod_lt_of_pos _ (by omega)) fr ⟨_, _, hp'⟩
end
end B
namespace B
open PySem PySem.Spec PyProof.Rows L2
section
variable {K : PySem.W.Frag} {Γ : Gm}
instance {e : TE} {fe : Dn → (Sv → Dn → Prop) → Prop} [E : DE K Γ e fe] : DE K Γ (tCB (rIsi K) (tCons e (tCons (tC (.ty "int")) tNil))) (fun δ Φ => fe δ fun s δ1 => asD s δ1 fun d δ2 => Φ (.dat (.bool (isiInt d))) δ2) := isi_run (kit_int K) (.ty _)
instance {e : TE} {fe : Dn → (Sv → Dn → Prop) → Prop} [E : DE K Γ e fe] : DE K Γ (tCB (rIsi K) (tCons e (tCons (tC (.ty "bool")) tNil))) (fun δ Φ => fe δ fun s δ1 => asD s δ1 fun d δ2 => Φ (.dat (.bool (isiBool d))) δ2) := isi_run (kit_bool K) (.ty _)
instance {e : TE} {fe : Dn → (Sv → Dn → Prop) → Prop} [E : DE K Γ e fe] : DE K Γ (tCB (rIsi K) (tCons e (tCons (tC (.ty "tuple")) tNil))) (fun δ Φ => fe δ fun s δ1 => asD s δ1 fun d δ2 => Φ (.dat (.bool (isiTup d))) δ2) := isi_run (kit_tup K) (.ty _)
instance {e : TE} {fe : Dn → (Sv → Dn → Prop) → Prop} [E : DE K Γ e fe] : DE K Γ (tCB (rIsi K) (tCons e (tCons (tC (.ty "str")) tNil))) (fun δ Φ => fe δ fun s δ1 => asD s δ1 fun d δ2 => Φ (.dat (.bool (isiStr d))) δ2) := isi_run (kit_str K) (.ty _)
instance {t : TA} {f : Dn → (List Sv → Dn → Prop) → Prop} [A : DA K Γ t f] : DE K Γ (tCall (spDraw K) [] E0 t) (fun δ Φ => f δ fun as δ1 => drawH as (fun d => Φ (.dat (.int d)) δ1) .mk) := ⟨fun {L δ σ S H Φ Q} I h q => by
  refine A.run I h fun as L1 δ1 vs H1 J ar h1 => ?_
  unfold drawH drawD at h1
  split at h1
  · rename_i p m
    obtain ⟨v, r, rfl, ⟨rfl, hp⟩, _, _, v2, r2, rfl, e2, _, _, rfl⟩ := ar
    cases (show v2 = .int m from e2)
    refine ⟨p, m, rfl, J.pens p hp, h1.1.1, h1.1.2, fun d H' d0 d1 f1 p1 => q (.dat (.int d)) L1 δ1 _ H' ((J.keep (f1.mono fun l hl => by cases List.mem_singleton.mp hl; exact .inl hp) fun r hr => ?_).dat rfl) (h1.2 d d0 d1)⟩
    by_cases e : r = p
    · rw [e]; exact p1
    · exact (J.pens r hr).fr f1 fun z => e (List.mem_singleton.mp z)
  · exact h1.elim⟩
end
end B
namespace B
open PySem PySem.Spec PyProof.Rows L2
theorem cut_ints (ns : List Int) (lo hi : Option Int) : cutV (ns.map V.int) lo hi = (((ns.drop (HT.sIx ns.length 0 lo)).take (HT.sIx ns.length ns.length hi - HT.sIx ns.length 0 lo))).map V.int := by
  unfold cutV
  rw [List.length_map, List.map_take, List.map_drop]
/-- the slots that are known ahead of the loop -/
def penS (kn : List (Option PyData)) (ip : Nat) (p : Addr) : List (Option Sv) := (kn.map (·.map Sv.dat)).set ip (some (.pen p))
theorem penS_at {kn : List (Option PyData)} {ip i : Nat} {p : Addr} {s : Sv} (e : (penS kn ip p)[i]? = some (some s)) : (i = ip ∧ s = .pen p) ∨ (i ≠ ip ∧ ∃ d, kn[i]? = some (some d) ∧ s = .dat d) := by
  unfold penS at e
  rw [List.getElem?_set] at e
  by_cases h : ip = i
  · rw [if_pos h] at e
    split at e
    · cases e
      exact .inl ⟨h.symm, rfl⟩
    · cases e
  · rw [if_neg h, List.getElem?_map] at e
    cases ek : kn[i]? with
    | none => rw [ek] at e; cases e
    | some o =>
      rw [ek] at e
      cases o with
      | none => cases e
      | some d =>
        cases e
        exact .inr ⟨fun z => h z.symm, d, rfl, rfl⟩
theorem penS_own {kn : List (Option PyData)} {ip i : Nat} {p : Addr} {s : Sv} (e : (penS kn ip p)[i]? = some (some s)) : isOwn s = false := by
  rcases penS_at e with ⟨_, rfl⟩ | ⟨_, d, _, rfl⟩ <;> rfl
structure KnS (K : PySem.W.Frag) (kn : List (Option PyData)) (σ : L2.St) (H : Hp) : Prop where
  len : σ.length = kn.length
  at_ : ∀ (i : Nat) (d : PyData), kn[i]? = some (some d) → ∃ v, σ[i]? = some (some v) ∧ Dv K [] H d v
theorem KnS.mono {K : PySem.W.Frag} {kn : List (Option PyData)} {σ : L2.St} {H H' : Hp} (h : KnS K kn σ H) (f : Fr K [] H H') : KnS K kn σ H' :=
  ⟨h.len, fun i d e => let ⟨v, e1, e2⟩ := h.at_ i d e; ⟨v, e1, Dv.mono f (fun _ z => nomatch z) e2⟩⟩
theorem gN {i : Nat} {v : V} {σ : L2.St} {H : Hp} {Q : L2.St → Hp → Prop} (h : Q (σ.set i (some v)) H) : gName i v σ H Q := h
theorem law_cells {K : PySem.W.Frag} {rest tl : TS} {f : Dn → Dk → Prop} (D : ∀ Γ, DS K Γ rest f) {D0 : Ends} {σ : L2.St} {H : Hp} {ic ip : Nat} {lo hi : Int} {kn : List (Option PyData)} {a : Addr} {ns : List Int}
    (hS : SqL K H a (ns.map V.int)) (s0 : σ[0]? = some (some (.ref a))) (hlen : ns.length ≤ 63) (hT : LamX.Tabs (LT K) H) (hk : KnS K kn σ H) (hic : kn[ic]? = some none) (hip : kn[ip]? = some none) (hne : ic ≠ ip)
    (step : ∀ p, f ⟨penS kn ip p, fun _ => none⟩ { nx := fun δ => δ.sl.length = kn.length ∧ ∀ (i : Nat) (d : PyData), kn[i]? = some (some d) → δ.sl[i]? = some (some (.dat d)), rt := fun _ _ => False })
    (fin : ∀ σ' H', tl D0 σ' H') :
    tSeq (tFor (iList K (tOp rCat (tLst (tCons (tCall (spCell' K) [] E0 (tCons (tVar 0) (tCons (tC (.int 0)) tNil))) tNil)) (tSl (rSlL K) (tVar 0) (tPart (tC (.int lo))) (tPart (tC (.int hi)))))) (gName ic)
      (tSeq (tAsg (tCall (spPen K) [] E0 (tCons (tVar ic) tNil)) (gName ip)) rest)) tl D0 σ H := by
  refine ⟨_, s0, a, ns, 0, rfl, hS, fun z0 => ⟨(by show 1 ≤ sizeLine; decide), fun l0 nl0 => ?_⟩⟩
  have fa : Fr K [] H (upd H l0 (.lst [.int z0])) := .new nl0
  refine ⟨_, s0, lo, rfl, hi, rfl, a, _, rfl, fa.lst hS (fun z => nomatch z), fun l1 nl1 => ?_⟩
  rw [cut_ints]
  generalize hcut : (((ns.drop (HT.sIx ns.length 0 (some lo))).take (HT.sIx ns.length ns.length (some hi) - HT.sIx ns.length 0 (some lo)))) = ms
  have hms : ms.length ≤ 63 := by
    rw [← hcut]
    have h2 := List.length_take_le' (HT.sIx ns.length ns.length (some hi) - HT.sIx ns.length 0 (some lo)) (ns.drop (HT.sIx ns.length 0 (some lo)))
    rw [List.length_drop] at h2
    omega
  have hszl := sizeLine_eq
  have h01 : l0 ≠ l1 := ne_of_none upd_same nl1
  refine ⟨l0, l1, [.int z0], ms.map V.int, rfl, rfl, (by rw [upd_ne h01]; exact upd_same), upd_same, (by rw [List.length_map]; show 1 + _ ≤ _; omega), fun l2 nl2 => ?_⟩
  have exs : ([V.int z0] ++ ms.map V.int) = (z0 :: ms).map V.int := rfl
  rw [exs]
  have fl : Fr K [] H (upd (upd (upd H l0 (.lst [.int z0])) l1 (.lst (ms.map V.int))) l2 (.lst ((z0 :: ms).map V.int))) := (fa.up nl1).up nl2
  generalize eHl : upd (upd (upd H l0 (.lst [.int z0])) l1 (.lst (ms.map V.int))) l2 (.lst ((z0 :: ms).map V.int)) = Hl at fl
  have hl2 : Hl l2 = some (.lst ((z0 :: ms).map V.int)) := by rw [← eHl]; exact upd_same
  refine ⟨l2, rfl, ⟨_, sqL_of hl2⟩, for_list (K := K) (a := l2) (xs := (z0 :: ms).map V.int) (fun i σ H1 => KnS K kn σ H1 ∧ Fr K [] Hl H1)
    ⟨hk.mono fl, .refl _ _⟩ (fun i σ H1 _ ⟨_, fr⟩ => sqL_of (fr.at hl2)) ?_ (fun σ H1 _ => fin _ _)⟩
  rintro i x σ H1 hx ⟨hk1, frl⟩
  obtain ⟨zc, _, rfl⟩ := map_at hx
  have lic : ic < σ.length := by rw [hk1.len]; exact (List.getElem?_eq_some_iff.mp hic).1
  have lip : ip < σ.length := by rw [hk1.len]; exact (List.getElem?_eq_some_iff.mp hip).1
  refine ⟨_, (by simp [lic]), zc, rfl, fun p Hq np fp pnp => ?_⟩
  refine gN ?_
  dsimp only
  refine (D ⟨[p], [p], [p], Hq⟩).run (L := [p]) (δ := ⟨penS kn ip p, fun _ => none⟩) (S := []) ?_ (step p) ⟨fun {L' δ' σ' H'} J hj => ?_, fun _ z => z.elim, fun _ z => z.elim, fun _ _ z => z.elim⟩
  · exact {
      t0 := fp.tabs (frl.tabs (fl.tabs hT))
      fr := .refl _ _, pens := fun r hr => by cases List.mem_singleton.mp hr; exact pnp, pin := fun _ z => z, win := fun _ z => z, sub := fun _ z => z
      live := fun r hr => by
        cases List.mem_singleton.mp hr
        obtain ⟨u, v, e⟩ := pnp
        rw [e]
        exact fun z => nomatch z
      old := fun _ z => .inl z
      len := by
        show (penS kn ip p).length = _
        unfold penS
        rw [List.length_set, List.length_map, List.length_set, List.length_set, hk1.len]
      slot := fun i s e => by
        rcases penS_at e with ⟨rfl, rfl⟩ | ⟨hi, d, ek, rfl⟩
        · exact ⟨(fun _ z => nomatch z), .ref p, by simp [lip], rfl, List.mem_singleton.mpr rfl⟩
        · obtain ⟨v, e1, e2⟩ := hk1.at_ i d ek
          have hii : ic ≠ i := fun z => by rw [← z, hic] at ek; cases ek
          refine ⟨(fun _ z => nomatch z), v, ?_, Dv.mono (P := []) fp (fun _ z => nomatch z) (Dv.sub (fun b hb => by cases List.mem_singleton.mp hb; exact .inr np) e2)⟩
          rw [List.getElem?_set, if_neg (fun z => hi z.symm), List.getElem?_set, if_neg hii]
          exact e1
      stk := fun _ z => nomatch z
      nal := fun _ z => nomatch z
      sep := fun i j s t v n e1 e2 o => by rw [penS_own e1] at o; cases o
      sepS := fun _ _ _ _ _ _ _ z => nomatch z
      sepT := List.Pairwise.nil
      obj := fun a o e => nomatch (show (none : Option Ob) = some o from e)
      sepA := fun i s a e o => by rw [penS_own e] at o; cases o
      sepB := fun _ z => nomatch z }
  · obtain ⟨jl, j1⟩ := hj
    refine ⟨⟨J.len ▸ jl, fun i d e => ?_⟩, frl.trans (fp.cut J.fr fun l hl => by cases List.mem_singleton.mp hl; exact .inr np)⟩
    obtain ⟨_, v, e1, e2⟩ := J.slot i (.dat d) (j1 i d e)
    exact ⟨v, e1, Dv.sub (L' := []) (fun b (z : b ∈ ([] : List Addr)) => nomatch z) e2⟩
theorem rep_none {n i : Nat} {d : PyData} (e : (List.replicate n (none : Option PyData))[i]? = some (some d)) : False := by
  rw [List.getElem?_replicate] at e
  split at e <;> cases e
end B
set_option maxHeartbeats 4000000
namespace B
open PySem PySem.Spec PyProof.Rows L2
/-- t * n -/
def rRepZ (K : PySem.W.Frag) : R2 := fun x y H Q => ∃ l k xs, x = .ref l ∧ y = .int k ∧ SqT K H l xs ∧ xs ≠ [] ∧ -1000 ≤ k ∧ k ≤ 1000 ∧ xs.length ≤ 1000 ∧
  (k = 1 → Q (.ref l) H) ∧ (k ≠ 1 → ∀ p o, H p = none → o.dict = none → Q (.ref p) (upd H p (tpO o (List.replicate k.toNat xs).flatten)))
theorem Dvs.rep {K : PySem.W.Frag} {H : Hp} {L : List Addr} {ds : List PyData} {xs : List V} (r : Dvs K L H ds xs) : ∀ n : Nat, Dvs K L H (List.replicate n ds).flatten (List.replicate n xs).flatten
  | 0 => by
    show Dvs K L H [] []
    exact (rfl : ([] : List V) = [])
  | n + 1 => by
    rw [List.replicate_succ, List.replicate_succ, List.flatten_cons, List.flatten_cons]
    exact r.app (r.rep n)
instance {K : PySem.W.Frag} {Γ : Gm} : DR K Γ (rRepZ K) (fun x y Φ => onT x fun ds => onI y fun i => (ds ≠ [] ∧ -1000 ≤ i ∧ i ≤ 1000 ∧ ds.length ≤ 1000) ∧ Φ (.tuple (List.replicate i.toNat ds).flatten)) := ⟨fun {L H x y v u Φ Q} dx dy h q => by
  cases x with
  | tuple ds =>
    obtain ⟨a, xs, rfl, t, r⟩ := dx
    obtain ⟨i, rfl, rfl, ⟨h1, h2, h3, h4⟩, h5⟩ := onI_run dy h
    have l1 := r.len
    refine ⟨a, i, xs, rfl, rfl, t.sq, fun e => h1 (List.eq_nil_of_length_eq_zero (by rw [← l1, e]; rfl)), h2, h3, by omega, fun e => ?_, fun e p o np od => ?_⟩
    · subst e
      exact q (.tuple ds) (.ref a) H (.refl _ _) ⟨a, xs, rfl, t, r⟩ (by
        rw [show (1 : Int).toNat = 1 from rfl, show (List.replicate 1 ds).flatten = ds by simp] at h5
        exact h5)
    · exact q (.tuple (List.replicate i.toNat ds).flatten) (.ref p) _ (.new np) ⟨p, _, rfl, .made od, (r.rep i.toNat).mono (P := []) (.new np) fun _ z => nomatch z⟩ h5
  | _ => exact h.elim⟩
/-- list(a list or a tuple) -/
instance {K : PySem.W.Frag} {Γ : Gm} {e : TE} {fe : Dn → (Sv → Dn → Prop) → Prop} [E : DE K Γ e fe] : DE K Γ (tCB (rListOf K) (tCons e tNil)) (fun δ Φ => fe δ fun s δ1 => seeS s δ1 fun ds => Φ (.own ds) δ1) := ⟨fun {L δ σ S H Φ Q} I h q =>
  E.run I h fun s L1 δ1 v H1 T h1 => by
    obtain ⟨a, xs, ds, rfl, t, r, h2⟩ := see_run T h1
    exact ⟨a, xs, rfl, t.imp sqL_of Tp.sq, fun p np => q (.own ds) _ δ1 _ _ (T.drop.new np r) h2⟩⟩
end B
namespace B
open PySem PySem.Spec PyProof.Rows L2
def wordsL : List Str := ["params", "table", "view", "each", "times", "when", "else", "end", "set", "get", "put", "tell", "hand", "of", "from", "step"]
def lettersS : Str := "abcdefghijklmnopqrstuvwxyz"
def isName (z : Str) : Bool := (decide (1 ≤ z.length) && decide (z.length ≤ 6)) && !decide (z ∈ wordsL) && z.cps.toList.all fun c => decide (c ∈ lettersS.cps.toList)
def opsL : List Str := ["add", "sub", "mul", "rest", "less", "same"]
inductive Ex
  | num (n : Int)
  | var (x : Str)
  | op (w : Str) (a b : Ex)
namespace Ex
def data : Ex → PyData
  | num n => .tuple [.str "num", .int n]
  | var x => .tuple [.str "var", .str x]
  | op w a b => .tuple [.str w, a.data, b.data]
def ok : Ex → Prop
  | num n => 0 ≤ n ∧ n ≤ 255
  | var x => isName x = true
  | op w a b => w ∈ opsL ∧ a.ok ∧ b.ok
def dep : Ex → Nat
  | op _ a b => max a.dep b.dep + 1
  | _ => 0
end Ex
def reck (w : Str) (x y : Int) : Int :=
  if w = "less" then (if x < y then 1 else 0)
  else if w = "same" then (if x = y then 1 else 0)
  else if w = "rest" then (if y = 0 then x else x % y)
  else if w = "mul" then x * y % 256
  else if w = "add" then (x + y) % 256 else (x - y) % 256
/-- the value of an expression by what vars hold -/
def Ex.val (env : Str → Int) : Ex → Int
  | .num n => n
  | .var x => env x
  | .op w a b => reck w (a.val env) (b.val env)
inductive Row
  | set (x : Str) (e : Ex)
  | tell (e : Ex)
  | get (x o : Str) (e : Ex) (f : Str)
  | put (o : Str) (e : Ex) (f : Str) (v : Ex)
  | hand (o : Str) (e : Ex)
  | each (x o : Str) (rs : List Row)
  | times (x : Str) (n : Int) (rs : List Row)
  | cond (e : Ex) (rs us : List Row)
mutual
def Row.data : Row → PyData
  | .set x e => .tuple [.str "set", .str x, e.data]
  | .tell e => .tuple [.str "tell", e.data]
  | .get x o e f => .tuple [.str "get", .str x, .str o, e.data, .str f]
  | .put o e f v => .tuple [.str "put", .str o, e.data, .str f, v.data]
  | .hand o e => .tuple [.str "hand", .str o, e.data]
  | .each x o rs => .tuple [.str "each", .str x, .str o, .tuple (Row.datas rs)]
  | .times x n rs => .tuple [.str "times", .str x, .int n, .tuple (Row.datas rs)]
  | .cond e rs us => .tuple [.str "when", e.data, .tuple (Row.datas rs), .tuple (Row.datas us)]
def Row.datas : List Row → List PyData
  | [] => []
  | r :: rs => r.data :: Row.datas rs
end
mutual
def Row.dep : Row → Nat
  | .each _ _ rs => Row.deps rs + 1
  | .times _ _ rs => Row.deps rs + 1
  | .cond _ rs us => max (Row.deps rs) (Row.deps us) + 1
  | _ => 0
def Row.deps : List Row → Nat
  | [] => 0
  | r :: rs => max r.dep (Row.deps rs)
end
structure Tab where
  name : Str
  many : Int
  fields : List (Str × Int)
def Tab.fdata (f : Str × Int) : PyData := .tuple [.str f.1, .int f.2]
def Tab.data (t : Tab) : PyData := .tuple [.str t.name, .int t.many, .tuple (t.fields.map Tab.fdata)]
structure Tab.ok (t : Tab) : Prop where
  name : isName t.name = true
  many : 1 ≤ t.many ∧ t.many ≤ 6
  few : 1 ≤ t.fields.length ∧ t.fields.length ≤ 5
  names : ∀ f ∈ t.fields, isName f.1 = true ∧ 1 ≤ f.2 ∧ f.2 ≤ 8
  unlike : (t.fields.map (·.1)).Nodup
/-- what rows may name: for each name its fields; which are tables -/
structure Sco where
  seen : List (Str × List Str)
  tabs : List Str
def Sco.fieldsOf (S : Sco) (o : Str) : Option (List Str) := S.seen.lookup o
mutual
def Row.ok (S : Sco) : Row → Prop
  | .set x e => isName x = true ∧ e.ok ∧ e.dep ≤ 19
  | .tell e => e.ok ∧ e.dep ≤ 19
  | .get x o e f => isName x = true ∧ (e.ok ∧ e.dep ≤ 19) ∧ isName o = true ∧ isName f = true ∧ ∃ fs, S.fieldsOf o = some fs ∧ f ∈ fs
  | .put o e f v => (isName o = true ∧ isName f = true ∧ ∃ fs, S.fieldsOf o = some fs ∧ f ∈ fs) ∧ (e.ok ∧ e.dep ≤ 19) ∧ (v.ok ∧ v.dep ≤ 19)
  | .hand o e => (isName o = true ∧ ∃ fs, S.fieldsOf o = some fs) ∧ o ∈ S.tabs ∧ (e.ok ∧ e.dep ≤ 19)
  | .each x o rs => isName x = true ∧ (isName o = true ∧ ∃ fs, S.fieldsOf o = some fs) ∧ Row.oks S rs ∧ rs.length ≤ 1000
  | .times x n rs => isName x = true ∧ (1 ≤ n ∧ n ≤ 6) ∧ Row.oks S rs ∧ rs.length ≤ 1000
  | .cond e rs us => (e.ok ∧ e.dep ≤ 19) ∧ (Row.oks S rs ∧ rs.length ≤ 1000) ∧ Row.oks S us ∧ us.length ≤ 1000
def Row.oks (S : Sco) : List Row → Prop
  | [] => True
  | r :: rs => r.ok S ∧ Row.oks S rs
end
/-- a view -/
structure Vw where
  name : Str
  over : Str
  first : Int
  step : Int
  many : Int
  fields : List (Str × Str)
def Vw.fdata (f : Str × Str) : PyData := .tuple [.str f.1, .str f.2]
def Vw.data (v : Vw) : PyData := .tuple [.str v.name, .str v.over, .int v.first, .int v.step, .int v.many, .tuple (v.fields.map Vw.fdata)]
def Sco.addT (S : Sco) (t : Tab) : Sco := ⟨S.seen ++ [(t.name, t.fields.map (·.1))], S.tabs ++ [t.name]⟩
def Sco.addV (S : Sco) (v : Vw) : Sco := ⟨S.seen ++ [(v.name, v.fields.map (·.1))], S.tabs⟩
structure Vw.ok (S : Sco) (v : Vw) : Prop where
  name : isName v.name = true
  over : isName v.over = true
  seen : ∃ fs, S.fieldsOf v.over = some fs ∧ ∀ f ∈ v.fields, f.2 ∈ fs
  first : 0 ≤ v.first ∧ v.first ≤ 5
  step : 0 ≤ v.step ∧ v.step ≤ 5
  many : 1 ≤ v.many ∧ v.many ≤ 6
  few : 1 ≤ v.fields.length ∧ v.fields.length ≤ 5
  names : ∀ f ∈ v.fields, isName f.1 = true ∧ isName f.2 = true
  unlike : (v.fields.map (·.1)).Nodup
def Sco.addTs (S : Sco) : List Tab → Sco
  | [] => S
  | t :: ts => (S.addT t).addTs ts
def Sco.addVs (S : Sco) : List Vw → Sco
  | [] => S
  | v :: vs => (S.addV v).addVs vs
/-- views one behind the other -/
def Vw.oks : Sco → List Vw → Prop
  | _, [] => True
  | S, v :: vs => v.ok S ∧ S.fieldsOf v.name = none ∧ Vw.oks (S.addV v) vs
def Tab.oks : Sco → List Tab → Prop
  | _, [] => True
  | S, t :: ts => t.ok ∧ S.fieldsOf t.name = none ∧ Tab.oks (S.addT t) ts
/-- a program -/
structure Prg where
  params : List Str
  tabs : List Tab
  views : List Vw
  rows : List Row
def Prg.data (p : Prg) : PyData := .tuple [.tuple (p.params.map .str), .tuple (p.tabs.map Tab.data), .tuple (p.views.map Vw.data), .tuple (Row.datas p.rows)]
def sco0 : Sco := ⟨[], []⟩
def Prg.sco (p : Prg) : Sco := (sco0.addTs p.tabs).addVs p.views
structure Prg.ok (p : Prg) : Prop where
  params : p.params.length ≤ 3 ∧ (∀ x ∈ p.params, isName x = true) ∧ p.params.Nodup
  tabs : 1 ≤ p.tabs.length ∧ p.tabs.length ≤ 3
  few : p.views.length ≤ 3
  each : Tab.oks sco0 p.tabs
  seen : Vw.oks (sco0.addTs p.tabs) p.views
  rows : Row.oks p.sco p.rows
  deep : Row.deps p.rows ≤ 8
  short : p.rows.length ≤ 1000
end B
namespace B
open PySem PySem.Spec PyProof.Rows L2
instance {K : PySem.W.Frag} {Γ : Gm} {a : TE} {fa : Dn → (Sv → Dn → Prop) → Prop} [A : DE K Γ a fa] : DE K Γ (tUn (rU fun i => V.int (-i)) a) (fun δ Φ => fa δ fun s δ1 => asD s δ1 fun x δ2 => onI x fun i => Φ (.dat (.int (-i))) δ2) := ⟨fun {L δ σ S H Φ Q} I h q => DE.data (T := A) I h fun x L1 δ1 v H1 J h1 => by
  obtain ⟨i, rfl, rfl, h2⟩ := onI_run J.top h1
  exact ⟨i, rfl, q (.dat (.int (-i))) _ _ _ _ (J.pop.dat rfl) h2⟩⟩
theorem atS_last {ss : List Sv} {s : Sv} {k : Sv → Prop} : atS (ss ++ [s]) (-1) k = k s := by
  unfold atS
  rw [atI_last]
/-- objects that stand at unlike addresses -/
def Cells (al : Al) (cs : List (Addr × Ob)) : Prop := (cs.map (·.1)).Nodup ∧ ∀ c ∈ cs, al c.1 = some c.2
namespace Cells
variable {al : Al} {cs cs' l r : List (Addr × Ob)} {x p : Addr} {o o0 : Ob}
theorem get (h : Cells al cs) (i : Nat) (e : cs[i]? = some (x, o)) : al x = some o := h.2 (x, o) (List.mem_of_getElem? e)
theorem wr (h : Cells al (l ++ (x, o0) :: r)) : Cells (oup al x o) (l ++ (x, o) :: r) := by
  obtain ⟨nd, h⟩ := h
  rw [List.map_append, List.map_cons] at nd
  have nd2 := List.perm_middle.nodup_iff.mp nd
  rw [List.nodup_cons, List.mem_append, not_or] at nd2
  refine ⟨by rw [List.map_append, List.map_cons]; exact nd, fun c hc => ?_⟩
  rcases List.mem_append.mp hc with z | z
  · have hm := List.mem_map_of_mem (f := (·.1)) z
    rw [oup_ne (fun e => nd2.1.1 (by rw [← e]; exact hm))]
    exact h c (List.mem_append_left _ z)
  · rcases List.mem_cons.mp z with z | z
    · rw [z]
      exact oup_same
    · have hm := List.mem_map_of_mem (f := (·.1)) z
      rw [oup_ne (fun e => nd2.1.2 (by rw [← e]; exact hm))]
      exact h c (List.mem_append_right _ (List.mem_cons_of_mem _ z))
theorem new (h : Cells al (l ++ r)) (n : al p = none) : Cells (oup al p o) (l ++ (p, o) :: r) := by
  obtain ⟨nd, h⟩ := h
  have fr : ∀ c ∈ l ++ r, c.1 ≠ p := fun c hc e => by
    have := h c hc
    rw [e, n] at this
    cases this
  refine ⟨?_, fun c hc => ?_⟩
  · rw [List.map_append, List.map_cons]
    refine List.perm_middle.nodup_iff.mpr (List.nodup_cons.mpr ⟨fun z => ?_, by rw [← List.map_append]; exact nd⟩)
    rw [← List.map_append] at z
    obtain ⟨c, hc, e⟩ := List.mem_map.mp z
    exact fr c hc e
  · rcases List.mem_append.mp hc with z | z
    · rw [oup_ne (fr c (List.mem_append_left _ z))]
      exact h c (List.mem_append_left _ z)
    · rcases List.mem_cons.mp z with z | z
      · rw [z]
        exact oup_same
      · rw [oup_ne (fr c (List.mem_append_right _ z))]
        exact h c (List.mem_append_right _ z)
theorem sub (h : Cells al cs) (s : cs'.Sublist cs) : Cells al cs' := ⟨h.1.sublist (s.map _), fun c hc => h.2 c (s.subset hc)⟩
end Cells
theorem Sub.more {al : Al} {m : Addr} {o : Ob} (hm : al m = none) : Sub al (oup al m o) := fun b o' e => (oup_ne (fun z => by rw [z, hm] at e; cases e)).trans e
end B
set_option maxHeartbeats 2000000
set_option synthInstance.maxHeartbeats 0
set_option synthInstance.maxSize 100000
namespace B
open PySem PySem.Spec PyProof.Rows L2 LamX NdefX
theorem sc_NoText_init : FnScope ["self", "line"] ["self", "line"] (defScope s_NoText_init) := ⟨rfl, rfl, rfl, by decide +kernel, rfl, by decide +kernel, by decide +kernel⟩
theorem sc__law_kinds : FnScope ["_law_e", "_law_found"] ["_law_e"] (defScope s__law_kinds) := ⟨rfl, rfl, rfl, by decide +kernel, rfl, by decide +kernel, by decide +kernel⟩
theorem sc__law_made : FnScope ["_law_text", "_law_number", "_law_found"] ["_law_text", "_law_number"] (defScope s__law_made) := ⟨rfl, rfl, rfl, by decide +kernel, rfl, by decide +kernel, by decide +kernel⟩
theorem sc_law : FnScope ["_law_script", "_law_cell_here", "_law_pen_here", "_law_text", "_law_number", "_law_rows", "_law_at", "_law_one", "_law_place", "_law_bare"] ["_law_script"] (defScope s_law) := ⟨rfl, rfl, rfl, by decide +kernel, rfl, by decide +kernel, by decide +kernel⟩
theorem bt_ValueError : bootBuiltins "ValueError" = some (.type "ValueError") := by decide +kernel
theorem pe_lstQ {X : Cx} {t : TA} {e : Expr} (h : PE X e (tLst t)) : PE X e (tLstO t) := h
structure LTxt (K : PySem.W.Frag) (mg : Str → Option Value) (CL c0 c1 c2 c3 c4 c5 c6 c7 c8 c9 c10 c11 c12 c13 c14 : Addr) : Prop extends PTxt K mg where
  xt : ExcTab K mg CL allX [c0, c1, c2, c3, c4, c5, c6, c7, c8, c9, c10, c11, c12, c13, c14]
  xl : ExcAt K mg "LayError" CL ∧ ExcC K CL ∧ PySem.W.kitOne K (.ref CL) (.type "ValueError") = some true ∧ ∀ C ∈ [c0, c1, c2, c3, c4, c5, c6, c7, c8, c9, c10, c11, c12, c13, c14], PySem.W.kitOne K (.ref C) (.ref CL) = some true ∧ PySem.W.kitOne K (.ref CL) (.ref C) = some false
  nt : NtAt K mg "NoText" c14 "NoText.__init__" s_NoText_init ["self", "line"] ∧ XfC K c14 ∧ IniX K mg CL
  d__law_kinds : DefAt K mg "_law_kinds" s__law_kinds ["_law_e"]
  d__law_made : DefAt K mg "_law_made" s__law_made ["_law_text", "_law_number"]
  z_isinstance : mg "isinstance" = none
  z_enumerate : mg "enumerate" = none
  z_range : mg "range" = none
  z_ValueError : mg "ValueError" = none
section
variable {P : Program} {w : World} {K : PySem.W.Frag} {mg : Str → Option Value} {base : Heap} {CL c0 c1 c2 c3 c4 c5 c6 c7 c8 c9 c10 c11 c12 c13 c14 : Addr}
theorem LTxt.x_NoProgram (T : LTxt K mg CL c0 c1 c2 c3 c4 c5 c6 c7 c8 c9 c10 c11 c12 c13 c14) : ExcAt K mg "NoProgram" c0 := T.xt.at_ 0 _ _ rfl rfl (by decide)
theorem LTxt.x_NoInputs (T : LTxt K mg CL c0 c1 c2 c3 c4 c5 c6 c7 c8 c9 c10 c11 c12 c13 c14) : ExcAt K mg "NoInputs" c1 := T.xt.at_ 1 _ _ rfl rfl (by decide)
theorem LTxt.x_NoFaces (T : LTxt K mg CL c0 c1 c2 c3 c4 c5 c6 c7 c8 c9 c10 c11 c12 c13 c14) : ExcAt K mg "NoFaces" c2 := T.xt.at_ 2 _ _ rfl rfl (by decide)
theorem LTxt.x_NoSize (T : LTxt K mg CL c0 c1 c2 c3 c4 c5 c6 c7 c8 c9 c10 c11 c12 c13 c14) : ExcAt K mg "NoSize" c3 := T.xt.at_ 3 _ _ rfl rfl (by decide)
theorem LTxt.x_NoLaying (T : LTxt K mg CL c0 c1 c2 c3 c4 c5 c6 c7 c8 c9 c10 c11 c12 c13 c14) : ExcAt K mg "NoLaying" c4 := T.xt.at_ 4 _ _ rfl rfl (by decide)
theorem LTxt.x_NoMoves (T : LTxt K mg CL c0 c1 c2 c3 c4 c5 c6 c7 c8 c9 c10 c11 c12 c13 c14) : ExcAt K mg "NoMoves" c5 := T.xt.at_ 5 _ _ rfl rfl (by decide)
theorem LTxt.x_NoMemory (T : LTxt K mg CL c0 c1 c2 c3 c4 c5 c6 c7 c8 c9 c10 c11 c12 c13 c14) : ExcAt K mg "NoMemory" c6 := T.xt.at_ 6 _ _ rfl rfl (by decide)
theorem LTxt.x_NoNear (T : LTxt K mg CL c0 c1 c2 c3 c4 c5 c6 c7 c8 c9 c10 c11 c12 c13 c14) : ExcAt K mg "NoNear" c7 := T.xt.at_ 7 _ _ rfl rfl (by decide)
theorem LTxt.x_NoTouches (T : LTxt K mg CL c0 c1 c2 c3 c4 c5 c6 c7 c8 c9 c10 c11 c12 c13 c14) : ExcAt K mg "NoTouches" c8 := T.xt.at_ 8 _ _ rfl rfl (by decide)
theorem LTxt.x_TooMany (T : LTxt K mg CL c0 c1 c2 c3 c4 c5 c6 c7 c8 c9 c10 c11 c12 c13 c14) : ExcAt K mg "TooMany" c9 := T.xt.at_ 9 _ _ rfl rfl (by decide)
theorem LTxt.x_NoNumber (T : LTxt K mg CL c0 c1 c2 c3 c4 c5 c6 c7 c8 c9 c10 c11 c12 c13 c14) : ExcAt K mg "NoNumber" c10 := T.xt.at_ 10 _ _ rfl rfl (by decide)
theorem LTxt.x_NoDeed (T : LTxt K mg CL c0 c1 c2 c3 c4 c5 c6 c7 c8 c9 c10 c11 c12 c13 c14) : ExcAt K mg "NoDeed" c11 := T.xt.at_ 11 _ _ rfl rfl (by decide)
theorem LTxt.x_NoLine (T : LTxt K mg CL c0 c1 c2 c3 c4 c5 c6 c7 c8 c9 c10 c11 c12 c13 c14) : ExcAt K mg "NoLine" c12 := T.xt.at_ 12 _ _ rfl rfl (by decide)
theorem LTxt.x_NoWork (T : LTxt K mg CL c0 c1 c2 c3 c4 c5 c6 c7 c8 c9 c10 c11 c12 c13 c14) : ExcAt K mg "NoWork" c13 := T.xt.at_ 13 _ _ rfl rfl (by decide)
theorem LTxt.x_NoText (T : LTxt K mg CL c0 c1 c2 c3 c4 c5 c6 c7 c8 c9 c10 c11 c12 c13 c14) : ExcNm K mg "NoText" c14 := T.xt.gl 14 _ _ rfl rfl
theorem LTxt.x_LayError (T : LTxt K mg CL c0 c1 c2 c3 c4 c5 c6 c7 c8 c9 c10 c11 c12 c13 c14) : ExcAt K mg "LayError" CL := T.xl.1
theorem LTxt.ec (T : LTxt K mg CL c0 c1 c2 c3 c4 c5 c6 c7 c8 c9 c10 c11 c12 c13 c14) {C : Addr} (h : C ∈ CL :: [c0, c1, c2, c3, c4, c5, c6, c7, c8, c9, c10, c11, c12, c13, c14]) : ExcC K C := (List.mem_cons.mp h).elim (fun e => e ▸ T.xl.2.1) (T.xt.ec C)
theorem LTxt.cl (T : LTxt K mg CL c0 c1 c2 c3 c4 c5 c6 c7 c8 c9 c10 c11 c12 c13 c14) : CL ∉ [c0, c1, c2, c3, c4, c5, c6, c7, c8, c9, c10, c11, c12, c13, c14] := fun h => by
  have e1 := T.xt.ki CL h CL h
  rw [(T.xl.2.2.2 CL h).2] at e1
  exact absurd e1 (by simp)
theorem LTxt.ki (T : LTxt K mg CL c0 c1 c2 c3 c4 c5 c6 c7 c8 c9 c10 c11 c12 c13 c14) {C D : Addr} (h : C ∈ CL :: [c0, c1, c2, c3, c4, c5, c6, c7, c8, c9, c10, c11, c12, c13, c14]) (hD : D ∈ [c0, c1, c2, c3, c4, c5, c6, c7, c8, c9, c10, c11, c12, c13, c14]) : PySem.W.kitOne K (.ref C) (.ref D) = some (decide (C = D)) := by
  rcases List.mem_cons.mp h with e | e
  · rw [e, (T.xl.2.2.2 D hD).2, decide_eq_false fun z => T.cl (by rw [z]; exact hD)]
  · exact T.xt.ki C e D hD
theorem mk_nt (T : LTxt K mg CL c0 c1 c2 c3 c4 c5 c6 c7 c8 c9 c10 c11 c12 c13 c14) : MkN P w K mg base 1 "NoText" c14 := by
  obtain ⟨⟨g, Tx, no, f, fd, F, iC, tI, b⟩, _, ix⟩ := T.nt
  refine ⟨f, fd, _, ?_, g, Tx, iC, tI, b⟩
  refine (funD_fun F).ok sc_NoText_init (fun vs H Q E h => ?_) (fun cdv A outer s H vs Q E hr h => ?_)
  · obtain ⟨a, y, rfl, _⟩ := h
    rfl
  · obtain ⟨a, y, rfl, e, q⟩ := h
    refine ⟨_, (pss_cons (ps_expr (pe_layinit ix (by rfl) (pa_cons (pv 0) (pa_cons pe_str pa_nil))))
  (pss_one (ps_ost (pv 0) (pv 1) (by rfl)))), ?_⟩
    exact ⟨.ref a, rfl, a, c14, [.str _], rfl, (by decide), Tx, e, y, rfl, .ref a, rfl, a, c14, rfl, Tx, no, .inl ⟨e, fun d hd ne => q d hd ne⟩⟩
theorem cal_kinds (T : LTxt K mg CL c0 c1 c2 c3 c4 c5 c6 c7 c8 c9 c10 c11 c12 c13 c14) : Cal P w K mg base 1 "_law_kinds" (spH K 1 fun al as Φ => ∃ a C, as = [.ref a] ∧ ExK al a C ∧ C ∈ CL :: [c0, c1, c2, c3, c4, c5, c6, c7, c8, c9, c10, c11, c12, c13, c14] ∧ Φ al (.dat (.list ([c0, c1, c2, c3, c4, c5, c6, c7, c8, c9, c10, c11, c12, c13, c14].map fun D => .bool (decide (C = D)))))) := by
  refine T.d__law_kinds.cal sc__law_kinds (fun vs H Q E h => h.1) (fun f cdv A outer s H vs Q E hr h => ?_)
  have hu := hu_of hr
  refine ⟨_, (pss_cons (ps_set (i := 1) sc__law_kinds.nd rfl (by first | exact .inl rfl | exact .inr rfl) (pe_lst (pa_cons (pe_callB (call_isV (K := K) (by rfl)) (by rfl) T.z_isinstance bt_isinstance (pa_cons (pv 0) (pa_cons (pe_globF rfl T.x_NoProgram.g) pa_nil))) (pa_cons (pe_callB (call_isV (K := K) (by rfl)) (by rfl) T.z_isinstance bt_isinstance (pa_cons (pv 0) (pa_cons (pe_globF rfl T.x_NoInputs.g) pa_nil))) (pa_cons (pe_callB (call_isV (K := K) (by rfl)) (by rfl) T.z_isinstance bt_isinstance (pa_cons (pv 0) (pa_cons (pe_globF rfl T.x_NoFaces.g) pa_nil))) (pa_cons (pe_callB (call_isV (K := K) (by rfl)) (by rfl) T.z_isinstance bt_isinstance (pa_cons (pv 0) (pa_cons (pe_globF rfl T.x_NoSize.g) pa_nil))) pa_nil))))))
  (pss_cons (ps_set (i := 1) sc__law_kinds.nd rfl (by first | exact .inl rfl | exact .inr rfl) (pe_op op_cat (pv 1) (pe_lst (pa_cons (pe_callB (call_isV (K := K) (by rfl)) (by rfl) T.z_isinstance bt_isinstance (pa_cons (pv 0) (pa_cons (pe_globF rfl T.x_NoLaying.g) pa_nil))) (pa_cons (pe_callB (call_isV (K := K) (by rfl)) (by rfl) T.z_isinstance bt_isinstance (pa_cons (pv 0) (pa_cons (pe_globF rfl T.x_NoMoves.g) pa_nil))) (pa_cons (pe_callB (call_isV (K := K) (by rfl)) (by rfl) T.z_isinstance bt_isinstance (pa_cons (pv 0) (pa_cons (pe_globF rfl T.x_NoMemory.g) pa_nil))) (pa_cons (pe_callB (call_isV (K := K) (by rfl)) (by rfl) T.z_isinstance bt_isinstance (pa_cons (pv 0) (pa_cons (pe_globF rfl T.x_NoNear.g) pa_nil))) pa_nil)))))))
  (pss_cons (ps_set (i := 1) sc__law_kinds.nd rfl (by first | exact .inl rfl | exact .inr rfl) (pe_op op_cat (pv 1) (pe_lst (pa_cons (pe_callB (call_isV (K := K) (by rfl)) (by rfl) T.z_isinstance bt_isinstance (pa_cons (pv 0) (pa_cons (pe_globF rfl T.x_NoTouches.g) pa_nil))) (pa_cons (pe_callB (call_isV (K := K) (by rfl)) (by rfl) T.z_isinstance bt_isinstance (pa_cons (pv 0) (pa_cons (pe_globF rfl T.x_TooMany.g) pa_nil))) (pa_cons (pe_callB (call_isV (K := K) (by rfl)) (by rfl) T.z_isinstance bt_isinstance (pa_cons (pv 0) (pa_cons (pe_globF rfl T.x_NoNumber.g) pa_nil))) (pa_cons (pe_callB (call_isV (K := K) (by rfl)) (by rfl) T.z_isinstance bt_isinstance (pa_cons (pv 0) (pa_cons (pe_globF rfl T.x_NoDeed.g) pa_nil))) pa_nil)))))))
  (pss_one (ps_ret (pe_op op_cat (pv 1) (pe_lst (pa_cons (pe_callB (call_isV (K := K) (by rfl)) (by rfl) T.z_isinstance bt_isinstance (pa_cons (pv 0) (pa_cons (pe_globF rfl T.x_NoLine.g) pa_nil))) (pa_cons (pe_callB (call_isV (K := K) (by rfl)) (by rfl) T.z_isinstance bt_isinstance (pa_cons (pv 0) (pa_cons (pe_globF rfl T.x_NoWork.g) pa_nil))) (pa_cons (pe_callB (call_isV (K := K) (by rfl)) (by rfl) T.z_isinstance bt_isinstance (pa_cons (pv 0) (pa_cons (pe_globF rfl T.x_NoText.g) pa_nil))) pa_nil)))))))))), ?_⟩
  refine run_H h fun Γ al as Φ hg => ?_
  obtain ⟨a, C, rfl, hx, hC, q⟩ := hg
  simp only [q_dSeq, q_dIf, q_dFor, q_dWh, q_drawH, q_condH, q_lcH, q_forH, q_whileH, q_callD, q_callH, at_mk, put_mk, know_mk, q_var, q_vdat, q_vpen, q_vown, q_vfn, q_vref, q_asD, q_asDo, q_asDa, q_aown, q_adat, q_asA, q_asAp, q_asAf, q_asAr, q_asAo, q_asAa, q_asS, q_asSo, q_asSp, q_asSf, q_asSr, q_asSa, q_asR, q_asRr, q_asRo, q_onD, q_onR, q_inOb, q_inObr, q_inObf, q_onT, q_onL, q_onI, q_onX, q_onBo, q_onTd, q_seqL, q_seqT, q_intI, q_intB, q_none, q_noneR, q_one, q_oneS, q_seeL, q_seeT, q_seeO, q_seeA, q_seeAo, q_seeAl, q_seeAt, q_srL, q_srO, q_srA, q_lenS, q_lenO, q_lenA, q_lenR, q_slL, q_slO, q_slA, q_slAo, q_slAl, q_ixR, q_ixL, q_ixO, q_ixA, q_appA, q_appAo, q_appR, q_emR, q_zipT, q_zipL, q_some, q_fn1, q_fn2, q_fn3, q_fn4, q_pn0, q_pn1, q_pn2, q_pn3, q_scaI, q_scaS, q_scaB, q_scaN, q_fnD, q_all0, q_all1, q_all2, q_all3, q_all4, q_all5, q_wipe0, q_wipe, q_start, q_eqI, q_eqX, q_eqB, q_onB, q_at0, q_at1, q_at2, q_at3, q_at4, q_tup, q_strT, q_str, q_int, q_bool, List.length_cons, List.length_nil, List.map_cons, List.map_nil, List.replicate, List.cons_append, List.nil_append, List.getD_cons_zero, List.getD_cons_succ, List.getD_nil, List.set_cons_zero, List.set_cons_succ, List.set_nil, cond_true, cond_false, Nat.reduceAdd, Nat.reduceSub, Nat.sub_self, Nat.add_one_sub_one, Bool.not_true, Bool.not_false, true_and, and_true, Bool.false_eq_true, if_false, reduceIte]
  refine isV_of hx (T.ec hC) (T.ki hC (by simp)) ?_
  refine isV_of hx (T.ec hC) (T.ki hC (by simp)) ?_
  refine isV_of hx (T.ec hC) (T.ki hC (by simp)) ?_
  refine isV_of hx (T.ec hC) (T.ki hC (by simp)) ?_
  refine ⟨by decide, ?_⟩
  refine isV_of hx (T.ec hC) (T.ki hC (by simp)) ?_
  refine isV_of hx (T.ec hC) (T.ki hC (by simp)) ?_
  refine isV_of hx (T.ec hC) (T.ki hC (by simp)) ?_
  refine isV_of hx (T.ec hC) (T.ki hC (by simp)) ?_
  refine ⟨by decide, by decide, ?_⟩
  refine isV_of hx (T.ec hC) (T.ki hC (by simp)) ?_
  refine isV_of hx (T.ec hC) (T.ki hC (by simp)) ?_
  refine isV_of hx (T.ec hC) (T.ki hC (by simp)) ?_
  refine isV_of hx (T.ec hC) (T.ki hC (by simp)) ?_
  refine ⟨by decide, by decide, ?_⟩
  refine isV_of hx (T.ec hC) (T.ki hC (by simp)) ?_
  refine isV_of hx (T.ec hC) (T.ki hC (by simp)) ?_
  refine isV_of hx (T.ec hC) (T.ki hC (by simp)) ?_
  refine ⟨by decide, by decide, ?_⟩
  exact ⟨al, Sub.rfl, q⟩
theorem atD_of {ds : List PyData} {i : Int} {k : PyData → Prop} (h0 : 0 ≤ i) (h1 : i < ds.length) (h : ∀ d ∈ ds, k d) : atD ds i k := by
  obtain ⟨j, rfl⟩ := Int.eq_ofNat_of_zero_le h0
  have hj : j < ds.length := by omega
  exact atD_at rfl (List.getElem?_eq_getElem hj) (h _ (List.getElem_mem hj))
def placeF (j : Int) : PyData → PyData
  | .int k => .bool (decide (k = j))
  | d => d
theorem nodup_inj {l : List Addr} (nd : l.Nodup) {i j : Nat} (hi : i < l.length) (hj : j < l.length) (e : l[i] = l[j]) : i = j := by
  rcases Nat.lt_trichotomy i j with h | h | h
  · exact absurd e (List.pairwise_iff_getElem.mp nd i j hi hj h)
  · exact h
  · exact absurd e.symm (List.pairwise_iff_getElem.mp nd j i hj hi h)
theorem kinds_eq {Cs : List Addr} (nd : Cs.Nodup) {j : Nat} {C : Addr} (h : Cs[j]? = some C) : (rngD 0 Cs.length).map (placeF (j : Int)) = Cs.map fun D => PyData.bool (decide (C = D)) := by
  apply List.ext_getElem?
  intro i
  rw [List.getElem?_map, List.getElem?_map]
  unfold rngD
  rw [List.getElem?_map]
  by_cases hi : i < Cs.length
  · rw [List.getElem?_range hi, List.getElem?_eq_getElem hi]
    show some (PyData.bool (decide ((0 : Int) + (i : Int) = (j : Int)))) = some (PyData.bool (decide (C = Cs[i])))
    obtain ⟨hj, ej⟩ := List.getElem?_eq_some_iff.mp h
    have e : ((0 : Int) + (i : Int) = (j : Int)) ↔ C = Cs[i] := by
      rw [← ej]
      constructor
      · intro z
        have z' : i = j := by omega
        subst z'
        rfl
      · intro z
        have := nodup_inj nd hj hi z
        omega
    rw [decide_eq_decide.mpr e]
  · rw [List.getElem?_eq_none_iff.mpr (by simpa using hi), List.getElem?_eq_none_iff.mpr (by omega)]
    rfl
theorem noDict_bools : ∀ ns : List Bool, noDicts (ns.map PyData.bool) = true
  | [] => rfl
  | n :: ns => by
    show (noDict (.bool n) && noDicts (ns.map PyData.bool)) = true
    rw [noDict_bools ns]
    rfl
theorem bools_cmp {C : Addr} {Cs : List Addr} {k : Prop} (hk : k) : (noDict (.list (Cs.map fun D => PyData.bool (decide (C = D)))) && noDict (.list (Cs.map fun D => PyData.bool (decide (C = D))))) = true ∧ SeqAt.shaped (.list (Cs.map fun D => PyData.bool (decide (C = D)))) = true ∧ SeqAt.shaped (.list (Cs.map fun D => PyData.bool (decide (C = D)))) = true ∧ k := by
  have e : (Cs.map fun D => PyData.bool (decide (C = D))) = (Cs.map fun D => decide (C = D)).map PyData.bool := by rw [List.map_map]; rfl
  have o : Ok 1 (.list (Cs.map fun D => PyData.bool (decide (C = D)))) := Ok.lst fun d hd => by
    obtain ⟨i, _, rfl⟩ := List.mem_map.mp hd
    exact Ok.bool 0 _
  have n : noDict (.list (Cs.map fun D => PyData.bool (decide (C = D)))) = true := by
    rw [e]
    exact noDict_bools _
  exact ⟨by rw [n]; rfl, o.shaped, o.shaped, hk⟩
theorem bif_noE {a b : PyData} {p q : Prop} (h : PyData.eqv a b = true) (hq : q) : bif !PyData.eqv a b then p else q := by
  rw [h]
  exact hq
theorem bools_self {C : Addr} {Cs : List Addr} : PyData.eqv (.list (Cs.map fun D => PyData.bool (decide (C = D)))) (.list (Cs.map fun D => PyData.bool (decide (C = D)))) = true := (Ok.lst (n := 0) fun d hd => by
    obtain ⟨i, _, rfl⟩ := List.mem_map.mp hd
    exact Ok.bool 0 _).self
/-- what _law_made gives: the exceptions rs, each of its class; the last one's line -/
def MadeX (al : Al) (Cs : List Addr) (CT : Addr) (n : Int) (rs : List Addr) : Prop := rs.length = 15 ∧ (∀ (i : Nat) (a C : Addr), rs[i]? = some a → Cs[i]? = some C → ExK al a C) ∧ ∃ a d, rs[14]? = some a ∧ al a = some (.ext (exN a CT d)) ∧ al d = some (.ext (exF d [("line", .int n)]))
theorem cal_made (T : LTxt K mg CL c0 c1 c2 c3 c4 c5 c6 c7 c8 c9 c10 c11 c12 c13 c14) : Cal P w K mg base 3 "_law_made" (spH K 2 fun al as Φ => ∃ z n, as = [.dat (.str z), .dat (.int n)] ∧ ∀ al' p rs, Sub al al' → al' p = some (.lst (rs.map .ref)) → MadeX al' [c0, c1, c2, c3, c4, c5, c6, c7, c8, c9, c10, c11, c12, c13, c14] c14 n rs → Φ al' (.ref p)) := by
  have mk_NoText := mk_nt (P := P) (w := w) (base := base) T
  refine T.d__law_made.cal sc__law_made (fun vs H Q E h => h.1) (fun f cdv A outer s H vs Q E hr h => ?_)
  have hu := hu_of hr
  refine ⟨_, (pss_cons (ps_set (i := 2) sc__law_made.nd rfl (by first | exact .inl rfl | exact .inr rfl) (pe_lstQ (pe_lst (pa_cons (pe_excV T.x_NoProgram (by rfl) (pv 0)) (pa_cons (pe_excV T.x_NoInputs (by rfl) (pv 0)) (pa_cons (pe_excV T.x_NoFaces (by rfl) (pv 0)) (pa_cons (pe_excV T.x_NoSize (by rfl) (pv 0)) (pa_cons (pe_excV T.x_NoLaying (by rfl) (pv 0)) (pa_cons (pe_excV T.x_NoMoves (by rfl) (pv 0)) pa_nil)))))))))
  (pss_cons (ps_set (i := 2) sc__law_made.nd rfl (by first | exact .inl rfl | exact .inr rfl) (pe_catO (pv 2) (pe_lstQ (pe_lst (pa_cons (pe_excV T.x_NoMemory (by rfl) (pv 0)) (pa_cons (pe_excV T.x_NoNear (by rfl) (pv 0)) (pa_cons (pe_excV T.x_NoTouches (by rfl) (pv 0)) (pa_cons (pe_excV T.x_TooMany (by rfl) (pv 0)) (pa_cons (pe_excV T.x_NoNumber (by rfl) (pv 0)) (pa_cons (pe_excV T.x_NoDeed (by rfl) (pv 0)) pa_nil))))))))))
  (pss_one (ps_ret (pe_catO (pv 2) (pe_lstQ (pe_lst (pa_cons (pe_excV T.x_NoLine (by rfl) (pv 0)) (pa_cons (pe_excV T.x_NoWork (by rfl) (pv 0)) (pa_cons (pe_excN mk_NoText hr (by first | decide | omega) (by rfl) (pa_cons (pv 1) pa_nil)) pa_nil)))))))))), ?_⟩
  refine run_H h fun Γ al as Φ hg => ?_
  obtain ⟨z, n, rfl, q⟩ := hg
  simp only [q_dSeq, q_dIf, q_dFor, q_dWh, q_drawH, q_condH, q_lcH, q_forH, q_whileH, q_callD, q_callH, at_mk, put_mk, know_mk, q_var, q_vdat, q_vpen, q_vown, q_vfn, q_vref, q_asD, q_asDo, q_asDa, q_aown, q_adat, q_asA, q_asAp, q_asAf, q_asAr, q_asAo, q_asAa, q_asS, q_asSo, q_asSp, q_asSf, q_asSr, q_asSa, q_asR, q_asRr, q_asRo, q_onD, q_onR, q_inOb, q_inObr, q_inObf, q_onT, q_onL, q_onI, q_onX, q_onBo, q_onTd, q_seqL, q_seqT, q_intI, q_intB, q_none, q_noneR, q_one, q_oneS, q_seeL, q_seeT, q_seeO, q_seeA, q_seeAo, q_seeAl, q_seeAt, q_srL, q_srO, q_srA, q_lenS, q_lenO, q_lenA, q_lenR, q_slL, q_slO, q_slA, q_slAo, q_slAl, q_ixR, q_ixL, q_ixO, q_ixA, q_appA, q_appAo, q_appR, q_emR, q_zipT, q_zipL, q_some, q_fn1, q_fn2, q_fn3, q_fn4, q_pn0, q_pn1, q_pn2, q_pn3, q_scaI, q_scaS, q_scaB, q_scaN, q_fnD, q_all0, q_all1, q_all2, q_all3, q_all4, q_all5, q_wipe0, q_wipe, q_start, q_eqI, q_eqX, q_eqB, q_onB, q_at0, q_at1, q_at2, q_at3, q_at4, q_tup, q_strT, q_str, q_int, q_bool, List.length_cons, List.length_nil, List.map_cons, List.map_nil, List.replicate, List.cons_append, List.nil_append, List.getD_cons_zero, List.getD_cons_succ, List.getD_nil, List.set_cons_zero, List.set_cons_succ, List.set_nil, cond_true, cond_false, Nat.reduceAdd, Nat.reduceSub, Nat.sub_self, Nat.add_one_sub_one, Bool.not_true, Bool.not_false, true_and, and_true, Bool.false_eq_true, if_false, reduceIte]
  intro a0 n0
  have u1 : Sub al (oup al a0 (.ext (exP a0 c0))) := Sub.up Sub.rfl n0
  have x1 : ExK (oup al a0 (.ext (exP a0 c0))) a0 c0 := .inl oup_same
  generalize oup al a0 (.ext (exP a0 c0)) = al1 at u1 x1 ⊢
  intro a1 n1
  have u2 : Sub al1 (oup al1 a1 (.ext (exP a1 c1))) := Sub.up Sub.rfl n1
  have x2 : ExK (oup al1 a1 (.ext (exP a1 c1))) a1 c1 := .inl oup_same
  generalize oup al1 a1 (.ext (exP a1 c1)) = al2 at u2 x2 ⊢
  intro a2 n2
  have u3 : Sub al2 (oup al2 a2 (.ext (exP a2 c2))) := Sub.up Sub.rfl n2
  have x3 : ExK (oup al2 a2 (.ext (exP a2 c2))) a2 c2 := .inl oup_same
  generalize oup al2 a2 (.ext (exP a2 c2)) = al3 at u3 x3 ⊢
  intro a3 n3
  have u4 : Sub al3 (oup al3 a3 (.ext (exP a3 c3))) := Sub.up Sub.rfl n3
  have x4 : ExK (oup al3 a3 (.ext (exP a3 c3))) a3 c3 := .inl oup_same
  generalize oup al3 a3 (.ext (exP a3 c3)) = al4 at u4 x4 ⊢
  intro a4 n4
  have u5 : Sub al4 (oup al4 a4 (.ext (exP a4 c4))) := Sub.up Sub.rfl n4
  have x5 : ExK (oup al4 a4 (.ext (exP a4 c4))) a4 c4 := .inl oup_same
  generalize oup al4 a4 (.ext (exP a4 c4)) = al5 at u5 x5 ⊢
  intro a5 n5
  have u6 : Sub al5 (oup al5 a5 (.ext (exP a5 c5))) := Sub.up Sub.rfl n5
  have x6 : ExK (oup al5 a5 (.ext (exP a5 c5))) a5 c5 := .inl oup_same
  generalize oup al5 a5 (.ext (exP a5 c5)) = al6 at u6 x6 ⊢
  refine ⟨⟨rfl, by decide⟩, ?_⟩
  intro p1 np1
  have u7 : Sub al6 (oup al6 p1 (.lst [Sv.ref a0, Sv.ref a1, Sv.ref a2, Sv.ref a3, Sv.ref a4, Sv.ref a5])) := Sub.up Sub.rfl np1
  have x7 : (oup al6 p1 (.lst [Sv.ref a0, Sv.ref a1, Sv.ref a2, Sv.ref a3, Sv.ref a4, Sv.ref a5])) p1 = some (.lst [Sv.ref a0, Sv.ref a1, Sv.ref a2, Sv.ref a3, Sv.ref a4, Sv.ref a5]) := oup_same
  generalize oup al6 p1 (.lst [Sv.ref a0, Sv.ref a1, Sv.ref a2, Sv.ref a3, Sv.ref a4, Sv.ref a5]) = al7 at u7 x7 ⊢
  intro a6 n6
  have u8 : Sub al7 (oup al7 a6 (.ext (exP a6 c6))) := Sub.up Sub.rfl n6
  have x8 : ExK (oup al7 a6 (.ext (exP a6 c6))) a6 c6 := .inl oup_same
  generalize oup al7 a6 (.ext (exP a6 c6)) = al8 at u8 x8 ⊢
  intro a7 n7
  have u9 : Sub al8 (oup al8 a7 (.ext (exP a7 c7))) := Sub.up Sub.rfl n7
  have x9 : ExK (oup al8 a7 (.ext (exP a7 c7))) a7 c7 := .inl oup_same
  generalize oup al8 a7 (.ext (exP a7 c7)) = al9 at u9 x9 ⊢
  intro a8 n8
  have u10 : Sub al9 (oup al9 a8 (.ext (exP a8 c8))) := Sub.up Sub.rfl n8
  have x10 : ExK (oup al9 a8 (.ext (exP a8 c8))) a8 c8 := .inl oup_same
  generalize oup al9 a8 (.ext (exP a8 c8)) = al10 at u10 x10 ⊢
  intro a9 n9
  have u11 : Sub al10 (oup al10 a9 (.ext (exP a9 c9))) := Sub.up Sub.rfl n9
  have x11 : ExK (oup al10 a9 (.ext (exP a9 c9))) a9 c9 := .inl oup_same
  generalize oup al10 a9 (.ext (exP a9 c9)) = al11 at u11 x11 ⊢
  intro a10 n10
  have u12 : Sub al11 (oup al11 a10 (.ext (exP a10 c10))) := Sub.up Sub.rfl n10
  have x12 : ExK (oup al11 a10 (.ext (exP a10 c10))) a10 c10 := .inl oup_same
  generalize oup al11 a10 (.ext (exP a10 c10)) = al12 at u12 x12 ⊢
  intro a11 n11
  have u13 : Sub al12 (oup al12 a11 (.ext (exP a11 c11))) := Sub.up Sub.rfl n11
  have x13 : ExK (oup al12 a11 (.ext (exP a11 c11))) a11 c11 := .inl oup_same
  generalize oup al12 a11 (.ext (exP a11 c11)) = al13 at u13 x13 ⊢
  refine ⟨⟨rfl, by decide⟩, ?_⟩
  intro p2 np2
  have u14 : Sub al13 (oup al13 p2 (.lst [Sv.ref a6, Sv.ref a7, Sv.ref a8, Sv.ref a9, Sv.ref a10, Sv.ref a11])) := Sub.up Sub.rfl np2
  have x14 : (oup al13 p2 (.lst [Sv.ref a6, Sv.ref a7, Sv.ref a8, Sv.ref a9, Sv.ref a10, Sv.ref a11])) p2 = some (.lst [Sv.ref a6, Sv.ref a7, Sv.ref a8, Sv.ref a9, Sv.ref a10, Sv.ref a11]) := oup_same
  generalize oup al13 p2 (.lst [Sv.ref a6, Sv.ref a7, Sv.ref a8, Sv.ref a9, Sv.ref a10, Sv.ref a11]) = al14 at u14 x14 ⊢
  refine asLst_of (ss := [Sv.ref a0, Sv.ref a1, Sv.ref a2, Sv.ref a3, Sv.ref a4, Sv.ref a5]) (((((((u8.trans u9).trans u10).trans u11).trans u12).trans u13).trans u14) _ _ x7) (asLst_of (ss := [Sv.ref a6, Sv.ref a7, Sv.ref a8, Sv.ref a9, Sv.ref a10, Sv.ref a11]) (Sub.rfl _ _ x14) ⟨by simp, ?_⟩)
  intro p3 np3
  have u15 : Sub al14 (oup al14 p3 (.lst ([Sv.ref a0, Sv.ref a1, Sv.ref a2, Sv.ref a3, Sv.ref a4, Sv.ref a5] ++ [Sv.ref a6, Sv.ref a7, Sv.ref a8, Sv.ref a9, Sv.ref a10, Sv.ref a11]))) := Sub.up Sub.rfl np3
  have x15 : (oup al14 p3 (.lst ([Sv.ref a0, Sv.ref a1, Sv.ref a2, Sv.ref a3, Sv.ref a4, Sv.ref a5] ++ [Sv.ref a6, Sv.ref a7, Sv.ref a8, Sv.ref a9, Sv.ref a10, Sv.ref a11]))) p3 = some (.lst ([Sv.ref a0, Sv.ref a1, Sv.ref a2, Sv.ref a3, Sv.ref a4, Sv.ref a5] ++ [Sv.ref a6, Sv.ref a7, Sv.ref a8, Sv.ref a9, Sv.ref a10, Sv.ref a11])) := oup_same
  generalize oup al14 p3 (.lst ([Sv.ref a0, Sv.ref a1, Sv.ref a2, Sv.ref a3, Sv.ref a4, Sv.ref a5] ++ [Sv.ref a6, Sv.ref a7, Sv.ref a8, Sv.ref a9, Sv.ref a10, Sv.ref a11])) = al15 at u15 x15 ⊢
  intro a12 n12
  have u16 : Sub al15 (oup al15 a12 (.ext (exP a12 c12))) := Sub.up Sub.rfl n12
  have x16 : ExK (oup al15 a12 (.ext (exP a12 c12))) a12 c12 := .inl oup_same
  generalize oup al15 a12 (.ext (exP a12 c12)) = al16 at u16 x16 ⊢
  intro a13 n13
  have u17 : Sub al16 (oup al16 a13 (.ext (exP a13 c13))) := Sub.up Sub.rfl n13
  have x17 : ExK (oup al16 a13 (.ext (exP a13 c13))) a13 c13 := .inl oup_same
  generalize oup al16 a13 (.ext (exP a13 c13)) = al17 at u17 x17 ⊢
  refine ⟨n, rfl, ?_⟩
  intro a14 d na14 nd14 ne14
  have u18 : Sub al17 (oup (oup al17 d (.ext (exF d [("line", V.int n)]))) a14 (.ext (exN a14 c14 d))) := (Sub.up Sub.rfl nd14).trans (Sub.up Sub.rfl (by rw [oup_ne (Ne.symm ne14)]; exact na14))
  have x18 : (oup (oup al17 d (.ext (exF d [("line", V.int n)]))) a14 (.ext (exN a14 c14 d))) a14 = some (.ext (exN a14 c14 d)) := oup_same
  have y18 : (oup (oup al17 d (.ext (exF d [("line", V.int n)]))) a14 (.ext (exN a14 c14 d))) d = some (.ext (exF d [("line", V.int n)])) := by rw [oup_ne ne14, oup_same]
  generalize (oup (oup al17 d (.ext (exF d [("line", V.int n)]))) a14 (.ext (exN a14 c14 d))) = al18 at u18 x18 y18 ⊢
  refine ⟨⟨rfl, by decide⟩, ?_⟩
  intro p4 np4
  have u19 : Sub al18 (oup al18 p4 (.lst [Sv.ref a12, Sv.ref a13, Sv.ref a14])) := Sub.up Sub.rfl np4
  have x19 : (oup al18 p4 (.lst [Sv.ref a12, Sv.ref a13, Sv.ref a14])) p4 = some (.lst [Sv.ref a12, Sv.ref a13, Sv.ref a14]) := oup_same
  generalize oup al18 p4 (.lst [Sv.ref a12, Sv.ref a13, Sv.ref a14]) = al19 at u19 x19 ⊢
  refine asLst_of (ss := ([Sv.ref a0, Sv.ref a1, Sv.ref a2, Sv.ref a3, Sv.ref a4, Sv.ref a5] ++ [Sv.ref a6, Sv.ref a7, Sv.ref a8, Sv.ref a9, Sv.ref a10, Sv.ref a11])) ((((u16.trans u17).trans u18).trans u19) _ _ x15) (asLst_of (ss := [Sv.ref a12, Sv.ref a13, Sv.ref a14]) (Sub.rfl _ _ x19) ⟨by simp, ?_⟩)
  intro p5 np5
  have u20 : Sub al19 (oup al19 p5 (.lst (([Sv.ref a0, Sv.ref a1, Sv.ref a2, Sv.ref a3, Sv.ref a4, Sv.ref a5] ++ [Sv.ref a6, Sv.ref a7, Sv.ref a8, Sv.ref a9, Sv.ref a10, Sv.ref a11]) ++ [Sv.ref a12, Sv.ref a13, Sv.ref a14]))) := Sub.up Sub.rfl np5
  have x20 : (oup al19 p5 (.lst (([Sv.ref a0, Sv.ref a1, Sv.ref a2, Sv.ref a3, Sv.ref a4, Sv.ref a5] ++ [Sv.ref a6, Sv.ref a7, Sv.ref a8, Sv.ref a9, Sv.ref a10, Sv.ref a11]) ++ [Sv.ref a12, Sv.ref a13, Sv.ref a14]))) p5 = some (.lst (([Sv.ref a0, Sv.ref a1, Sv.ref a2, Sv.ref a3, Sv.ref a4, Sv.ref a5] ++ [Sv.ref a6, Sv.ref a7, Sv.ref a8, Sv.ref a9, Sv.ref a10, Sv.ref a11]) ++ [Sv.ref a12, Sv.ref a13, Sv.ref a14])) := oup_same
  generalize oup al19 p5 (.lst (([Sv.ref a0, Sv.ref a1, Sv.ref a2, Sv.ref a3, Sv.ref a4, Sv.ref a5] ++ [Sv.ref a6, Sv.ref a7, Sv.ref a8, Sv.ref a9, Sv.ref a10, Sv.ref a11]) ++ [Sv.ref a12, Sv.ref a13, Sv.ref a14])) = al20 at u20 x20 ⊢
  have F14 : al20 a14 = some (.ext (exN a14 c14 d)) := (u19.trans u20) _ _ x18
  have G14 : al20 d = some (.ext (exF d [("line", V.int n)])) := (u19.trans u20) _ _ y18
  refine ⟨al20, Sub.rfl, q al20 p5 [a0, a1, a2, a3, a4, a5, a6, a7, a8, a9, a10, a11, a12, a13, a14] ((((((((((((((((((((u1.trans u2).trans u3).trans u4).trans u5).trans u6).trans u7).trans u8).trans u9).trans u10).trans u11).trans u12).trans u13).trans u14).trans u15).trans u16).trans u17).trans u18).trans u19).trans u20)) x20 ⟨rfl, fun i a C h1 h2 => ?_, a14, d, rfl, F14, G14⟩⟩
  match i, h1, h2 with
  | 0, h1, h2 => cases h1; cases h2; exact x1.sub (((((((((((((((((((u2.trans u3).trans u4).trans u5).trans u6).trans u7).trans u8).trans u9).trans u10).trans u11).trans u12).trans u13).trans u14).trans u15).trans u16).trans u17).trans u18).trans u19).trans u20))
  | 1, h1, h2 => cases h1; cases h2; exact x2.sub ((((((((((((((((((u3.trans u4).trans u5).trans u6).trans u7).trans u8).trans u9).trans u10).trans u11).trans u12).trans u13).trans u14).trans u15).trans u16).trans u17).trans u18).trans u19).trans u20))
  | 2, h1, h2 => cases h1; cases h2; exact x3.sub (((((((((((((((((u4.trans u5).trans u6).trans u7).trans u8).trans u9).trans u10).trans u11).trans u12).trans u13).trans u14).trans u15).trans u16).trans u17).trans u18).trans u19).trans u20))
  | 3, h1, h2 => cases h1; cases h2; exact x4.sub ((((((((((((((((u5.trans u6).trans u7).trans u8).trans u9).trans u10).trans u11).trans u12).trans u13).trans u14).trans u15).trans u16).trans u17).trans u18).trans u19).trans u20))
  | 4, h1, h2 => cases h1; cases h2; exact x5.sub (((((((((((((((u6.trans u7).trans u8).trans u9).trans u10).trans u11).trans u12).trans u13).trans u14).trans u15).trans u16).trans u17).trans u18).trans u19).trans u20))
  | 5, h1, h2 => cases h1; cases h2; exact x6.sub ((((((((((((((u7.trans u8).trans u9).trans u10).trans u11).trans u12).trans u13).trans u14).trans u15).trans u16).trans u17).trans u18).trans u19).trans u20))
  | 6, h1, h2 => cases h1; cases h2; exact x8.sub ((((((((((((u9.trans u10).trans u11).trans u12).trans u13).trans u14).trans u15).trans u16).trans u17).trans u18).trans u19).trans u20))
  | 7, h1, h2 => cases h1; cases h2; exact x9.sub (((((((((((u10.trans u11).trans u12).trans u13).trans u14).trans u15).trans u16).trans u17).trans u18).trans u19).trans u20))
  | 8, h1, h2 => cases h1; cases h2; exact x10.sub ((((((((((u11.trans u12).trans u13).trans u14).trans u15).trans u16).trans u17).trans u18).trans u19).trans u20))
  | 9, h1, h2 => cases h1; cases h2; exact x11.sub (((((((((u12.trans u13).trans u14).trans u15).trans u16).trans u17).trans u18).trans u19).trans u20))
  | 10, h1, h2 => cases h1; cases h2; exact x12.sub ((((((((u13.trans u14).trans u15).trans u16).trans u17).trans u18).trans u19).trans u20))
  | 11, h1, h2 => cases h1; cases h2; exact x13.sub (((((((u14.trans u15).trans u16).trans u17).trans u18).trans u19).trans u20))
  | 12, h1, h2 => cases h1; cases h2; exact x16.sub ((((u17.trans u18).trans u19).trans u20))
  | 13, h1, h2 => cases h1; cases h2; exact x17.sub (((u18.trans u19).trans u20))
  | 14, h1, h2 => cases h1; cases h2; exact .inr ⟨d, _, F14, G14⟩
  | _ + 15, h1, h2 => simp at h1
def spLaw (K : PySem.W.Frag) : Sp := fun vs H Q _ => ∃ (a : Addr) (ns : List Int), vs = [.ref a] ∧ SqL K H a (ns.map V.int) ∧ ns.length ≤ 63 ∧ LamX.Tabs (LT K) H ∧ ∀ H', Q (.bl true) H'
theorem ok_law (T : LTxt K mg CL c0 c1 c2 c3 c4 c5 c6 c7 c8 c9 c10 c11 c12 c13 c14) {f : Addr} {fd : FuncData} (F : Fun K "law" "law" s_law f fd) : FnOk P w K mg base CX0 20 f fd ["_law_script"] (spLaw K) := by
  have c__law_cell := cal_cell (P := P) (w := w) (base := base) T.toPTxt
  have c__law_pen := cal_pen (P := P) (w := w) (base := base) T.toPTxt
  have c__law_draw := cal_draw (P := P) (w := w) (base := base) T.toPTxt
  have c__law_kinds := cal_kinds (P := P) (w := w) (base := base) T
  have c__law_made := cal_made (P := P) (w := w) (base := base) T
  refine F.ok sc_law (fun vs H Q E h => ?_) (fun cdv A outer s H vs Q E hr h => ?_)
  · obtain ⟨a, ns, rfl, _⟩ := h
    rfl
  · obtain ⟨a, ns, rfl, hS, hlen, hT, q⟩ := h
    have hu := hu_of hr
    refine ⟨_, (pss_cons (ps_for PassesOwn.never rfl (pi_listK K (by rfl) (pe_op op_cat (pe_lst (pa_cons (pe_c c__law_cell hr (by first | decide | omega) (by rfl) (pa_cons (pv 0) (pa_cons pe_int pa_nil))) pa_nil)) (pe_slice (sl_listK K (by rfl)) (pv 0) (po_some pe_int) (po_some pe_int)))) (pg_nameX 1 sc_law.nd rfl (by first | exact .inl rfl | exact .inr rfl) (by first | exact .inr rfl | exact .inl rfl))
  (pss_cons (ps_set (i := 2) sc_law.nd rfl (by first | exact .inl rfl | exact .inr rfl) (pe_c c__law_pen hr (by first | decide | omega) (by rfl) (pa_cons (pv 1) pa_nil)))
  (pss_cons (ps_par (i := 3) (j := 4) rfl sc_law.nd rfl rfl (by decide) rfl rfl (pa_cons (pe_ix (ix_listK K (by rfl)) (pe_lst (pa_cons pe_str (pa_cons pe_str (pa_cons pe_str pa_nil)))) (pe_c c__law_draw hr (by first | decide | omega) (by rfl) (pa_cons (pv 2) (pa_cons pe_int pa_nil))) (fun _ _ => rfl)) (pa_cons (pe_ix (ix_listK K (by rfl)) (pe_lst (pa_cons (pe_un un_neg pe_int) (pa_cons pe_int (pa_cons (pe_c c__law_draw hr (by first | decide | omega) (by rfl) (pa_cons (pv 2) (pa_cons pe_int pa_nil))) pa_nil)))) (pe_c c__law_draw hr (by first | decide | omega) (by rfl) (pa_cons (pv 2) (pa_cons pe_int pa_nil))) (fun _ _ => rfl)) pa_nil)) rfl)
  (pss_cons (ps_set (i := 5) sc_law.nd rfl (by first | exact .inl rfl | exact .inr rfl) (pe_c c__law_made hr (by first | decide | omega) (by rfl) (pa_cons (pv 3) (pa_cons (pv 4) pa_nil))))
  (pss_cons (ps_for PassesOwn.never rfl (pi_enumO K (by rfl) (by rfl) T.z_enumerate (pa_cons (pv 5) pa_nil) (by rfl)) (pg_tupK K (n := 2) (by rfl) (by rfl) (by rfl) (by rfl) (pgs_consX (by rfl) (pg_nameX 6 sc_law.nd rfl (by first | exact .inl rfl | exact .inr rfl) (by first | exact .inr rfl | exact .inl rfl)) (pgs_consX (by rfl) (pg_nameX 7 sc_law.nd rfl (by first | exact .inl rfl | exact .inr rfl) (by first | exact .inr rfl | exact .inl rfl)) pgs_nil)))
  (pss_cons (ps_if (PW.pt (pw_or (pt_cmpR (op_neDK K (by rfl) hr.units) (pe_c c__law_kinds hr (by first | decide | omega) (by rfl) (pa_cons (pv 7) pa_nil)) (pe_lcX [("_law_place", 8)] (by rfl) sc_law.nd (pi_range1 (by rfl) T.z_range (pa_cons pe_int pa_nil)) (blkOk_by (N := ["_law_script", "_law_cell_here", "_law_pen_here", "_law_text", "_law_number", "_law_rows", "_law_at", "_law_one", "_law_place", "_law_bare"]) (sc := defScope s_law) (by decide +kernel)) (fun _ _ _ _ _ => by exact (pg_nameX 8 sc_law.nd rfl (by first | exact .inl rfl | exact .inr rfl) (by first | exact .inr rfl | exact .inl rfl))) (fun _ _ _ _ _ => by exact pts_nil) (fun _ _ _ _ _ => by exact (pe_cmpR op_eq (pv 8) (pv 6) (nomark _))) (fun _ => rfl)) (nomark _)) (pw_or1 (pt_not (pt_val (pe_callB (call_isV (K := K) (by rfl)) (by rfl) T.z_isinstance bt_isinstance (pa_cons (pv 7) (pa_cons (pe_globF rfl T.x_LayError.g) pa_nil))))))))
  (pss_one (ps_ret pe_bl))
  pss_nil)
  (pss_one (ps_if (pt_not (pt_val (pe_callB (call_isV (K := K) (by rfl)) (by rfl) T.z_isinstance bt_isinstance (pa_cons (pv 7) (pa_cons (pe_bltn (v := .ty "ValueError") rfl T.z_ValueError bt_ValueError rfl) pa_nil)))))
  (pss_one (ps_ret pe_bl))
  pss_nil))))
  (pss_cons (ps_set (i := 9) sc_law.nd rfl (by first | exact .inl rfl | exact .inr rfl) (pe_excV T.x_LayError (by rfl) (pv 3)))
  (pss_one (ps_if (PW.pt (pw_or (pt_cmpR op_ne (pe_line (K := K) (by rfl) (pe_ix (ix_listK K (by rfl)) (pv 5) (pe_un un_neg pe_int) (fun _ _ => rfl))) (pv 4) (nomark _)) (pw_or (pt_cmpR (op_in_seqK K (by rfl)) pe_bl (pe_c c__law_kinds hr (by first | decide | omega) (by rfl) (pa_cons (pv 9) pa_nil)) (by rfl)) (pw_or1 (pt_not (pt_val (pe_callB (call_isV (K := K) (by rfl)) (by rfl) T.z_isinstance bt_isinstance (pa_cons (pv 9) (pa_cons (pe_bltn (v := .ty "ValueError") rfl T.z_ValueError bt_ValueError rfl) pa_nil)))))))))
  (pss_one (ps_ret pe_bl))
  pss_nil))))))))
  (pss_one (ps_ret pe_bl))), ?_⟩
    refine law_cells (ic := 1) (ip := 2) (kn := List.replicate 10 none) (fun Γ => inferInstance) hS rfl hlen hT ⟨rfl, fun i d e => (rep_none e).elim⟩ rfl rfl (by decide) (fun p => ?_) (fun σ' H' => q H')
    have ep : penS (List.replicate 10 (none : Option PyData)) 2 p = [none, none, some (.pen p), none, none, none, none, none, none, none] := rfl
    rw [ep]
    simp only [q_dSeq, q_dIf, q_dFor, q_dWh, q_drawH, q_condH, q_lcH, q_forH, q_whileH, q_callD, q_callH, at_mk, put_mk, know_mk, q_var, q_vdat, q_vpen, q_vown, q_vfn, q_vref, q_asD, q_asDo, q_asDa, q_aown, q_adat, q_asA, q_asAp, q_asAf, q_asAr, q_asAo, q_asAa, q_asS, q_asSo, q_asSp, q_asSf, q_asSr, q_asSa, q_asR, q_asRr, q_asRo, q_onD, q_onR, q_inOb, q_inObr, q_inObf, q_onT, q_onL, q_onI, q_onX, q_onBo, q_onTd, q_seqL, q_seqT, q_intI, q_intB, q_none, q_noneR, q_one, q_oneS, q_seeL, q_seeT, q_seeO, q_seeA, q_seeAo, q_seeAl, q_seeAt, q_srL, q_srO, q_srA, q_lenS, q_lenO, q_lenA, q_lenR, q_slL, q_slO, q_slA, q_slAo, q_slAl, q_ixR, q_ixL, q_ixO, q_ixA, q_appA, q_appAo, q_appR, q_emR, q_zipT, q_zipL, q_some, q_fn1, q_fn2, q_fn3, q_fn4, q_pn0, q_pn1, q_pn2, q_pn3, q_scaI, q_scaS, q_scaB, q_scaN, q_fnD, q_all0, q_all1, q_all2, q_all3, q_all4, q_all5, q_wipe0, q_wipe, q_start, q_eqI, q_eqX, q_eqB, q_onB, q_at0, q_at1, q_at2, q_at3, q_at4, q_tup, q_strT, q_str, q_int, q_bool, List.length_cons, List.length_nil, List.map_cons, List.map_nil, List.replicate, List.cons_append, List.nil_append, List.getD_cons_zero, List.getD_cons_succ, List.getD_nil, List.set_cons_zero, List.set_cons_succ, List.set_nil, cond_true, cond_false, Nat.reduceAdd, Nat.reduceSub, Nat.sub_self, Nat.add_one_sub_one, Bool.not_true, Bool.not_false, true_and, and_true, Bool.false_eq_true, if_false, reduceIte]
    refine ⟨by decide, by decide, ⟨by decide, by decide⟩, fun d d0 d1 => atD_of d0 d1 fun z hz => ?_⟩
    obtain ⟨z, rfl⟩ : ∃ x, z = .str x := by
      simp only [List.mem_cons, List.not_mem_nil, or_false] at hz
      rcases hz with rfl | rfl | rfl <;> exact ⟨_, rfl⟩
    refine ⟨⟨by decide, by decide⟩, fun e e0 e1 => ⟨by decide, ⟨by decide, by decide⟩, fun g g0 g1 => atD_of g0 g1 fun n hn => ?_⟩⟩
    obtain ⟨n, rfl⟩ : ∃ x, n = .int x := by
      simp only [List.mem_cons, List.not_mem_nil, or_false] at hn
      rcases hn with rfl | rfl | rfl <;> exact ⟨_, rfl⟩
    refine ⟨z, n, rfl, fun al pp rs _ hpp ⟨hl, hx, a14, d14, r14, x14, y14⟩ => ?_⟩
    refine asLst_of hpp ?_
    refine forE_by (fun _ δ => ∃ x6 x7 : Option Sv, δ = ⟨[none, none, some (.pen p), some (.dat (.str z)), some (.dat (.int n)), some (.ref pp), x6, x7, none, none], al⟩) ⟨none, none, rfl⟩ ?_ ?_ ?_
    · rintro i δ ⟨x6, x7, rfl⟩
      exact hpp
    · rintro j s hs δ ⟨x6, x7, rfl⟩ nx hnx
      rw [List.getElem?_map] at hs
      cases er : rs[j]? with
      | none => rw [er] at hs; cases hs
      | some r =>
        rw [er] at hs
        cases hs
        have hj : j < 15 := by
          have := (List.getElem?_eq_some_iff.mp er).1
          omega
        obtain ⟨C, eC⟩ : ∃ C, [c0, c1, c2, c3, c4, c5, c6, c7, c8, c9, c10, c11, c12, c13, c14][j]? = some C := ⟨_, List.getElem?_eq_getElem (show j < [c0, c1, c2, c3, c4, c5, c6, c7, c8, c9, c10, c11, c12, c13, c14].length from hj)⟩
        have hC := hx j r C er eC
        have mC := List.mem_of_getElem? eC
        have ke : (rngD 0 15).map (placeF ((0 + j : Nat) : Int)) = [c0, c1, c2, c3, c4, c5, c6, c7, c8, c9, c10, c11, c12, c13, c14].map fun D => PyData.bool (decide (C = D)) := by
          rw [Nat.zero_add]
          exact kinds_eq T.xt.nd eC
        simp only [q_dSeq, q_dIf, q_dFor, q_dWh, q_drawH, q_condH, q_lcH, q_forH, q_whileH, q_callD, q_callH, at_mk, put_mk, know_mk, q_var, q_vdat, q_vpen, q_vown, q_vfn, q_vref, q_asD, q_asDo, q_asDa, q_aown, q_adat, q_asA, q_asAp, q_asAf, q_asAr, q_asAo, q_asAa, q_asS, q_asSo, q_asSp, q_asSf, q_asSr, q_asSa, q_asR, q_asRr, q_asRo, q_onD, q_onR, q_inOb, q_inObr, q_inObf, q_onT, q_onL, q_onI, q_onX, q_onBo, q_onTd, q_seqL, q_seqT, q_intI, q_intB, q_none, q_noneR, q_one, q_oneS, q_seeL, q_seeT, q_seeO, q_seeA, q_seeAo, q_seeAl, q_seeAt, q_srL, q_srO, q_srA, q_lenS, q_lenO, q_lenA, q_lenR, q_slL, q_slO, q_slA, q_slAo, q_slAl, q_ixR, q_ixL, q_ixO, q_ixA, q_appA, q_appAo, q_appR, q_emR, q_zipT, q_zipL, q_some, q_fn1, q_fn2, q_fn3, q_fn4, q_pn0, q_pn1, q_pn2, q_pn3, q_scaI, q_scaS, q_scaB, q_scaN, q_fnD, q_all0, q_all1, q_all2, q_all3, q_all4, q_all5, q_wipe0, q_wipe, q_start, q_eqI, q_eqX, q_eqB, q_onB, q_at0, q_at1, q_at2, q_at3, q_at4, q_tup, q_strT, q_str, q_int, q_bool, List.length_cons, List.length_nil, List.map_cons, List.map_nil, List.replicate, List.cons_append, List.nil_append, List.getD_cons_zero, List.getD_cons_succ, List.getD_nil, List.set_cons_zero, List.set_cons_succ, List.set_nil, cond_true, cond_false, Nat.reduceAdd, Nat.reduceSub, Nat.sub_self, Nat.add_one_sub_one, Bool.not_true, Bool.not_false, true_and, and_true, Bool.false_eq_true, if_false, reduceIte]
        refine ⟨r, C, rfl, hC, List.mem_cons_of_mem _ mC, rfl, ⟨by decide, by decide⟩, ?_⟩
        refine lcD_map (δ0 := ⟨[none, none, some (.pen p), some (.dat (.str z)), some (.dat (.int n)), some (.ref pp), some (.dat (.int ((0 + j : Nat) : Int))), some (.ref r), none, none], al⟩) (placeF ((0 + j : Nat) : Int)) rfl (by decide) ?_ ?_
        · intro d hd k hk
          obtain ⟨m, _, rfl⟩ := List.mem_map.mp hd
          simp only [q_dSeq, q_dIf, q_dFor, q_dWh, q_drawH, q_condH, q_lcH, q_forH, q_whileH, q_callD, q_callH, at_mk, put_mk, know_mk, q_var, q_vdat, q_vpen, q_vown, q_vfn, q_vref, q_asD, q_asDo, q_asDa, q_aown, q_adat, q_asA, q_asAp, q_asAf, q_asAr, q_asAo, q_asAa, q_asS, q_asSo, q_asSp, q_asSf, q_asSr, q_asSa, q_asR, q_asRr, q_asRo, q_onD, q_onR, q_inOb, q_inObr, q_inObf, q_onT, q_onL, q_onI, q_onX, q_onBo, q_onTd, q_seqL, q_seqT, q_intI, q_intB, q_none, q_noneR, q_one, q_oneS, q_seeL, q_seeT, q_seeO, q_seeA, q_seeAo, q_seeAl, q_seeAt, q_srL, q_srO, q_srA, q_lenS, q_lenO, q_lenA, q_lenR, q_slL, q_slO, q_slA, q_slAo, q_slAl, q_ixR, q_ixL, q_ixO, q_ixA, q_appA, q_appAo, q_appR, q_emR, q_zipT, q_zipL, q_some, q_fn1, q_fn2, q_fn3, q_fn4, q_pn0, q_pn1, q_pn2, q_pn3, q_scaI, q_scaS, q_scaB, q_scaN, q_fnD, q_all0, q_all1, q_all2, q_all3, q_all4, q_all5, q_wipe0, q_wipe, q_start, q_eqI, q_eqX, q_eqB, q_onB, q_at0, q_at1, q_at2, q_at3, q_at4, q_tup, q_strT, q_str, q_int, q_bool, List.length_cons, List.length_nil, List.map_cons, List.map_nil, List.replicate, List.cons_append, List.nil_append, List.getD_cons_zero, List.getD_cons_succ, List.getD_nil, List.set_cons_zero, List.set_cons_succ, List.set_nil, cond_true, cond_false, Nat.reduceAdd, Nat.reduceSub, Nat.sub_self, Nat.add_one_sub_one, Bool.not_true, Bool.not_false, true_and, and_true, Bool.false_eq_true, if_false, reduceIte]
          exact hk _ rfl
        · rw [List.nil_append, show (rngD 0 (Int.toNat 15)).map (placeF ((0 + j : Nat) : Int)) = [c0, c1, c2, c3, c4, c5, c6, c7, c8, c9, c10, c11, c12, c13, c14].map (fun D => PyData.bool (decide (C = D))) from ke]
          refine bools_cmp (Cs := [c0, c1, c2, c3, c4, c5, c6, c7, c8, c9, c10, c11, c12, c13, c14]) (bif_noE (bools_self (C := C) (Cs := [c0, c1, c2, c3, c4, c5, c6, c7, c8, c9, c10, c11, c12, c13, c14])) ?_)
          simp only [q_dSeq, q_dIf, q_dFor, q_dWh, q_drawH, q_condH, q_lcH, q_forH, q_whileH, q_callD, q_callH, at_mk, put_mk, know_mk, q_var, q_vdat, q_vpen, q_vown, q_vfn, q_vref, q_asD, q_asDo, q_asDa, q_aown, q_adat, q_asA, q_asAp, q_asAf, q_asAr, q_asAo, q_asAa, q_asS, q_asSo, q_asSp, q_asSf, q_asSr, q_asSa, q_asR, q_asRr, q_asRo, q_onD, q_onR, q_inOb, q_inObr, q_inObf, q_onT, q_onL, q_onI, q_onX, q_onBo, q_onTd, q_seqL, q_seqT, q_intI, q_intB, q_none, q_noneR, q_one, q_oneS, q_seeL, q_seeT, q_seeO, q_seeA, q_seeAo, q_seeAl, q_seeAt, q_srL, q_srO, q_srA, q_lenS, q_lenO, q_lenA, q_lenR, q_slL, q_slO, q_slA, q_slAo, q_slAl, q_ixR, q_ixL, q_ixO, q_ixA, q_appA, q_appAo, q_appR, q_emR, q_zipT, q_zipL, q_some, q_fn1, q_fn2, q_fn3, q_fn4, q_pn0, q_pn1, q_pn2, q_pn3, q_scaI, q_scaS, q_scaB, q_scaN, q_fnD, q_all0, q_all1, q_all2, q_all3, q_all4, q_all5, q_wipe0, q_wipe, q_start, q_eqI, q_eqX, q_eqB, q_onB, q_at0, q_at1, q_at2, q_at3, q_at4, q_tup, q_strT, q_str, q_int, q_bool, List.length_cons, List.length_nil, List.map_cons, List.map_nil, List.replicate, List.cons_append, List.nil_append, List.getD_cons_zero, List.getD_cons_succ, List.getD_nil, List.set_cons_zero, List.set_cons_succ, List.set_nil, cond_true, cond_false, Nat.reduceAdd, Nat.reduceSub, Nat.sub_self, Nat.add_one_sub_one, Bool.not_true, Bool.not_false, true_and, and_true, Bool.false_eq_true, if_false, reduceIte]
          refine isV_of hC (T.ec (List.mem_cons_of_mem _ mC)) (T.xl.2.2.2 C mC).1 ?_
          simp only [q_dSeq, q_dIf, q_dFor, q_dWh, q_drawH, q_condH, q_lcH, q_forH, q_whileH, q_callD, q_callH, at_mk, put_mk, know_mk, q_var, q_vdat, q_vpen, q_vown, q_vfn, q_vref, q_asD, q_asDo, q_asDa, q_aown, q_adat, q_asA, q_asAp, q_asAf, q_asAr, q_asAo, q_asAa, q_asS, q_asSo, q_asSp, q_asSf, q_asSr, q_asSa, q_asR, q_asRr, q_asRo, q_onD, q_onR, q_inOb, q_inObr, q_inObf, q_onT, q_onL, q_onI, q_onX, q_onBo, q_onTd, q_seqL, q_seqT, q_intI, q_intB, q_none, q_noneR, q_one, q_oneS, q_seeL, q_seeT, q_seeO, q_seeA, q_seeAo, q_seeAl, q_seeAt, q_srL, q_srO, q_srA, q_lenS, q_lenO, q_lenA, q_lenR, q_slL, q_slO, q_slA, q_slAo, q_slAl, q_ixR, q_ixL, q_ixO, q_ixA, q_appA, q_appAo, q_appR, q_emR, q_zipT, q_zipL, q_some, q_fn1, q_fn2, q_fn3, q_fn4, q_pn0, q_pn1, q_pn2, q_pn3, q_scaI, q_scaS, q_scaB, q_scaN, q_fnD, q_all0, q_all1, q_all2, q_all3, q_all4, q_all5, q_wipe0, q_wipe, q_start, q_eqI, q_eqX, q_eqB, q_onB, q_at0, q_at1, q_at2, q_at3, q_at4, q_tup, q_strT, q_str, q_int, q_bool, List.length_cons, List.length_nil, List.map_cons, List.map_nil, List.replicate, List.cons_append, List.nil_append, List.getD_cons_zero, List.getD_cons_succ, List.getD_nil, List.set_cons_zero, List.set_cons_succ, List.set_nil, cond_true, cond_false, Nat.reduceAdd, Nat.reduceSub, Nat.sub_self, Nat.add_one_sub_one, Bool.not_true, Bool.not_false, true_and, and_true, Bool.false_eq_true, if_false, reduceIte]
          refine isV_of hC (T.ec (List.mem_cons_of_mem _ mC)) (T.xt.va C mC) ?_
          exact hnx _ ⟨_, _, rfl⟩
    · rintro δ ⟨x6, x7, rfl⟩
      simp only [q_dSeq, q_dIf, q_dFor, q_dWh, q_drawH, q_condH, q_lcH, q_forH, q_whileH, q_callD, q_callH, at_mk, put_mk, know_mk, q_var, q_vdat, q_vpen, q_vown, q_vfn, q_vref, q_asD, q_asDo, q_asDa, q_aown, q_adat, q_asA, q_asAp, q_asAf, q_asAr, q_asAo, q_asAa, q_asS, q_asSo, q_asSp, q_asSf, q_asSr, q_asSa, q_asR, q_asRr, q_asRo, q_onD, q_onR, q_inOb, q_inObr, q_inObf, q_onT, q_onL, q_onI, q_onX, q_onBo, q_onTd, q_seqL, q_seqT, q_intI, q_intB, q_none, q_noneR, q_one, q_oneS, q_seeL, q_seeT, q_seeO, q_seeA, q_seeAo, q_seeAl, q_seeAt, q_srL, q_srO, q_srA, q_lenS, q_lenO, q_lenA, q_lenR, q_slL, q_slO, q_slA, q_slAo, q_slAl, q_ixR, q_ixL, q_ixO, q_ixA, q_appA, q_appAo, q_appR, q_emR, q_zipT, q_zipL, q_some, q_fn1, q_fn2, q_fn3, q_fn4, q_pn0, q_pn1, q_pn2, q_pn3, q_scaI, q_scaS, q_scaB, q_scaN, q_fnD, q_all0, q_all1, q_all2, q_all3, q_all4, q_all5, q_wipe0, q_wipe, q_start, q_eqI, q_eqX, q_eqB, q_onB, q_at0, q_at1, q_at2, q_at3, q_at4, q_tup, q_strT, q_str, q_int, q_bool, List.length_cons, List.length_nil, List.map_cons, List.map_nil, List.replicate, List.cons_append, List.nil_append, List.getD_cons_zero, List.getD_cons_succ, List.getD_nil, List.set_cons_zero, List.set_cons_succ, List.set_nil, cond_true, cond_false, Nat.reduceAdd, Nat.reduceSub, Nat.sub_self, Nat.add_one_sub_one, Bool.not_true, Bool.not_false, true_and, and_true, Bool.false_eq_true, if_false, reduceIte]
      intro b nb
      have S : Sub al (oup al b (.ext (exP b CL))) := Sub.up Sub.rfl nb
      have er : rs.map Sv.ref = (rs.take 14).map Sv.ref ++ [Sv.ref a14] := by
        have e : rs = rs.take 14 ++ [a14] := (List.take_of_length_le (i := 15) (by omega)).symm.trans (List.take_succ.trans (by rw [r14]; rfl))
        have e2 := congrArg (List.map Sv.ref) e
        rw [List.map_append] at e2
        exact e2
      refine asLst_of (S _ _ hpp) ?_
      rw [er, atS_last]
      refine ⟨c14, d14, n, T.nt.2.1, T.nt.1.no, S _ _ x14, S _ _ y14, ?_⟩
      have hne : ∀ D ∈ [c0, c1, c2, c3, c4, c5, c6, c7, c8, c9, c10, c11, c12, c13, c14], decide (CL = D) = false := fun D hD => decide_eq_false fun z => T.cl (by rw [z]; exact hD)
      rw [decide_eq_true rfl]
      refine ⟨b, CL, rfl, .inl oup_same, List.mem_cons_self .., ?_⟩
      rw [hne c0 (by simp), hne c1 (by simp), hne c2 (by simp), hne c3 (by simp), hne c4 (by simp), hne c5 (by simp), hne c6 (by simp), hne c7 (by simp), hne c8 (by simp), hne c9 (by simp), hne c10 (by simp), hne c11 (by simp), hne c12 (by simp), hne c13 (by simp), hne c14 (by simp)]
      refine isV_of (C := CL) (.inl oup_same) T.xl.2.1 T.xl.2.2.1 ?_
      exact fun i d e => (rep_none (n := 10) e).elim
end
end B
set_option maxHeartbeats 4000000
namespace B
open PySem PySem.Spec PyProof.Rows L2
theorem all_mk {l : PySem.W.OpenLaw} {w : World} {K : PySem.W.Frag} {h : Heap} {mg : Str → Option Value} {fa : Addr} (X : K.In h) (G : h.Ns mainGlobals mg) (hfa : mg "law" = some (.ref fa)) (c : SaysX fcts fns K) :
    ∃ fd : FuncData, (∀ (s : Shared) (v : Value), BindsTo s fd ⟨[v], []⟩ [("_law_script", v)]) ∧ ∀ base : Heap, K.In base → base.Ns mainGlobals mg → FnOk l.prog w K mg base CX0 20 fa fd ["_law_script"] (spLaw K) := by
  obtain ⟨fd, F⟩ := (c.def_ 6 (d := dD "law" s_law) rfl)
  have e := hfa.symm.trans (He.glo_ok X G (c.fact 14 (f := fG "law") rfl))
  cases e
  have T : LTxt K mg (He.ga K "LayError") (He.ga K "NoProgram") (He.ga K "NoInputs") (He.ga K "NoFaces") (He.ga K "NoSize") (He.ga K "NoLaying") (He.ga K "NoMoves") (He.ga K "NoMemory") (He.ga K "NoNear") (He.ga K "NoTouches") (He.ga K "TooMany") (He.ga K "NoNumber") (He.ga K "NoDeed") (He.ga K "NoLine") (He.ga K "NoWork") (He.ga K "NoText") := { 
    d__law_cell := defAt_h (c.def_ 0 (d := dD "_law_cell" s__law_cell) rfl) (He.glo_ok X G (c.fact 0 (f := fG "_law_cell") rfl)) (fun _ _ _ _ _ _ us hl => match us, hl with | [_, _], _ => rfl)
    d__law_pen := defAt_h (c.def_ 1 (d := dD "_law_pen" s__law_pen) rfl) (He.glo_ok X G (c.fact 1 (f := fG "_law_pen") rfl)) (fun _ _ _ _ _ _ us hl => match us, hl with | [_], _ => rfl)
    d__law_draw := defAt_h (c.def_ 2 (d := dD "_law_draw" s__law_draw) rfl) (He.glo_ok X G (c.fact 2 (f := fG "_law_draw") rfl)) (fun _ _ _ _ _ _ us hl => match us, hl with | [_, _], _ => rfl)
    z_len := He.free_ok X G (c.fact 3 (f := fZ "len") rfl)
    z_int := He.free_ok X G (c.fact 4 (f := fZ "int") rfl)
    xt := fX_ok X G (c.fact 5 (f := fX "LayError" allX) rfl)
    xl := fL_ok X G (by decide) (c.fact 6 (f := fL "LayError" allX) rfl)
    nt := fNt_ok X G (c.fact 7 (f := fNt "LayError" "NoText" "line") rfl) rfl (c.def_ 3 (d := dM "NoText" "__init__" "NoText.__init__" s_NoText_init) rfl) (fun _ _ _ _ _ _ us hl => match us, hl with | [_, _], _ => rfl)
    d__law_kinds := defAt_h (c.def_ 4 (d := dD "_law_kinds" s__law_kinds) rfl) (He.glo_ok X G (c.fact 8 (f := fG "_law_kinds") rfl)) (fun _ _ _ _ _ _ us hl => match us, hl with | [_], _ => rfl)
    d__law_made := defAt_h (c.def_ 5 (d := dD "_law_made" s__law_made) rfl) (He.glo_ok X G (c.fact 9 (f := fG "_law_made") rfl)) (fun _ _ _ _ _ _ us hl => match us, hl with | [_, _], _ => rfl)
    z_isinstance := He.free_ok X G (c.fact 10 (f := fZ "isinstance") rfl)
    z_enumerate := He.free_ok X G (c.fact 11 (f := fZ "enumerate") rfl)
    z_range := He.free_ok X G (c.fact 12 (f := fZ "range") rfl)
    z_ValueError := He.free_ok X G (c.fact 13 (f := fZ "ValueError") rfl) }
  exact ⟨fd, lawFd (x := "law") (st := s_law) (p := "_law_script") F (fun _ _ _ _ _ _ us hl => match us, hl with | [_], _ => rfl), fun base _ _ => ok_law T (funD_fun F)⟩
end B
open PySem PySem.W PySem.Calls PyProof.Rows
set_option maxRecDepth 100000 in
set_option maxHeartbeats 0 in
theorem PySem.Challenge.cw_nearlay_k91_classes_of_refusals_holds : PySem.Challenge.rw_nearlay_k91_classes_of_refusals.Holds := by
  w_on; o_law
  refine HandSHeadRun.head_any (r := OpenLaw.row PySem.Challenge.rw_nearlay_k91_classes_of_refusals) (q := view (OpenLaw.row PySem.Challenge.rw_nearlay_k91_classes_of_refusals).prog [23]) (H := B.hk) (ob := B.obH) (M := 100000) (loose := B.topNames) (d := HandSHeadRun.topDef (OpenLaw.row PySem.Challenge.rw_nearlay_k91_classes_of_refusals).prog 23) (kwd := []) B.obH_eq
    (by kernel_rfl) (fun s => by kernel_rfl) B.runH (by kernel_rfl) (by kernel_rfl) (by kernel_rfl) (by rfl) (by first | assumption | decide +kernel) (by decide +kernel) ⟨rfl, rfl, rfl, rfl, rfl, by decide +kernel⟩ ?hw ?hc
  case hw => w_witness2
  case hc =>
    refine LamX.walk_ofTsE (CX := fun _ => L2.CX0) (l := PySem.Challenge.rw_nearlay_k91_classes_of_refusals) (n := 63) (k := 20) (x := "_law_script") rfl (by decide) (by kernel_rfl) ⟨rfl, by decide, by decide⟩ ?F (fun _ _ _ _ _ z => z)
    intro w mg fa h Y G hmg0
    obtain ⟨K, KX, c⟩ := Y
    have hmg : mg ("law" : PySem.Str) = some (.ref fa) := by
      have e : (HandSHeadRun.topDef (OpenLaw.row PySem.Challenge.rw_nearlay_k91_classes_of_refusals).prog 23).name = ("law" : PySem.Str) := by kernel_rfl
      rw [← e]
      exact hmg0
    obtain ⟨fd, hb, hF⟩ := B.all_mk (l := PySem.Challenge.rw_nearlay_k91_classes_of_refusals) (w := w) KX G hmg c.x
    exact ⟨K, KX, fd, B.CT K, B.spLaw K, fun p hp => by
        obtain ⟨_, q, hq, e⟩ := B.CT_in hp
        rw [← e]
        exact c.empty q hq, fun p hp => by
        obtain ⟨_, q, hq, e⟩ := B.CT_in hp
        rw [← e]
        exact c.out q hq, fun p hp => PySem.W.codeHd_of_K KX (B.CT_in hp).1, hb, fun H a ns hl _ hT hS => ⟨a, ns, rfl, hS, hl, B.tabs_start hT, fun _ => rfl⟩, fun base k1 k2 _ => hF base k1 k2⟩
