import PyProof.Rows.All
import Wide.All
import OpenK.AllK
import Wide.FinOn
import HandS.ForMost
import HandS.IsInst
import HandS.TupAny
import HandS.TupMul
import HandS.Zip
import HandS.SetFor
import HandS.Walk
import HandS.Evl
import KE.GoesEnum
import HandS.Style
import HandS.Strs
import HandS.CallLocal
import HandS.NoneIn
import HandS.Steps
import HandS.DictComp
import KE.KDictPairs
import KE.KDictZip
import HandS.Defaults
import HandS.Dict
import PySem.Challenge.RW_nearlay_k01_expressions_reckoned
set_option Elab.async false
set_option linter.all false
set_option maxRecDepth 100000
namespace B
open PySem PySem.Spec PyProof.Rows L2

/-! ### the frame: what a piece of code leaves as it was; L: the addresses that it may change -/
structure Fr (L : List Addr) (H H' : Hp) : Prop where
  keep : ∀ b o, H b = some o → (b ∉ L ∨ ¬ Mut (some o)) → H' b = some o
  free : ∀ b, H' b = none → H b = none
theorem Fr.refl (L : List Addr) (H : Hp) : Fr L H H := ⟨fun _ _ h _ => h, fun _ h => h⟩
theorem Fr.trans {L : List Addr} {H H1 H2 : Hp} (a : Fr L H H1) (b : Fr L H1 H2) : Fr L H H2 :=
  ⟨fun c o h k => b.keep c o (a.keep c o h k) k, fun c h => a.free c (b.free c h)⟩
theorem Fr.new {L : List Addr} {H : Hp} {p : Addr} {o : HO} (h : H p = none) : Fr L H (upd H p o) :=
  ⟨fun b u e _ => by rw [upd_ne (ne_of_none e h)]; exact e, fun b e => by
    by_cases hb : b = p
    · subst hb; exact h
    · rw [upd_ne hb] at e; exact e⟩
theorem Fr.wr {L : List Addr} {H : Hp} {p : Addr} {o o' : HO} (h : H p = some o) (m : Mut (some o)) (hl : p ∈ L) : Fr L H (upd H p o') :=
  ⟨fun b u e k => by
    by_cases hb : b = p
    · subst hb
      rw [h] at e
      cases e
      rcases k with k | k
      · exact absurd hl k
      · exact absurd m k
    · rw [upd_ne hb]; exact e, fun b e => by
    by_cases hb : b = p
    · subst hb; rw [upd_same] at e; cases e
    · rw [upd_ne hb] at e; exact e⟩
/-- what came newly may be changed too -/
theorem Fr.cut {L L' : List Addr} {H H1 H2 : Hp} (a : Fr L H H1) (b : Fr L' H1 H2) (n : ∀ l ∈ L', l ∈ L ∨ H l = none) : Fr L H H2 :=
  ⟨fun c o h k => b.keep c o (a.keep c o h k) (by
    rcases k with k | k
    · exact .inl fun hc => by
        rcases n c hc with z | z
        · exact k z
        · rw [h] at z; cases z
    · exact .inr k), fun c h => a.free c (b.free c h)⟩
theorem Fr.mono {L L' : List Addr} {H H' : Hp} (a : Fr L H H') (n : ∀ l ∈ L, l ∈ L' ∨ H l = none) : Fr L' H H' := (Fr.refl L' H).cut a n
theorem Fr.up {L : List Addr} {H H1 : Hp} {p : Addr} {o : HO} (a : Fr L H H1) (h : H1 p = none) : Fr L H (upd H1 p o) := a.trans (.new h)
theorem Fr.put {L : List Addr} {H H1 : Hp} {p : Addr} {o o' : HO} (a : Fr L H H1) (h : H1 p = some o) (m : Mut (some o)) (hl : p ∈ L ∨ H p = none) : Fr L H (upd H1 p o') :=
  a.cut (.wr h m (List.mem_singleton.mpr rfl)) fun l hm => by
    cases List.mem_singleton.mp hm
    exact hl
theorem Fr.rd {L : List Addr} {H H' : Hp} {a : Addr} {o : HO} (f : Fr L H H') (r : Rd H a o) (h : a ∉ L ∨ ¬ Mut (some o)) : Rd H' a o := by
  rcases r with r | ⟨u, r⟩
  · exact .inl (f.keep _ _ r h)
  · exact .inr ⟨u, f.keep _ _ r (.inr fun z => z)⟩
theorem Fr.tup {K : PySem.W.Frag} {L : List Addr} {H H' : Hp} {a : Addr} {xs : List V} (f : Fr L H H') (r : SqT K H a xs) : SqT K H' a xs := by
  rcases r with r | r
  · exact .inl (f.rd r (.inr fun z => z))
  · exact .inr r
theorem Fr.lst {K : PySem.W.Frag} {L : List Addr} {H H' : Hp} {a : Addr} {xs : List V} (f : Fr L H H') (r : SqL K H a xs) (h : a ∉ L) : SqL K H' a xs := by
  rcases r with r | r
  · exact .inl (f.rd r (.inl h))
  · exact .inr r
theorem Fr.at {H H' : Hp} {a : Addr} {o : HO} (f : Fr [] H H') (r : H a = some o) : H' a = some o := f.keep _ _ r (.inl fun z => nomatch z)
theorem Fr.ne {L : List Addr} {H H' : Hp} {a : Addr} {o : HO} (f : Fr L H H') (r : H a = some o) (h : a ∉ L) : H' a = some o := f.keep _ _ r (.inl h)
theorem Fr.same {H H' : Hp} (f : Fr [] H H') : Same H H' := fun _ _ e => f.at e
theorem sqT_of {K : PySem.W.Frag} {H : Hp} {a : Addr} {xs : List V} (h : H a = some (.tup xs)) : SqT K H a xs := .inl (.inl h)
theorem sqL_of {K : PySem.W.Frag} {H : Hp} {a : Addr} {xs : List V} (h : H a = some (.lst xs)) : SqL K H a xs := .inl (.inl h)

/-! ### data that never changes: scalars and tuples of such -/
mutual
def Im (K : PySem.W.Frag) (H : Hp) : PyData → V → Prop
  | .none, v => v = .non
  | .bool b, v => v = .bl b
  | .int i, v => v = .int i
  | .str s, v => v = .str s
  | .tuple ds, v => ∃ a xs, v = .ref a ∧ SqT K H a xs ∧ Ims K H ds xs
  | .list _, _ => False
  | .dict _, _ => False
def Ims (K : PySem.W.Frag) (H : Hp) : List PyData → List V → Prop
  | [], xs => xs = []
  | d :: ds, xs => ∃ x r, xs = x :: r ∧ Im K H d x ∧ Ims K H ds r
end
mutual
theorem Im.mono {K : PySem.W.Frag} {L : List Addr} {H H' : Hp} (f : Fr L H H') : ∀ {d : PyData} {v : V}, Im K H d v → Im K H' d v
  | .none, _, h => h
  | .bool _, _, h => h
  | .int _, _, h => h
  | .str _, _, h => h
  | .tuple ds, _, ⟨a, xs, e, t, r⟩ => ⟨a, xs, e, f.tup t, Ims.mono f r⟩
  | .list _, _, h => h
  | .dict _, _, h => h
theorem Ims.mono {K : PySem.W.Frag} {L : List Addr} {H H' : Hp} (f : Fr L H H') : ∀ {ds : List PyData} {xs : List V}, Ims K H ds xs → Ims K H' ds xs
  | [], _, h => h
  | _ :: _, _, ⟨x, r, e, h1, h2⟩ => ⟨x, r, e, Im.mono f h1, Ims.mono f h2⟩
end
mutual
theorem Im.dp {K : PySem.W.Frag} {H : Hp} : ∀ {d : PyData} {v : V}, Im K H d v → Dp K H v d
  | .none, _, h => by cases h; exact .non
  | .bool _, _, h => by cases h; exact .bl _
  | .int _, _, h => by cases h; exact .int _
  | .str _, _, h => by cases h; exact .str _
  | .tuple ds, _, ⟨a, xs, e, t, r⟩ => by cases e; exact .tup t (Ims.dp r)
  | .list _, _, h => h.elim
  | .dict _, _, h => h.elim
theorem Ims.dp {K : PySem.W.Frag} {H : Hp} : ∀ {ds : List PyData} {xs : List V}, Ims K H ds xs → DpAll K H xs ds
  | [], _, h => by cases h; exact .nil
  | _ :: _, _, ⟨x, r, e, h1, h2⟩ => by cases e; exact .cons (Im.dp h1) (Ims.dp h2)
end
theorem Ims.len {K : PySem.W.Frag} {H : Hp} : ∀ {ds : List PyData} {xs : List V}, Ims K H ds xs → xs.length = ds.length
  | [], _, h => by cases h; rfl
  | _ :: _, _, ⟨x, r, e, h1, h2⟩ => by cases e; show r.length + 1 = _ + 1; rw [Ims.len h2]
theorem Ims.get {K : PySem.W.Frag} {H : Hp} : ∀ {ds : List PyData} {xs : List V} {i : Nat} {x : V}, Ims K H ds xs → xs[i]? = some x → ∃ d, ds[i]? = some d ∧ Im K H d x
  | [], _, i, x, h, g => by cases h; simp at g
  | d :: ds, _, 0, x, ⟨y, r, e, h1, h2⟩, g => by
    cases e
    simp at g
    subst g
    exact ⟨d, rfl, h1⟩
  | d :: ds, _, i + 1, x, ⟨y, r, e, h1, h2⟩, g => by
    cases e
    obtain ⟨d', e', h'⟩ := Ims.get (i := i) h2 (by simpa using g)
    exact ⟨d', by simpa using e', h'⟩
theorem Ims.ints {K : PySem.W.Frag} {H : Hp} : ∀ (ns : List Int), Ims K H (ns.map PyData.int) (ns.map V.int)
  | [] => rfl
  | n :: ns => ⟨_, _, rfl, rfl, Ims.ints ns⟩
theorem Ims.of_ints {K : PySem.W.Frag} {H : Hp} : ∀ {ns : List Int} {xs : List V}, Ims K H (ns.map PyData.int) xs → xs = ns.map V.int
  | [], _, h => h
  | n :: ns, _, ⟨x, r, e, h1, h2⟩ => by
    cases e
    cases (show x = .int n from h1)
    rw [Ims.of_ints h2]
    rfl
theorem Im.tupI {K : PySem.W.Frag} {H : Hp} {a : Addr} {ns : List Int} (h : SqT K H a (ns.map V.int)) : Im K H (.tuple (ns.map PyData.int)) (.ref a) := ⟨a, _, rfl, h, Ims.ints ns⟩

/-! ### a def, a method, a class of the text, as they stand behind the top -/
structure DefAt (K : PySem.W.Frag) (mg : Str → Option Value) (x : Str) (st : Stmt) (ps : List Str) : Prop where
  ex : ∃ (f : Addr) (fd : FuncData), Fun K x x st f fd ∧ mg x = some (.ref f) ∧ Binds K fd ps []
structure MetAt (K : PySem.W.Frag) (C : Addr) (m qual : Str) (st : Stmt) (ps : List Str) : Prop where
  ex : ∃ (f : Addr) (fd : FuncData), Fun K m qual st f fd ∧ Meth K C m f ∧ Cls K C ∧ Binds K fd ps []
structure IniAt (K : PySem.W.Frag) (mg : Str → Option Value) (x : Str) (C : Addr) (qual : Str) (st : Stmt) (ps : List Str) : Prop where
  ex : ∃ (f : Addr) (fd : FuncData), Fun K "__init__" qual st f fd ∧ Mk K C f ∧ mg x = some (.ref C) ∧ Binds K fd ps []
section
variable (P : Program) (w : World) (K : PySem.W.Frag) (mg : Str → Option Value) (base : Heap)
structure Cal (k : Nat) (x : Str) (sp : Sp) : Prop where
  ex : ∃ (f : Addr) (fd : FuncData) (ps : List Str), FnOk P w K mg base CX0 k f fd ps sp ∧ mg x = some (.ref f) ∧ PySem.W.keepIn K (.ref f) = true ∧ Binds K fd ps []
structure Met (k : Nat) (C : Addr) (m : Str) (sp : Sp) : Prop where
  ex : ∃ (f : Addr) (fd : FuncData) (ps : List Str), Cls K C ∧ Meth K C m f ∧ FnOk P w K mg base CX0 k f fd ps sp ∧ Binds K fd ps []
structure Mak (k : Nat) (x : Str) (C : Addr) (sp : Sp) : Prop where
  ex : ∃ (f : Addr) (fd : FuncData) (ps : List Str), Mk K C f ∧ FnOk P w K mg base CX0 k f fd ps sp ∧ mg x = some (.ref C) ∧ Binds K fd ps []
end
section
variable {P : Program} {w : World} {K : PySem.W.Frag} {mg : Str → Option Value} {base : Heap}
theorem DefAt.cal {x : Str} {st : Stmt} {N ps : List Str} {k : Nat} {sp : Sp} (D : DefAt K mg x st ps) (S : FnScope N ps (defScope st)) (len : ∀ vs H Q E, sp vs H Q E → vs.length = ps.length)
    (hbody : ∀ (f : Addr) (cdv : Value) (A : Around) (outer : List Env) (s : Shared) (H : Hp) (vs : List V) (Q : VK) (E : XK), Room k (A.deeper (envOfC x (defScope st) s.heap.objs.size f cdv)) → sp vs H Q E →
      ∃ t, PSs (cxOf CX0 P w K mg base N x (defScope st) f cdv A outer s H E).nox (defBody st) t ∧ t { nx := fun _ H' => Q .non H', rt := Q } (start N vs) H) : Cal P w K mg base (k + 1) x sp := by
  obtain ⟨f, fd, F, m, b⟩ := D.ex
  exact ⟨f, fd, ps, F.ok S len (hbody f), m, F.kp, b⟩
theorem MetAt.met {C : Addr} {m qual : Str} {st : Stmt} {N ps : List Str} {k : Nat} {sp : Sp} (D : MetAt K C m qual st ps) (S : FnScope N ps (defScope st)) (len : ∀ vs H Q E, sp vs H Q E → vs.length = ps.length)
    (hbody : ∀ (f : Addr) (cdv : Value) (A : Around) (outer : List Env) (s : Shared) (H : Hp) (vs : List V) (Q : VK) (E : XK), Room k (A.deeper (envOfC qual (defScope st) s.heap.objs.size f cdv)) → sp vs H Q E →
      ∃ t, PSs (cxOf CX0 P w K mg base N qual (defScope st) f cdv A outer s H E).nox (defBody st) t ∧ t { nx := fun _ H' => Q .non H', rt := Q } (start N vs) H) : Met P w K mg base (k + 1) C m sp := by
  obtain ⟨f, fd, F, me, c, b⟩ := D.ex
  exact ⟨f, fd, ps, c, me, F.ok S len (hbody f), b⟩
theorem IniAt.mak {x : Str} {C : Addr} {qual : Str} {st : Stmt} {N ps : List Str} {k : Nat} {sp : Sp} (D : IniAt K mg x C qual st ps) (S : FnScope N ps (defScope st)) (len : ∀ vs H Q E, sp vs H Q E → vs.length = ps.length)
    (hbody : ∀ (f : Addr) (cdv : Value) (A : Around) (outer : List Env) (s : Shared) (H : Hp) (vs : List V) (Q : VK) (E : XK), Room k (A.deeper (envOfC qual (defScope st) s.heap.objs.size f cdv)) → sp vs H Q E →
      ∃ t, PSs (cxOf CX0 P w K mg base N qual (defScope st) f cdv A outer s H E).nox (defBody st) t ∧ t { nx := fun _ H' => Q .non H', rt := Q } (start N vs) H) : Mak P w K mg base (k + 1) x C sp := by
  obtain ⟨f, fd, F, M, m, b⟩ := D.ex
  exact ⟨f, fd, ps, M, F.ok S len (hbody f), m, b⟩
end
section
variable {X : Cx} {k j : Nat} {C : Addr} {x m : Str} {sp : Sp} {p pos apos : Pos} {e o : Expr} {es : List Expr} {ta : TE} {t : TA}
theorem pe_c (c : Cal X.prog X.w X.K X.mg X.base k x sp) (hr : Room j X.A) (hk : k ≤ j) (hg : Gl X x) (ha : PA X (e :: es) t)
    (hdb : (x == ("__debug__" : Str)) = false := by decide) (he : starEach (e :: es) X.env = (false, eval e X.env) :: starEach es X.env := by rfl) (hpl : (backTo pos (starEach es X.env)).any (·.1) = false := by rfl) :
    PE X (.Call (.Name x p) (e :: es) [] pos) (tCall sp [] E0 t) := by
  obtain ⟨f, fd, ps, F, hm, kp, b⟩ := c.ex
  exact pe_call F (hr.mono hk) hg hm kp b .nil pass0 ha hdb he hpl
theorem pe_mk (c : Mak X.prog X.w X.K X.mg X.base k x C sp) (hr : Room j X.A) (hk : k + 1 ≤ j) (hg : Gl X x) (ha : PA X (e :: es) t)
    (hdb : (x == ("__debug__" : Str)) = false := by decide) (he : starEach (e :: es) X.env = (false, eval e X.env) :: starEach es X.env := by rfl) (hpl : (backTo pos (starEach es X.env)).any (·.1) = false := by rfl) :
    PE X (.Call (.Name x p) (e :: es) [] pos) (tMake C sp [] E0 t) := by
  obtain ⟨f, fd, ps, M, F, hm, b⟩ := c.ex
  exact pe_make M F (hr.mono hk) hg hm b .nil pass0 ha hdb he hpl
theorem pe_mt {pl : Sem Bool} (c : Met X.prog X.w X.K X.mg X.base k C m sp) (hr : Room j X.A) (hk : k ≤ j) (he : PE X o ta) (ha : PA X (e :: es) t)
    (hst : starEach (e :: es) X.env = (false, eval e X.env) :: starEach es X.env := by rfl) (hpl : (backTo pos (starEach es X.env)).any (·.1) = false := by rfl)
    (ht : eval (.Call (.Attribute o m apos) (e :: es) [] pos) X.env = (do
      let ov ← eval o X.env
      standAt apos.atName
      let (f, first) ← holding [ov] (getMethod ov m pl)
      callWith pos f first (backTo pos (starEach (e :: es) X.env)) (backToKw pos (keywordEach [] X.env))) := by rfl) :
    PE X (.Call (.Attribute o m apos) (e :: es) [] pos) (tMeth C m sp [] E0 ta t) := by
  obtain ⟨f, fd, ps, hc, hm, F, b⟩ := c.ex
  exact pe_meth (pl := pl) he hc hm F (hr.mono hk) b .nil pass0 ha hst hpl ht
end

/-! ### isinstance of such data -/
def tyD : PyData → String
  | .none => "NoneType"
  | .bool _ => "bool"
  | .int _ => "int"
  | .str _ => "str"
  | .tuple _ => "tuple"
  | .list _ => "list"
  | .dict _ => "dict"
theorem sqT_ty {K : PySem.W.Frag} {H : Hp} {a : Addr} {xs : List V} (h : SqT K H a xs) : TyX K H (.ref a) (.type "tuple") := by
  rcases h with (h | ⟨o, h⟩) | ⟨o, its, n, h1, h2, _⟩
  · exact .base (.tup h)
  · exact .fTuple h
  · exact .kTuple h1 h2
theorem sqL_ty {K : PySem.W.Frag} {H : Hp} {a : Addr} {xs : List V} (h : SqL K H a xs) : TyX K H (.ref a) (.type "list") := by
  rcases h with (h | ⟨o, h⟩) | ⟨o, its, n, h1, h2, _⟩
  · exact .base (.lst h)
  · exact .base (.frz h)
  · exact .kList h1 h2
theorem Im.ty {K : PySem.W.Frag} {H : Hp} : ∀ {d : PyData} {v : V}, Im K H d v → TyX K H v (.type (tyD d))
  | .none, _, h => by cases h; exact .base .non
  | .bool _, _, h => by cases h; exact .base (.bl _)
  | .int _, _, h => by cases h; exact .base (.int _)
  | .str _, _, h => by cases h; exact .base (.str _)
  | .tuple ds, _, ⟨a, xs, e, t, r⟩ => by cases e; exact sqT_ty t
  | .list _, _, h => h.elim
  | .dict _, _, h => h.elim
theorem kb_int_int : kitB "int" "int" = some true := by decide +kernel
theorem kb_int_bool : kitB "int" "bool" = some false := by decide +kernel
theorem kb_int_tuple : kitB "int" "tuple" = some false := by decide +kernel
theorem kb_int_str : kitB "int" "str" = some false := by decide +kernel
theorem kb_bool_int : kitB "bool" "int" = some true := by decide +kernel
theorem kb_bool_bool : kitB "bool" "bool" = some true := by decide +kernel
theorem kb_bool_tuple : kitB "bool" "tuple" = some false := by decide +kernel
theorem kb_bool_str : kitB "bool" "str" = some false := by decide +kernel
theorem kb_str_int : kitB "str" "int" = some false := by decide +kernel
theorem kb_str_bool : kitB "str" "bool" = some false := by decide +kernel
theorem kb_str_tuple : kitB "str" "tuple" = some false := by decide +kernel
theorem kb_str_str : kitB "str" "str" = some true := by decide +kernel
theorem kb_tuple_int : kitB "tuple" "int" = some false := by decide +kernel
theorem kb_tuple_bool : kitB "tuple" "bool" = some false := by decide +kernel
theorem kb_tuple_tuple : kitB "tuple" "tuple" = some true := by decide +kernel
theorem kb_tuple_str : kitB "tuple" "str" = some false := by decide +kernel
theorem kb_list_int : kitB "list" "int" = some false := by decide +kernel
theorem kb_list_bool : kitB "list" "bool" = some false := by decide +kernel
theorem kb_list_tuple : kitB "list" "tuple" = some false := by decide +kernel
theorem kb_list_str : kitB "list" "str" = some false := by decide +kernel
theorem kb_none_int : kitB "NoneType" "int" = some false := by decide +kernel
theorem kb_none_bool : kitB "NoneType" "bool" = some false := by decide +kernel
theorem kb_none_tuple : kitB "NoneType" "tuple" = some false := by decide +kernel
theorem kb_none_str : kitB "NoneType" "str" = some false := by decide +kernel
theorem kb_dict_int : kitB "dict" "int" = some false := by decide +kernel
theorem kb_dict_bool : kitB "dict" "bool" = some false := by decide +kernel
theorem kb_dict_tuple : kitB "dict" "tuple" = some false := by decide +kernel
theorem kb_dict_str : kitB "dict" "str" = some false := by decide +kernel
def isiInt : PyData → Bool
  | .int _ => true
  | .bool _ => true
  | _ => false
def isiBool : PyData → Bool
  | .bool _ => true
  | _ => false
def isiTup : PyData → Bool
  | .tuple _ => true
  | _ => false
def isiStr : PyData → Bool
  | .str _ => true
  | _ => false
theorem kit_int (K : PySem.W.Frag) (d : PyData) : PySem.W.kitOne K (.type (tyD d)) (.type "int") = some (isiInt d) := by
  cases d with
  | none => exact kit_ty kb_none_int
  | bool b => exact kit_ty kb_bool_int
  | int b => exact kit_ty kb_int_int
  | str b => exact kit_ty kb_str_int
  | tuple b => exact kit_ty kb_tuple_int
  | list b => exact kit_ty kb_list_int
  | dict b => exact kit_ty kb_dict_int
theorem kit_bool (K : PySem.W.Frag) (d : PyData) : PySem.W.kitOne K (.type (tyD d)) (.type "bool") = some (isiBool d) := by
  cases d with
  | none => exact kit_ty kb_none_bool
  | bool b => exact kit_ty kb_bool_bool
  | int b => exact kit_ty kb_int_bool
  | str b => exact kit_ty kb_str_bool
  | tuple b => exact kit_ty kb_tuple_bool
  | list b => exact kit_ty kb_list_bool
  | dict b => exact kit_ty kb_dict_bool
theorem kit_tup (K : PySem.W.Frag) (d : PyData) : PySem.W.kitOne K (.type (tyD d)) (.type "tuple") = some (isiTup d) := by
  cases d with
  | none => exact kit_ty kb_none_tuple
  | bool b => exact kit_ty kb_bool_tuple
  | int b => exact kit_ty kb_int_tuple
  | str b => exact kit_ty kb_str_tuple
  | tuple b => exact kit_ty kb_tuple_tuple
  | list b => exact kit_ty kb_list_tuple
  | dict b => exact kit_ty kb_dict_tuple
theorem kit_str (K : PySem.W.Frag) (d : PyData) : PySem.W.kitOne K (.type (tyD d)) (.type "str") = some (isiStr d) := by
  cases d with
  | none => exact kit_ty kb_none_str
  | bool b => exact kit_ty kb_bool_str
  | int b => exact kit_ty kb_int_str
  | str b => exact kit_ty kb_str_str
  | tuple b => exact kit_ty kb_tuple_str
  | list b => exact kit_ty kb_list_str
  | dict b => exact kit_ty kb_dict_str
/-! ### the built-in names -/
theorem bt_int : bootBuiltins "int" = some (.type "int") := by decide +kernel
theorem bt_bool : bootBuiltins "bool" = some (.type "bool") := by decide +kernel
theorem bt_str : bootBuiltins "str" = some (.type "str") := by decide +kernel
theorem bt_tuple : bootBuiltins "tuple" = some (.type "tuple") := by decide +kernel
theorem bt_list : bootBuiltins "list" = some (.type "list") := by decide +kernel
theorem bt_dict : bootBuiltins "dict" = some (.type "dict") := by decide +kernel
theorem bt_len : bootBuiltins "len" = some (.builtin "len") := by decide +kernel
theorem bt_all : bootBuiltins "all" = some (.builtin "all") := by decide +kernel
theorem bt_any : bootBuiltins "any" = some (.builtin "any") := by decide +kernel
theorem bt_sum : bootBuiltins "sum" = some (.builtin "sum") := by decide +kernel
theorem bt_isinstance : bootBuiltins "isinstance" = some (.builtin "isinstance") := by decide +kernel
theorem bt_repr : bootBuiltins "repr" = some (.builtin "repr") := by decide +kernel
theorem bt_sorted : bootBuiltins "sorted" = some (.builtin "sorted") := by decide +kernel
end B

namespace B
open PySem PySem.Spec PyProof.Rows L2

/-! ### walks -/
section
variable {K : PySem.W.Frag} {a b : Addr} {xs ys : List V}
theorem walk_zipT {n : Nat} (hn : n = min xs.length ys.length) : Walk (RZ.ItzT K a b) n (fun H => SqT K H a xs ∧ SqT K H b ys) (YPair (fun i => xs[i]?) (fun i => ys[i]?)) := by
  subst hn
  refine ⟨fun i _ hi q => ?_, fun _ q => ⟨xs, ys, q.1, q.2, by omega⟩, fun i H v H' _ q y => ?_⟩
  · have h1 : i < xs.length := by omega
    have h2 : i < ys.length := by omega
    exact ⟨xs, ys, xs[i], ys[i], q.1, q.2, by simp [h1], by simp [h2]⟩
  · obtain ⟨T, x, z, h1, h2, h3, h4, h5⟩ := y
    exact ⟨T, x, z, h1, h2, h3, h4 xs q.1, h5 ys q.2⟩
end

/-! ### comprehensions whose elements change nothing: the list of the values -/
section
variable {J : It} {n : Nat} {G : Hp → Prop} {Y : Nat → Hp → V → Hp → Prop} {g : TG} {tt : TT} {te : TE} {vs : List Nat} {σ : L2.St} {H1 : Hp} {D : Addr} {Qd : Hp → Prop}
def kept (c : Nat → Bool) (f : Nat → V) : Nat → List V
  | 0 => []
  | i + 1 => if c i = true then kept c f i ++ [f i] else kept c f i
theorem kept_len (c : Nat → Bool) (f : Nat → V) : ∀ i, (kept c f i).length ≤ i
  | 0 => Nat.le_refl _
  | i + 1 => by
    have h := kept_len c f i
    unfold kept
    split
    · rw [List.length_append]; show _ + 1 ≤ _; omega
    · omega
theorem kept_no {c : Nat → Bool} {f : Nat → V} {i : Nat} (h : c i = false) : kept c f (i + 1) = kept c f i := by
  show (if c i = true then _ else _) = _
  rw [h, if_neg Bool.false_ne_true]
theorem kept_yes {c : Nat → Bool} {f : Nat → V} {i : Nat} (h : c i = true) : kept c f (i + 1) = kept c f i ++ [f i] := by
  show (if c i = true then _ else _) = _
  rw [h, if_pos rfl]
theorem kept_all (f : Nat → V) : ∀ i, kept (fun _ => true) f i = (List.range i).map f
  | 0 => rfl
  | i + 1 => by
    show (if true = true then _ else _) = _
    rw [if_pos rfl, kept_all f i, List.range_succ, List.map_append]
    rfl
theorem lc_when (w : Walk J n G Y) (c : Nat → Bool) (f : Nat → V) (hD : H1 D = none) (hn : n ≤ 1000000) (hG : ∀ H', Fr [] H1 H' → G H')
    (hs : ∀ i x H H' (Z0 : Hp → Prop) (Z1 : V → Hp → Prop), i < n → Fr [] H1 H → Y i H x H' → (c i = false → ∀ H4, Fr [] H' H4 → Z0 H4) → (c i = true → ∀ H4, Fr [] H' H4 → Z1 (f i) H4) →
      g x (wipe σ vs) H' fun σ2 H2 => wipe σ2 vs = wipe σ vs ∧ tt σ2 H2 fun b H3 => if b = true then te σ2 H3 Z1 else Z0 H3)
    (hY : ∀ i H x H', Fr [] H1 H → Y i H x H' → Fr [] H H')
    (hd : ∀ H, Fr [] H1 H → H D = some (.lst (kept c f n)) → Qd H) :
    ∃ W : Nat → Nat → Hp → Prop, (∃ m, W 0 m (upd H1 D (.lst []))) ∧ ∀ i m H, W i m H →
      (J.stop i H ∧ Qd H) ∨ (J.go i H ∧ ∃ Nx : Hp → Prop, (∀ H', Nx H' → ∃ m', m' < m ∧ W (i + 1) m' H') ∧ ∀ x H', J.yld i H x H' → g x (wipe σ vs) H' fun σ2 H2 => wipe σ2 vs = wipe σ vs ∧ tt σ2 H2 fun b H3 =>
        if b = true then te σ2 H3 fun y H4 => ∃ acc, H4 D = some (.lst acc) ∧ acc.length < sizeLine ∧ Nx (upd H4 D (.lst (acc ++ [y]))) else Nx H3) := by
  refine lc_it w (fun i H => Fr [] H1 H ∧ H D = some (.lst (kept c f i))) ⟨.new hD, upd_same⟩ (fun i H _ p => hG H p.1) ?_ (fun H p => hd H p.1 p.2)
  rintro i x H H' hi ⟨fr, hl⟩ hy
  have f0 := hY i H x H' fr hy
  refine hs i x H H' _ _ hi fr hy (fun hc H4 f4 => ?_) (fun hc H4 f4 => ?_)
  · have h4 := (f0.trans f4).at hl
    refine ⟨(fr.trans f0).trans f4, ?_⟩
    rw [kept_no hc]
    exact h4
  · have h4 := (f0.trans f4).at hl
    refine ⟨_, h4, ?_, ((fr.trans f0).trans f4).put h4 trivial (.inr hD), ?_⟩
    · have := kept_len c f i
      have e : sizeLine = 16777216 := sizeLine_eq
      omega
    · rw [kept_yes hc]
      exact upd_same
theorem lc_each (w : Walk J n G Y) (f : Nat → V) (hD : H1 D = none) (hn : n ≤ 1000000) (hG : ∀ H', Fr [] H1 H' → G H')
    (hs : ∀ i x H H' (Z1 : V → Hp → Prop), i < n → Fr [] H1 H → Y i H x H' → (∀ H4, Fr [] H' H4 → Z1 (f i) H4) →
      g x (wipe σ vs) H' fun σ2 H2 => wipe σ2 vs = wipe σ vs ∧ te σ2 H2 Z1)
    (hgm : ∀ x H (Z Z' : L2.St → Hp → Prop), (∀ σ2 H2, Z σ2 H2 → Z' σ2 H2) → g x (wipe σ vs) H Z → g x (wipe σ vs) H Z')
    (hY : ∀ i H x H', Fr [] H1 H → Y i H x H' → Fr [] H H')
    (hd : ∀ H, Fr [] H1 H → H D = some (.lst ((List.range n).map f)) → Qd H) :
    ∃ W : Nat → Nat → Hp → Prop, (∃ m, W 0 m (upd H1 D (.lst []))) ∧ ∀ i m H, W i m H →
      (J.stop i H ∧ Qd H) ∨ (J.go i H ∧ ∃ Nx : Hp → Prop, (∀ H', Nx H' → ∃ m', m' < m ∧ W (i + 1) m' H') ∧ ∀ x H', J.yld i H x H' → g x (wipe σ vs) H' fun σ2 H2 => wipe σ2 vs = wipe σ vs ∧ tYes σ2 H2 fun b H3 =>
        if b = true then te σ2 H3 fun y H4 => ∃ acc, H4 D = some (.lst acc) ∧ acc.length < sizeLine ∧ Nx (upd H4 D (.lst (acc ++ [y]))) else Nx H3) := by
  refine lc_when w (fun _ => true) f hD hn hG (fun i x H H' Z0 Z1 hi fr hy h0 h1 => ?_) hY (fun H fr hl => hd H fr (by rw [kept_all] at hl; exact hl))
  refine hgm _ _ _ _ (fun σ2 H2 z => ⟨z.1, ?_⟩) (hs i x H H' Z1 hi fr hy (h1 rfl))
  show (if true = true then te σ2 H2 Z1 else Z0 H2)
  rw [if_pos rfl]
  exact z.2
theorem gName_mono {j : Nat} {τ : L2.St} (x : V) (H : Hp) (Z Z' : L2.St → Hp → Prop) (m : ∀ σ2 H2, Z σ2 H2 → Z' σ2 H2) (h : gName j x τ H Z) : gName j x τ H Z' := m _ _ h
theorem gTup2_mono {K : PySem.W.Frag} {i j : Nat} {τ : L2.St} (x : V) (H : Hp) (Z Z' : L2.St → Hp → Prop) (m : ∀ σ2 H2, Z σ2 H2 → Z' σ2 H2) (h : gTup K 2 (gCons (gName i) (gCons (gName j) gNil)) x τ H Z) : gTup K 2 (gCons (gName i) (gCons (gName j) gNil)) x τ H Z' := by
  obtain ⟨a, xs, e1, e2, e3, v, r, e4, v2, r2, e5, e6, h⟩ := h
  exact ⟨a, xs, e1, e2, e3, v, r, e4, v2, r2, e5, e6, m _ _ h⟩
theorem gTup3_mono {K : PySem.W.Frag} {i j k : Nat} {τ : L2.St} (x : V) (H : Hp) (Z Z' : L2.St → Hp → Prop) (m : ∀ σ2 H2, Z σ2 H2 → Z' σ2 H2) (h : gTup K 3 (gCons (gName i) (gCons (gName j) (gCons (gName k) gNil))) x τ H Z) : gTup K 3 (gCons (gName i) (gCons (gName j) (gCons (gName k) gNil))) x τ H Z' := by
  obtain ⟨a, xs, e1, e2, e3, v, r, e4, v2, r2, e5, v3, r3, e6, e7, h⟩ := h
  exact ⟨a, xs, e1, e2, e3, v, r, e4, v2, r2, e5, v3, r3, e6, e7, m _ _ h⟩
theorem yat_fr {xs : List V} {i : Nat} {H H' : Hp} {x : V} (y : YAt xs i H x H') : Fr [] H H' := by
  obtain ⟨e, _⟩ := y
  subst e
  exact .refl _ _
theorem yfn_fr {f : Nat → V} {i : Nat} {H H' : Hp} {x : V} (y : YFn f i H x H') : Fr [] H H' := by
  obtain ⟨e, _⟩ := y
  subst e
  exact .refl _ _
theorem ypair_fr {f h : Nat → Option V} {i : Nat} {H H' : Hp} {x : V} (y : YPair f h i H x H') : Fr [] H H' := by
  obtain ⟨T, x, z, _, hT, e, _⟩ := y
  subst e
  exact .new hT
end

/-! ### a pen: a list of two ints -/
def Pen (H : Hp) (p : Addr) : Prop := ∃ x f, H p = some (.lst [.int x, .int f])
theorem Pen.ne {H : Hp} {p q : Addr} (h : Pen H p) (n : H q = none) : p ≠ q := by
  obtain ⟨x, f, h⟩ := h
  exact ne_of_none h n
theorem Pen.up {H : Hp} {p q : Addr} {o : HO} (h : Pen H p) (n : H q = none) : Pen (upd H q o) p := by
  have z := h.ne n
  obtain ⟨x, f, h⟩ := h
  exact ⟨x, f, by rw [upd_ne z]; exact h⟩
theorem Pen.fr {L : List Addr} {H H' : Hp} {p : Addr} (h : Pen H p) (f : Fr L H H') (hp : p ∉ L) : Pen H' p := by
  obtain ⟨x, f', h⟩ := h
  exact ⟨x, f', f.ne h hp⟩
/-! a comprehension whose elements are drawn by a pen; R: what is known of each element, whatever comes newly -/
section
variable {J : It} {n : Nat} {G : Hp → Prop} {Y : Nat → Hp → V → Hp → Prop} {g : TG} {te : TE} {vs : List Nat} {σ : L2.St} {H1 : Hp} {D : Addr} {Qd : Hp → Prop}
theorem lc_pen (w : Walk J n G Y) (p : Addr) (R : Nat → Hp → V → Prop) (hR : ∀ i H H' v, Fr [p, D] H H' → R i H v → R i H' v) (hp : Pen H1 p) (hD : H1 D = none) (hn : n ≤ 1000000) (hG : ∀ H', Fr [p] H1 H' → G H')
    (hs : ∀ i x H H' (Z1 : V → Hp → Prop), i < n → Fr [p] H1 H → Pen H' p → Y i H x H' → (∀ y H4, Fr [p] H' H4 → Pen H4 p → R i H4 y → Z1 y H4) →
      g x (wipe σ vs) H' fun σ2 H2 => wipe σ2 vs = wipe σ vs ∧ te σ2 H2 Z1)
    (hgm : ∀ x H (Z Z' : L2.St → Hp → Prop), (∀ σ2 H2, Z σ2 H2 → Z' σ2 H2) → g x (wipe σ vs) H Z → g x (wipe σ vs) H Z')
    (hY : ∀ i H x H', Fr [p] H1 H → Y i H x H' → Fr [] H H')
    (hd : ∀ H ys, Fr [p] H1 H → Pen H p → H D = some (.lst ys) → ys.length = n → (∀ i y, ys[i]? = some y → R i H y) → Qd H) :
    ∃ W : Nat → Nat → Hp → Prop, (∃ m, W 0 m (upd H1 D (.lst []))) ∧ ∀ i m H, W i m H →
      (J.stop i H ∧ Qd H) ∨ (J.go i H ∧ ∃ Nx : Hp → Prop, (∀ H', Nx H' → ∃ m', m' < m ∧ W (i + 1) m' H') ∧ ∀ x H', J.yld i H x H' → g x (wipe σ vs) H' fun σ2 H2 => wipe σ2 vs = wipe σ vs ∧ tYes σ2 H2 fun b H3 =>
        if b = true then te σ2 H3 fun y H4 => ∃ acc, H4 D = some (.lst acc) ∧ acc.length < sizeLine ∧ Nx (upd H4 D (.lst (acc ++ [y]))) else Nx H3) := by
  have npD : p ≠ D := hp.ne hD
  refine lc_it w (fun i H => Fr [p] H1 H ∧ Pen H p ∧ ∃ ys, H D = some (.lst ys) ∧ ys.length = i ∧ ∀ i y, ys[i]? = some y → R i H y) ⟨.new hD, hp.up hD, [], upd_same, rfl, fun i y e => by simp at e⟩ (fun i H _ q => hG H q.1) ?_
    (fun H ⟨q1, q2, ys, q3, q4, q5⟩ => hd H ys q1 q2 q3 q4 q5)
  rintro i x H H' hi ⟨fr, pn, ys, hl, el, hr⟩ hy
  have f0 := hY i H x H' fr hy
  have key : g x (wipe σ vs) H' fun σ2 H2 => wipe σ2 vs = wipe σ vs ∧ te σ2 H2 (fun y H4 => ∃ acc, H4 D = some (.lst acc) ∧ acc.length < sizeLine ∧ (Fr [p] H1 (upd H4 D (.lst (acc ++ [y]))) ∧ Pen (upd H4 D (.lst (acc ++ [y]))) p ∧ ∃ ys, (upd H4 D (.lst (acc ++ [y]))) D = some (.lst ys) ∧ ys.length = i + 1 ∧ ∀ j y', ys[j]? = some y' → R j (upd H4 D (.lst (acc ++ [y]))) y')) := by
    refine hs i x H H' _ hi fr (pn.fr f0 fun z => nomatch z) hy fun y H4 f4 pn4 r4 => ?_
    · have nD : D ∉ [p] := fun z => npD (List.mem_singleton.mp z).symm
      have h4 := f4.ne (f0.at hl) nD
      have f04 : Fr [p] H H4 := (f0.mono fun l z => nomatch z).trans f4
      have fw : Fr [p, D] H4 (upd H4 D (.lst (ys ++ [y]))) := .wr h4 trivial (by simp)
      refine ⟨ys, h4, ?_, (fr.trans f04).put h4 trivial (.inr hD), ?_, ys ++ [y], upd_same, by rw [List.length_append]; show _ + 1 = _; omega, fun j z ej => ?_⟩
      · have e : sizeLine = 16777216 := sizeLine_eq
        omega
      · obtain ⟨a, b, e⟩ := pn4
        exact ⟨a, b, by rw [upd_ne npD]; exact e⟩
      · by_cases hj : j < ys.length
        · rw [List.getElem?_append_left hj] at ej
          exact hR _ _ _ _ fw (hR _ _ _ _ (f04.mono fun l z => .inl (by cases List.mem_singleton.mp z; simp)) (hr j z ej))
        · have hj2 := (List.getElem?_eq_some_iff.mp ej).1
          rw [List.length_append] at hj2
          have hj3 : j < ys.length + 1 := hj2
          have ej2 : j = ys.length := by omega
          subst ej2
          simp at ej
          subst ej
          rw [el]
          exact hR _ _ _ _ fw r4
  refine hgm _ _ _ _ (fun σ2 H2 z => ⟨z.1, ?_⟩) key
  unfold tYes
  dsimp only
  try rw [if_pos rfl]
  exact z.2
end
/-- the ints of such a list -/
theorem ints_of {ys : List V} {Pr : Int → Prop} : (∀ (i : Nat) (y : V), ys[i]? = some y → ∃ z, y = V.int z ∧ Pr z) → ∃ ns : List Int, ys = ns.map V.int ∧ ∀ z ∈ ns, Pr z := by
  induction ys with
  | nil => exact fun _ => ⟨[], rfl, fun _ h => nomatch h⟩
  | cons y r ih =>
    intro h
    obtain ⟨z, e, hz⟩ := h 0 y rfl
    obtain ⟨ns, e2, h2⟩ := ih fun i x e => h (i + 1) x (by simpa using e)
    refine ⟨z :: ns, by rw [e, e2]; rfl, fun x hx => ?_⟩
    rcases List.mem_cons.mp hx with rfl | hx
    · exact hz
    · exact h2 x hx

section
variable {X : Cx}
theorem pe_gint {x : Str} {i : Int} {pos : Pos} (hg : Gl X x) (hm : ∃ t, X.mg x = some (.int i t)) (hd : (x == ("__debug__" : Str)) = false := by decide) : PE X (.Name x pos) (tC (.int i)) := by
  obtain ⟨t, hm⟩ := hm
  exact pe_glob hg hm ⟨t, rfl⟩ hd
end
theorem tYes_if {σ : L2.St} {H : Hp} {A C : Hp → Prop} (h : A H) : tYes σ H (fun b H3 => if b = true then A H3 else C H3) := by
  unfold tYes
  exact iteT h
theorem ite_b {b : Bool} {A C : Prop} (h1 : b = true → A) (h2 : b = false → C) : if b = true then A else C := by
  cases b with
  | true => exact iteT (h1 rfl)
  | false => exact iteF (h2 rfl)
end B

namespace B
open PySem PySem.Spec PyProof.Rows L2
/-- a target that is an attribute of an instance -/
def gFld (K : PySem.W.Frag) (to : TE) (f : Str) : TG := fun v σ H Q => to σ H fun x H1 => ∃ a C dx fs, x = .ref a ∧ H1 a = some (.ins C dx fs) ∧ Cls K C ∧ NoAttr K C f ∧ fs.length < 1000 ∧ Q σ (upd H1 a (.ins C dx (putF f v fs)))
theorem pg_fld {X : Cx} {o : Expr} {f : Str} {to : TE} {pos : Pos} (ho : PE X o to) : PG X (.Attribute o f pos) (gFld X.K to f) := by
  refine ⟨fun pins s σ H v u Q I r h => ?_⟩
  rw [assign_Attribute]
  refine wpAny_bind (wpAny_holding (thn (ho.run pins s σ H _ I h) fun ov s1 ⟨x, H1, I1, r1, q1⟩ => ?_))
  obtain ⟨a, C, dx, fs, ex, ea, c, n, l, q2⟩ := q1
  subst ex
  obtain rfl : ov = Value.ref a := r1
  exact wpAny_bind (wpAny_standAt (wpAny_bind (wpAny_holding (setattr_ok I1 ea c n l r fun s3 I3 => wpAny_release ⟨σ, _, I3, q2⟩))))
/-- len(set(a list of ints)) -/
def tLenSet (K : PySem.W.Frag) (ta : TE) : TE := fun σ H Q => ta σ H fun x H1 => ∃ (l : Addr) (ns : List Int), x = .ref l ∧ SqL K H1 l (ns.map V.int) ∧ ns.length ≤ 4000 ∧ Q (.int ((PyProof.Rows.firstMet (fun i => ns.getD i 0) ns.length).length : Nat)) H1
theorem pe_lenSet {X : Cx} {a : Expr} {ta : TE} {p p2 q pos : Pos} (hg : Gl X "len") (hm : X.mg "len" = none) (hg2 : Gl X "set") (hm2 : X.mg "set" = none) (ha : PE X a ta) (hc : X.calm = true := by rfl)
    (na : starEach [a] X.env = (false, eval a X.env) :: starEach [] X.env := by rfl) : PE X (.Call (.Name "len" p) [.Call (.Name "set" p2) [a] [] q] [] pos) (tLenSet X.K ta) := by
  refine ⟨fun pins s σ H Q I h => ?_⟩
  refine Call_ (ld_blt I hg hm boot_len ?_)
  refine PyProof.Rows.callWith_builtin1 (PyProof.Rows.args_cons ?_ rfl) rfl rfl
  refine Call_ (ld_blt I hg2 hm2 boot_set ?_)
  refine PyProof.Rows.callWith_type1 (PyProof.Rows.args_cons (thn (ha.run pins s σ H _ I h) fun v s1 ⟨x, H1, I1, r1, q1⟩ => PyProof.Rows.args_nil ?_) na) na rfl
  obtain ⟨l, ns, rfl, hq, hl, q1⟩ := q1
  cases r1
  obtain ⟨its, r, pl, hz⟩ := I1.list hq
  have hlen : its.toArray.size = ns.length := by rw [List.size_toArray, ← r.length, List.length_map]
  have hle := PyProof.Rows.firstMet_length_le (fun i => ns.getD i 0) ns.length
  refine call_set_list (I1.ok.hd hc) pl.isList (by simpa using RZ.intsAre_vals r) (by rw [hlen]; unfold scanBound; omega) fun h' tk hS hk => ?_
  refine PyProof.Rows.args_nil ?_
  rw [hlen] at hS
  obtain ⟨o, es, ep, t, ho, hex, hd, _, _, _, hf, hn⟩ := hS
  have I2 : Inv X pins σ H1 { s1 with heap := h', toks := tk } := I1.kept fun b o e => hk b o (Heap.lt_size e) e
  exact call_len_set ho hex hd hf (by rw [hn] <;> omega) ⟨.int _, H1, I2.tok _, ⟨_, by rw [hn]⟩, q1⟩
end B
namespace B
open PySem PySem.Spec PyProof.Rows L2
section
variable {X : Cx}
theorem pe_lcX {elt tg iter : Expr} {ifs : List Expr} {scope : Scope} (own : List (Str × Nat)) {pos : Pos} {wi : TI} {g : TG} {tt : TT} {te : TE} (hc : X.calm = true) (hN : X.N.Nodup) (hi : PI X tg iter wi) (ok : BlkOk X.N X.env.scope scope own)
    (hg : ∀ (s : Shared) (H : Hp) (C : Addr) (cl : List (Str × Addr)) (fp : List Addr), PG (X.blk s H scope (compEnvC scope cl C X.env) fp) tg g) (ht : ∀ (s : Shared) (H : Hp) (C : Addr) (cl : List (Str × Addr)) (fp : List Addr), PTs (X.blk s H scope (compEnvC scope cl C X.env) fp) ifs tt)
    (he : ∀ (s : Shared) (H : Hp) (C : Addr) (cl : List (Str × Addr)) (fp : List Addr), PE (X.blk s H scope (compEnvC scope cl C X.env) fp) elt te) (hs : ∀ x, foldedSetIterable iter X.env x = pure x) :
    PE X (.ListComp elt [⟨tg, iter, ifs, 0⟩] scope pos) (tLc wi g tt te (own.map (·.2))) := pe_lc hc hN hi ok hg ht he hs
theorem ps_setLcX {y : Str} {py : Pos} {elt tg iter : Expr} {ifs : List Expr} {scope : Scope} (i : Nat) (own : List (Str × Nat)) {pos spos : Pos} {wi : TI} {g : TG} {tt : TT} {te : TE} (hy : X.N[i]? = some y) (hyl : X.env.scope.names.lookup y = some .local)
    (hsw : swapsWith (.ListComp elt [⟨tg, iter, ifs, 0⟩] scope pos) (some (.Name y py)) spos.line X.env = pure true) (hc : X.calm = true) (hN : X.N.Nodup) (hi : PI X tg iter wi) (ok : BlkOk X.N X.env.scope scope own)
    (hg : ∀ (s : Shared) (H : Hp) (C : Addr) (cl : List (Str × Addr)) (fp : List Addr), PG (X.blk s H scope (compEnvC scope cl C X.env) fp) tg g) (ht : ∀ (s : Shared) (H : Hp) (C : Addr) (cl : List (Str × Addr)) (fp : List Addr), PTs (X.blk s H scope (compEnvC scope cl C X.env) fp) ifs tt)
    (he : ∀ (s : Shared) (H : Hp) (C : Addr) (cl : List (Str × Addr)) (fp : List Addr), PE (X.blk s H scope (compEnvC scope cl C X.env) fp) elt te) (hs : ∀ x, foldedSetIterable iter X.env x = pure x) :
    PS X (.Assign [.Name y py] (.ListComp elt [⟨tg, iter, ifs, 0⟩] scope pos) spos) (tAsg (tLc wi g tt te (own.map (·.2))) (gName i)) := ps_setLc hc hN hy hyl hsw hi ok hg ht he hs
theorem pg_tupX {es : List Expr} {k : Nat} {pos : Pos} {t : TGs} {n : Nat} (hc : X.calm = true) (hn : (assignEach es X.env).length = n) (hst : (assignEach es X.env).findIdx? (·.1) = none) (h : PGs X es t) : PG X (.Tuple es k pos) (gTup X.K n t) := pg_tup hc h hn hst
theorem pgs_consX {e : Expr} {es : List Expr} {t : TG} {u : TGs} (hs : (assignEach (e :: es) X.env).map (·.2) = assign e X.env :: (assignEach es X.env).map (·.2)) (h1 : PG X e t) (h2 : PGs X es u) : PGs X (e :: es) (gCons t u) := pgs_cons h1 h2 hs
theorem pg_nameX (i : Nat) {x : Str} {pos : Pos} (hN : X.N.Nodup) (hi : X.N[i]? = some x) (hx : Loc X.env.scope x) (hf : X.fn x = true ∨ X.env.scope.names.lookup x = some .local) : PG X (.Name x pos) (gName i) := pg_name hN hi hx hf
end
end B

namespace B
open PySem PySem.Spec PyProof.Rows L2
/-! ### enumerate(a tuple) -/
set_option maxHeartbeats 1000000 in
theorem meets_enum1 {v : Value} {o : Obj} {H : Heap → Prop} (B : Begins v o H) :
    Meets (Builtin.«enumerate.__new__» ⟨[.type "enumerate", v], []⟩) (fun _ R s => H s.heap ∧
      R (.ok (.ret (.ref (s.heap.push o).objs.size))) { s with heap := (s.heap.push o).push { cls := .type "enumerate", data := .fields #[.none, .bool false, .ref s.heap.objs.size, rawInt 0, .none, .none] } }) :=
  .of_wp fun prog w A R s h => by
    obtain ⟨hp, g, d, tk, os⟩ := s; obtain ⟨h1, h⟩ := h
    have hsub := sub_enumerate
    have q1 : ∀ {A' : Around} {E : Value → Shared → Prop} {Q : Value → Shared → Prop}, Q (.ref hp.objs.size) ⟨hp.push o, g, d, tk, os⟩ → wpAny (model prog w) A' (pyIter v) Q E ⟨hp, g, d, tk, os⟩ :=
      fun q => B.iter prog w _ _ ⟨hp, g, d, tk, os⟩ _ h1 q
    wp_walk using q1
    refine wpAny_stack_any fun st => wpAny_pure ?_
    split
    · rename_i c _ _ _ _ _
      cases (c == Value.type "enumerate")
      · wp_walk using q1
        exact ⟨_, rfl, h⟩
      · wp_walk using q1
        exact ⟨_, rfl, h⟩
    · wp_walk using q1
      exact ⟨_, rfl, h⟩
theorem call_enum1 {prog : Program} {w : World} {A : Around} {E : Value → Shared → Prop} {s : Shared} {v : Value} {o : Obj} {H : Heap → Prop} {Q : Value → Shared → Prop} (B : Begins v o H) (h1 : H s.heap)
    (h : ∀ h', IsEnum h' (s.heap.objs.size + 1) s.heap.objs.size 0 .none → h'.get? s.heap.objs.size = some o → h'.objs.size = s.heap.objs.size + 2 →
      (∀ b o, s.heap.get? b = some o → h'.get? b = some o) → Q (.ref (s.heap.objs.size + 1)) { s with heap := h' }) :
    wpAny (model prog w) A (call (.type "enumerate") [v]) Q E s := by
  refine callType_new F.called_enumerate (by decide) (F.typeCall_enumerate_1 _) (F.newCall_enumerate_1 _) (fun obj => F.args_object_init_2 obj _) F.entry_enumerate_new
    (meets_enum1 B) ⟨h1, ?_⟩
  have hz : (s.heap.push o).objs.size = s.heap.objs.size + 1 := Heap.size_push ..
  show _ ∧ _
  rw [hz]
  have he : IsEnum ((s.heap.push o).push { cls := .type "enumerate", data := .fields #[.none, .bool false, .ref s.heap.objs.size, rawInt 0, .none, .none] }) (s.heap.objs.size + 1) s.heap.objs.size 0 .none := by
    have := Heap.get?_push_size (s.heap.push o) (o := { cls := .type "enumerate", data := .fields #[.none, .bool false, .ref s.heap.objs.size, rawInt 0, .none, .none] }) rfl
    rw [hz] at this; exact this
  refine ⟨⟨_, he, rfl⟩, h _ he (Heap.get?_push_of_some _ (Heap.get?_push_size _ B.free)) (by rw [Heap.size_push, hz]) fun b o x => Heap.get?_push_of_some _ (Heap.get?_push_of_some _ x)⟩
theorem pyNext_enumT_end {prog : Program} {w : World} {A : Around} {E : Value → Shared → Prop} {s : Shared} {e it l : Addr} {i : Nat} {items : Array Value} {old : Value} {Q : Option Value → Shared → Prop} (hh : A.handled = none)
    (he : IsEnum s.heap e it i old) (hit : s.heap.IsTupleIter it l i) (hl : s.heap.IsTuple l items) (hx : items[i]? = none)
    (hQ : ∀ h', Heap.ExtBut it s.heap h' → Q none { s with heap := h' }) : wpAny (model prog w) A (pyNext (.ref e)) Q E s := by
  have hT : s.TypeIs (.ref e) "enumerate" := ⟨_, he, rfl⟩
  unfold pyNext
  refine wpAny_bind (wpAny_attempt (wpAny_callSpecial?_slot (name := Str.ofString "__next__") hT F.slot_enumerate_next
    (wpAny_call_entry F.slot_enumerate_next hT F.entry_enumerate_next ?_ (F.args_enumerate_next_1 _))))
  show wpAny _ _ (field (.ref e) 2 >>= _) _ _ _
  refine wpAny_bind (wpAny_field he rfl (x := .ref it) rfl ?_)
  refine wpAny_bind (wpAny_nextOf_tuple_end hh hit hl hx fun h' x he' hx' => ?_)
  obtain ⟨o, ho, hc⟩ := hx'
  refine wpAny_bind (wpAny_isInstance (T := "StopIteration") (b := true) ⟨o, ho, hc⟩ isSubtype_stop ?_)
  exact wpAny_pure (hQ _ he')
/-- the tuple at a, each item in a new pair -/
def IteT (K : PySem.W.Frag) (a : Addr) : It :=
  ⟨fun i H => ∃ (xs : List V) (x : V), SqT K H a xs ∧ xs[i]? = some x, fun i H v H' => ∃ T x, v = .ref T ∧ H T = none ∧ H' = upd H T (.tup [.int (i : Nat), x]) ∧ ∀ xs, SqT K H a xs → xs[i]? = some x, fun i H => ∃ xs : List V, SqT K H a xs ∧ xs.length ≤ i⟩
theorem turn_enumT {P : Program} {w : World} {K : PySem.W.Frag} {elts : List Expr} {kk : Nat} {tpos : Pos} (a e it : Addr) (hae : a ≠ it) :
    Turn P w K (.Tuple elts kk tpos) (IteT K a) [e, it] e (fun i h => (∃ old, IsEnum h e it ((i : Nat) : Int) old) ∧ h.IsTupleIter it a i ∧ e ≠ it ∧ e ≠ a) where
  mem := by simp
  obj := fun i h st b hb => by
    obtain ⟨⟨old, he⟩, ⟨o, ho, hc, hd⟩, _⟩ := st
    have e' : b = e ∨ b = it := by simpa using hb
    rcases e' with z | z
    · rw [z]; exact ⟨_, he, fun v q => nomatch q⟩
    · rw [z]; exact ⟨o, ho, fun v q => by rw [hd] at q; cases q⟩
  keep := fun i h h' st k => let ⟨⟨old, he⟩, hi, hne⟩ := st; ⟨⟨old, k e (by simp) _ he⟩, hi.at fun o q => k it (by simp) o q, hne⟩
  item := by
    intro X hP hw hK hc i pins s σ H E I hf st hg
    subst hP hw hK
    obtain ⟨⟨old, he⟩, hit, hne, hea⟩ := st
    obtain ⟨xs, x, hq, hx⟩ := hg
    obtain ⟨its, rv, p, hz⟩ := I.tuple hq
    obtain ⟨u, hu, ru⟩ := rv.get hx
    have hel : e < s.heap.objs.size := Heap.lt_size he
    have hil : it < s.heap.objs.size := by obtain ⟨_, q, _⟩ := hit; exact Heap.lt_size q
    have hi : i < its.toArray.size := by
      obtain ⟨z, _⟩ := List.getElem?_eq_some_iff.mp hu
      simpa using z
    refine wpAny_pyNext_enum_itemD (Draws.tuple (A := X.A.in1) (show X.A.in1.handled = none from I.ok.hd hc) it a hae its.toArray) he ⟨hit, p⟩ hi hne (by simp [hne, hea]) fun y h' tk hy ho hit' hT hsz hk => ?_
    have ey : y = u := by
      have hy' : its[i]? = some y := by simpa using hy
      rw [hu] at hy'
      exact (Option.some.inj hy').symm
    subst ey
    refine ⟨_, rfl, wpAny_letOwnedTupleGo_enum (s := { s with heap := h', toks := tk + 1 }) ho fun h'' he' sb => ?_⟩
    have hT2 : h''.get? s.heap.objs.size = some { cls := .type "tuple", data := .seq #[.int i tk, y] } := (sb.2 _ (Nat.ne_of_gt hel)).trans hT
    have new : ObjOk X.prog X.w (upd H s.heap.objs.size (.tup [.int (i : Nat), x])) h'' s.heap.objs.size (.tup [.int (i : Nat), x]) :=
      ⟨by show 2 ≤ sizeLine; decide, [.int i tk, y], .cons ⟨_, rfl⟩ (.cons ru .nil), ⟨_, hT2, rfl, _, rfl⟩⟩
    have I1 : Inv X pins σ (upd H s.heap.objs.size (.tup [.int (i : Nat), x])) { s with heap := h'', toks := tk + 1 } :=
      I.turnedNew (ch := [e, it]) (fun b ob hb q => (sb.2 b (fun z => hb (by simp [z]))).trans (hk b ob (fun z => hb (by simp [z])) (fun z => hb (by simp [z])) q)) hf (Nat.le_refl _) new
    refine ⟨.ref s.heap.objs.size, _, I1, rfl, ⟨_, x, rfl, I.hok.fresh (Nat.le_refl _), rfl, fun ys hy => by rw [I.tuple_inj hy hq]; exact hx⟩, ⟨⟨y, ?_⟩, hit'.1.at fun o q => (sb.2 it (Ne.symm hne)).trans q, hne, hea⟩, fun b hb => ?_⟩
    · have e1 : ((i + 1 : Nat) : Int) = (i : Int) + 1 := by omega
      rw [e1]; exact he'
    · have hb' : b < s.heap.objs.size := by
        have e' : b = e ∨ b = it := by simpa using hb
        rcases e' with z | z
        · rw [z]; exact hel
        · rw [z]; exact hil
      rw [upd_ne (Nat.ne_of_lt hb')]
      exact (hf b hb).1
  done := by
    intro X hP hw hK hc i pins s σ H E I hf st hg
    subst hP hw hK
    obtain ⟨⟨old, he⟩, hit, hne, hea⟩ := st
    obtain ⟨xs, hq, hx⟩ := hg
    obtain ⟨its, rv, p, hz⟩ := I.tuple hq
    obtain ⟨f0, f1, f2, f3, f4, f5⟩ := hf it (by simp)
    have hl := rv.length
    exact pyNext_enumT_end (I.ok.hd hc) he hit p (by simp; omega) fun h' eb => ⟨rfl, I.turned (t' := s.toks) (fun b o hb q => eb b o hb q) f0 f1 f3 f4 f5⟩
  self := fun A i s Q E st h => let ⟨⟨_, he⟩, _⟩ := st; wpAny_pyIter_enum he h
def iEnumT (K : PySem.W.Frag) (ta : TA) : TI := fun σ H R => ta σ H fun vs H1 => ∃ a xs, vs = [.ref a] ∧ SqT K H1 a xs ∧ R (IteT K a) H1
theorem pi_enumT {X : Cx} (K : PySem.W.Frag) {e : Expr} {ta : TA} {p pos tpos : Pos} {elts : List Expr} {kk : Nat} (hK : X.K = K) (hg : Gl X "enumerate") (hm : X.mg "enumerate" = none) (ha : PA X [e] ta) (hs : starEach [e] X.env = [(false, eval e X.env)]) :
    PI X (.Tuple elts kk tpos) (.Call (.Name "enumerate" p) [e] [] pos) (iEnumT K ta) := by
  subst hK
  refine ⟨fun pins s σ H R I h => ?_⟩
  refine Call_ (ld_blt I hg hm boot_enumerate (PyProof.Rows.callWith_type1 (thn (ha.run pos pins s σ H _ I h) fun us s1 ⟨vs, H1, I1, r1, q1⟩ => ?_) hs rfl))
  obtain ⟨a, xs, ex, hq, q⟩ := q1
  subst ex
  cases r1 with
  | cons r rr =>
    cases rr
    cases r
    obtain ⟨its, rv, p', hz⟩ := I1.tuple hq
    have hal : a < s1.heap.objs.size := by obtain ⟨o, e, _⟩ := p'; exact Heap.lt_size e
    refine call_enum1 (begins_tuple a its.toArray) p' fun h' he hit hsz hk => wpAny_pyIter_enum he ?_
    have I2 : Inv X pins σ H1 { s1 with heap := h' } := I1.kept (t' := s1.toks) hk
    refine ⟨s1.heap.objs.size + 1, [s1.heap.objs.size + 1, s1.heap.objs.size], _, _, H1, rfl, I2, turn_enumT a (s1.heap.objs.size + 1) s1.heap.objs.size (Nat.ne_of_lt hal), ⟨⟨.none, he⟩, ⟨_, hit, rfl, rfl⟩, Nat.succ_ne_self _, fun z => Nat.lt_irrefl a (Nat.lt_of_lt_of_le hal (by rw [← z]; exact Nat.le_succ _))⟩, fun b hb => ?_, q⟩
    have e' : b = s1.heap.objs.size + 1 ∨ b = s1.heap.objs.size := by simpa using hb
    have hle : s1.heap.objs.size ≤ b := by
      rcases e' with z | z
      · rw [z]; exact Nat.le_add_right _ _
      · rw [z]; exact Nat.le_refl _
    exact I1.fpOk hle (I1.hok.fresh hle)
theorem walk_enumT {K : PySem.W.Frag} {a : Addr} {xs : List V} : Walk (IteT K a) xs.length (fun H => SqT K H a xs) (YPair (fun i => some (.int (i : Nat))) (fun i => xs[i]?)) := by
  refine ⟨fun i _ hi q => ⟨xs, xs[i], q, by simp [hi]⟩, fun _ q => ⟨xs, q, Nat.le_refl _⟩, fun i H v H' _ q y => ?_⟩
  obtain ⟨T, x, h1, h2, h3, h4⟩ := y
  exact ⟨T, .int (i : Nat), x, h1, h2, h3, rfl, h4 xs q⟩
/-! ### the rules with K by its name, for the inside of comprehensions -/
section
variable {X : Cx} (K : PySem.W.Frag)
theorem ix_listK (h : X.K = K) : IxR X (rIxL K) := by subst h; exact ix_list
theorem ix_tupK (h : X.K = K) : IxR X (rIxT K) := by subst h; exact ix_tup
theorem sl_listK (h : X.K = K) : SlR X (rSlL K) := by subst h; exact sl_list
theorem sl_tupAK (h : X.K = K) : SlR X (rSlA K) := by subst h; exact sl_tupA
theorem op_in_seqK (h : X.K = K) : OpR X (compareOp .In) (rIn K false) := by subst h; exact op_in_seq
theorem op_notIn_seqK (h : X.K = K) : OpR X (compareOp .NotIn) (rIn K true) := by subst h; exact op_notIn_seq
theorem op_catAK (h : X.K = K) : OpR X (binaryOp .Add) (rCatA K) := by subst h; exact op_catA
theorem op_eqDK (h : X.K = K) (hu : X.A.units + 64 < cLine) : OpR X (compareOp .Eq) (rEqD K) := by subst h; exact op_eqD hu
theorem op_neDK (h : X.K = K) (hu : X.A.units + 64 < cLine) : OpR X (compareOp .NotEq) (rNeD K) := by subst h; exact op_neD hu
def rLenS : List V → Hp → VK → Prop := fun xs H Q => ∃ p ys, xs = [.ref p] ∧ (SqL K H p ys ∨ SqT K H p ys) ∧ Q (.int ys.length) H
def rTupOf : List V → Hp → VK → Prop := fun xs H Q => ∃ p ys, xs = [.ref p] ∧ ((SqL K H p ys ∧ ∀ l, H l = none → Q (.ref l) (upd H l (.tup ys))) ∨ (SqT K H p ys ∧ Q (.ref p) H))
def rListOf : List V → Hp → VK → Prop := fun xs H Q => ∃ p ys, xs = [.ref p] ∧ (SqL K H p ys ∨ SqT K H p ys) ∧ ∀ l, H l = none → Q (.ref l) (upd H l (.lst ys))
theorem call_lenK (h : X.K = K) : CallR X (.builtin "len") (rLenS K) := by subst h; exact call_len_seq
theorem call_tupleK (h : X.K = K) : CallR X (.type "tuple") (rTupOf K) := by subst h; exact call_tuple_of
theorem call_listK (h : X.K = K) : CallR X (.type "list") (rListOf K) := by subst h; exact call_list_of
theorem call_isiK' (h : X.K = K) : CallR X (.builtin "isinstance") (rIsi K) := by subst h; exact call_isi
theorem cr_allK (h : X.K = K) (hc : X.calm = true) : CallR X (.builtin "all") (rAll K) := by subst h; exact cr_all hc
theorem cr_anyK (h : X.K = K) (hc : X.calm = true) : CallR X (.builtin "any") (rAny K) := by subst h; exact cr_any hc
theorem cr_sumK (h : X.K = K) (hc : X.calm = true) : CallR X (.builtin "sum") (rSum K) := by subst h; exact cr_sum hc
theorem pe_fldK {e : Expr} {f : Str} {pos : Pos} {ta : TE} (h : X.K = K) (hb : attributeBase e f X.env (eval e X.env) = eval e X.env) (he : PE X e ta) : PE X (.Attribute e f pos) (tFld K ta f) := by subst h; exact pe_fld he hb
theorem pi_listK {tg l : Expr} {tl : TE} (h : X.K = K) (hl : PE X l tl) : PI X tg l (iList K tl) := by subst h; exact pi_list hl
theorem pi_tupK {tg l : Expr} {tl : TE} (h : X.K = K) (hl : PE X l tl) : PI X tg l (iTup K tl) := by subst h; exact pi_tup hl
theorem pi_enumK {e : Expr} {ta : TA} {p pos tpos : Pos} {elts : List Expr} {kk : Nat} (h : X.K = K) (hg : Gl X "enumerate") (hm : X.mg "enumerate" = none) (ha : PA X [e] ta) (hs : starEach [e] X.env = [(false, eval e X.env)]) :
    PI X (.Tuple elts kk tpos) (.Call (.Name "enumerate" p) [e] [] pos) (iEnum K ta) := by subst h; exact pi_enum hg hm ha hs
theorem pi_zipK {e e2 : Expr} {ta : TA} {p pos tpos : Pos} {elts : List Expr} {kk : Nat} (h : X.K = K) (hg : Gl X "zip") (hm : X.mg "zip" = none) (ha : PA X [e, e2] ta)
    (hs : starEach [e, e2] X.env = (false, eval e X.env) :: starEach [e2] X.env) (hpl : (backTo pos (starEach [e2] X.env)).any (·.1) = false) :
    PI X (.Tuple elts kk tpos) (.Call (.Name "zip" p) [e, e2] [] pos) (RZ.iZipA K ta) := by subst h; exact RZ.pi_zipA hg hm ha hs hpl
theorem pg_tupK {es : List Expr} {k : Nat} {pos : Pos} {t : TGs} {n : Nat} (h : X.K = K) (hc : X.calm = true) (hn : (assignEach es X.env).length = n) (hst : (assignEach es X.env).findIdx? (·.1) = none) (hp : PGs X es t) : PG X (.Tuple es k pos) (gTup K n t) := by subst h; exact pg_tup hc hp hn hst
theorem pg_fldK {o : Expr} {f : Str} {to : TE} {pos : Pos} (h : X.K = K) (ho : PE X o to) : PG X (.Attribute o f pos) (gFld K to f) := by subst h; exact pg_fld ho
theorem pe_bmK {T : String} {id : String} {name : Str} {r : V → List V → Hp → VK → Prop} {o : Expr} {e : Expr} {es : List Expr} {to : TE} {t : TA} {apos cpos : Pos} (h : X.K = K) (pa : PlainAttrs T) (slot : Slot T name id) (hty : typeOf (.builtin id) = pure (.type "method_descriptor")) (hm : MtR X id r) (ho : PE X o to) (ha : PA X (e :: es) t)
    (hbase : attributeBase o name X.env (eval o X.env) = eval o X.env := by rfl)
    (hfew : ((backTo cpos (starEach (e :: es) X.env)).all (fun x => !x.1) && (backToKw cpos (keywordEach [] X.env)).all (fun x => x.1.isSome)
      && decide ((e :: es).length + ([] : List Keyword).length + (if ([] : List Keyword).isEmpty then 0 else 1) < 30)) = true := by rfl)
    (hline : (apos.endLine == cpos.line) = true := by rfl) (hs : starEach (e :: es) X.env = (false, eval e X.env) :: starEach es X.env := by rfl) (hplain : (backTo cpos (starEach es X.env)).any (·.1) = false := by rfl) :
    PE X (.Call (.Attribute o name apos) (e :: es) [] cpos) (tBM K T r to t) := by subst h; exact pe_bm pa slot hty hm ho ha hbase hfew hline hs hplain
theorem pe_bm0K {T : String} {id : String} {name : Str} {r : V → List V → Hp → VK → Prop} {o : Expr} {to : TE} {apos cpos : Pos} (h : X.K = K) (pa : PlainAttrs T) (slot : Slot T name id) (hty : typeOf (.builtin id) = pure (.type "method_descriptor")) (hm : MtR X id r) (ho : PE X o to)
    (hbase : attributeBase o name X.env (eval o X.env) = eval o X.env := by rfl) (hline : (apos.endLine == cpos.line) = true := by rfl) : PE X (.Call (.Attribute o name apos) [] [] cpos) (tBM0 K T r to) := by subst h; exact pe_bm0 pa slot hty hm ho hbase hline
end
end B

namespace B
open PySem PySem.Spec PyProof.Rows L2
/-! ### data compared -/
mutual
theorem eqv_self : ∀ d : PyData, d.canLay0 = true → PyData.eqv d d = true
  | .none, _ => by rw [PyData.eqv]
  | .bool b, _ => by rw [PyData.eqv]; exact beq_self_eq_true b
  | .int i, _ => by rw [PyData.eqv]; exact beq_self_eq_true i
  | .str x, _ => by rw [PyData.eqv]; exact beq_self_eq_true x
  | .list xs, h => by rw [PyData.eqv]; exact eqvAll_self xs (by simpa only [PyData.canLay0] using h)
  | .tuple xs, h => by rw [PyData.eqv]; exact eqvAll_self xs (by simpa only [PyData.canLay0] using h)
  | .dict _, h => by simp [PyData.canLay0] at h
theorem eqvAll_self : ∀ ds : List PyData, PyData.canLayAll0 ds = true → PyData.eqvAll ds ds = true
  | [], _ => by rw [PyData.eqvAll]
  | d :: ds, h => by
    have h' : d.canLay0 = true ∧ PyData.canLayAll0 ds = true := by simpa [PyData.canLayAll0] using h
    rw [PyData.eqvAll, eqv_self d h'.1, eqvAll_self ds h'.2]
    rfl
end
theorem canAll_of {ds : List PyData} : (∀ d ∈ ds, d.canLay0 = true) → PyData.canLayAll0 ds = true := by
  induction ds with
  | nil => exact fun _ => by simp [PyData.canLayAll0]
  | cons d ds ih =>
    intro h
    simp only [PyData.canLayAll0, h d (List.mem_cons_self ..), ih fun x hx => h x (List.mem_cons_of_mem _ hx), Bool.and_self]
theorem depthAll_of {ds : List PyData} {n : Nat} : (∀ d ∈ ds, d.depth ≤ n) → PyData.depthAll ds ≤ n := by
  induction ds with
  | nil => exact fun _ => by simp [PyData.depthAll]
  | cons d ds ih =>
    intro h
    have h1 := h d (List.mem_cons_self ..)
    have h2 := ih fun x hx => h x (List.mem_cons_of_mem _ hx)
    simp only [PyData.depthAll]
    omega
/-- data that == may look at, at most n deep -/
def Ok (n : Nat) (d : PyData) : Prop := d.canLay0 = true ∧ d.depth ≤ n
theorem Ok.int (n : Nat) (i : Int) : Ok n (.int i) := ⟨by simp [PyData.canLay0], by simp [PyData.depth]⟩
theorem Ok.bool (n : Nat) (i : Bool) : Ok n (.bool i) := ⟨by simp [PyData.canLay0], by simp [PyData.depth]⟩
theorem Ok.tup {n : Nat} {ds : List PyData} (h : ∀ d ∈ ds, Ok n d) : Ok (n + 1) (.tuple ds) :=
  ⟨by simp only [PyData.canLay0]; exact canAll_of fun d hd => (h d hd).1, by simp only [PyData.depth]; have := depthAll_of fun d hd => (h d hd).2; omega⟩
theorem Ok.lst {n : Nat} {ds : List PyData} (h : ∀ d ∈ ds, Ok n d) : Ok (n + 1) (.list ds) :=
  ⟨by simp only [PyData.canLay0]; exact canAll_of fun d hd => (h d hd).1, by simp only [PyData.depth]; have := depthAll_of fun d hd => (h d hd).2; omega⟩
theorem Ok.ints (ns : List Int) : Ok 1 (.tuple (ns.map PyData.int)) := Ok.tup fun d hd => by
  obtain ⟨i, _, rfl⟩ := List.mem_map.mp hd
  exact Ok.int 0 i
theorem Ok.lints (ns : List Int) : Ok 1 (.list (ns.map PyData.int)) := Ok.lst fun d hd => by
  obtain ⟨i, _, rfl⟩ := List.mem_map.mp hd
  exact Ok.int 0 i
theorem Ok.shaped {n : Nat} {d : PyData} (h : Ok n d) (hn : n ≤ 64 := by decide) : SeqAt.shaped d = true := by
  unfold SeqAt.shaped
  rw [h.1, decide_eq_true (Nat.le_trans h.2 hn)]
  rfl
theorem Ok.self {n : Nat} {d : PyData} (h : Ok n d) : PyData.eqv d d = true := eqv_self d h.1
theorem eqv_int (i j : Int) : PyData.eqv (.int i) (.int j) = (i == j) := by rw [PyData.eqv]
theorem eqvAll_ints : ∀ (a b : List Int), PyData.eqvAll (a.map PyData.int) (b.map PyData.int) = decide (a = b)
  | [], [] => by simp [PyData.eqvAll]
  | [], _ :: _ => by simp [PyData.eqvAll]
  | _ :: _, [] => by simp [PyData.eqvAll]
  | x :: xs, y :: ys => by
    rw [List.map_cons, List.map_cons, PyData.eqvAll, eqvAll_ints xs ys, eqv_int]
    by_cases h1 : x = y <;> by_cases h2 : xs = ys <;> simp [h1, h2]
/-- the tuple of tuples of ints -/
def lotsD (lots : List (List Int)) : PyData := .tuple (lots.map fun l => .tuple (l.map PyData.int))
theorem Ok.lots (lots : List (List Int)) : Ok 2 (lotsD lots) := Ok.tup fun d hd => by
  obtain ⟨l, _, rfl⟩ := List.mem_map.mp hd
  exact Ok.ints l
theorem dp_ints {K : PySem.W.Frag} {H : Hp} {a : Addr} {ns : List Int} (h : SqL K H a (ns.map V.int)) : Dp K H (.ref a) (.list (ns.map PyData.int)) := .lst h (Ims.ints ns).dp
theorem pe_lenSetK {X : Cx} (K : PySem.W.Frag) {a : Expr} {ta : TE} {p p2 q pos : Pos} (h : X.K = K) (hg : Gl X "len") (hm : X.mg "len" = none) (hg2 : Gl X "set") (hm2 : X.mg "set" = none) (ha : PE X a ta) (hc : X.calm = true)
    (na : starEach [a] X.env = (false, eval a X.env) :: starEach [] X.env) : PE X (.Call (.Name "len" p) [.Call (.Name "set" p2) [a] [] q] [] pos) (tLenSet K ta) := by
  subst h
  exact pe_lenSet hg hm hg2 hm2 ha hc na
theorem firstMet_mem (ns : List Int) : ∀ z ∈ PyProof.Rows.firstMet (fun i => ns.getD i 0) ns.length, z ∈ ns := fun z hz => by
  have h := PyProof.Rows.firstMet_any (fun i => ns.getD i 0) ns.length z
  rw [List.any_eq_true.mpr ⟨z, hz, by simp⟩] at h
  obtain ⟨x, hx, e⟩ := List.any_eq_true.mp h.symm
  obtain ⟨i, hi, rfl⟩ := List.mem_map.mp hx
  have hi' := List.mem_range.mp hi
  have e2 : ns.getD i 0 = z := by simpa using e
  rw [← e2, List.getD_eq_getElem?_getD, List.getElem?_eq_getElem hi']
  exact List.getElem_mem hi'
theorem firstMet_nd (val : Nat → Int) : ∀ i, (PyProof.Rows.firstMet val i).Nodup
  | 0 => List.nodup_nil
  | i + 1 => by
    have ih := firstMet_nd val i
    rw [PyProof.Rows.firstMet_succ]
    unfold PyProof.Rows.step_dedup
    split
    · exact ih
    · rename_i h
      rw [List.nodup_append]
      refine ⟨ih, by simp, fun a ha b hb => ?_⟩
      cases List.mem_singleton.mp hb
      intro e
      subst e
      exact h (List.any_eq_true.mpr ⟨_, ha, by simp⟩)
/-! ### tuple + tuple -/
theorem catA_of {K : PySem.W.Frag} {H : Hp} {a b : Addr} {xs ys : List V} {Q : VK} (ha : SqT K H a xs) (hb : SqT K H b ys) (hl : xs.length + ys.length ≤ 1000000) (q : ∀ p H', Fr [] H H' → SqT K H' p (xs ++ ys) → Q (.ref p) H') : rCatA K (.ref a) (.ref b) H Q := by
  refine ⟨a, b, xs, ys, rfl, rfl, ha, hb, Nat.le_trans hl (by decide), fun e => ?_, fun _ e => ?_, fun _ _ p np => ?_⟩
  · subst e
    exact q b H (.refl _ _) hb
  · subst e
    exact q a H (.refl _ _) (by rw [List.append_nil]; exact ha)
  · exact q p _ (.new np) (sqT_of upd_same)
theorem slA_of {K : PySem.W.Frag} {H : Hp} {a : Addr} {xs : List V} {lo hi : Option Int} {Q : VK} (ha : SqT K H a xs) (q : ∀ p H', Fr [] H H' → SqT K H' p (cutV xs lo hi) → Q (.ref p) H') : rSlA K (.ref a) lo hi H Q := by
  refine ⟨a, xs, rfl, ha, fun e => ?_, fun _ p np => q p _ (.new np) (sqT_of upd_same)⟩
  refine q a H (.refl _ _) ?_
  have z : cutV xs lo hi = xs := by
    unfold cutV
    rw [e.1, e.2]
    simp
  rw [z]
  exact ha
/-! ### comprehensions that make data -/
theorem Ims.snoc {K : PySem.W.Frag} {H : Hp} {d : PyData} {y : V} : ∀ {ds : List PyData} {ys : List V}, Ims K H ds ys → Im K H d y → Ims K H (ds ++ [d]) (ys ++ [y])
  | [], _, h, hy => by cases h; exact ⟨y, [], rfl, hy, rfl⟩
  | _ :: _, _, ⟨x, r, e, h1, h2⟩, hy => by cases e; exact ⟨x, r ++ [y], rfl, h1, Ims.snoc h2 hy⟩
section
variable {K : PySem.W.Frag} {J : It} {n : Nat} {G : Hp → Prop} {Y : Nat → Hp → V → Hp → Prop} {g : TG} {tt : TT} {te : TE} {vs : List Nat} {σ : L2.St} {H1 : Hp} {D : Addr} {Qd : Hp → Prop}
theorem lc_dat (w : Walk J n G Y) (d : Nat → PyData) (hD : H1 D = none) (hn : n ≤ 1000000) (hG : ∀ H', Fr [] H1 H' → G H')
    (hs : ∀ i x H H' (Z1 : V → Hp → Prop), i < n → Fr [] H1 H → Y i H x H' → (∀ y H4, Fr [] H' H4 → Im K H4 (d i) y → Z1 y H4) →
      g x (wipe σ vs) H' fun σ2 H2 => wipe σ2 vs = wipe σ vs ∧ te σ2 H2 Z1)
    (hgm : ∀ x H (Z Z' : L2.St → Hp → Prop), (∀ σ2 H2, Z σ2 H2 → Z' σ2 H2) → g x (wipe σ vs) H Z → g x (wipe σ vs) H Z')
    (hY : ∀ i H x H', Fr [] H1 H → Y i H x H' → Fr [] H H')
    (hd : ∀ H ys, Fr [] H1 H → H D = some (.lst ys) → Ims K H ((List.range n).map d) ys → Qd H) :
    ∃ W : Nat → Nat → Hp → Prop, (∃ m, W 0 m (upd H1 D (.lst []))) ∧ ∀ i m H, W i m H →
      (J.stop i H ∧ Qd H) ∨ (J.go i H ∧ ∃ Nx : Hp → Prop, (∀ H', Nx H' → ∃ m', m' < m ∧ W (i + 1) m' H') ∧ ∀ x H', J.yld i H x H' → g x (wipe σ vs) H' fun σ2 H2 => wipe σ2 vs = wipe σ vs ∧ tYes σ2 H2 fun b H3 =>
        if b = true then te σ2 H3 fun y H4 => ∃ acc, H4 D = some (.lst acc) ∧ acc.length < sizeLine ∧ Nx (upd H4 D (.lst (acc ++ [y]))) else Nx H3) := by
  refine lc_it w (fun i H => Fr [] H1 H ∧ ∃ ys, H D = some (.lst ys) ∧ Ims K H ((List.range i).map d) ys) ⟨.new hD, [], upd_same, rfl⟩ (fun i H _ q => hG H q.1) ?_
    (fun H ⟨q1, ys, q3, q4⟩ => hd H ys q1 q3 q4)
  rintro i x H H' hi ⟨fr, ys, hl, hr⟩ hy
  have f0 := hY i H x H' fr hy
  have key : g x (wipe σ vs) H' fun σ2 H2 => wipe σ2 vs = wipe σ vs ∧ te σ2 H2 (fun y H4 => ∃ acc, H4 D = some (.lst acc) ∧ acc.length < sizeLine ∧ (Fr [] H1 (upd H4 D (.lst (acc ++ [y]))) ∧ ∃ ys, (upd H4 D (.lst (acc ++ [y]))) D = some (.lst ys) ∧ Ims K (upd H4 D (.lst (acc ++ [y]))) ((List.range (i + 1)).map d) ys)) := by
    refine hs i x H H' _ hi fr hy fun y H4 f4 r4 => ?_
    have h4 := (f0.trans f4).at hl
    have fw : Fr [D] H4 (upd H4 D (.lst (ys ++ [y]))) := .wr h4 trivial (by simp)
    refine ⟨ys, h4, ?_, ((fr.trans f0).trans f4).put h4 trivial (.inr hD), ys ++ [y], upd_same, ?_⟩
    · have e : sizeLine = 16777216 := sizeLine_eq
      have e2 := hr.len
      rw [List.length_map, List.length_range] at e2
      omega
    · rw [List.range_succ, List.map_append]
      exact ((hr.mono (f0.trans f4)).mono fw).snoc (r4.mono fw)
  refine hgm _ _ _ _ (fun σ2 H2 z => ⟨z.1, ?_⟩) key
  unfold tYes
  dsimp only
  try rw [if_pos rfl]
  exact z.2
end
theorem range_map_getD {α : Type} (xs : List α) (d0 : α) : (List.range xs.length).map (fun i => xs.getD i d0) = xs := by
  apply List.ext_getElem
  · simp
  · intro i h1 h2
    simp [List.getElem?_eq_getElem h2]
theorem range_map_get {α β : Type} (xs : List α) (d0 : α) (f : α → β) : (List.range xs.length).map (fun i => f (xs.getD i d0)) = xs.map f := by
  have h := congrArg (List.map f) (range_map_getD xs d0)
  rw [List.map_map] at h
  exact h
/-- the values kept by a test, of a list of ints -/
theorem kept_ints (c : Int → Bool) (f : Int → Int) (xs : List Int) : ∀ i, i ≤ xs.length → kept (fun i => c (xs.getD i 0)) (fun i => .int (f (xs.getD i 0))) i = (((xs.take i).filter c).map f).map V.int
  | 0, _ => rfl
  | i + 1, h => by
    have ih := kept_ints c f xs i (by omega)
    have e : xs[i]? = some (xs.getD i 0) := by
      rw [List.getD_eq_getElem?_getD, List.getElem?_eq_getElem (by omega)]
      rfl
    have e2 : xs.take (i + 1) = xs.take i ++ [xs.getD i 0] := by
      rw [List.take_add_one, e]
      rfl
    rw [e2, List.filter_append, List.map_append, List.map_append, ← ih]
    cases hc : c (xs.getD i 0) with
    | true =>
      rw [kept_yes hc, List.filter_cons, if_pos hc]
      rfl
    | false =>
      rw [kept_no hc, List.filter_cons, if_neg (by rw [hc]; decide)]
      show _ = _ ++ []
      rw [List.append_nil]
theorem kept_intsAll (c : Int → Bool) (f : Int → Int) (xs : List Int) : kept (fun i => c (xs.getD i 0)) (fun i => .int (f (xs.getD i 0))) xs.length = ((xs.filter c).map f).map V.int := by
  rw [kept_ints c f xs _ (Nat.le_refl _), List.take_length]
theorem getD_of {α : Type} {xs : List α} {i : Nat} {x d0 : α} (h : xs[i]? = some x) : xs.getD i d0 = x := by
  rw [List.getD_eq_getElem?_getD, h]
  rfl
theorem map_at {α β : Type} {f : α → β} {xs : List α} {i : Nat} {y : β} (h : (xs.map f)[i]? = some y) : ∃ x, xs[i]? = some x ∧ y = f x := by
  rw [List.getElem?_map] at h
  cases e : xs[i]? with
  | none => rw [e] at h; cases h
  | some x => rw [e] at h; exact ⟨x, rfl, (Option.some.inj h).symm⟩
end B

namespace B
open PySem PySem.Spec PyProof.Rows L2
section
variable {K : PySem.W.Frag} {mg : Str → Option Value} {h : Heap}
theorem defAt_mk {x : Str} {st : Stmt} {ps : List Str} {f : Addr} {oc : Value} {od an : Option Addr} {sl : Array (Option Value)} {kV dc pm cd ct : Value} (X : K.In h) (G : h.Ns mainGlobals mg) (a : PySem.W.nsIn K mainGlobals x = some (some (.ref f)))
    (l : K.lookup f = some ⟨oc, od, .func (PySem.W.fnOf x x (defArgs st) (defBody st) (defScope st) .none kV dc pm an cd ct), sl⟩) (c : PySem.W.codeIn K cd x = true) (k : PySem.W.keepIn K (.ref f) = true)
    (hb : ∀ (kV doc pm : Value) (an : Option Addr) (cdv ct : Value) (us : List Value), us.length = ps.length → bindArgs (PySem.W.fnOf x x (defArgs st) (defBody st) (defScope st) .none kV doc pm an cdv ct) ⟨us, []⟩ = pure (ps.zip us)) : DefAt K mg x st ps :=
  ⟨f, _, fun_mk l c k, PySem.W.mg_of X G a, (fun_mk (st := st) l c k).binds hb⟩
theorem metAt_mk {C : Addr} {m qual : Str} {st : Stmt} {ps : List Str} {f : Addr} {oc : Value} {od an : Option Addr} {sl : Array (Option Value)} {kV dc pm cd ct : Value} (cl : Cls K C) (me : Meth K C m f)
    (l : K.lookup f = some ⟨oc, od, .func (PySem.W.fnOf m qual (defArgs st) (defBody st) (defScope st) .none kV dc pm an cd ct), sl⟩) (c : PySem.W.codeIn K cd qual = true) (k : PySem.W.keepIn K (.ref f) = true)
    (hb : ∀ (kV doc pm : Value) (an : Option Addr) (cdv ct : Value) (us : List Value), us.length = ps.length → bindArgs (PySem.W.fnOf m qual (defArgs st) (defBody st) (defScope st) .none kV doc pm an cdv ct) ⟨us, []⟩ = pure (ps.zip us)) : MetAt K C m qual st ps :=
  ⟨f, _, fun_mk l c k, me, cl, (fun_mk (st := st) l c k).binds hb⟩
theorem iniAt_mk {x : Str} {C : Addr} {qual : Str} {st : Stmt} {ps : List Str} {f : Addr} {oc : Value} {od an : Option Addr} {sl : Array (Option Value)} {kV dc pm cd ct : Value} (hm : mg x = some (.ref C)) (M : Mk K C f)
    (l : K.lookup f = some ⟨oc, od, .func (PySem.W.fnOf "__init__" qual (defArgs st) (defBody st) (defScope st) .none kV dc pm an cd ct), sl⟩) (c : PySem.W.codeIn K cd qual = true) (k : PySem.W.keepIn K (.ref f) = true)
    (hb : ∀ (kV doc pm : Value) (an : Option Addr) (cdv ct : Value) (us : List Value), us.length = ps.length → bindArgs (PySem.W.fnOf "__init__" qual (defArgs st) (defBody st) (defScope st) .none kV doc pm an cdv ct) ⟨us, []⟩ = pure (ps.zip us)) : IniAt K mg x C qual st ps :=
  ⟨f, _, fun_mk l c k, M, hm, (fun_mk (st := st) l c k).binds hb⟩
end
end B

/-! A promise of a def that runs where no repr is under way (the law's own def, and what it calls): FnG. With it repr(data) is told. -/
namespace B
open PySem PySem.Spec PyProof.Rows L2
section
variable {P : Program} {w : World} {K : PySem.W.Frag} {mg : Str → Option Value} {base : Heap}
/-- nothing guards -/
abbrev Bare (A : Around) : Prop := A.guards = some []
structure FnG (P : Program) (w : World) (K : PySem.W.Frag) (mg : Str → Option Value) (base : Heap) (k : Nat) (f : Addr) (fd : FuncData) (ps : List Str) (sp : Sp) : Prop where
  len : ∀ vs H Q E, sp vs H Q E → vs.length = ps.length
  go : ∀ {A : Around} {outer : List Env} {s : Shared} {H : Hp} {args : Args} {us : List Value} {vs : List V} {Q : VK} {E : XK}, Bare A → Room k A → Env0 P w K mg base A outer s H →
    BindsTo s fd args (ps.zip us) → Vals vs us → sp vs H Q E → codeAny (model P w) A (.call (.ref f) args) (CR CX0 outer P w H s Q E) s
theorem FnG.of {k : Nat} {f : Addr} {fd : FuncData} {ps : List Str} {sp : Sp} (F : FnOk P w K mg base CX0 k f fd ps sp) : FnG P w K mg base k f fd ps sp :=
  ⟨F.len, fun _ hr e b r h => F.run _ _ _ _ _ _ _ _ _ hr e b r h⟩

/-- a def by its body, told that nothing guards -/
theorem fnG_of {k : Nat} {f : Addr} {nm qual : Str} {pr : Arguments} {body : List Stmt} {sc : Scope} {dV kV doc pm cd ct oc : Value} {an od : Option Addr} {sl : Array (Option Value)} {N ps : List Str} {sp : Sp}
    (lk : K.lookup f = some ⟨oc, od, .func (PySem.W.fnOf nm qual pr body sc dV kV doc pm an cd ct), sl⟩) (hc : PySem.W.codeIn K cd qual = true) (S : FnScope N ps sc) (len : ∀ vs H Q E, sp vs H Q E → vs.length = ps.length)
    (hb : ∀ (A : Around) (outer : List Env) (s : Shared) (H : Hp) (vs : List V) (Q : VK) (E : XK), Bare A → Room k (A.deeper (envOfC qual sc s.heap.objs.size f cd)) → sp vs H Q E →
      ∃ t, PSs (cxOf CX0 P w K mg base N qual sc f cd A outer s H E) body t ∧ t { nx := fun _ H1 => Q .non H1, rt := Q } (start N vs) H) :
    FnG P w K mg base (k + 1) f (PySem.W.fnOf nm qual pr body sc dV kV doc pm an cd ct) ps sp := by
  constructor
  · exact len
  intro A outer s H args us vs Q E hG hr e hbd r hs
  obtain ⟨t, ht, hq⟩ := hb A outer s H vs Q E hG (hr.deeper _) hs
  have same : ∀ b o, base.get? b = some o → s.heap.get? b = some o := fun b o z => (e.bs b o z).1
  have KX : K.In s.heap := e.mod.kin.keeps same
  have noL := e.mod.nolimit.keeps same
  have kinds : ∀ y ∈ ps.zip us, sc.names.lookup y.1 = some .local ∨ (sc.names.lookup y.1 = some .cell ∧ ((cellsFrom (s.heap.objs.size + 1) sc.names []).lookup y.1).isSome = true) := by
    rintro ⟨n, v⟩ hy
    refine (S.par n (List.of_mem_zip hy).1).imp id fun z => ⟨z, ?_⟩
    exact PySem.W.cellsFrom_some _ _ _ (.inl z)
  apply codeAny_call_function hr.depth (KX _ _ lk) rfl S.co S.gen rfl (PySem.W.codeRec_of KX hc) (hbd _ _ _ _ _)
  apply wpAny_newFunctionEnv_cells S.kind kinds
  rintro env rfl s1 x
  refine ⟨noL.keeps x.toInCall.keep, codeAny_func (wpAny_mono (ht.run [] s1 (start N vs) H _ (inv_start S hr.hd e (len _ _ _ _ hs) r x) hq) ?_ fun _ _ z => z)⟩
  rintro fl s' z
  have ends : ∀ {σ1 : L2.St} {H1 : Hp} {v : V} {u : Value}, Inv (cxOf CX0 P w K mg base N qual sc f cd A outer s H E) [] σ1 H1 s' → RelV v u → Q v H1 → CE outer P w H s Q u s' := by
    intro σ1 H1 v u J rv q
    exact ⟨v, H1, J.os, J.bare, J.base, J.hok, rv, q⟩
  cases fl with
  | next => obtain ⟨_, _, J, q⟩ := z; exact ends (v := .non) (u := .none) J rfl q
  | ret u => obtain ⟨_, _, _, J, rv, q⟩ := z; exact ends J rv q
  | brk => obtain ⟨_, _, _, q⟩ := z; exact q.elim
  | cont => obtain ⟨_, _, _, q⟩ := z; exact q.elim

theorem bare_deeper {A : Around} (h : Bare A) (env : Env) : (A.deeper env).guards = some [] := by
  first | exact h | rfl | simpa using h
/-- Fun.ok, told that nothing guards -/
theorem okG {x qual : Str} {st : Stmt} {f : Addr} {fd : FuncData} {N ps : List Str} {k : Nat} {sp : Sp} (F : Fun K x qual st f fd) (S : FnScope N ps (defScope st)) (len : ∀ vs H Q E, sp vs H Q E → vs.length = ps.length)
    (hb : ∀ (cdv : Value) (A : Around) (outer : List Env) (s : Shared) (H : Hp) (vs : List V) (Q : VK) (E : XK), (A.deeper (envOfC qual (defScope st) s.heap.objs.size f cdv)).guards = some [] → Room k (A.deeper (envOfC qual (defScope st) s.heap.objs.size f cdv)) → sp vs H Q E →
      ∃ t, PSs (cxOf CX0 P w K mg base N qual (defScope st) f cdv A outer s H E).nox (defBody st) t ∧ t { nx := fun _ H1 => Q .non H1, rt := Q } (start N vs) H) : FnG P w K mg base (k + 1) f fd ps sp := by
  obtain ⟨oc, od, kV, doc, pm, an, cdv, ct, sl, rfl, lk, hc⟩ := F.ex
  refine fnG_of lk hc S len fun A outer s H vs Q E hG hr hs => ?_
  obtain ⟨t, h, q⟩ := hb cdv A outer s H vs Q E (bare_deeper hG _) hr hs
  exact ⟨t, h.nox, q⟩

/-- the ground on which the law's def is called: nothing is tracked but the script (or it is an object of the module) -/
theorem ground {mb : Str → Option Value} {a : Addr} {s : Shared} {vs : List Value} {ns : List Int}
    (KX : K.In s.heap) (G : s.heap.Ns mainGlobals mg) (Gb : s.heap.Ns builtinsNs mb) (bb : ∀ x : Str, x ≠ "__name__" → mb x = bootBuiltins x) (noL : s.heap.NoLimit) (hg : s.gens = #[])
    (ha : s.heap.get? a = some { cls := .type "list", data := .seq vs.toArray }) (hi : IntsAre vs ns) (hl : ns.length ≤ sizeLine) :
    ∃ base H, K.In base ∧ base.Ns mainGlobals mg ∧ Only H ∧ SqL K H a (ns.map V.int) ∧ Env0 P w K mg base callerA [] s H ∧
      ∀ (H' : Hp) (s' : Shared), Un (frs []) [] H H' s.heap s'.heap → HOk P w H' s'.heap → ∀ b o, s.heap.get? b = some o → s'.heap.get? b = some o := by
  have rv := vals_ints hi
  have len := hi.length
  suffices hH : ∃ H : Hp, (∀ b u, H b = some u → b = a ∧ K.lookup a = none ∧ u = .frz { cls := .type "list", data := .seq vs.toArray } (.lst (ns.map V.int))) ∧ SqL K H a (ns.map V.int) ∧ HOk P w H s.heap by
    obtain ⟨H, one, sq, ok⟩ := hH
    have inB : ∀ {b o}, s.heap.get? b = some o → H b = none → (hidT s.heap H).get? b = some o := fun z n => hidT_get z n
    have off : ∀ {b : Addr} {o : Obj} {es : Array DictEntry} {n : Nat}, s.heap.get? b = some o → o.data = .dict es n → H b = none := by
      intro b o es n z d
      match e : H b with
      | none => rfl
      | some u =>
        obtain ⟨rfl, -, -⟩ := one b u e
        rw [ha] at z
        cases z
        exact nomatch (show Data.seq vs.toArray _ = Data.dict es n from d)
    have nsB : ∀ {b : Addr} {m : Str → Option Value}, s.heap.Ns b m → (hidT s.heap H).Ns b m := by
      rintro b m ⟨o, es, n, z, d, rest⟩
      exact ⟨o, es, n, inB z (off z d), d, rest⟩
    have kB : K.In (hidT s.heap H) := by
      intro b o z
      refine inB (KX b o z) ?_
      match e : H b with
      | none => rfl
      | some u =>
        obtain ⟨rfl, n, -⟩ := one b u e
        rw [n] at z
        cases z
    obtain ⟨mc, z1, z2⟩ := noL
    refine ⟨hidT s.heap H, H, kB, nsB G, fun b => ?_, sq, ⟨rfl, ⟨kB, nsB G, ⟨mb, nsB Gb, bb⟩, mc, nsB z1, z2⟩, fun _ _ z => of_hidT z, by rw [hidT_size]; exact Nat.le_refl _, trivial, fun b hb => (nomatch (show b ∈ ([] : List Addr) from hb)), ok, .of_eq hg⟩, ?_⟩
    · match e : H b with
      | none => exact .inl rfl
      | some u =>
        obtain ⟨-, -, rfl⟩ := one b u e
        exact .inr ⟨_, _, rfl⟩
    · intro H' s' un ok' b o z
      match e : H b with
      | none => exact un.keep b o z e (fun h => nomatch (show b ∈ ([] : List Addr) from h)) fun h => nomatch h
      | some u =>
        obtain ⟨rfl, -, rfl⟩ := one b u e
        rw [ha] at z
        cases z
        exact (ok' _ _ (un.frzs _ _ _ e)).1
  match hk : K.lookup a with
  | some o =>
    have z := KX a o hk
    rw [ha] at z
    cases z
    refine ⟨fun _ => none, ⟨fun b u h => ?_, .inr ⟨_, vs.toArray, _, hk, rfl, rfl, rfl, by rw [List.size_toArray, len]; exact hl, by simpa using rv⟩, fun b u h => ?_⟩⟩
    · exact nomatch (show (none : Option HO) = some u from h)
    · exact nomatch (show (none : Option HO) = some u from h)
  | none =>
    have at_ : ∀ b u, (if b = a then some (HO.frz { cls := .type "list", data := .seq vs.toArray } (.lst (ns.map V.int))) else none) = some u → b = a ∧ HO.frz { cls := .type "list", data := .seq vs.toArray } (.lst (ns.map V.int)) = u := by
      intro b u h
      split at h
      · rename_i e
        exact ⟨e, Option.some.inj h⟩
      · cases h
    refine ⟨fun b => if b = a then some (.frz { cls := .type "list", data := .seq vs.toArray } (.lst (ns.map V.int))) else none, fun b u h => ?_, .inl (.inr ⟨_, if_pos rfl⟩), fun b u h => ?_⟩
    · obtain ⟨rfl, rfl⟩ := at_ b u h
      exact ⟨rfl, by first | rfl | exact hk, rfl⟩
    · obtain ⟨rfl, rfl⟩ := at_ b u h
      exact ⟨ha, by rw [List.length_map]; exact hl, vs, _, rv, ha⟩
end

/-- the goal behind k_head, from a promise of the law's def that is told that nothing guards -/
theorem walk_G {l : PySem.W.OpenLaw} {n k : Nat} {q : Program} {loose : List Str} {XP : (Str → Option Value) → Heap → Prop} {YP : World → Heap → Prop} {d : DefRec} {K : Params → PySem.W.Frag} {sp : World → Sp} {x : Str}
    (hn : l.most = some n) (hn2 : n ≤ sizeLine) (hdf : d.params.defaults = []) (hr : Room k callerA) (hY : ∀ (w : World) (h : Heap), YP w h → (K w.params).In h)
    (F : ∀ (w : World) (mg : Str → Option Value) (fa : Addr) (h : Heap), (K w.params).In h → h.Ns mainGlobals mg → mg d.name = some (.ref fa) →
      ∃ fd : FuncData, (∀ (s : Shared) (u : Value), BindsTo s fd ⟨[u], []⟩ [(x, u)]) ∧ ∀ base : Heap, (K w.params).In base → base.Ns mainGlobals mg → FnG l.prog w (K w.params) mg base k fa fd [x] (sp w))
    (hsp : ∀ (w : World) (H : Hp) (a : Addr) (ns : List Int), ns.length ≤ n → Only H → SqL (K w.params) H a (ns.map V.int) → sp w [.ref a] H (fun v _ => v = .bl true) fun _ _ _ => False) :
    PySem.W.WalkO q loose XP YP l.row.toRowW d [] (fun f vs => PySem.call f vs) := by
  apply Att.attach_call hn hdf
  intro w s0 s mg mb fa o pm cd doc a vs ns G Y ho hd hcd hmg hobj hi hl hg
  have KX := hY w _ Y
  obtain ⟨fd, hb, hF⟩ := F w mg fa _ KX G.T.g hmg
  obtain ⟨base, H, kb, nb, on, sq, e, keep⟩ := ground (P := l.prog) (w := w) KX G.T.g G.T.b G.T.builtins G.T.nolimit hg hobj hi (Nat.le_trans hl hn2)
  refine codeAny_mono ((hF base kb nb).go (us := [.ref a]) (vs := [.ref a]) rfl hr e (hb s (.ref a)) (.cons rfl .nil) (hsp w H a ns hl on sq)) fun r s' h => ?_
  match r, h with
  | .ok (.ret u), ⟨v, H', os, bare, un, ok', rv, q⟩ =>
    cases (show v = .bl true from q)
    cases (show u = Value.bool true from rv)
    exact ⟨rfl, OldK.of_keep (keep H' s' un ok'), os, bare⟩
  | .error e, h => exact False.elim h
end B

/-! repr(data), where nothing guards; how long the text may be. -/
namespace B
open PySem PySem.Spec PyProof.Rows L2
/-- data that repr may be asked of: at most n deep, at most m parts in all, numbers below 2^70 -/
structure Sh (n m : Nat) (d : PyData) : Prop where
  able : d.showable = true
  nodict : d.hasDict = false
  short : d.leavesShort 80 = true
  deep : d.depth ≤ n
  few : d.bulk ≤ m
theorem Sh.mono {n m n' m' : Nat} {d : PyData} (h : Sh n m d) (hn : n ≤ n') (hm : m ≤ m') : Sh n' m' d := ⟨h.able, h.nodict, h.short, Nat.le_trans h.deep hn, Nat.le_trans h.few hm⟩
theorem Sh.int {i : Int} (h : i.natAbs.log2 < 70) : Sh 0 0 (.int i) := by
  refine ⟨?_, rfl, ?_, by simp [PyData.depth], by simp [PyData.bulk]⟩
  · have h' : i.natAbs.log2 < 1920 := by omega
    simp only [PyData.showable]
    exact decide_eq_true h'
  · have e := PySem.int_text_length_le (k := 70) (by decide) h
    have e2 : (PyData.shown (.int i)).length ≤ 80 := by
      simp only [PyData.shown]
      rw [show (PySem.Str.ofString (toString i)).length = (toString i).length from PySem.ofString_length _]
      omega
    simp only [PyData.leavesShort]
    exact decide_eq_true e2
theorem Sh.bool (b : Bool) : Sh 0 0 (.bool b) := ⟨rfl, rfl, rfl, by simp [PyData.depth], by simp [PyData.bulk]⟩
theorem Sh.none : Sh 0 0 .none := ⟨rfl, rfl, rfl, by simp [PyData.depth], by simp [PyData.bulk]⟩
theorem shAll {n m : Nat} : ∀ {ds : List PyData}, (∀ d ∈ ds, Sh n m d) → PyData.showableAll ds = true ∧ PyData.hasDictAll ds = false ∧ PyData.leavesShortAll 80 ds = true ∧ PyData.depthAll ds ≤ n ∧ PyData.bulkAll ds ≤ ds.length * (m + 1)
  | [], _ => ⟨rfl, rfl, rfl, by simp [PyData.depthAll], by simp [PyData.bulkAll]⟩
  | d :: ds, h => by
    have h1 := h d (List.mem_cons_self ..)
    obtain ⟨a1, a2, a3, a4, a5⟩ := shAll fun x hx => h x (List.mem_cons_of_mem _ hx)
    refine ⟨?_, ?_, ?_, ?_, ?_⟩
    · simp only [PyData.showableAll, h1.able, a1, Bool.and_self]
    · simp only [PyData.hasDictAll, h1.nodict, a2, Bool.or_self]
    · simp only [PyData.leavesShortAll, h1.short, a3, Bool.and_self]
    · have := h1.deep
      simp only [PyData.depthAll]
      omega
    · have := h1.few
      simp only [PyData.bulkAll, List.length_cons, Nat.add_mul, Nat.one_mul]
      omega
theorem Sh.tup {n m k : Nat} {ds : List PyData} (h : ∀ d ∈ ds, Sh n m d) (hk : ds.length ≤ k) : Sh (n + 1) (k * (m + 1)) (.tuple ds) := by
  obtain ⟨a1, a2, a3, a4, a5⟩ := shAll h
  have := Nat.mul_le_mul_right (m + 1) hk
  refine ⟨by simpa only [PyData.showable] using a1, by simpa only [PyData.hasDict] using a2, by simpa only [PyData.leavesShort] using a3, ?_, ?_⟩
  · simp only [PyData.depth]
    omega
  · simp only [PyData.bulk]
    omega
theorem Sh.lst {n m k : Nat} {ds : List PyData} (h : ∀ d ∈ ds, Sh n m d) (hk : ds.length ≤ k) : Sh (n + 1) (k * (m + 1)) (.list ds) := by
  obtain ⟨a1, a2, a3, a4, a5⟩ := shAll h
  have := Nat.mul_le_mul_right (m + 1) hk
  refine ⟨by simpa only [PyData.showable] using a1, by simpa only [PyData.hasDict] using a2, by simpa only [PyData.leavesShort] using a3, ?_, ?_⟩
  · simp only [PyData.depth]
    omega
  · simp only [PyData.bulk]
    omega
theorem Sh.size {n m : Nat} {d : PyData} (h : Sh n m d) (hm : m ≤ 200000) : d.shown.length ≤ sizeLine := by
  have e := PyData.shown_le_bulk 80 (by decide) d h.short
  have h2 : (80 + 2) * d.bulk ≤ 82 * 200000 := Nat.mul_le_mul (by decide) (Nat.le_trans h.few hm)
  rw [sizeLine_eq]
  omega
theorem log70 {i : Int} (h0 : 0 ≤ i) (h : i < 2 ^ 70) : i.natAbs.log2 < 70 := by
  have h2 : i.natAbs < 2 ^ 70 := by omega
  by_cases e : i.natAbs = 0
  · rw [e]
    decide
  · exact (Nat.log2_lt e).mpr h2
/-- a number that is short to show -/
def Sm (i : Int) : Prop := 0 ≤ i ∧ i < 2 ^ 70
theorem Sh.ints {ns : List Int} {k : Nat} (h : ∀ z ∈ ns, Sm z) (hl : ns.length ≤ k) : Sh 1 k (.tuple (ns.map PyData.int)) := by
  have := Sh.tup (n := 0) (m := 0) (k := k) (ds := ns.map PyData.int) (fun d hd => by
    obtain ⟨i, hi, rfl⟩ := List.mem_map.mp hd
    exact Sh.int (log70 (h i hi).1 (h i hi).2)) (by rw [List.length_map]; exact hl)
  exact this.mono (Nat.le_refl _) (by omega)
theorem Sh.lints {ns : List Int} {k : Nat} (h : ∀ z ∈ ns, Sm z) (hl : ns.length ≤ k) : Sh 1 k (.list (ns.map PyData.int)) := by
  have := Sh.lst (n := 0) (m := 0) (k := k) (ds := ns.map PyData.int) (fun d hd => by
    obtain ⟨i, hi, rfl⟩ := List.mem_map.mp hd
    exact Sh.int (log70 (h i hi).1 (h i hi).2)) (by rw [List.length_map]; exact hl)
  exact this.mono (Nat.le_refl _) (by omega)
theorem str_ne_self {x : Str} : (!decide (V.str x = V.str x)) = false := by simp
section
variable {X : Cx}
/-- repr(x) of a list or a tuple of data -/
def rReprD (K : PySem.W.Frag) : List V → Hp → VK → Prop := fun xs H Q => ∃ (a : Addr) (d : PyData), xs = [.ref a] ∧ Dp K H (.ref a) d ∧ (∃ n m, n ≤ 60 ∧ m ≤ 200000 ∧ Sh n m d) ∧ Q (.str d.shown) H
theorem call_reprD (hg : X.A.guards = some []) (hu : X.A.units + 64 < cLine) : CallR X (.builtin "repr") (rReprD X.K) := by
  intro pins s σ H xs us Q I r h
  obtain ⟨a, d, rfl, hd, ⟨n, m, hn, hm, sh⟩, q⟩ := h
  obtain ⟨u, rfl, e⟩ := vals1 r
  cases e
  obtain ⟨as, rd⟩ := Dp.reads I d (.ref a) (.ref a) hd rfl
  have := sh.deep
  exact repr_of_reads' rd sh.able (fun z => by rw [sh.nodict] at z; cases z) hg (by omega) (fun _ _ z => z) (fun h' u tk keep => ⟨.str d.shown, H, I.kept keep, ⟨_, rfl⟩, q⟩) (sh.size hm)
theorem call_reprDK (K : PySem.W.Frag) (hk : X.K = K) (hg : X.A.guards = some []) (hu : X.A.units + 64 < cLine) : CallR X (.builtin "repr") (rReprD K) := by
  subst hk
  exact call_reprD hg hu
end
end B

/-! t[::-1], t a tuple -/
namespace B
open PySem PySem.Spec PyProof.Rows L2 HT
section
variable {prog : Program} {w : World} {A : Around} {E : Value → Shared → Prop} {s : Shared}
theorem applied_back {sl : Addr} {n : Nat} {u : Tok} {Q : Int × Int × Nat → Shared → Prop} (hs : s.heap.IsSliceOf sl .none .none (.int (-1) u)) (h : Q ((n : Int) - 1, -1, n) s) :
    wpAny (model prog w) A (Builtin.Slice.sliceApplied (.ref sl) (pure (n : Int))) Q E s := by
  obtain ⟨o, ho, hc, hd⟩ := id hs
  unfold Builtin.Slice.sliceApplied
  unfold Builtin.Slice.sliceFields
  refine wpAny_bind (wpAny_bind (wpAny_field ho hd (x := .none) rfl (wpAny_bind (wpAny_field ho hd (x := .none) rfl (wpAny_bind (wpAny_field ho hd (x := .int (-1) u) rfl (wpAny_pure ?_)))))))
  apply wpAny_bind
  apply slicePart_int
  show wpAny _ _ (if ((-1 : Int) == 0) = true then _ else _) _ _ s
  rw [if_neg (by decide)]
  refine wpAny_bind (slicePart_none (wpAny_bind (slicePart_none (wpAny_bind (wpAny_pure ?_)))))
  have e : Builtin.Slice.sliceAdjust none none (-1) (n : Int) = ((n : Int) - 1, -1) := rfl
  have e2 : Builtin.Slice.slicePlaces ((n : Int) - 1) (-1) (-1) = n := by
    unfold Builtin.Slice.slicePlaces
    rw [if_neg (by decide)]
    by_cases h0 : (n : Int) - 1 > -1
    · rw [if_pos h0]
      have : -(-1 : Int) = 1 := rfl
      rw [this, Int.ediv_one]
      omega
    · rw [if_neg h0]
      omega
  have h' : Q ((n : Int) - 1, -1, Builtin.Slice.slicePlaces ((n : Int) - 1) (-1) (-1)) s := by rw [e2]; exact h
  exact wpAny_pure h'
theorem fm_congr {α β : Type} {f g : α → Option β} : ∀ {l : List α}, (∀ x ∈ l, f x = g x) → l.filterMap f = l.filterMap g
  | [], _ => rfl
  | x :: l, h => by
    have e := h x (List.mem_cons_self ..)
    have r := fm_congr fun y hy => h y (List.mem_cons_of_mem _ hy)
    rw [List.filterMap_cons, List.filterMap_cons, e, r]
theorem pick_back (xs : Array Value) : ((List.range xs.size).filterMap fun (k : Nat) => xs[(((xs.size : Int) - 1) + (k : Int) * (-1)).toNat]?).toArray = xs.toList.reverse.toArray := by
  congr 1
  apply List.ext_getElem?
  intro i
  have e : (List.range xs.size).filterMap (fun (k : Nat) => xs[(((xs.size : Int) - 1) + (k : Int) * (-1)).toNat]?) = (List.range xs.size).map fun k => xs.toList.reverse.getD k .none := by
    rw [← List.filterMap_eq_map]
    apply fm_congr
    intro k hk
    have hk' := List.mem_range.mp hk
    have hi : (((xs.size : Int) - 1) + (k : Int) * (-1)).toNat = xs.size - 1 - k := by omega
    have hl : k < xs.toList.reverse.length := by simpa using hk'
    rw [hi]
    show xs[xs.size - 1 - k]? = some (xs.toList.reverse.getD k .none)
    rw [List.getD_eq_getElem?_getD, List.getElem?_eq_getElem hl, Array.getElem?_eq_getElem (by omega)]
    simp
  rw [e]
  by_cases hi : i < xs.size
  · have hl : i < xs.toList.reverse.length := by simpa using hi
    rw [List.getElem?_map, List.getElem?_range hi, List.getElem?_eq_getElem hl]
    simp [List.getElem?_eq_getElem hl]
  · rw [List.getElem?_eq_none (by simpa using hi), List.getElem?_eq_none (by simpa using hi)]
theorem get_back {t sl : Addr} {its : Array Value} {u : Tok} {Q : Value → Shared → Prop} (ht : IsTup s.heap t its) (hs : s.heap.IsSliceOf sl .none .none (.int (-1) u))
    (h : Q (.ref s.heap.objs.size) { s with heap := s.heap.push { cls := .type "tuple", data := .seq its.toList.reverse.toArray } }) (hz : its.size ≤ sizeLine) : wpAny (model prog w) A (getItem (.ref t) (.ref sl)) Q E s := by
  have fit : sizeOk (.seq its.toList.reverse.toArray) := by
    show its.toList.reverse.toArray.size ≤ sizeLine
    simpa using hz
  obtain ⟨o, ho, hc, hd⟩ := id hs
  have T : s.TypeIs (.ref sl) "slice" := ⟨o, ho, hc⟩
  unfold getItem
  try with_reducible refine wpAny_holding ?_
  first | refine wpAny_bind (wpAny_pure ?_) | skip
  apply wpAny_bind
  apply wpAny_sequenceKey ht.typeIs (by decide)
  apply wpAny_bind
  refine wpAny_callSpecial?_slot (name := Str.ofString "__getitem__") ht.typeIs PyProof.Rows.slot_tuple_getitem (wpAny_call_entry PyProof.Rows.slot_tuple_getitem ht.typeIs entry_tuple_getitem ?_ (args_tuple_getitem _ _))
  show wpAny _ _ (Builtin.Tuple.tupleItemsOf (.ref t) >>= _) _ _ s
  apply wpAny_bind
  apply tupleItemsOf_ ht
  apply wpAny_bind
  apply wpAny_typeOf T
  rw [if_pos (by decide)]
  apply wpAny_bind
  apply applied_back hs
  have no : ¬ (((((its.size : Nat) : Int) - 1) == 0 && (-1 : Int) == 1 && its.size == its.size) = true) := by
    rw [show ((-1 : Int) == 1) = false from by decide, Bool.and_false, Bool.false_and]
    decide
  show wpAny _ _ (if (((((its.size : Nat) : Int) - 1) == 0 && (-1 : Int) == 1 && its.size == its.size) = true) then _ else _) _ _ s
  rw [if_neg no, pick_back]
  first
    | exact wpAny_bind (m := Builtin.Tuple.tupleExact _) (wpAny_newObj_type (wpAny_pure ⟨_, rfl, wpAny_pure h⟩) fit)
    | exact wpAny_bind (m := Builtin.Tuple.tupleExact _) (wpAny_newObj_type (wpAny_bind (wpAny_pure (wpAny_pure ⟨_, rfl, wpAny_pure h⟩))) fit)
    | exact wpAny_bind (wpAny_bind (m := Builtin.Tuple.tupleExact _) (wpAny_newObj_type (wpAny_pure (wpAny_pure ⟨_, rfl, wpAny_pure h⟩)) fit))
    | exact wpAny_bind (wpAny_bind (m := Builtin.Tuple.tupleExact _) (wpAny_newObj_type (wpAny_pure ⟨_, rfl, wpAny_pure h⟩) fit))
end
section
variable {X : Cx}
def tRevT (K : PySem.W.Frag) (te : TE) : TE := fun σ H Q => te σ H fun x H1 => ∃ a xs, x = .ref a ∧ SqT K H1 a xs ∧ ∀ p, H1 p = none → Q (.ref p) (upd H1 p (.tup xs.reverse))
theorem pe_revT {e : Expr} {te : TE} {k : Nat} {p1 p2 p3 pos : Pos} (he : PE X e te) : PE X (.Subscript e (.Slice none none (some (.UnaryOp .USub (.Constant (.int 1) k p1) p2)) p3) pos) (tRevT X.K te) := by
  constructor
  intro pins s σ H Q I h
  apply Subscript_
  refine thn (he.run pins s σ H _ I h) ?_
  rintro v s1 ⟨x, H1, I1, r1, a, xs, rfl, hx, q⟩
  cases r1
  have st : PO X (some (.UnaryOp .USub (.Constant (.int 1) k p1) p2)) (tPart (tUn (rU fun i => .int (-i)) (tC (.int 1)))) := po_some (pe_un un_neg pe_int)
  apply wpAny_Slice
  refine thn (po_none.run pins s1 σ H1 (fun o H2 => o = none ∧ H2 = H1) I1 ⟨rfl, rfl⟩) ?_
  rintro vl s2 ⟨l, H2, I2, pl, rfl, rfl⟩
  refine thn (po_none.run pins s2 σ H2 (fun o H3 => o = none ∧ H3 = H2) I2 ⟨rfl, rfl⟩) ?_
  rintro vu s3 ⟨l3, H3, I3, pu, rfl, rfl⟩
  refine thn (st.run pins s3 σ H3 (fun o H4 => o = some (-1) ∧ H4 = H3) I3 ⟨1, rfl, -1, rfl, rfl, rfl⟩) ?_
  rintro vs s4 ⟨l4, H4, I4, ps, rfl, rfl⟩
  cases pl
  cases pu
  cases ps with
  | int _ u =>
    have I5 : Inv X pins σ H4 { s4 with heap := s4.heap.push { cls := .type "slice", data := .fields #[.none, .none, .int (-1) u] } } := I4.kept (t' := s4.toks) fun b ob z => Heap.get?_push_of_some _ z
    obtain ⟨its, r, ht, hz⟩ := I5.tuple hx
    have hl := r.length
    have hz' : its.toArray.size ≤ sizeLine := by rw [List.size_toArray, ← hl]; exact hz
    refine tail_any (ops := [.ref a, .ref s4.heap.objs.size]) ht.typeIs (PyProof.Rows.slot_tuple_getitem.lookup) (get_back ht (Heap.IsSliceOf.new _ _ _ _) ?_ hz') (by with_unfolding_all rfl)
    refine ⟨.ref _, _, I5.laid (t' := s4.toks) (o := .tup xs.reverse) (fun b ob z => Heap.get?_push_of_some _ z) (Nat.le_refl _) ?_, rfl, q _ (I5.hok.fresh (Nat.le_refl _))⟩
    first
      | exact ⟨by rw [List.length_reverse]; exact hz, _, r.reverse, Heap.get?_push_size _ rfl⟩
      | exact ⟨by rw [List.length_reverse]; exact hz, _, _, r.reverse, Heap.get?_push_size _ rfl⟩
      | exact ⟨by rw [List.length_reverse]; exact hz, _, r.reverse, _, Heap.get?_push_size _ rfl, rfl, 0, by simp⟩
theorem pe_revTK (K : PySem.W.Frag) (hK : X.K = K) {e : Expr} {te : TE} {k : Nat} {p1 p2 p3 pos : Pos} (he : PE X e te) : PE X (.Subscript e (.Slice none none (some (.UnaryOp .USub (.Constant (.int 1) k p1) p2)) p3) pos) (tRevT K te) := by
  subst hK
  exact pe_revT he
theorem pe_revLK (K : PySem.W.Frag) (hK : X.K = K) {e : Expr} {te : TE} {k : Nat} {p1 p2 p3 pos : Pos} (he : PE X e te) : PE X (.Subscript e (.Slice none none (some (.UnaryOp .USub (.Constant (.int 1) k p1) p2)) p3) pos) (tRevL K te) := by
  subst hK
  exact pe_revL he
end
end B

/-! Tuples made: such as may be keys are told as tuples; the others with their object, which has no dict. -/
namespace B
open PySem PySem.Spec PyProof.Rows L2
def keyV1 : V → Bool
  | .int _ => true
  | .str _ => true
  | _ => false
/-- one to three ints and texts -/
def keyV (xs : List V) : Bool := !xs.isEmpty && decide (xs.length < 4) && xs.all keyV1
def tpO (o : Obj) (xs : List V) : HO := if keyV xs = true then .tup xs else .frz o (.tup xs)
/-- a tuple as it is made, or one of the written part -/
def Tp (K : PySem.W.Frag) (H : Hp) (a : Addr) (xs : List V) : Prop :=
  (keyV xs = true ∧ H a = some (.tup xs)) ∨ (keyV xs = false ∧ ((∃ o, o.dict = none ∧ H a = some (.frz o (.tup xs))) ∨
    ∃ (o : Obj) (its : Array Value) (n : Nat), K.lookup a = some o ∧ o.cls = .type "tuple" ∧ o.dict = none ∧ o.data = .seq its n ∧ its.size ≤ sizeLine ∧ Vals xs its.toList))
theorem Tp.made {K : PySem.W.Frag} {H : Hp} {p : Addr} {o : Obj} {xs : List V} (h : o.dict = none) : Tp K (upd H p (tpO o xs)) p xs := by
  unfold tpO
  by_cases k : keyV xs = true
  · rw [if_pos k]
    exact .inl ⟨k, upd_same⟩
  · rw [if_neg k]
    exact .inr ⟨by simpa using k, .inl ⟨o, h, upd_same⟩⟩
theorem Tp.sq {K : PySem.W.Frag} {H : Hp} {a : Addr} {xs : List V} (h : Tp K H a xs) : SqT K H a xs := by
  rcases h with ⟨_, h⟩ | ⟨_, ⟨o, _, h⟩ | ⟨o, its, n, h1, h2, _, h3, h4, h5⟩⟩
  · exact sqT_of h
  · exact .inl (.inr ⟨o, h⟩)
  · exact .inr ⟨o, its, n, h1, h2, h3, h4, h5⟩
theorem Fr.tp {K : PySem.W.Frag} {P : List Addr} {H H' : Hp} {a : Addr} {xs : List V} (f : Fr P H H') (h : Tp K H a xs) : Tp K H' a xs := by
  rcases h with ⟨k, h⟩ | ⟨k, ⟨o, d, h⟩ | h⟩
  · exact .inl ⟨k, f.keep _ _ h (.inr fun z => z)⟩
  · exact .inr ⟨k, .inl ⟨o, d, f.keep _ _ h (.inr fun z => z)⟩⟩
  · exact .inr ⟨k, .inr h⟩
theorem Tp.key {K : PySem.W.Frag} {H : Hp} {a : Addr} {xs : List V} (h : Tp K H a xs) (k : keyV xs = true) : H a = some (.tup xs) := by
  rcases h with ⟨_, h⟩ | ⟨e, _⟩
  · exact h
  · rw [k] at e
    cases e
section
variable {X : Cx} {pins : List (Addr × Obj)} {σ : L2.St} {H : Hp} {s : Shared}
theorem tup_ok {h : Heap} {P : Program} {w : World} {p : Addr} {xs : List V} {us : List Value} (z : xs.length ≤ sizeLine) (r : Vals xs us) (e : h.get? p = some { cls := .type "tuple", data := .seq us.toArray }) :
    ObjOk P w (upd H p (tpO { cls := .type "tuple", data := .seq us.toArray } xs)) h p (tpO { cls := .type "tuple", data := .seq us.toArray } xs) := by
  have t : ∀ H', ObjOk P w H' h p (.tup xs) := fun H' => ⟨z, us, r, ⟨_, e, rfl, _, rfl⟩⟩
  unfold tpO
  split
  · exact t _
  · exact ⟨e, t _⟩
/-- a tuple's display -/
def tTupZ (t : TA) : TE := fun σ H Q => t σ H fun xs H1 => xs.length ≤ sizeLine ∧ ∀ p o, H1 p = none → o.dict = none → Q (.ref p) (upd H1 p (tpO o xs))
theorem pe_tupZ {es : List Expr} {t : TA} {x1 : Nat} {pos : Pos} (h : PA X es t) : PE X (.Tuple es x1 pos) (tTupZ t) := by
  constructor
  intro pins s σ H Q I hq
  refine wpAny_Tuple_spliced (thn (h.run pos pins s σ H _ I hq) ?_)
  rintro us s1 ⟨xs, H1, I1, r, z, q⟩
  refine ⟨by rw [← r.length]; exact z, ?_⟩
  have free := I1.hok.fresh (Nat.le_refl s1.heap.objs.size)
  have get : (s1.heap.push { cls := .type "tuple", data := .seq us.toArray }).get? s1.heap.objs.size = some { cls := .type "tuple", data := .seq us.toArray } := Heap.get?_push_size _ rfl
  exact ⟨.ref s1.heap.objs.size, _, I1.laid (t' := s1.toks) (fun b u e => Heap.get?_push_of_some _ e) (Nat.le_refl _) (tup_ok z r get), rfl, q _ { cls := .type "tuple", data := .seq us.toArray } free rfl⟩
/-- tuple(xs), xs a list or a tuple -/
def rTupZ (K : PySem.W.Frag) : List V → Hp → VK → Prop := fun xs H Q => ∃ p ys, xs = [.ref p] ∧ ((SqL K H p ys ∧ ∀ l o, H l = none → o.dict = none → Q (.ref l) (upd H l (tpO o ys))) ∨ (SqT K H p ys ∧ Q (.ref p) H))
theorem call_tupleZ : CallR X (.type "tuple") (rTupZ X.K) := by
  intro pins s σ H xs us Q I r h
  obtain ⟨p, ys, rfl, h⟩ := h
  obtain ⟨u, rfl, rx⟩ := vals1 r
  cases rx
  rcases h with ⟨hq, q⟩ | ⟨hq, q⟩
  · obtain ⟨its, r2, pl, hz⟩ := I.list hq
    have hlen := r2.length
    refine call_tuple_list pl.isList ?_ (by simp only [List.size_toArray] <;> omega)
    intro h2 kp
    have I1 : Inv X pins σ H { s with heap := h2 } := I.kept (t' := s.toks) kp
    have get : (h2.push { cls := .type "tuple", data := .seq its.toArray }).get? h2.objs.size = some { cls := .type "tuple", data := .seq its.toArray } := Heap.get?_push_size _ rfl
    have I2 := I1.laid (t' := s.toks) (h' := h2.push { cls := .type "tuple", data := .seq its.toArray }) (a := h2.objs.size) (fun b o e => Heap.get?_push_of_some _ e) (Nat.le_refl _) (tup_ok (P := X.prog) (w := X.w) (H := H) hz r2 get)
    exact ⟨.ref h2.objs.size, _, I2, rfl, q _ { cls := .type "tuple", data := .seq its.toArray } (I1.hok.fresh (Nat.le_refl _)) rfl⟩
  · obtain ⟨its, r2, pl, hz⟩ := I.tuple hq
    exact call_tuple_same pl ⟨.ref p, H, I, rfl, q⟩
theorem call_tupleZK (K : PySem.W.Frag) (h : X.K = K) : CallR X (.type "tuple") (rTupZ K) := by subst h; exact call_tupleZ
/-- t + u -/
def rCatZ (K : PySem.W.Frag) : R2 := fun x y H Q => ∃ a b xs ys, x = .ref a ∧ y = .ref b ∧ SqT K H a xs ∧ SqT K H b ys ∧ xs.length + ys.length ≤ sizeLine ∧
  (xs = [] → Q (.ref b) H) ∧ (xs ≠ [] → ys = [] → Q (.ref a) H) ∧ (xs ≠ [] → ys ≠ [] → ∀ p o, H p = none → o.dict = none → Q (.ref p) (upd H p (tpO o (xs ++ ys))))
theorem op_catZ : OpR X (binaryOp .Add) (rCatZ X.K) := by
  intro pins s σ H x y v u Q I rx ry h
  obtain ⟨a, b, xs, ys, rfl, rfl, ha, hb, hz, q0, q1, q2⟩ := h
  cases rx
  cases ry
  obtain ⟨its, r1, p1, _⟩ := I.tuple ha
  obtain ⟨its2, r2, p2, _⟩ := I.tuple hb
  by_cases hx : xs = []
  · subst hx
    cases r1
    exact cat_tup0 p1 p2 ⟨.ref b, H, I, rfl, q0 rfl⟩
  · refine HT.cat_tup p1 p2 (fun z => hx (r1.nil_iff.mp z)) (fun z => ⟨.ref a, H, I, rfl, q1 hx (r2.nil_iff.mp z)⟩) ?_ (by rw [← r1.length, ← r2.length]; exact hz)
    intro z
    have get : (s.heap.push { cls := .type "tuple", data := .seq (its ++ its2).toArray }).get? s.heap.objs.size = some { cls := .type "tuple", data := .seq (its ++ its2).toArray } := Heap.get?_push_size _ rfl
    have I2 := I.laid (t' := s.toks) (h' := s.heap.push { cls := .type "tuple", data := .seq (its ++ its2).toArray }) (a := s.heap.objs.size) (fun b ob q => Heap.get?_push_of_some _ q) (Nat.le_refl _)
      (tup_ok (P := X.prog) (w := X.w) (H := H) (xs := xs ++ ys) (by rw [List.length_append]; exact hz) (r1.append r2) get)
    exact ⟨.ref s.heap.objs.size, _, I2, rfl, q2 hx (fun w => z (r2.nil_iff.mpr w)) _ { cls := .type "tuple", data := .seq (its ++ its2).toArray } (I.hok.fresh (Nat.le_refl _)) rfl⟩
theorem op_catZK (K : PySem.W.Frag) (h : X.K = K) : OpR X (binaryOp .Add) (rCatZ K) := by subst h; exact op_catZ
/-- t[lo:hi] -/
def rSlZ (K : PySem.W.Frag) : V → Option Int → Option Int → Hp → VK → Prop := fun x lo hi H Q => ∃ a xs, x = .ref a ∧ SqT K H a xs ∧
  (HT.sIx xs.length 0 lo = 0 ∧ HT.sIx xs.length xs.length hi = xs.length → Q (.ref a) H) ∧ (¬ (HT.sIx xs.length 0 lo = 0 ∧ HT.sIx xs.length xs.length hi = xs.length) → ∀ p o, H p = none → o.dict = none → Q (.ref p) (upd H p (tpO o (cutV xs lo hi))))
theorem sl_tupZ : SlR X (rSlZ X.K) := by
  intro pins s σ H x v vl vu lo hi sl Q I rx hs pl pu h
  obtain ⟨a, xs, rfl, hx, q1, q2⟩ := h
  cases rx
  obtain ⟨its, r, ht, hz⟩ := I.tuple hx
  have hlen : its.toArray.size = xs.length := by rw [List.size_toArray]; exact r.length.symm
  by_cases hw : HT.sIx xs.length 0 lo = 0 ∧ HT.sIx xs.length xs.length hi = xs.length
  · refine ⟨"tuple", _, PyProof.Rows.slot_tuple_getitem.lookup, ht.typeIs, ?_⟩
    exact getItem_tuple_whole ht hs pl pu (by rw [hlen]; exact hw) ⟨.ref a, H, I, rfl, q1 hw⟩
  · refine ⟨"tuple", _, PyProof.Rows.slot_tuple_getitem.lookup, ht.typeIs, ?_⟩
    refine HT.getItem_tuple_cut ht hs pl pu (by rw [hlen]; exact hw) ?_ (by rw [hlen]; exact hz)
    rw [hlen]
    have rr := (r.drop (HT.sIx xs.length 0 lo)).take (HT.sIx xs.length xs.length hi - HT.sIx xs.length 0 lo)
    refine ⟨.ref s.heap.objs.size, _, I.laid (t' := s.toks) (fun b ob q => Heap.get?_push_of_some _ q) (Nat.le_refl _) (tup_ok (P := X.prog) (w := X.w) (H := H) (xs := cutV xs lo hi) (Nat.le_trans (cutV_length xs lo hi) hz) rr (Heap.get?_push_size _ rfl)), rfl, q2 hw _ _ (I.hok.fresh (Nat.le_refl _)) rfl⟩
theorem sl_tupZK (K : PySem.W.Frag) (h : X.K = K) : SlR X (rSlZ K) := by subst h; exact sl_tupZ
end
end B

set_option maxHeartbeats 4000000
/-! set(xs), xs a list or a tuple of texts (printed by setstr.py) -/
namespace B
open PySem PySem.Spec PyProof.Rows L2
/-- how many unlike ones among the first i -/
def unl (xs : List Str) : Nat → Nat
  | 0 => 0
  | i + 1 => if (xs.take i).any (· == xs.getD i Str.empty) then unl xs i else unl xs i + 1
theorem unl_le (xs : List Str) : ∀ i, unl xs i ≤ i
  | 0 => Nat.le_refl _
  | i + 1 => by
    have := unl_le xs i
    unfold unl
    split <;> omega
section
variable {prog : Program} {w : World} {A : Around} {R : Result → Shared → Prop} {I : Addr} {fp wr : List Addr} {G : Array GenState → Array GenState → Prop} {n : Nat} {Pv : Nat → Value → Prop} {St : Nat → Shared → Prop}
theorem loop_texts (W : WalksS prog w A.in1 I fp wr G n Pv St) (Z : Addr) (off : Z ∉ fp) (xs : List Str) (len : xs.length = n) (small : n + 1 < scanBound) (val : ∀ i v, Pv i v → ∃ t, v = .str (xs.getD i Str.empty) t) :
    ∀ (m i : Nat) (s : Shared), i + m = n → St i s → s.heap.SetOf (PySem.strKind prog w) Z (fun x => (xs.take i).any (· == x)) (unl xs i) →
      (∀ s1, Moved (Z :: wr) G s s1 → s1.heap.SetOf (PySem.strKind prog w) Z (fun x => (xs.take n).any (· == x)) (unl xs n) → R (.ok (.ret .none)) s1) →
      codeAny (model prog w) A (.builtin "set.update.loop" ⟨[.ref Z, .ref I], []⟩) R s := by
  have offw : Z ∉ wr := fun z => off (W.sub _ z)
  intro m
  induction m with
  | zero =>
    intro i s hi st hZ hR
    obtain rfl : i = n := hi
    apply codeAny_builtin PyProof.Rows.F.entry_set_update_loop
    rw [Around.under_plainId PyProof.Rows.F.plain_set_update_loop _]
    show wpAny _ A.in1 (pyNext (.ref I) >>= _) _ _ s
    apply wpAny_bind
    refine W.done s _ _ st fun s1 mv => ?_
    show wpAny _ A.in1 (ret Value.none) _ _ s1
    apply wpAny_pure
    obtain ⟨o, es, ep, t, ho, more⟩ := hZ
    exact hR s1 (mv.mono fun b hb => List.mem_cons_of_mem _ hb) ⟨o, es, ep, t, mv.heap Z _ offw ho, more⟩
  | succ m ih =>
    intro i s hi st hZ hR
    have lt : i < n := by omega
    apply codeAny_builtin PyProof.Rows.F.entry_set_update_loop
    rw [Around.under_plainId PyProof.Rows.F.plain_set_update_loop _]
    show wpAny _ A.in1 (pyNext (.ref I) >>= _) _ _ s
    apply wpAny_bind
    refine W.item i s _ _ lt st fun v s1 hv st1 mv => ?_
    obtain ⟨t, rfl⟩ := val i v hv
    have hZ1 : s1.heap.SetOf (PySem.strKind prog w) Z (fun x => (xs.take i).any (· == x)) (unl xs i) :=
      let ⟨o, es, ep, tb, ho, more⟩ := hZ
      ⟨o, es, ep, tb, mv.heap Z _ offw ho, more⟩
    show wpAny _ A.in1 (holding [Value.str (xs.getD i Str.empty) t] (setAdd Z (.str (xs.getD i Str.empty) t)) >>= _) _ _ s1
    apply wpAny_bind
    apply wpAny_holding
    unfold setAdd
    apply wpAny_holding
    refine wpAny_bind ((PySem.strKind prog w).pyHash (k := xs.getD i Str.empty) (strKind_is _ _ _ _) ?_)
    have := unl_le xs i
    refine wpAny_setAddHashed_of (knd := PySem.strKind prog w) (s := { s1 with toks := s1.toks + 1 }) (strKind_is _ _ _ _) rfl hZ1 (by omega) fun h2 sb hZ2 => ?_
    have ex : xs[i]? = some (xs.getD i Str.empty) := by
      rw [List.getD_eq_getElem?_getD, List.getElem?_eq_getElem (by omega)]
      rfl
    have hZ3 : h2.SetOf (PySem.strKind prog w) Z (fun x => (xs.take (i + 1)).any (· == x)) (unl xs (i + 1)) := by
      refine SetOf_congr hZ2 (fun x => ?_) rfl
      rw [List.take_add_one, ex, Option.toList_some, List.any_append]
      congr 1
      generalize xs.getD i Str.empty = y
      by_cases e : x = y
      · simp [e]
      · have e2 : (y == x) = false := by
          rw [beq_eq_false_iff_ne]
          exact fun z => e z.symm
        simp [e, e2]
    refine wpAny_pure ⟨plainId_quiet PyProof.Rows.F.plain_set_update_loop _, ih (i + 1) _ (by omega) (W.frame _ s1 _ _ st1 (Nat.le_succ _) fun b hb o e => ?_) hZ3 fun s2 mv2 hZ4 => ?_⟩
    · rw [sb.2 b fun z => off (z ▸ hb)]
      exact e
    · refine hR s2 (Moved.trans W.gtrans ((mv.mono fun b hb => List.mem_cons_of_mem _ hb).then_heap (Nat.le_succ _) fun b o hb e => ?_) mv2) hZ4
      rw [sb.2 b fun z => hb (by rw [z]; exact List.mem_cons_self ..)]
      exact e
end
section
variable {prog : Program} {w : World} {A : Around} {E : Value → Shared → Prop} {s : Shared}
abbrev bareSet (led : Bool) : Obj := { cls := .type "set", dict := none, data := .set #[] 0 (.fresh 0 0 led) }
theorem set_of_list {l : Addr} {its : Array Value} {xs : List Str} {Q : Value → Shared → Prop} (calm : A.handled = none) (at_ : s.heap.IsList l its) (hi : PyProof.Rows.StrsAre its.toList xs) (small : its.size + 1 < scanBound)
    (k : ∀ (h1 : Heap) (tk : Nat), h1.SetOf (PySem.strKind prog w) s.heap.objs.size (fun x => (xs.take its.size).any (· == x)) (unl xs its.size) → (∀ b o, b < s.heap.objs.size → s.heap.get? b = some o → h1.get? b = some o) → Q (.ref s.heap.objs.size) { s with heap := h1, toks := tk }) :
    wpAny (model prog w) A (call (.type "set") [.ref l]) Q E s := by
  obtain ⟨c0, tl0, mro0⟩ := PySem.F.called_set.mro
  have f1 := PySem.F.called_set.made
  have f2 := PySem.F.called_set.sub
  apply wpAny_call
  apply codeAny_of_tree
  show wpAny _ _ (callAny (.type "set") _) _ _ _
  refine wpAny_pure ⟨Code.quiet_builtin _ (by decide +kernel), ?_⟩
  apply codeAny_builtin PySem.F.entry_type_call
  rw [Around.under_plain (weight_type_call_type "set" [.ref l] []) rfl]
  have f3 := PySem.F.called_set.notType
  have f4 := PySem.F.called_set.canCreate
  have f5 := PySem.F.typeCall_set_1 (.ref l)
  repeat any_goals first | assumption | wp_step
  refine codeAny_mono (code_set_new_1 (.ref l) (E := E) (Q₁ := fun v t => ∃ led : Bool, v = .ref s.heap.objs.size ∧ t = { s with heap := s.heap.push (bareSet led) }) fun led => ⟨led, rfl, rfl⟩) fun r t hr => ?_
  match r, hr with
  | .error e, hr => exact hr
  | .ok .next, hr => exact hr.elim
  | .ok .brk, hr => exact hr.elim
  | .ok .cont, hr => exact hr.elim
  | .ok (.ret v), hr =>
    obtain ⟨led, rfl, rfl⟩ := hr
    have zAt : (s.heap.push (bareSet led)).get? s.heap.objs.size = some (bareSet led) := Heap.get?_push_size _ rfl
    have zTy : Shared.TypeIs { s with heap := s.heap.push (bareSet led) } (.ref s.heap.objs.size) "set" := ⟨_, zAt, rfl⟩
    have g1 := PySem.F.called_set.init.lookup
    have g2 := PySem.F.called_set.init.bind (.ref s.heap.objs.size)
    repeat any_goals first | assumption | wp_step
    refine codeAny_mono (codeAny_call_builtin (R := wants (fun r t => r = .none ∧ ∃ h1 tk, t = { s with heap := h1, toks := tk } ∧ h1.SetOf (PySem.strKind prog w) s.heap.objs.size (fun x => (xs.take its.size).any (· == x)) (unl xs its.size) ∧
        (∀ b o, b < s.heap.objs.size → s.heap.get? b = some o → h1.get? b = some o)) E) PySem.F.called_set.init.plain PySem.F.entry_set_init (check_set_init_1 zTy ?_)) fun r2 t2 hr2 => ?_
    · obtain ⟨⟨oc, od, odt, osl⟩, lAt, lc, ln, ld⟩ := at_
      simp only at lc ld
      subst lc ld
      have lAt2 : (s.heap.push (bareSet led)).get? l = some { cls := .type "list", dict := od, data := .seq its ln, slots := osl } := Heap.get?_push_of_some _ lAt
      have u1 := PySem.F.sub_list_set
      have u2 := PySem.F.sub_list_frozenset
      have u3 : (Value.type "list" == Value.type "dict") = false := by decide
      have lIs : (s.heap.push (bareSet led)).IsList l its := ⟨_, lAt2, rfl, ln, rfl⟩
      unfold Builtin.«set.__init__» noKeywords Builtin.Frozenset.updateFrom
      generalize ePI : pyIter = PI
      wp_walk
      subst ePI
      apply wpAny_pyIter_list lIs
      apply wpAny_bind
      apply wpAny_runValue
      have lLt : l < s.heap.objs.size := Heap.lt_size lAt
      have calm3 : A.in1.in1.in1.handled = none := by simp [calm]
      have neI : l ≠ (s.heap.push (bareSet led)).objs.size := by
        rw [Heap.size_push]
        exact Nat.ne_of_lt (Nat.lt_succ_of_lt lLt)
      have zOff : s.heap.objs.size ∉ [(s.heap.push (bareSet led)).objs.size, l] := by
        rw [Heap.size_push]
        simp only [List.mem_cons, List.not_mem_nil, or_false]
        exact fun z => z.elim (Nat.ne_of_lt (Nat.lt_succ_self _)) (Nat.ne_of_gt lLt)
      have hl : xs.length = its.size := by rw [← StrsAre.len_eq hi, Array.length_toList]
      refine loop_texts ((Walks.list calm3 _ l neI its).toS) s.heap.objs.size zOff xs hl small (fun i v hv => SS.strs_at hi i v (by rw [Array.getElem?_toList]; exact hv)) its.size 0 _ (Nat.zero_add _) ⟨⟨_, Heap.get?_push_size _ rfl, rfl, rfl⟩, lIs.push _⟩ ?_ ?_
      · exact PyProof.Rows.SetOf_congr ((PyProof.Rows.setObjOf_fresh (knd := PySem.strKind prog w) led).setOf (Heap.get?_push_of_some _ zAt) (by unfold scanBound; omega)) (fun _ => rfl) rfl
      · rintro ⟨h1, g', d', tk, os'⟩ mv hZ
        cases (show g' = s.gens from mv.gens)
        cases (show d' = s.drawn from mv.drawn)
        cases (show os' = s.os from mv.os)
        show wpAny _ _ _ _ _ _
        apply wpAny_pure
        show wpAny _ _ (ret Value.none) _ _ _
        refine wpAny_pure ⟨rfl, h1, tk, rfl, hZ, fun b o hb e => mv.heap b o ?_ (Heap.get?_push_of_some _ (Heap.get?_push_of_some _ e))⟩
        rw [Heap.size_push]
        simp only [List.mem_cons, List.not_mem_nil, or_false]
        exact fun z => z.elim (Nat.ne_of_lt hb) (Nat.ne_of_lt (Nat.lt_succ_of_lt hb))
    · match r2, hr2 with
      | .error e, hr2 => exact hr2
      | .ok .next, hr2 => exact hr2.elim
      | .ok .brk, hr2 => exact hr2.elim
      | .ok .cont, hr2 => exact hr2.elim
      | .ok (.ret v2), hr2 =>
        obtain ⟨rfl, h1, tk, rfl, hZ, keep⟩ := hr2
        repeat any_goals first | assumption | wp_step
        exact k _ _ hZ keep
theorem set_of_tuple {l : Addr} {its : Array Value} {xs : List Str} {Q : Value → Shared → Prop} (calm : A.handled = none) (at_ : s.heap.IsTuple l its) (hi : PyProof.Rows.StrsAre its.toList xs) (small : its.size + 1 < scanBound)
    (k : ∀ (h1 : Heap) (tk : Nat), h1.SetOf (PySem.strKind prog w) s.heap.objs.size (fun x => (xs.take its.size).any (· == x)) (unl xs its.size) → (∀ b o, b < s.heap.objs.size → s.heap.get? b = some o → h1.get? b = some o) → Q (.ref s.heap.objs.size) { s with heap := h1, toks := tk }) :
    wpAny (model prog w) A (call (.type "set") [.ref l]) Q E s := by
  obtain ⟨c0, tl0, mro0⟩ := PySem.F.called_set.mro
  have f1 := PySem.F.called_set.made
  have f2 := PySem.F.called_set.sub
  apply wpAny_call
  apply codeAny_of_tree
  show wpAny _ _ (callAny (.type "set") _) _ _ _
  refine wpAny_pure ⟨Code.quiet_builtin _ (by decide +kernel), ?_⟩
  apply codeAny_builtin PySem.F.entry_type_call
  rw [Around.under_plain (weight_type_call_type "set" [.ref l] []) rfl]
  have f3 := PySem.F.called_set.notType
  have f4 := PySem.F.called_set.canCreate
  have f5 := PySem.F.typeCall_set_1 (.ref l)
  repeat any_goals first | assumption | wp_step
  refine codeAny_mono (code_set_new_1 (.ref l) (E := E) (Q₁ := fun v t => ∃ led : Bool, v = .ref s.heap.objs.size ∧ t = { s with heap := s.heap.push (bareSet led) }) fun led => ⟨led, rfl, rfl⟩) fun r t hr => ?_
  match r, hr with
  | .error e, hr => exact hr
  | .ok .next, hr => exact hr.elim
  | .ok .brk, hr => exact hr.elim
  | .ok .cont, hr => exact hr.elim
  | .ok (.ret v), hr =>
    obtain ⟨led, rfl, rfl⟩ := hr
    have zAt : (s.heap.push (bareSet led)).get? s.heap.objs.size = some (bareSet led) := Heap.get?_push_size _ rfl
    have zTy : Shared.TypeIs { s with heap := s.heap.push (bareSet led) } (.ref s.heap.objs.size) "set" := ⟨_, zAt, rfl⟩
    have g1 := PySem.F.called_set.init.lookup
    have g2 := PySem.F.called_set.init.bind (.ref s.heap.objs.size)
    repeat any_goals first | assumption | wp_step
    refine codeAny_mono (codeAny_call_builtin (R := wants (fun r t => r = .none ∧ ∃ h1 tk, t = { s with heap := h1, toks := tk } ∧ h1.SetOf (PySem.strKind prog w) s.heap.objs.size (fun x => (xs.take its.size).any (· == x)) (unl xs its.size) ∧
        (∀ b o, b < s.heap.objs.size → s.heap.get? b = some o → h1.get? b = some o)) E) PySem.F.called_set.init.plain PySem.F.entry_set_init (check_set_init_1 zTy ?_)) fun r2 t2 hr2 => ?_
    · obtain ⟨⟨oc, od, odt, osl⟩, lAt, lc, ln, ld⟩ := at_
      simp only at lc ld
      subst lc ld
      have lAt2 : (s.heap.push (bareSet led)).get? l = some { cls := .type "tuple", dict := od, data := .seq its ln, slots := osl } := Heap.get?_push_of_some _ lAt
      have u1 := PySem.F.sub_tuple_set
      have u2 := PySem.F.sub_tuple_frozenset
      have u3 : (Value.type "tuple" == Value.type "dict") = false := by decide
      have lIs : (s.heap.push (bareSet led)).IsTuple l its := ⟨_, lAt2, rfl, ln, rfl⟩
      unfold Builtin.«set.__init__» noKeywords Builtin.Frozenset.updateFrom
      generalize ePI : pyIter = PI
      wp_walk
      subst ePI
      apply wpAny_pyIter_tuple lIs
      apply wpAny_bind
      apply wpAny_runValue
      have lLt : l < s.heap.objs.size := Heap.lt_size lAt
      have calm3 : A.in1.in1.in1.handled = none := by simp [calm]
      have neI : l ≠ (s.heap.push (bareSet led)).objs.size := by
        rw [Heap.size_push]
        exact Nat.ne_of_lt (Nat.lt_succ_of_lt lLt)
      have zOff : s.heap.objs.size ∉ [(s.heap.push (bareSet led)).objs.size, l] := by
        rw [Heap.size_push]
        simp only [List.mem_cons, List.not_mem_nil, or_false]
        exact fun z => z.elim (Nat.ne_of_lt (Nat.lt_succ_self _)) (Nat.ne_of_gt lLt)
      have hl : xs.length = its.size := by rw [← StrsAre.len_eq hi, Array.length_toList]
      refine loop_texts ((Walks.tuple calm3 _ l neI its).toS) s.heap.objs.size zOff xs hl small (fun i v hv => SS.strs_at hi i v (by rw [Array.getElem?_toList]; exact hv)) its.size 0 _ (Nat.zero_add _) ⟨⟨_, Heap.get?_push_size _ rfl, rfl, rfl⟩, lIs.push _⟩ ?_ ?_
      · exact PyProof.Rows.SetOf_congr ((PyProof.Rows.setObjOf_fresh (knd := PySem.strKind prog w) led).setOf (Heap.get?_push_of_some _ zAt) (by unfold scanBound; omega)) (fun _ => rfl) rfl
      · rintro ⟨h1, g', d', tk, os'⟩ mv hZ
        cases (show g' = s.gens from mv.gens)
        cases (show d' = s.drawn from mv.drawn)
        cases (show os' = s.os from mv.os)
        show wpAny _ _ _ _ _ _
        apply wpAny_pure
        show wpAny _ _ (ret Value.none) _ _ _
        refine wpAny_pure ⟨rfl, h1, tk, rfl, hZ, fun b o hb e => mv.heap b o ?_ (Heap.get?_push_of_some _ (Heap.get?_push_of_some _ e))⟩
        rw [Heap.size_push]
        simp only [List.mem_cons, List.not_mem_nil, or_false]
        exact fun z => z.elim (Nat.ne_of_lt hb) (Nat.ne_of_lt (Nat.lt_succ_of_lt hb))
    · match r2, hr2 with
      | .error e, hr2 => exact hr2
      | .ok .next, hr2 => exact hr2.elim
      | .ok .brk, hr2 => exact hr2.elim
      | .ok .cont, hr2 => exact hr2.elim
      | .ok (.ret v2), hr2 =>
        obtain ⟨rfl, h1, tk, rfl, hZ, keep⟩ := hr2
        repeat any_goals first | assumption | wp_step
        exact k _ _ hZ keep
end
end B


/-! The data layer with objects: readings simulated by transformers over data and known objects. -/
namespace B
open PySem PySem.Spec PyProof.Rows L2
/-! ### data, lists too, at addresses outside L -/
mutual
def Dv (K : PySem.W.Frag) (L : List Addr) (H : Hp) : PyData → V → Prop
  | .none, v => v = .non
  | .bool b, v => v = .bl b
  | .int i, v => v = .int i
  | .str s, v => v = .str s
  | .tuple ds, v => ∃ a xs, v = .ref a ∧ Tp K H a xs ∧ Dvs K L H ds xs
  | .list ds, v => ∃ a xs, v = .ref a ∧ a ∉ L ∧ H a = some (.lst xs) ∧ Dvs K L H ds xs
  | .dict es, v => es = [] ∧ ∃ a, v = .ref a ∧ a ∉ L ∧ H a = some (.dK [])
def Dvs (K : PySem.W.Frag) (L : List Addr) (H : Hp) : List PyData → List V → Prop
  | [], xs => xs = []
  | d :: ds, xs => ∃ x r, xs = x :: r ∧ Dv K L H d x ∧ Dvs K L H ds r
end
section
variable {K : PySem.W.Frag} {L L' P : List Addr} {H H' : Hp}
mutual
theorem Dv.mono (f : Fr P H H') (hP : ∀ a ∈ P, a ∈ L) : ∀ {d : PyData} {v : V}, Dv K L H d v → Dv K L H' d v
  | .none, _, h => h
  | .bool _, _, h => h
  | .int _, _, h => h
  | .str _, _, h => h
  | .tuple ds, _, ⟨a, xs, e, t, r⟩ => ⟨a, xs, e, f.tp t, Dvs.mono f hP r⟩
  | .list ds, _, ⟨a, xs, e, n, t, r⟩ => ⟨a, xs, e, n, f.ne t fun z => n (hP a z), Dvs.mono f hP r⟩
  | .dict _, _, ⟨e0, a, e, n, t⟩ => ⟨e0, a, e, n, f.ne t fun z => n (hP a z)⟩
theorem Dvs.mono (f : Fr P H H') (hP : ∀ a ∈ P, a ∈ L) : ∀ {ds : List PyData} {xs : List V}, Dvs K L H ds xs → Dvs K L H' ds xs
  | [], _, h => h
  | _ :: _, _, ⟨x, r, e, h1, h2⟩ => ⟨x, r, e, Dv.mono f hP h1, Dvs.mono f hP h2⟩
end
mutual
/-- fewer addresses that may change; or more, of such as hold nothing -/
theorem Dv.sub (h : ∀ a, a ∈ L' → a ∈ L ∨ H a = none) : ∀ {d : PyData} {v : V}, Dv K L H d v → Dv K L' H d v
  | .none, _, q => q
  | .bool _, _, q => q
  | .int _, _, q => q
  | .str _, _, q => q
  | .tuple ds, _, ⟨a, xs, e, t, r⟩ => ⟨a, xs, e, t, Dvs.sub h r⟩
  | .list ds, _, ⟨a, xs, e, n, t, r⟩ => ⟨a, xs, e, fun z => (h a z).elim n (fun z => by rw [t] at z; cases z), t, Dvs.sub h r⟩
  | .dict _, _, ⟨e0, a, e, n, t⟩ => ⟨e0, a, e, fun z => (h a z).elim n (fun z => by rw [t] at z; cases z), t⟩
theorem Dvs.sub (h : ∀ a, a ∈ L' → a ∈ L ∨ H a = none) : ∀ {ds : List PyData} {xs : List V}, Dvs K L H ds xs → Dvs K L' H ds xs
  | [], _, q => q
  | _ :: _, _, ⟨x, r, e, h1, h2⟩ => ⟨x, r, e, Dv.sub h h1, Dvs.sub h h2⟩
end
mutual
/-- data without a dict -/
def noDict : PyData → Bool
  | .dict _ => false
  | .tuple ds => noDicts ds
  | .list ds => noDicts ds
  | _ => true
def noDicts : List PyData → Bool
  | [] => true
  | d :: ds => noDict d && noDicts ds
end
mutual
theorem Dv.dp : ∀ {d : PyData} {v : V}, noDict d = true → Dv K L H d v → Dp K H v d
  | .none, _, _, h => by cases h; exact .non
  | .bool _, _, _, h => by cases h; exact .bl _
  | .int _, _, _, h => by cases h; exact .int _
  | .str _, _, _, h => by cases h; exact .str _
  | .tuple ds, _, n, ⟨a, xs, e, t, r⟩ => by cases e; exact .tup t.sq (Dvs.dp n r)
  | .list ds, _, n, ⟨a, xs, e, _, t, r⟩ => by cases e; exact .lst (sqL_of t) (Dvs.dp n r)
theorem Dvs.dp : ∀ {ds : List PyData} {xs : List V}, noDicts ds = true → Dvs K L H ds xs → DpAll K H xs ds
  | [], _, _, h => by cases h; exact .nil
  | _ :: _, _, n, ⟨x, r, e, h1, h2⟩ => by
    have n' := Bool.and_eq_true_iff.mp n
    cases e; exact .cons (Dv.dp n'.1 h1) (Dvs.dp n'.2 h2)
end
theorem Dvs.len : ∀ {ds : List PyData} {xs : List V}, Dvs K L H ds xs → xs.length = ds.length
  | [], _, h => by cases h; rfl
  | _ :: _, _, ⟨x, r, e, h1, h2⟩ => by cases e; show r.length + 1 = _ + 1; rw [Dvs.len h2]
theorem Dvs.get : ∀ {ds : List PyData} {xs : List V} {i : Nat} {d : PyData}, Dvs K L H ds xs → ds[i]? = some d → ∃ x, xs[i]? = some x ∧ Dv K L H d x
  | [], _, i, x, h, g => by simp at g
  | d :: ds, _, 0, x, ⟨y, r, e, h1, h2⟩, g => by
    cases e
    simp at g
    subst g
    exact ⟨y, rfl, h1⟩
  | d :: ds, _, i + 1, x, ⟨y, r, e, h1, h2⟩, g => by
    cases e
    obtain ⟨d', e', h'⟩ := Dvs.get (i := i) h2 (by simpa using g)
    exact ⟨d', by simpa using e', h'⟩
theorem Dvs.app : ∀ {ds es : List PyData} {xs ys : List V}, Dvs K L H ds xs → Dvs K L H es ys → Dvs K L H (ds ++ es) (xs ++ ys)
  | [], _, _, _, h, h2 => by cases h; exact h2
  | _ :: _, _, _, _, ⟨x, r, e, h1, h2⟩, h3 => by cases e; exact ⟨x, r ++ _, rfl, h1, Dvs.app h2 h3⟩
theorem Dvs.drop : ∀ {n : Nat} {ds : List PyData} {xs : List V}, Dvs K L H ds xs → Dvs K L H (ds.drop n) (xs.drop n)
  | 0, _, _, h => h
  | _ + 1, [], _, h => by cases h; exact rfl
  | n + 1, _ :: _, _, ⟨x, r, e, h1, h2⟩ => by cases e; exact Dvs.drop (n := n) h2
theorem Dvs.take : ∀ {n : Nat} {ds : List PyData} {xs : List V}, Dvs K L H ds xs → Dvs K L H (ds.take n) (xs.take n)
  | 0, _, _, h => rfl
  | _ + 1, [], _, h => by cases h; exact rfl
  | _ + 1, _ :: _, _, ⟨x, r, e, h1, h2⟩ => by cases e; exact ⟨x, r.take _, rfl, h1, Dvs.take h2⟩
theorem Dvs.rev : ∀ {ds : List PyData} {xs : List V}, Dvs K L H ds xs → Dvs K L H ds.reverse xs.reverse
  | [], _, h => by cases h; exact rfl
  | d :: ds, _, ⟨x, r, e, h1, h2⟩ => by
    cases e
    rw [List.reverse_cons, List.reverse_cons]
    exact (Dvs.rev h2).app ⟨x, [], rfl, h1, rfl⟩
end

/-! ### the environment -/
/-- what a slot holds, or an expression gives: data; a pen; a list under construction; the list that slot i owns; a def; a known object -/
inductive Sv
  | dat (d : PyData)
  | pen (p : Addr)
  | own (ds : List PyData)
  | ali (i : Nat)
  | fn (a : Addr)
  | ref (a : Addr)
/-- a known object that may change -/
inductive Ob
  | lst (ss : List Sv)
  | dK (es : List (Key × PyData))
  | dT (es : List (List Key × PyData))
  | ins (C dx : Addr) (fs : List (Str × Sv))
abbrev Al := Addr → Option Ob
/-- the slots, the known objects -/
structure Dn where
  sl : List (Option Sv)
  al : Al
namespace Dn
def at_ (δ : Dn) (i : Nat) : Option Sv := δ.sl.getD i none
def put (δ : Dn) (i : Nat) (x : Option Sv) : Dn := ⟨δ.sl.set i x, δ.al⟩
def know (δ : Dn) (al : Al) : Dn := ⟨δ.sl, al⟩
end Dn
theorem at_mk (l : List (Option Sv)) (a : Al) (i : Nat) : (Dn.mk l a).at_ i = l.getD i none := rfl
theorem put_mk (l : List (Option Sv)) (a : Al) (i : Nat) (x : Option Sv) : (Dn.mk l a).put i x = ⟨l.set i x, a⟩ := rfl
theorem know_mk (l : List (Option Sv)) (a b : Al) : (Dn.mk l a).know b = ⟨l, b⟩ := rfl
theorem put_put (δ : Dn) (i : Nat) (x y : Option Sv) : (δ.put i x).put i y = δ.put i y := by
  unfold Dn.put
  rw [List.set_set]
theorem put_comm {δ : Dn} {i j : Nat} (x y : Option Sv) (h : i ≠ j) : (δ.put i x).put j y = (δ.put j y).put i x := by
  unfold Dn.put
  rw [List.set_comm _ _ h]
def oup (al : Al) (a : Addr) (o : Ob) : Al := fun b => if b = a then some o else al b
theorem oup_same {al : Al} {a : Addr} {o : Ob} : oup al a o a = some o := by unfold oup; rw [if_pos rfl]
theorem oup_ne {al : Al} {a b : Addr} {o : Ob} (h : b ≠ a) : oup al a o b = al b := by unfold oup; rw [if_neg h]
theorem oup_oup {al : Al} {a : Addr} {o u : Ob} : oup (oup al a o) a u = oup al a u := by
  funext b; unfold oup; split <;> rfl
/-- less is known -/
def Sub (al' al : Al) : Prop := ∀ a o, al' a = some o → al a = some o
theorem Sub.rfl {al : Al} : Sub al al := fun _ _ h => h
theorem Sub.trans {a b c : Al} (h : Sub a b) (g : Sub b c) : Sub a c := fun x o e => g x o (h x o e)
theorem Sub.up {a b : Al} {p : Addr} {o : Ob} (h : Sub a b) (n : a p = none) : Sub a (oup b p o) := fun x u e => by
  by_cases z : x = p
  · subst z; rw [n] at e; cases e
  · rw [oup_ne z]; exact h x u e
theorem Sub.both {a b : Al} {p : Addr} {o : Ob} (h : Sub a b) : Sub (oup a p o) (oup b p o) := fun x u e => by
  by_cases z : x = p
  · subst z; rw [oup_same] at e ⊢; exact e
  · rw [oup_ne z] at e ⊢; exact h x u e
/-- where a def runs: its pens; what it may write; what may be changed by others; the heap -/
structure Gm where
  P : List Addr
  W : List Addr
  L0 : List Addr
  H0 : Hp
/-- within an object: data, or another object, or a def -/
def SvI (K : PySem.W.Frag) (L : List Addr) (H : Hp) : Sv → V → Prop
  | .dat d, v => Dv K L H d v
  | .ref a, v => v = .ref a
  | .fn a, v => v = .ref a
  | .pen a, v => v = .ref a
  | _, _ => False
def SvIs (K : PySem.W.Frag) (L : List Addr) (H : Hp) : List Sv → List V → Prop
  | [], vs => vs = []
  | s :: ss, vs => ∃ v r, vs = v :: r ∧ SvI K L H s v ∧ SvIs K L H ss r
def DvK {κ : Type} (K : PySem.W.Frag) (L : List Addr) (H : Hp) : List (κ × PyData) → List (κ × V) → Prop
  | [], vs => vs = []
  | (k, d) :: es, vs => ∃ v r, vs = (k, v) :: r ∧ Dv K L H d v ∧ DvK K L H es r
def SvF (K : PySem.W.Frag) (L : List Addr) (H : Hp) : List (Str × Sv) → List (Str × V) → Prop
  | [], vs => vs = []
  | (f, s) :: ss, vs => ∃ v r, vs = (f, v) :: r ∧ SvI K L H s v ∧ SvF K L H ss r
def ObR (K : PySem.W.Frag) (L : List Addr) (H : Hp) (a : Addr) : Ob → Prop
  | .lst ss => ∃ xs, H a = some (.lst xs) ∧ SvIs K L H ss xs
  | .dK es => ∃ kvs, H a = some (.dK kvs) ∧ DvK K L H es kvs
  | .dT es => ∃ kvs, H a = some (.dT kvs) ∧ DvK K L H es kvs
  | .ins C dx fs => ∃ vs, H a = some (.ins C dx vs) ∧ SvF K L H fs vs
section
variable {K : PySem.W.Frag} {L L' P : List Addr} {H H' : Hp} {a : Addr}
/-- what holds of data in two heaps -/
def Same2 (K : PySem.W.Frag) (L L' : List Addr) (H H' : Hp) : Prop := ∀ d v, Dv K L H d v → Dv K L' H' d v
theorem SvI.to (m : Same2 K L L' H H') : ∀ {s : Sv} {v : V}, SvI K L H s v → SvI K L' H' s v
  | .dat d, v, h => m d v h
  | .ref _, _, h => h
  | .fn _, _, h => h
  | .pen _, _, h => h
  | .own _, _, h => h
  | .ali _, _, h => h
theorem SvIs.to (m : Same2 K L L' H H') : ∀ {ss : List Sv} {vs : List V}, SvIs K L H ss vs → SvIs K L' H' ss vs
  | [], _, h => h
  | _ :: _, _, ⟨v, r, e, h1, h2⟩ => ⟨v, r, e, SvI.to m h1, SvIs.to m h2⟩
theorem DvK.to {κ : Type} (m : Same2 K L L' H H') : ∀ {es : List (κ × PyData)} {vs : List (κ × V)}, DvK K L H es vs → DvK K L' H' es vs
  | [], _, h => h
  | _ :: _, _, ⟨v, r, e, h1, h2⟩ => ⟨v, r, e, m _ _ h1, DvK.to m h2⟩
theorem SvF.to (m : Same2 K L L' H H') : ∀ {ss : List (Str × Sv)} {vs : List (Str × V)}, SvF K L H ss vs → SvF K L' H' ss vs
  | [], _, h => h
  | _ :: _, _, ⟨v, r, e, h1, h2⟩ => ⟨v, r, e, SvI.to m h1, SvF.to m h2⟩
theorem ObR.to (m : Same2 K L L' H H') (e : H' a = H a) : ∀ {o : Ob}, ObR K L H a o → ObR K L' H' a o
  | .lst _, ⟨xs, h1, h2⟩ => ⟨xs, e.trans h1, SvIs.to m h2⟩
  | .dK _, ⟨xs, h1, h2⟩ => ⟨xs, e.trans h1, DvK.to m h2⟩
  | .dT _, ⟨xs, h1, h2⟩ => ⟨xs, e.trans h1, DvK.to m h2⟩
  | .ins _ _ _, ⟨xs, h1, h2⟩ => ⟨xs, e.trans h1, SvF.to m h2⟩
theorem ObR.some {o : Ob} (h : ObR K L H a o) : ∃ u, H a = some u ∧ Mut (some u) := by
  cases o with
  | lst _ => obtain ⟨xs, e, _⟩ := h; exact ⟨_, e, trivial⟩
  | dK _ => obtain ⟨xs, e, _⟩ := h; exact ⟨_, e, trivial⟩
  | dT _ => obtain ⟨xs, e, _⟩ := h; exact ⟨_, e, trivial⟩
  | ins _ _ _ => obtain ⟨xs, e, _⟩ := h; exact ⟨_, e, trivial⟩
theorem ObR.mono {o : Ob} (f : Fr P H H') (hP : ∀ a ∈ P, a ∈ L) (ha : a ∉ P) (h : ObR K L H a o) : ObR K L H' a o := by
  obtain ⟨u, e, _⟩ := h.some
  exact h.to (fun d v => Dv.mono f hP) ((f.ne e ha).trans e.symm)
theorem ObR.sub {o : Ob} (s : ∀ a, a ∈ L' → a ∈ L ∨ H a = none) (h : ObR K L H a o) : ObR K L' H a o := h.to (fun d v => Dv.sub s) rfl
end
def SlR (K : PySem.W.Frag) (Γ : Gm) (L : List Addr) (σ : L2.St) (H : Hp) : Sv → V → Prop
  | .dat d, v => Dv K L H d v
  | .pen p, v => v = .ref p ∧ p ∈ Γ.P
  | .own ds, v => ∃ a xs, v = .ref a ∧ a ∈ L ∧ a ∉ Γ.L0 ∧ H a = some (.lst xs) ∧ Dvs K L H ds xs
  | .ali i, v => σ[i]? = some (some v)
  | .fn a, v => v = .ref a
  | .ref a, v => v = .ref a
def isOwn : Sv → Bool
  | .own _ => true
  | _ => false
/-- δ stands for σ and known objects in the heap H, S for what is under way; what may change lies in L -/
structure Sim (K : PySem.W.Frag) (Γ : Gm) (L : List Addr) (δ : Dn) (σ : L2.St) (S : List (Sv × V)) (H : Hp) : Prop where
  fr : Fr Γ.W Γ.H0 H
  pens : ∀ p ∈ Γ.P, Pen H p
  pin : ∀ p ∈ Γ.P, p ∈ Γ.W
  win : ∀ p ∈ Γ.W, p ∈ Γ.L0
  sub : ∀ a ∈ Γ.L0, a ∈ L
  live : ∀ a ∈ L, H a ≠ none
  old : ∀ a ∈ L, a ∈ Γ.L0 ∨ Γ.H0 a = none
  len : δ.sl.length = σ.length
  slot : ∀ (i : Nat) (s : Sv), δ.sl[i]? = some (some s) → (∀ j, s ≠ .ali j) ∧ ∃ v, σ[i]? = some (some v) ∧ SlR K Γ L σ H s v
  stk : ∀ p ∈ S, SlR K Γ L σ H p.1 p.2
  nal : ∀ p ∈ S, ∀ j, p.1 ≠ .ali j
  sep : ∀ (i j : Nat) (s t : Sv) (v : V), i ≠ j → δ.sl[i]? = some (some s) → δ.sl[j]? = some (some t) → isOwn s = true → isOwn t = true → σ[i]? = some (some v) → σ[j]? ≠ some (some v)
  sepS : ∀ (i : Nat) (s : Sv) (v : V), δ.sl[i]? = some (some s) → isOwn s = true → σ[i]? = some (some v) → ∀ p ∈ S, isOwn p.1 = true → p.2 ≠ v
  sepT : S.Pairwise fun p q => isOwn p.1 = true → isOwn q.1 = true → p.2 ≠ q.2
  obj : ∀ a o, δ.al a = some o → (a ∈ L ∧ a ∉ Γ.P ∧ (a ∈ Γ.W ∨ Γ.H0 a = none)) ∧ ObR K L H a o
  sepA : ∀ (i : Nat) (s : Sv) (a : Addr), δ.sl[i]? = some (some s) → isOwn s = true → σ[i]? = some (some (.ref a)) → δ.al a = none
  sepB : ∀ p ∈ S, isOwn p.1 = true → ∀ a, p.2 = .ref a → δ.al a = none
section
variable {K : PySem.W.Frag} {Γ : Gm} {L : List Addr} {δ : Dn} {σ : L2.St} {S : List (Sv × V)} {H H' : Hp}
theorem SlR.mono {P : List Addr} (f : Fr P H H') (p0 : ∀ p ∈ P, p ∈ Γ.L0) (sub : ∀ a ∈ Γ.L0, a ∈ L) : ∀ {s : Sv} {v : V}, SlR K Γ L σ H s v → SlR K Γ L σ H' s v
  | .dat _, _, h => Dv.mono f (fun a z => sub a (p0 a z)) h
  | .pen _, _, h => h
  | .own _, _, ⟨a, xs, e, h1, h2, h3, h4⟩ => ⟨a, xs, e, h1, h2, f.ne h3 fun z => h2 (p0 a z), Dvs.mono f (fun a z => sub a (p0 a z)) h4⟩
  | .ali _, _, h => h
  | .fn _, _, h => h
  | .ref _, _, h => h
theorem Sim.pin0 (I : Sim K Γ L δ σ S H) : ∀ p ∈ Γ.P, p ∈ Γ.L0 := fun p hp => I.win p (I.pin p hp)
/-- new objects, pens drawn from -/
theorem Sim.keep (I : Sim K Γ L δ σ S H) (f : Fr Γ.P H H') (hp : ∀ p ∈ Γ.P, Pen H' p) : Sim K Γ L δ σ S H' :=
  { I with
    fr := I.fr.trans (f.mono fun l hl => .inl (I.pin l hl))
    pens := hp
    live := fun a ha e => I.live a ha (f.free _ e)
    slot := fun i s e => let ⟨n, v, e1, e2⟩ := I.slot i s e; ⟨n, v, e1, e2.mono f I.pin0 I.sub⟩
    stk := fun p hp => (I.stk p hp).mono f I.pin0 I.sub
    obj := fun a o e => let ⟨h1, h2⟩ := I.obj a o e; ⟨h1, h2.mono f (fun b hb => I.sub b (I.pin0 b hb)) h1.2.1⟩ }
/-- something is put on the stack that owns nothing -/
theorem Sim.push (I : Sim K Γ L δ σ S H) {s : Sv} {v : V} (h : SlR K Γ L σ H s v) (n : isOwn s = false) (na : ∀ j, s ≠ .ali j) : Sim K Γ L δ σ ((s, v) :: S) H :=
  { I with
    stk := fun p hp => (List.mem_cons.mp hp).elim (fun e => by rw [e]; exact h) (I.stk p)
    nal := fun p hp => (List.mem_cons.mp hp).elim (fun e => by rw [e]; exact na) (I.nal p)
    sepS := fun i t w e o ew p hp ho => (List.mem_cons.mp hp).elim (fun e2 => by rw [e2] at ho; rw [show isOwn s = true from ho] at n; cases n) fun hp => I.sepS i t w e o ew p hp ho
    sepT := List.pairwise_cons.mpr ⟨fun q _ h1 _ => (by rw [show isOwn s = true from h1] at n; cases n), I.sepT⟩
    sepB := fun p hp ho => (List.mem_cons.mp hp).elim (fun e2 => by rw [e2] at ho; rw [show isOwn s = true from ho] at n; cases n) fun hp => I.sepB p hp ho }
theorem Sim.pop {p : Sv × V} (I : Sim K Γ L δ σ (p :: S) H) : Sim K Γ L δ σ S H :=
  { I with stk := fun q hq => I.stk q (List.mem_cons_of_mem _ hq), nal := fun q hq => I.nal q (List.mem_cons_of_mem _ hq), sepS := fun i s v e o ev q hq => I.sepS i s v e o ev q (List.mem_cons_of_mem _ hq), sepT := (List.pairwise_cons.mp I.sepT).2, sepB := fun q hq => I.sepB q (List.mem_cons_of_mem _ hq) }
theorem Sim.top {s : Sv} {v : V} (I : Sim K Γ L δ σ ((s, v) :: S) H) : SlR K Γ L σ H s v := I.stk (s, v) (List.mem_cons_self ..)
theorem SlR.more {a : Addr} (ha : H a = none) : ∀ {s : Sv} {v : V}, SlR K Γ L σ H s v → SlR K Γ (a :: L) σ H s v
  | .dat _, _, h => Dv.sub (fun b hb => (List.mem_cons.mp hb).elim (fun e => .inr (e ▸ ha)) .inl) h
  | .pen _, _, h => h
  | .own _, _, ⟨b, xs, e, h1, h2, h3, h4⟩ => ⟨b, xs, e, List.mem_cons_of_mem _ h1, h2, h3, Dvs.sub (fun b hb => (List.mem_cons.mp hb).elim (fun e => .inr (e ▸ ha)) .inl) h4⟩
  | .ali _, _, h => h
  | .fn _, _, h => h
  | .ref _, _, h => h
theorem SlR.at_own {s : Sv} {v : V} (h : SlR K Γ L σ H s v) (o : isOwn s = true) : ∃ a xs, v = .ref a ∧ a ∈ L ∧ a ∉ Γ.L0 ∧ H a = some (.lst xs) := by
  cases s with
  | own ds =>
    obtain ⟨a, xs, h1, h2, h3, h4, _⟩ := h
    exact ⟨a, xs, h1, h2, h3, h4⟩
  | _ => cases o
theorem Sim.fresh (I : Sim K Γ L δ σ S H) {a : Addr} (ha : H a = none) : δ.al a = none ∧ a ∉ Γ.L0 := by
  constructor
  · cases e : δ.al a with
    | none => rfl
    | some o =>
      obtain ⟨u, e2, _⟩ := (I.obj a o e).2.some
      rw [ha] at e2
      cases e2
  · exact fun z => I.live a (I.sub a z) ha
/-- a new thing at a, which may change: it is on nobody's list yet -/
theorem Sim.room (I : Sim K Γ L δ σ S H) {a : Addr} {u : HO} (ha : H a = none) : Sim K Γ (a :: L) δ σ S (upd H a u) := by
  have f : ∀ {P : List Addr}, Fr P H (upd H a u) := .new ha
  have nL : a ∉ L := fun z => I.live a z ha
  have mo : ∀ {s : Sv} {v : V}, SlR K Γ L σ H s v → SlR K Γ (a :: L) σ (upd H a u) s v := fun h =>
    (h.more ha).mono (P := []) f (fun _ z => nomatch z) fun b hb => List.mem_cons_of_mem _ (I.sub b hb)
  exact { I with
    fr := I.fr.up ha
    pens := fun p hp => (I.pens p hp).up ha
    sub := fun b hb => List.mem_cons_of_mem _ (I.sub b hb)
    live := fun b hb => by
      by_cases e : b = a
      · rw [e, upd_same]; exact fun z => nomatch z
      · rw [upd_ne e]; exact I.live b ((List.mem_cons.mp hb).elim (fun z => absurd z e) id)
    old := fun b hb => (List.mem_cons.mp hb).elim (fun e => .inr (by rw [e]; exact I.fr.free _ ha)) (I.old b)
    slot := fun i s e => let ⟨n, v, e1, e2⟩ := I.slot i s e; ⟨n, v, e1, mo e2⟩
    stk := fun p hp => mo (I.stk p hp)
    obj := fun b o e => by
      obtain ⟨h1, h2⟩ := I.obj b o e
      refine ⟨⟨List.mem_cons_of_mem _ h1.1, h1.2⟩, ?_⟩
      exact (h2.sub fun c hc => (List.mem_cons.mp hc).elim (fun e => .inr (e ▸ ha)) .inl).mono (P := []) f (fun _ z => nomatch z) (fun z => nomatch z) }
/-- a new list of what is told, owned by the stack -/
theorem Sim.new (I : Sim K Γ L δ σ S H) {a : Addr} {ds : List PyData} {xs : List V} (ha : H a = none) (h : Dvs K L H ds xs) : Sim K Γ (a :: L) δ σ ((.own ds, .ref a) :: S) (upd H a (.lst xs)) := by
  have J := I.room (u := .lst xs) ha
  have nL : a ∉ L := fun z => I.live a z ha
  have ne : ∀ {s : Sv} {v : V}, SlR K Γ L σ H s v → isOwn s = true → v ≠ .ref a := fun h o e => by
    obtain ⟨b, ys, e1, h1, _, _⟩ := h.at_own o
    rw [e] at e1
    cases e1
    exact nL h1
  have md : Dvs K (a :: L) (upd H a (.lst xs)) ds xs :=
    (h.sub fun b hb => (List.mem_cons.mp hb).elim (fun e => .inr (e ▸ ha)) .inl).mono (P := []) (.new ha) fun _ z => nomatch z
  exact { J with
    stk := fun p hp => (List.mem_cons.mp hp).elim (fun e => by
      rw [e]
      exact ⟨a, xs, rfl, List.mem_cons_self .., fun z => nL (I.sub a z), upd_same, md⟩) fun hp => J.stk p hp
    nal := fun p hp => (List.mem_cons.mp hp).elim (fun e j => by rw [e]; exact fun z => (nomatch z)) (J.nal p)
    sepS := fun i s v e o ev p hp ho => (List.mem_cons.mp hp).elim (fun e2 => by
      obtain ⟨_, w, e1, e3⟩ := I.slot i s e
      rw [ev] at e1
      cases e1
      rw [e2]
      exact fun z => ne e3 o z.symm) fun hp => I.sepS i s v e o ev p hp ho
    sepT := List.pairwise_cons.mpr ⟨fun q hq _ h2 z => ne (I.stk q hq) h2 z.symm, I.sepT⟩
    sepB := fun p hp ho b eb => (List.mem_cons.mp hp).elim (fun e2 => by
      rw [e2] at eb
      cases eb
      exact (I.fresh ha).1) fun hp => I.sepB p hp ho b eb }
theorem SlR.less {a : Addr} : ∀ {s : Sv} {v : V}, SlR K Γ L σ H s v → (isOwn s = true → v ≠ .ref a) → SlR K Γ (L.filter fun b => decide (b ≠ a)) σ H s v
  | .dat _, _, h, _ => Dv.sub (fun b hb => .inl (List.mem_filter.mp hb).1) h
  | .pen _, _, h, _ => h
  | .own _, _, ⟨b, xs, e, h1, h2, h3, h4⟩, n => ⟨b, xs, e, List.mem_filter.mpr ⟨h1, decide_eq_true fun z => n rfl (by rw [e, z])⟩, h2, h3, Dvs.sub (fun c hc => .inl (List.mem_filter.mp hc).1) h4⟩
  | .ali _, _, h, _ => h
  | .fn _, _, h, _ => h
  | .ref _, _, h, _ => h
/-- an address that nothing owns any longer may not change any longer -/
theorem Sim.shrink (I : Sim K Γ L δ σ S H) {a : Addr} (h0 : a ∉ Γ.L0) (h1 : ∀ (i : Nat) (s : Sv) (v : V), δ.sl[i]? = some (some s) → isOwn s = true → σ[i]? = some (some v) → v ≠ .ref a) (h2 : ∀ p ∈ S, isOwn p.1 = true → p.2 ≠ .ref a) (h3 : δ.al a = none) :
    Sim K Γ (L.filter fun b => decide (b ≠ a)) δ σ S H :=
  { I with
    sub := fun b hb => List.mem_filter.mpr ⟨I.sub b hb, decide_eq_true fun z => h0 (z ▸ hb)⟩
    live := fun b hb => I.live b (List.mem_filter.mp hb).1
    old := fun b hb => I.old b (List.mem_filter.mp hb).1
    slot := fun i s e => let ⟨n, v, e1, e2⟩ := I.slot i s e; ⟨n, v, e1, e2.less fun o => h1 i s v e o e1⟩
    stk := fun p hp => (I.stk p hp).less (h2 p hp)
    obj := fun b o e => by
      obtain ⟨q1, q2⟩ := I.obj b o e
      refine ⟨⟨List.mem_filter.mpr ⟨q1.1, decide_eq_true fun z => ?_⟩, q1.2⟩, q2.sub fun c hc => .inl (List.mem_filter.mp hc).1⟩
      subst z
      rw [h3] at e
      cases e }
theorem get_set {α : Type} {l : List α} {i j : Nat} {x y : α} (h : (l.set i x)[j]? = some y) : (i = j ∧ y = x ∧ i < l.length) ∨ (i ≠ j ∧ l[j]? = some y) := by
  rw [List.getElem?_set] at h
  by_cases e : i = j
  · subst e
    rw [if_pos rfl] at h
    split at h
    · rename_i q
      exact .inl ⟨rfl, (Option.some.inj h).symm, q⟩
    · cases h
  · rw [if_neg e] at h
    exact .inr ⟨e, h⟩
/-- what slot i holds is forgotten -/
theorem Sim.forget (I : Sim K Γ L δ σ S H) (k : Nat) : Sim K Γ L (δ.put k none) σ S H :=
  { I with
    len := by
      show (δ.sl.set k none).length = _
      rw [List.length_set]; exact I.len
    slot := fun i s e => (get_set e).elim (fun h => nomatch h.2.1) fun h => I.slot i s h.2
    sep := fun i j s t v n e1 e2 => (get_set e1).elim (fun h => nomatch h.2.1) fun h1 => (get_set e2).elim (fun h => nomatch h.2.1) fun h2 => I.sep i j s t v n h1.2 h2.2
    sepS := fun i s v e => (get_set e).elim (fun h => nomatch h.2.1) fun h => I.sepS i s v h.2
    sepA := fun i s a e => (get_set e).elim (fun h => nomatch h.2.1) fun h => I.sepA i s a h.2 }
/-- what slot k holds is known -/
theorem Sim.know (I : Sim K Γ L δ σ S H) {k : Nat} {s : Sv} {v : V} (hv : σ[k]? = some (some v)) (h : SlR K Γ L σ H s v) (n : isOwn s = false) (na : ∀ j, s ≠ .ali j) : Sim K Γ L (δ.put k (some s)) σ S H := by
  have no : ∀ {t : Sv}, some t = some s → isOwn t = true → False := fun e o => by
    cases e
    rw [n] at o
    cases o
  exact { I with
    len := by
      show (δ.sl.set k (some s)).length = _
      rw [List.length_set]; exact I.len
    slot := fun i t e => (get_set e).elim (fun ⟨e1, e2, _⟩ => by cases e1; cases e2; exact ⟨na, v, hv, h⟩) fun h => I.slot i t h.2
    sep := fun i j t u w ne e1 e2 o1 o2 => (get_set e1).elim (fun h => (no h.2.1 o1).elim) fun h1 => (get_set e2).elim (fun h => (no h.2.1 o2).elim) fun h2 => I.sep i j t u w ne h1.2 h2.2 o1 o2
    sepS := fun i t w e o => (get_set e).elim (fun h => (no h.2.1 o).elim) fun h => I.sepS i t w h.2 o
    sepA := fun i t a e o => (get_set e).elim (fun h => (no h.2.1 o).elim) fun h => I.sepA i t a h.2 o }
/-- the top is stored in slot k -/
theorem Sim.store {s : Sv} {v : V} (I : Sim K Γ L δ σ ((s, v) :: S) H) (k : Nat) : Sim K Γ L (δ.put k (some s)) (σ.set k (some v)) S H := by
  have J := I.pop
  have ht := I.top
  have na := I.nal _ (List.mem_cons_self ..)
  have mo : ∀ {t : Sv} {u : V}, (∀ j, t ≠ .ali j) → SlR K Γ L σ H t u → SlR K Γ L (σ.set k (some v)) H t u := fun {t u} n h => by
    cases t with
    | ali j => exact absurd rfl (n j)
    | _ => exact h
  have at_ : ∀ {i : Nat} {t : Sv}, (δ.sl.set k (some s))[i]? = some (some t) → (k = i ∧ t = s ∧ (σ.set k (some v))[i]? = some (some v)) ∨ (k ≠ i ∧ δ.sl[i]? = some (some t) ∧ (σ.set k (some v))[i]? = σ[i]?) := fun {i t} e => by
    rcases get_set e with ⟨e1, e2, e3⟩ | ⟨e1, e2⟩
    · subst e1
      refine .inl ⟨rfl, Option.some.inj e2, ?_⟩
      rw [List.getElem?_set, if_pos rfl, if_pos (by rw [← I.len]; exact e3)]
    · exact .inr ⟨e1, e2, by rw [List.getElem?_set, if_neg e1]⟩
  exact { J with
    len := by
      show (δ.sl.set k (some s)).length = _
      rw [List.length_set, List.length_set]; exact J.len
    slot := fun i t e => by
      rcases at_ e with ⟨_, e2, e3⟩ | ⟨_, e2, e3⟩
      · subst e2
        exact ⟨na, v, e3, mo na ht⟩
      · obtain ⟨n, w, e4, e5⟩ := J.slot i t e2
        exact ⟨n, w, by rw [e3]; exact e4, mo n e5⟩
    stk := fun p hp => mo (J.nal p hp) (J.stk p hp)
    sep := fun i j t u w ne e1 e2 o1 o2 f1 => by
      rcases at_ e1 with ⟨a1, a2, a3⟩ | ⟨a1, a2, a3⟩
      · rcases at_ e2 with ⟨b1, b2, b3⟩ | ⟨b1, b2, b3⟩
        · exact absurd (a1.symm.trans b1) ne
        · rw [a3] at f1
          cases f1
          rw [b3]
          intro z
          subst a2
          exact I.sepS j u v b2 o2 z (t, v) (List.mem_cons_self ..) o1 rfl
      · rcases at_ e2 with ⟨b1, b2, b3⟩ | ⟨b1, b2, b3⟩
        · rw [b3]
          intro z
          cases z
          rw [a3] at f1
          subst b2
          exact I.sepS i t v a2 o1 f1 (u, v) (List.mem_cons_self ..) o2 rfl
        · rw [a3] at f1
          rw [b3]
          exact J.sep i j t u w ne a2 b2 o1 o2 f1
    sepS := fun i t w e o f1 p hp ho => by
      rcases at_ e with ⟨a1, a2, a3⟩ | ⟨a1, a2, a3⟩
      · rw [a3] at f1
        cases f1
        subst a2
        exact fun z => (List.pairwise_cons.mp I.sepT).1 p hp o ho z.symm
      · rw [a3] at f1
        exact J.sepS i t w a2 o f1 p hp ho
    sepA := fun i t a e o f1 => by
      rcases at_ e with ⟨a1, a2, a3⟩ | ⟨a1, a2, a3⟩
      · rw [a3] at f1
        cases f1
        subst a2
        exact I.sepB (t, .ref a) (List.mem_cons_self ..) o a rfl
      · rw [a3] at f1
        exact J.sepA i t a a2 o f1 }
/-! ### known objects -/
theorem Sim.less_known {al : Al} (I : Sim K Γ L δ σ S H) (h : Sub al δ.al) : Sim K Γ L (δ.know al) σ S H :=
  { I with
    obj := fun a o e => I.obj a o (h a o e)
    sepA := fun i s a e o f => by
      have := I.sepA i s a e o f
      cases e2 : al a with
      | none => exact e2
      | some u => rw [h a u e2] at this; cases this
    sepB := fun p hp ho a ea => by
      have := I.sepB p hp ho a ea
      cases e2 : al a with
      | none => exact e2
      | some u => rw [h a u e2] at this; cases this }
/-- a new object -/
theorem Sim.newOb (I : Sim K Γ L δ σ S H) {a : Addr} {u : HO} {o : Ob} (ha : H a = none) (hr : ObR K (a :: L) (upd H a u) a o) : Sim K Γ (a :: L) (δ.know (oup δ.al a o)) σ S (upd H a u) := by
  have J := I.room (u := u) ha
  have nL : a ∉ L := fun z => I.live a z ha
  exact { J with
    obj := fun b ob e => by
      by_cases z : b = a
      · subst z
        have e' : oup δ.al b o b = some ob := e
        rw [oup_same] at e'
        cases e'
        exact ⟨⟨List.mem_cons_self .., fun z => nL (I.sub _ (I.pin0 _ z)), .inr (I.fr.free _ ha)⟩, hr⟩
      · have e' : oup δ.al a o b = some ob := e
        rw [oup_ne z] at e'
        exact J.obj b ob e'
    sepA := fun i s b e os f => by
      show oup δ.al a o b = none
      obtain ⟨_, v, e1, e2⟩ := I.slot i s e
      rw [f] at e1
      cases e1
      obtain ⟨c, xs, e3, h1, _⟩ := e2.at_own os
      cases e3
      rw [oup_ne (show b ≠ a from fun z => nL (z ▸ h1))]
      exact I.sepA i s b e os f
    sepB := fun p hp os b eb => by
      show oup δ.al a o b = none
      obtain ⟨c, xs, e3, h1, _⟩ := (I.stk p hp).at_own os
      rw [eb] at e3
      cases e3
      rw [oup_ne (show b ≠ a from fun z => nL (z ▸ h1))]
      exact I.sepB p hp os b eb }
/-- a known object is written -/
theorem Sim.wrOb (I : Sim K Γ L δ σ S H) {a : Addr} {u : HO} {o o' : Ob} (ha : δ.al a = some o) (hr : ObR K L (upd H a u) a o') : Sim K Γ L (δ.know (oup δ.al a o')) σ S (upd H a u) := by
  obtain ⟨⟨aL, aP, aW⟩, hO⟩ := I.obj a o ha
  obtain ⟨u0, e0, m0⟩ := hO.some
  have f : Fr [a] H (upd H a u) := .wr e0 m0 (by simp)
  have inL : ∀ b ∈ [a], b ∈ L := fun b hb => by cases List.mem_singleton.mp hb; exact aL
  have mo : ∀ {s : Sv} {v : V}, SlR K Γ L σ H s v → (isOwn s = true → v ≠ .ref a) → SlR K Γ L σ (upd H a u) s v := fun {s v} h n => by
    cases s with
    | dat d => exact Dv.mono f inL h
    | own ds =>
      obtain ⟨b, xs, e, h1, h2, h3, h4⟩ := h
      have ne : b ≠ a := fun z => n rfl (by rw [e, z])
      exact ⟨b, xs, e, h1, h2, by rw [upd_ne ne]; exact h3, Dvs.mono f inL h4⟩
    | _ => exact h
  have nS : ∀ {i : Nat} {s : Sv} {v : V}, δ.sl[i]? = some (some s) → σ[i]? = some (some v) → isOwn s = true → v ≠ .ref a := fun e ev os z => by
    subst z
    have := I.sepA _ _ a e os ev
    rw [ha] at this
    cases this
  have nT : ∀ p ∈ S, isOwn p.1 = true → p.2 ≠ .ref a := fun p hp os z => by
    have := I.sepB p hp os a z
    rw [ha] at this
    cases this
  exact { I with
    fr := by
      rcases aW with z | z
      · exact I.fr.trans (.wr e0 m0 z)
      · exact I.fr.put e0 m0 (.inr z)
    pens := fun p hp => by
      have ne : p ≠ a := fun z => aP (z ▸ hp)
      exact (I.pens p hp).fr f fun z => ne (List.mem_singleton.mp z)
    live := fun b hb => by
      by_cases z : b = a
      · rw [z, upd_same]; exact fun z => (nomatch z)
      · rw [upd_ne z]; exact I.live b hb
    slot := fun i s e => let ⟨n, v, e1, e2⟩ := I.slot i s e; ⟨n, v, e1, mo e2 (nS e e1)⟩
    stk := fun p hp => mo (I.stk p hp) (nT p hp)
    obj := fun b ob e => by
      have e' : oup δ.al a o' b = some ob := e
      by_cases z : b = a
      · subst z
        rw [oup_same] at e'
        cases e'
        exact ⟨⟨aL, aP, aW⟩, hr⟩
      · rw [oup_ne z] at e'
        obtain ⟨h1, h2⟩ := I.obj b ob e'
        exact ⟨h1, h2.mono f inL fun q => z (List.mem_singleton.mp q)⟩
    sepA := fun i s b e os f => by
      show oup δ.al a o' b = none
      have := I.sepA i s b e os f
      rw [oup_ne (show b ≠ a from fun z => by rw [z, ha] at this; cases this)]
      exact this
    sepB := fun p hp os b eb => by
      show oup δ.al a o' b = none
      have := I.sepB p hp os b eb
      rw [oup_ne (show b ≠ a from fun z => by rw [z, ha] at this; cases this)]
      exact this }
/-- a list under construction becomes a known object -/
theorem Sim.toRef {ds : List PyData} {a : Addr} (I : Sim K Γ L δ σ ((.own ds, .ref a) :: S) H) : δ.al a = none ∧ a ∉ Γ.L0 ∧ Sim K Γ L (δ.know (oup δ.al a (.lst (ds.map .dat)))) σ S H := by
  obtain ⟨b, xs, eb, h1, h2, h3, h4⟩ := I.top
  cases eb
  have hn := I.sepB _ (List.mem_cons_self ..) rfl a rfl
  have sv : ∀ {ds : List PyData} {xs : List V}, Dvs K L H ds xs → SvIs K L H (ds.map .dat) xs := by
    intro ds
    induction ds with
    | nil => exact fun h => h
    | cons d ds ih => exact fun ⟨x, r, e, q1, q2⟩ => ⟨x, r, e, q1, ih q2⟩
  have J := I.pop
  refine ⟨hn, h2, ?_⟩
  exact { J with
    obj := fun c o e => by
      have e' : oup δ.al a (.lst (ds.map .dat)) c = some o := e
      by_cases z : c = a
      · subst z
        rw [oup_same] at e'
        cases e'
        exact ⟨⟨h1, fun z => h2 (I.pin0 _ z), .inr ((I.old c h1).resolve_left h2)⟩, xs, h3, sv h4⟩
      · rw [oup_ne z] at e'
        exact J.obj c o e'
    sepA := fun i s c e os f => by
      show oup δ.al a _ c = none
      rw [oup_ne (show c ≠ a from fun z => by subst z; exact I.sepS i s _ e os f _ (List.mem_cons_self ..) rfl rfl)]
      exact J.sepA i s c e os f
    sepB := fun p hp os c ec => by
      show oup δ.al a _ c = none
      rw [oup_ne (show c ≠ a from fun z => by subst z; exact (List.pairwise_cons.mp I.sepT).1 p hp rfl os ec.symm)]
      exact J.sepB p hp os c ec }
end
end B

/-! The data layer: expressions. -/
namespace B
open PySem PySem.Spec PyProof.Rows L2
def Top (K : PySem.W.Frag) (Γ : Gm) (L : List Addr) (δ : Dn) (σ : L2.St) (S : List (Sv × V)) (H : Hp) : Sv → V → Prop
  | .ali i, v => Sim K Γ L δ σ S H ∧ σ[i]? = some (some v)
  | s, v => Sim K Γ L δ σ ((s, v) :: S) H
/-- as data: a list that a slot owns is let go -/
def asD (s : Sv) (δ : Dn) (k : PyData → Dn → Prop) : Prop :=
  match s with
  | .dat d => k d δ
  | .own ds => k (.list ds) δ
  | .pen _ => False
  | .fn _ => False
  | .ref _ => False
  | .ali i => match δ.at_ i with
    | some (.own ds) => k (.list ds) (δ.put i (some (.dat (.list ds))))
    | some (.dat d) => k d δ
    | _ => False
/-- as an argument: data, or a pen -/
def asA (s : Sv) (δ : Dn) (k : Sv → Dn → Prop) : Prop :=
  match s with
  | .pen p => k (.pen p) δ
  | .fn a => k (.fn a) δ
  | .ref a => k (.ref a) δ
  | s => asD s δ fun d δ' => k (.dat d) δ'
theorem at_some {δ : Dn} {i : Nat} {x : Sv} (h : δ.at_ i = some x) : δ.sl[i]? = some (some x) := by
  unfold Dn.at_ at h
  rw [List.getD_eq_getElem?_getD] at h
  cases e : δ.sl[i]? with
  | none => rw [e] at h; cases h
  | some y => rw [e] at h; exact congrArg some h
theorem getD_some {α : Type} {l : List (Option α)} {i : Nat} {x : α} (h : l.getD i none = some x) : l[i]? = some (some x) := by
  rw [List.getD_eq_getElem?_getD] at h
  cases e : l[i]? with
  | none => rw [e] at h; cases h
  | some y => rw [e] at h; exact congrArg some h
section
variable {K : PySem.W.Frag} {Γ : Gm} {L : List Addr} {δ : Dn} {σ : L2.St} {S : List (Sv × V)} {H H' : Hp} {s : Sv} {v : V}
theorem Sim.own_dat {ds : List PyData} (I : Sim K Γ L δ σ ((.own ds, v) :: S) H) : ∃ L', Sim K Γ L' δ σ ((.dat (.list ds), v) :: S) H := by
  obtain ⟨a, xs, rfl, h1, h2, h3, h4⟩ := I.top
  have J := I.pop.shrink (a := a) h2 (fun i s w e o ew z => I.sepS i s w e o ew (.own ds, .ref a) (List.mem_cons_self ..) rfl z.symm)
    (fun p hp o z => (List.pairwise_cons.mp I.sepT).1 p hp rfl o z.symm) (I.sepB _ (List.mem_cons_self ..) rfl a rfl)
  exact ⟨_, J.push (s := .dat (.list ds)) ⟨a, xs, rfl, fun z => of_decide_eq_true (List.mem_filter.mp z).2 rfl, h3, h4.sub fun c hc => .inl (List.mem_filter.mp hc).1⟩ rfl fun _ z => nomatch z⟩
theorem Sim.ali_dat {ds : List PyData} {i : Nat} (I : Sim K Γ L δ σ S H) (hv : σ[i]? = some (some v)) (hd : δ.sl[i]? = some (some (.own ds))) : ∃ L', Sim K Γ L' (δ.put i (some (.dat (.list ds)))) σ ((.dat (.list ds), v) :: S) H := by
  obtain ⟨_, w, e1, a, xs, rfl, h1, h2, h3, h4⟩ := I.slot i _ hd
  rw [hv] at e1
  cases e1
  have F := I.forget i
  have J := F.shrink (a := a) h2 (fun j s w e o ew z => (get_set e).elim (fun h => nomatch h.2.1) fun h => I.sep i j (.own ds) s (.ref a) h.1 hd h.2 rfl o hv (z ▸ ew))
    (fun p hp o z => I.sepS i _ (.ref a) hd rfl hv p hp o z) (I.sepA i _ a hd rfl hv)
  have d : Dv K (L.filter fun b => decide (b ≠ a)) H (.list ds) (.ref a) := ⟨a, xs, rfl, fun z => of_decide_eq_true (List.mem_filter.mp z).2 rfl, h3, h4.sub fun c hc => .inl (List.mem_filter.mp hc).1⟩
  have W := J.know (k := i) (s := .dat (.list ds)) hv d rfl fun _ z => nomatch z
  rw [put_put] at W
  exact ⟨_, W.push (s := .dat (.list ds)) d rfl fun _ z => nomatch z⟩
theorem Top.dat {k : PyData → Dn → Prop} (T : Top K Γ L δ σ S H s v) (h : asD s δ k) : ∃ L' δ' d, Sim K Γ L' δ' σ ((.dat d, v) :: S) H ∧ k d δ' := by
  cases s with
  | dat d => exact ⟨L, δ, d, T, h⟩
  | pen p => exact h.elim
  | fn a => exact h.elim
  | ref a => exact h.elim
  | own ds =>
    obtain ⟨L', J⟩ := Sim.own_dat T
    exact ⟨L', δ, _, J, h⟩
  | ali i =>
    obtain ⟨I, hv⟩ := T
    unfold asD at h
    dsimp only at h
    split at h
    · rename_i ds e
      obtain ⟨L', J⟩ := I.ali_dat hv (at_some e)
      exact ⟨L', _, _, J, h⟩
    · rename_i d e
      obtain ⟨_, w, e1, e2⟩ := I.slot i _ (at_some e)
      rw [hv] at e1
      cases e1
      exact ⟨L, δ, d, (I.push (s := .dat d) e2 rfl fun _ z => nomatch z), h⟩
    · exact h.elim
theorem Top.arg {k : Sv → Dn → Prop} (T : Top K Γ L δ σ S H s v) (h : asA s δ k) : ∃ L' δ' t, Sim K Γ L' δ' σ ((t, v) :: S) H ∧ isOwn t = false ∧ k t δ' := by
  cases s with
  | pen p => exact ⟨L, δ, _, T, rfl, h⟩
  | fn a => exact ⟨L, δ, _, T, rfl, h⟩
  | ref a => exact ⟨L, δ, _, T, rfl, h⟩
  | dat d => exact ⟨L, δ, _, T, rfl, h⟩
  | own ds =>
    obtain ⟨L', δ', d, J, q⟩ := T.dat (s := .own ds) (k := fun d δ' => k (.dat d) δ') h
    exact ⟨L', δ', _, J, rfl, q⟩
  | ali i =>
    obtain ⟨L', δ', d, J, q⟩ := T.dat (s := .ali i) (k := fun d δ' => k (.dat d) δ') h
    exact ⟨L', δ', _, J, rfl, q⟩
theorem Sim.pens_new (I : Sim K Γ L δ σ S H) (f : Fr [] H H') : ∀ p ∈ Γ.P, Pen H' p := fun p hp => (I.pens p hp).fr f fun z => nomatch z
theorem Sim.more (I : Sim K Γ L δ σ S H) (f : Fr [] H H') : Sim K Γ L δ σ S H' := I.keep (f.mono fun l z => nomatch z) (I.pens_new f)
theorem Sim.dat (I : Sim K Γ L δ σ S H) {d : PyData} (h : Dv K L H d v) : Sim K Γ L δ σ ((.dat d, v) :: S) H := I.push (s := .dat d) h rfl fun _ z => nomatch z
end
/-- an expression's reading by its transformer -/
class DE (K : PySem.W.Frag) (Γ : Gm) (t : TE) (f : outParam (Dn → (Sv → Dn → Prop) → Prop)) : Prop where
  run : ∀ {L : List Addr} {δ : Dn} {σ : L2.St} {S : List (Sv × V)} {H : Hp} {Φ : Sv → Dn → Prop} {Q : VK}, Sim K Γ L δ σ S H → f δ Φ →
    (∀ s L' δ' v H', Top K Γ L' δ' σ S H' s v → Φ s δ' → Q v H') → t σ H Q
/-- a test's -/
class DT (K : PySem.W.Frag) (Γ : Gm) (t : TT) (f : outParam (Dn → (Bool → Dn → Prop) → Prop)) : Prop where
  run : ∀ {L : List Addr} {δ : Dn} {σ : L2.St} {S : List (Sv × V)} {H : Hp} {Φ : Bool → Dn → Prop} {Q : Bool → Hp → Prop}, Sim K Γ L δ σ S H → f δ Φ →
    (∀ b L' δ' H', Sim K Γ L' δ' σ S H' → Φ b δ' → Q b H') → t σ H Q
/-- arguments: data and pens -/
def AR (K : PySem.W.Frag) (Γ : Gm) (L : List Addr) (H : Hp) : List Sv → List V → Prop
  | [], vs => vs = []
  | s :: ss, vs => ∃ v r, vs = v :: r ∧ SlR K Γ L [] H s v ∧ isOwn s = false ∧ (∀ j, s ≠ .ali j) ∧ AR K Γ L H ss r
class DA (K : PySem.W.Frag) (Γ : Gm) (t : TA) (f : outParam (Dn → (List Sv → Dn → Prop) → Prop)) : Prop where
  run : ∀ {L : List Addr} {δ : Dn} {σ : L2.St} {S : List (Sv × V)} {H : Hp} {Φ : List Sv → Dn → Prop} {Q : List V → Hp → Prop}, Sim K Γ L δ σ S H → f δ Φ →
    (∀ ss L' δ' vs H', Sim K Γ L' δ' σ S H' → AR K Γ L' H' ss vs → Φ ss δ' → Q vs H') → t σ H Q
/-- data of arguments -/
def datas : List Sv → Option (List PyData)
  | [] => some []
  | .dat d :: ss => (datas ss).map fun ds => d :: ds
  | _ :: _ => none
def allD (ss : List Sv) (k : List PyData → Prop) : Prop := match datas ss with
  | some ds => k ds
  | none => False
theorem AR.data {K : PySem.W.Frag} {Γ : Gm} {L : List Addr} {H : Hp} : ∀ {ss : List Sv} {vs : List V} {ds : List PyData}, AR K Γ L H ss vs → datas ss = some ds → Dvs K L H ds vs
  | [], _, ds, h, e => by cases e; exact h
  | .dat d :: ss, _, ds, ⟨v, r, e1, h1, _, _, h2⟩, e => by
    unfold datas at e
    cases e3 : datas ss with
    | none => rw [e3] at e; cases e
    | some es => rw [e3] at e; cases e; exact ⟨v, r, e1, h1, h2.data e3⟩
  | .pen _ :: _, _, _, _, e => by cases e
  | .own _ :: _, _, _, _, e => by cases e
  | .ali _ :: _, _, _, _, e => by cases e
  | .fn _ :: _, _, _, _, e => by cases e
  | .ref _ :: _, _, _, _, e => by cases e
/-- a scalar of the values -/
def dV : V → Option PyData
  | .non => some .none
  | .bl b => some (.bool b)
  | .int i => some (.int i)
  | .str x => some (.str x)
  | _ => none
theorem dV_dv {K : PySem.W.Frag} {L : List Addr} {H : Hp} {v : V} {d : PyData} (h : dV v = some d) : Dv K L H d v := by
  cases v <;> (unfold dV at h; cases h) <;> exact rfl
def sca (v : V) (k : PyData → Prop) : Prop := match dV v with
  | some d => k d
  | none => False
section
variable {K : PySem.W.Frag} {Γ : Gm}
theorem DE.data {t : TE} {f : Dn → (Sv → Dn → Prop) → Prop} [T : DE K Γ t f] {L : List Addr} {δ : Dn} {σ : L2.St} {S : List (Sv × V)} {H : Hp} {k : PyData → Dn → Prop} {Q : VK} (I : Sim K Γ L δ σ S H) (h : f δ fun s δ' => asD s δ' k)
    (q : ∀ d L' δ' v H', Sim K Γ L' δ' σ ((.dat d, v) :: S) H' → k d δ' → Q v H') : t σ H Q :=
  T.run I h fun s L' δ' v H' tp a => let ⟨L2, δ2, d, J, hk⟩ := tp.dat a; q d L2 δ2 v H' J hk
def varD (i : Nat) (δ : Dn) (Φ : Sv → Dn → Prop) : Prop := match δ.at_ i with
  | some (.dat d) => Φ (.dat d) δ
  | some (.pen p) => Φ (.pen p) δ
  | some (.own _) => Φ (.ali i) δ
  | some (.fn a) => Φ (.fn a) δ
  | some (.ref a) => Φ (.ref a) δ
  | _ => False
instance {i : Nat} : DE K Γ (tVar i) (varD i) := ⟨fun {L δ σ S H Φ Q} I h q => by
  unfold varD at h
  split at h
  · rename_i d e
    obtain ⟨n, v, e1, e2⟩ := I.slot i _ (at_some e)
    exact ⟨v, e1, q (.dat d) L δ v H (I.dat e2) h⟩
  · rename_i p e
    obtain ⟨n, v, e1, e2⟩ := I.slot i _ (at_some e)
    exact ⟨v, e1, q (.pen p) L δ v H (I.push (s := .pen p) e2 rfl fun _ z => nomatch z) h⟩
  · rename_i ds e
    obtain ⟨n, v, e1, e2⟩ := I.slot i _ (at_some e)
    exact ⟨v, e1, q (.ali i) L δ v H ⟨I, e1⟩ h⟩
  · rename_i a e
    obtain ⟨n, v, e1, e2⟩ := I.slot i _ (at_some e)
    exact ⟨v, e1, q (.fn a) L δ v H (I.push (s := .fn a) e2 rfl fun _ z => nomatch z) h⟩
  · rename_i a e
    obtain ⟨n, v, e1, e2⟩ := I.slot i _ (at_some e)
    exact ⟨v, e1, q (.ref a) L δ v H (I.push (s := .ref a) e2 rfl fun _ z => nomatch z) h⟩
  · exact h.elim⟩
instance {v : V} : DE K Γ (tC v) (fun δ Φ => sca v fun d => Φ (.dat d) δ) := ⟨fun {L δ σ S H Φ Q} I h q => by
  unfold sca at h
  split at h
  · rename_i d e
    exact q (.dat d) L δ v H (I.dat (dV_dv e)) h
  · exact h.elim⟩
instance : DA K Γ tNil (fun δ Φ => Φ [] δ) := ⟨fun {L δ σ S H Φ Q} I h q => q [] L δ [] H I rfl h⟩
instance {te : TE} {tr : TA} {f : Dn → (Sv → Dn → Prop) → Prop} {g : Dn → (List Sv → Dn → Prop) → Prop} [E : DE K Γ te f] [R : DA K Γ tr g] :
    DA K Γ (tCons te tr) (fun δ Φ => f δ fun s δ1 => asA s δ1 fun t δ2 => g δ2 fun ss δ3 => Φ (t :: ss) δ3) := ⟨fun {L δ σ S H Φ Q} I h q => by
  refine E.run I h fun s L1 δ1 v H1 T h1 => ?_
  obtain ⟨L2, δ2, t, J, no, h2⟩ := T.arg h1
  refine R.run J h2 fun ss L3 δ3 vs H3 J3 ar h3 => ?_
  refine q (t :: ss) L3 δ3 (v :: vs) H3 J3.pop ⟨v, vs, rfl, ?_, no, J3.nal _ (List.mem_cons_self ..), ar⟩ h3
  have tp := J3.top
  cases t with
  | ali j => exact absurd rfl (J3.nal _ (List.mem_cons_self ..) j)
  | _ => exact tp⟩
instance {t : TA} {f : Dn → (List Sv → Dn → Prop) → Prop} [A : DA K Γ t f] : DE K Γ (tTupZ t) (fun δ Φ => f δ fun ss δ1 => allD ss fun ds => ds.length ≤ 1000000 ∧ Φ (.dat (.tuple ds)) δ1) := ⟨fun {L δ σ S H Φ Q} I h q => by
  refine A.run I h fun ss L1 δ1 vs H1 J ar h1 => ?_
  unfold allD at h1
  split at h1
  · rename_i ds e
    have dv := ar.data e
    have e2 := dv.len
    refine ⟨by rw [e2]; exact Nat.le_trans h1.1 (by decide), fun p o np od => q (.dat (.tuple ds)) L1 δ1 _ _ ((J.more (.new np)).dat ⟨p, vs, rfl, .made od, dv.mono (P := []) (.new np) fun _ z => nomatch z⟩) h1.2⟩
  · exact h1.elim⟩
instance {t : TA} {f : Dn → (List Sv → Dn → Prop) → Prop} [A : DA K Γ t f] : DE K Γ (tLst t) (fun δ Φ => f δ fun ss δ1 => allD ss fun ds => ds.length ≤ 1000000 ∧ Φ (.own ds) δ1) := ⟨fun {L δ σ S H Φ Q} I h q => by
  refine A.run I h fun ss L1 δ1 vs H1 J ar h1 => ?_
  unfold allD at h1
  split at h1
  · rename_i ds e
    have dv := ar.data e
    have e2 := dv.len
    refine ⟨by rw [e2]; exact Nat.le_trans h1.1 (by decide), fun p np => q (.own ds) _ δ1 _ _ (J.new np dv) h1.2⟩
  · exact h1.elim⟩
end
end B

/-! The data layer: operators, tests, calls. -/
namespace B
open PySem PySem.Spec PyProof.Rows L2
section
variable {K : PySem.W.Frag} {L : List Addr} {H : Hp}
theorem Dv.ty : ∀ {d : PyData} {v : V}, Dv K L H d v → TyX K H v (.type (tyD d))
  | .none, _, h => by cases h; exact .base .non
  | .bool _, _, h => by cases h; exact .base (.bl _)
  | .int _, _, h => by cases h; exact .base (.int _)
  | .str _, _, h => by cases h; exact .base (.str _)
  | .tuple ds, _, ⟨a, xs, e, t, r⟩ => by cases e; exact sqT_ty t.sq
  | .list ds, _, ⟨a, xs, e, n, t, r⟩ => by cases e; exact sqL_ty (sqL_of t)
  | .dict _, _, ⟨_, a, e, _, t⟩ => by cases e; exact .base (.dK t)
end
/-- an operator of two values: its transformer over data -/
class DR (K : PySem.W.Frag) (Γ : Gm) (r : R2) (g : outParam (PyData → PyData → (PyData → Prop) → Prop)) : Prop where
  run : ∀ {L : List Addr} {H : Hp} {x y : PyData} {v u : V} {Φ : PyData → Prop} {Q : VK}, Dv K L H x v → Dv K L H y u → g x y Φ → (∀ d w H', Fr [] H H' → Dv K L H' d w → Φ d → Q w H') → r v u H Q
section
variable {K : PySem.W.Frag} {Γ : Gm}
theorem sca_run {L : List Addr} {H : Hp} {v : V} {Φ : PyData → Prop} {Q : VK} (h : sca v Φ) (q : ∀ d w H', Fr [] H H' → Dv K L H' d w → Φ d → Q w H') : Q v H := by
  unfold sca at h
  split at h
  · rename_i d e
    exact q d v H (.refl _ _) (dV_dv e) h
  · exact h.elim
def onI (x : PyData) (k : Int → Prop) : Prop := match x with
  | .int i => k i
  | _ => False
theorem onI_run {L : List Addr} {H : Hp} {K : PySem.W.Frag} {x : PyData} {v : V} {k : Int → Prop} (d : Dv K L H x v) (h : onI x k) : ∃ i, x = .int i ∧ v = .int i ∧ k i := by
  cases x <;> first | exact h.elim | exact ⟨_, rfl, d, h⟩
instance {g : Int → Int → V} : DR K Γ (rI0 g) (fun x y Φ => onI x fun i => onI y fun j => sca (g i j) Φ) := ⟨fun dx dy h q => by
  obtain ⟨i, rfl, rfl, h1⟩ := onI_run dx h
  obtain ⟨j, rfl, rfl, h2⟩ := onI_run dy h1
  exact ⟨i, j, rfl, rfl, sca_run h2 q⟩⟩
instance {C : Int → Int → Prop} {g : Int → Int → V} : DR K Γ (rI C g) (fun x y Φ => onI x fun i => onI y fun j => C i j ∧ sca (g i j) Φ) := ⟨fun dx dy h q => by
  obtain ⟨i, rfl, rfl, h1⟩ := onI_run dx h
  obtain ⟨j, rfl, rfl, h2⟩ := onI_run dy h1
  exact ⟨i, j, rfl, rfl, h2.1, sca_run h2.2 q⟩⟩
/-- == of scalars -/
def eqS : PyData → PyData → Option Bool
  | .int i, .int j => some (decide (i = j))
  | .str x, .str y => some (decide (x = y))
  | .bool a, .bool b => some (decide (a = b))
  | .none, .none => some true
  | .none, .int _ => some false | .int _, .none => some false | .none, .bool _ => some false | .bool _, .none => some false | .none, .str _ => some false | .str _, .none => some false
  | .int _, .str _ => some false | .str _, .int _ => some false | .bool _, .str _ => some false | .str _, .bool _ => some false
  | _, _ => none
theorem eqS_run {K : PySem.W.Frag} {L : List Addr} {H : Hp} {x y : PyData} {v u : V} {b : Bool} (dx : Dv K L H x v) (dy : Dv K L H y u) (h : eqS x y = some b) : scal v u = true ∧ decide (v = u) = b := by
  cases x <;> cases y <;> simp only [eqS] at h <;> first
    | (cases (show v = _ from dx); cases (show u = _ from dy); cases h; exact ⟨rfl, by simp⟩)
    | cases h
def onB (o : Option Bool) (k : Bool → Prop) : Prop := match o with
  | some b => k b
  | none => False
instance : DR K Γ rEq (fun x y Φ => onB (eqS x y) fun b => Φ (.bool b)) := ⟨fun {L H x y v u Φ Q} dx dy h q => by
  unfold onB at h
  split at h
  · rename_i b e
    obtain ⟨h1, h2⟩ := eqS_run dx dy e
    exact ⟨h1, by rw [h2]; exact q (.bool b) (.bl b) H (.refl _ _) rfl h⟩
  · exact h.elim⟩
instance : DR K Γ rNe (fun x y Φ => onB (eqS x y) fun b => Φ (.bool (!b))) := ⟨fun {L H x y v u Φ Q} dx dy h q => by
  unfold onB at h
  split at h
  · rename_i b e
    obtain ⟨h1, h2⟩ := eqS_run dx dy e
    exact ⟨h1, by rw [h2]; exact q (.bool (!b)) (.bl (!b)) H (.refl _ _) rfl h⟩
  · exact h.elim⟩
instance : DR K Γ (rEqD K) (fun x y Φ => (noDict x && noDict y) = true ∧ SeqAt.shaped x = true ∧ SeqAt.shaped y = true ∧ Φ (.bool (PyData.eqv x y))) := ⟨fun {L H x y v u Φ Q} dx dy h q =>
  have n := Bool.and_eq_true_iff.mp h.1
  ⟨x, y, dx.dp n.1, dy.dp n.2, h.2.1, h.2.2.1, q (.bool _) (.bl _) H (.refl _ _) rfl h.2.2.2⟩⟩
instance : DR K Γ (rNeD K) (fun x y Φ => (noDict x && noDict y) = true ∧ SeqAt.shaped x = true ∧ SeqAt.shaped y = true ∧ Φ (.bool (!PyData.eqv x y))) := ⟨fun {L H x y v u Φ Q} dx dy h q =>
  have n := Bool.and_eq_true_iff.mp h.1
  ⟨x, y, dx.dp n.1, dy.dp n.2, h.2.1, h.2.2.1, q (.bool _) (.bl _) H (.refl _ _) rfl h.2.2.2⟩⟩
/-- the item at an index -/
def atD (ds : List PyData) (i : Int) (k : PyData → Prop) : Prop := match atI ds i with
  | some d => k d
  | none => False
theorem atI_dvs {K : PySem.W.Frag} {L : List Addr} {H : Hp} {ds : List PyData} {xs : List V} {i : Int} {d : PyData} (h : Dvs K L H ds xs) (e : atI ds i = some d) : ∃ v, atI xs i = some v ∧ Dv K L H d v := by
  unfold atI at e ⊢
  rw [h.len]
  cases e1 : ixN ds.length i with
  | none => rw [e1] at e; cases e
  | some j =>
    rw [e1] at e
    exact h.get (show ds[j]? = some d from e)
def onT (x : PyData) (k : List PyData → Prop) : Prop := match x with
  | .tuple ds => k ds
  | _ => False
def onL (x : PyData) (k : List PyData → Prop) : Prop := match x with
  | .list ds => k ds
  | _ => False
instance : DR K Γ (rIxT K) (fun x y Φ => onT x fun ds => onI y fun i => atD ds i Φ) := ⟨fun {L H x y v u Φ Q} dx dy h q => by
  cases x with
  | tuple ds =>
    obtain ⟨a, xs, rfl, t, r⟩ := dx
    obtain ⟨i, rfl, rfl, h1⟩ := onI_run dy h
    unfold atD at h1
    split at h1
    · rename_i d e
      obtain ⟨w, e2, dw⟩ := atI_dvs r e
      exact ⟨a, xs, i, w, rfl, rfl, t.sq, e2, q d w H (.refl _ _) dw h1⟩
    · exact h1.elim
  | _ => exact h.elim⟩
instance : DR K Γ (rIxL K) (fun x y Φ => onL x fun ds => onI y fun i => atD ds i Φ) := ⟨fun {L H x y v u Φ Q} dx dy h q => by
  cases x with
  | list ds =>
    obtain ⟨a, xs, rfl, n, t, r⟩ := dx
    obtain ⟨i, rfl, rfl, h1⟩ := onI_run dy h
    unfold atD at h1
    split at h1
    · rename_i d e
      obtain ⟨w, e2, dw⟩ := atI_dvs r e
      exact ⟨a, xs, i, w, rfl, rfl, sqL_of t, e2, q d w H (.refl _ _) dw h1⟩
    · exact h1.elim
  | _ => exact h.elim⟩
theorem catT_of {K : PySem.W.Frag} {H : Hp} {a b : Addr} {xs ys : List V} {Q : VK} (ha : Tp K H a xs) (hb : Tp K H b ys) (hl : xs.length + ys.length ≤ 1000000) (q : ∀ p H', Fr [] H H' → Tp K H' p (xs ++ ys) → Q (.ref p) H') : rCatZ K (.ref a) (.ref b) H Q := by
  refine ⟨a, b, xs, ys, rfl, rfl, ha.sq, hb.sq, Nat.le_trans hl (by decide), fun e => ?_, fun _ e => ?_, fun _ _ p o np od => ?_⟩
  · subst e
    exact q b H (.refl _ _) hb
  · subst e
    exact q a H (.refl _ _) (by rw [List.append_nil]; exact ha)
  · exact q p _ (.new np) (.made od)
theorem slT_of {K : PySem.W.Frag} {H : Hp} {a : Addr} {xs : List V} {lo hi : Option Int} {Q : VK} (ha : Tp K H a xs) (q : ∀ p H', Fr [] H H' → Tp K H' p (cutV xs lo hi) → Q (.ref p) H') : rSlZ K (.ref a) lo hi H Q := by
  refine ⟨a, xs, rfl, ha.sq, fun e => ?_, fun _ p o np od => q p _ (.new np) (.made od)⟩
  refine q a H (.refl _ _) ?_
  have z : cutV xs lo hi = xs := by
    unfold cutV
    rw [e.1, e.2]
    simp
  rw [z]
  exact ha
/-- tuple + tuple -/
instance : DR K Γ (rCatZ K) (fun x y Φ => onT x fun ds => onT y fun es => ds.length + es.length ≤ 1000000 ∧ Φ (.tuple (ds ++ es))) := ⟨fun {L H x y v u Φ Q} dx dy h q => by
  cases x with
  | tuple ds =>
    cases y with
    | tuple es =>
      obtain ⟨a, xs, rfl, t, r⟩ := dx
      obtain ⟨b, ys, rfl, t2, r2⟩ := dy
      have l1 := r.len
      have l2 := r2.len
      have h : ds.length + es.length ≤ 1000000 ∧ Φ (.tuple (ds ++ es)) := h
      refine catT_of t t2 (by omega) fun p H' f hp => ?_
      exact q (.tuple (ds ++ es)) (.ref p) H' f ⟨p, _, rfl, hp, (r.app r2).mono (P := []) f fun _ z => nomatch z⟩ h.2
    | _ => exact h.elim
  | _ => exact h.elim⟩
/-- an operator's reading -/
instance {r : R2} {g : PyData → PyData → (PyData → Prop) → Prop} {a b : TE} {fa fb : Dn → (Sv → Dn → Prop) → Prop} [R : DR K Γ r g] [A : DE K Γ a fa] [B : DE K Γ b fb] :
    DE K Γ (tOp r a b) (fun δ Φ => fa δ fun s δ1 => asD s δ1 fun x δ2 => fb δ2 fun t δ3 => asD t δ3 fun y δ4 => g x y fun d => Φ (.dat d) δ4) := ⟨fun {L δ σ S H Φ Q} I h q => by
  refine DE.data (T := A) I h fun x L1 δ1 v H1 J h1 => DE.data (T := B) J h1 fun y L2 δ2 u H2 J2 h2 => ?_
  exact R.run J2.pop.top J2.top h2 fun d w H' f dw hd => q (.dat d) L2 δ2 w H' ((J2.pop.pop.more f).dat dw) hd⟩
/-- t[lo:hi] of a tuple -/
class DO (K : PySem.W.Frag) (Γ : Gm) (t : TO) (f : outParam (Dn → (Option Int → Dn → Prop) → Prop)) : Prop where
  run : ∀ {L : List Addr} {δ : Dn} {σ : L2.St} {S : List (Sv × V)} {H : Hp} {Φ : Option Int → Dn → Prop} {Q : Option Int → Hp → Prop}, Sim K Γ L δ σ S H → f δ Φ →
    (∀ o L' δ' H', Sim K Γ L' δ' σ S H' → Φ o δ' → Q o H') → t σ H Q
instance : DO K Γ tNoPart (fun δ Φ => Φ none δ) := ⟨fun {L δ σ S H Φ Q} I h q => q none L δ H I h⟩
instance {a : TE} {fa : Dn → (Sv → Dn → Prop) → Prop} [A : DE K Γ a fa] : DO K Γ (tPart a) (fun δ Φ => fa δ fun s δ1 => asD s δ1 fun x δ2 => onI x fun i => Φ (some i) δ2) := ⟨fun {L δ σ S H Φ Q} I h q => by
  refine DE.data (T := A) I h fun x L1 δ1 v H1 J h1 => ?_
  obtain ⟨i, rfl, rfl, h2⟩ := onI_run J.top h1
  exact ⟨i, rfl, q (some i) L1 δ1 H1 J.pop h2⟩⟩
/-- ds[lo:hi] -/
def cutD (ds : List PyData) (lo hi : Option Int) : List PyData := (ds.drop (HT.sIx ds.length 0 lo)).take (HT.sIx ds.length ds.length hi - HT.sIx ds.length 0 lo)
instance {a : TE} {l u : TO} {fa : Dn → (Sv → Dn → Prop) → Prop} {fl fu : Dn → (Option Int → Dn → Prop) → Prop} [A : DE K Γ a fa] [Lo : DO K Γ l fl] [Hi : DO K Γ u fu] :
    DE K Γ (L2.tSl (rSlZ K) a l u) (fun δ Φ => fa δ fun s δ1 => asD s δ1 fun x δ2 => fl δ2 fun lo δ3 => fu δ3 fun hi δ4 => onT x fun ds => Φ (.dat (.tuple (cutD ds lo hi))) δ4) := ⟨fun {L δ σ S H Φ Q} I h q => by
  refine DE.data (T := A) I h fun x L1 δ1 v H1 J h1 => Lo.run J h1 fun lo L2 δ2 H2 J2 h2 => Hi.run J2 h2 fun hi L3 δ3 H3 J3 h3 => ?_
  cases x with
  | tuple ds =>
    obtain ⟨a, xs, rfl, t, r⟩ := J3.top
    have e := r.len
    refine slT_of t fun p H' f hp => q (.dat (.tuple (cutD ds lo hi))) L3 δ3 _ H' ((J3.pop.more f).dat ⟨p, _, rfl, hp, ?_⟩) h3
    unfold cutV cutD
    rw [e]
    exact ((r.drop).take).mono (P := []) f fun _ z => nomatch z
  | _ => exact h3.elim⟩
/-- tests -/
def onBo (x : PyData) (k : Bool → Prop) : Prop := match x with
  | .bool b => k b
  | _ => False
theorem onBo_run {L : List Addr} {H : Hp} {K : PySem.W.Frag} {x : PyData} {v : V} {k : Bool → Prop} (d : Dv K L H x v) (h : onBo x k) : ∃ i, x = .bool i ∧ v = .bl i ∧ k i := by
  cases x <;> first | exact h.elim | exact ⟨_, rfl, d, h⟩
instance {a : TE} {fa : Dn → (Sv → Dn → Prop) → Prop} [A : DE K Γ a fa] : DT K Γ (tTest a) (fun δ Φ => fa δ fun s δ1 => asD s δ1 fun x δ2 => onBo x fun b => Φ b δ2) := ⟨fun {L δ σ S H Φ Q} I h q => by
  refine DE.data (T := A) I h fun x L1 δ1 v H1 J h1 => ?_
  obtain ⟨b, rfl, rfl, h2⟩ := onBo_run J.top h1
  exact ⟨b, rfl, q b L1 δ1 H1 J.pop h2⟩⟩
instance {a b : TT} {fa fb : Dn → (Bool → Dn → Prop) → Prop} [A : DT K Γ a fa] [B : DT K Γ b fb] : DT K Γ (tAnd a b) (fun δ Φ => fa δ fun c δ1 => bif c then fb δ1 Φ else Φ false δ1) := ⟨fun {L δ σ S H Φ Q} I h q =>
  A.run I h fun c L1 δ1 H1 J h1 => by
    cases c with
    | true => exact iteT (B.run J h1 q)
    | false => exact iteF (q false L1 δ1 H1 J h1)⟩
instance {a b : TT} {fa fb : Dn → (Bool → Dn → Prop) → Prop} [A : DT K Γ a fa] [B : DT K Γ b fb] : DT K Γ (tOr a b) (fun δ Φ => fa δ fun c δ1 => bif c then Φ true δ1 else fb δ1 Φ) := ⟨fun {L δ σ S H Φ Q} I h q =>
  A.run I h fun c L1 δ1 H1 J h1 => by
    cases c with
    | true => exact iteT (q true L1 δ1 H1 J h1)
    | false => exact iteF (B.run J h1 q)⟩
instance {a : TT} {fa : Dn → (Bool → Dn → Prop) → Prop} [A : DT K Γ a fa] : DT K Γ (L2.tNot a) (fun δ Φ => fa δ fun c δ1 => Φ (!c) δ1) := ⟨fun {L δ σ S H Φ Q} I h q =>
  A.run I h fun c L1 δ1 H1 J h1 => q (!c) L1 δ1 H1 J h1⟩
instance : DT K Γ tYes (fun δ Φ => Φ true δ) := ⟨fun {L δ σ S H Φ Q} I h q => q true L δ H I h⟩
/-- and, or, not as values -/
instance {a b : TE} {fa fb : Dn → (Sv → Dn → Prop) → Prop} [A : DE K Γ a fa] [B : DE K Γ b fb] : DE K Γ (tAndV a b) (fun δ Φ => fa δ fun s δ1 => asD s δ1 fun x δ2 => onBo x fun c => bif c then fb δ2 Φ else Φ (.dat (.bool false)) δ2) := ⟨fun {L δ σ S H Φ Q} I h q => by
  refine DE.data (T := A) I h fun x L1 δ1 v H1 J h1 => ?_
  obtain ⟨c, rfl, rfl, h2⟩ := onBo_run J.top h1
  cases c with
  | true => exact ⟨true, rfl, iteT (B.run J.pop h2 q)⟩
  | false => exact ⟨false, rfl, iteF (q (.dat (.bool false)) L1 δ1 _ H1 (J.pop.dat rfl) h2)⟩⟩
instance {a b : TE} {fa fb : Dn → (Sv → Dn → Prop) → Prop} [A : DE K Γ a fa] [B : DE K Γ b fb] : DE K Γ (tOrV a b) (fun δ Φ => fa δ fun s δ1 => asD s δ1 fun x δ2 => onBo x fun c => bif c then Φ (.dat (.bool true)) δ2 else fb δ2 Φ) := ⟨fun {L δ σ S H Φ Q} I h q => by
  refine DE.data (T := A) I h fun x L1 δ1 v H1 J h1 => ?_
  obtain ⟨c, rfl, rfl, h2⟩ := onBo_run J.top h1
  cases c with
  | true => exact ⟨true, rfl, iteT (q (.dat (.bool true)) L1 δ1 _ H1 (J.pop.dat rfl) h2)⟩
  | false => exact ⟨false, rfl, iteF (B.run J.pop h2 q)⟩⟩
instance {a : TE} {fa : Dn → (Sv → Dn → Prop) → Prop} [A : DE K Γ a fa] : DE K Γ (tNotV a) (fun δ Φ => fa δ fun s δ1 => asD s δ1 fun x δ2 => onBo x fun c => Φ (.dat (.bool (!c))) δ2) := ⟨fun {L δ σ S H Φ Q} I h q => by
  refine DE.data (T := A) I h fun x L1 δ1 v H1 J h1 => ?_
  obtain ⟨c, rfl, rfl, h2⟩ := onBo_run J.top h1
  exact ⟨c, rfl, q (.dat (.bool (!c))) L1 δ1 _ H1 (J.pop.dat rfl) h2⟩⟩
/-- a < b < c -/
instance {r r' : R2} {g g' : PyData → PyData → (PyData → Prop) → Prop} {a b c : TE} {fa fb fc : Dn → (Sv → Dn → Prop) → Prop} [R : DR K Γ r g] [R' : DR K Γ r' g'] [A : DE K Γ a fa] [B : DE K Γ b fb] [C : DE K Γ c fc] :
    DE K Γ (tChain r r' a b c) (fun δ Φ => fa δ fun s δ1 => asD s δ1 fun x δ2 => fb δ2 fun t δ3 => asD t δ3 fun y δ4 => g x y fun d => onBo d fun k => bif k then fc δ4 fun u δ5 => asD u δ5 fun z δ6 => g' y z fun d' => Φ (.dat d') δ6 else Φ (.dat (.bool false)) δ4) := ⟨fun {L δ σ S H Φ Q} I h q => by
  refine DE.data (T := A) I h fun x L1 δ1 v H1 J h1 => DE.data (T := B) J h1 fun y L2 δ2 u H2 J2 h2 => ?_
  refine R.run J2.pop.top J2.top h2 fun d w H' f dw hd => ?_
  obtain ⟨k, rfl, rfl, h3⟩ := onBo_run dw hd
  have J3 := J2.more f
  cases k with
  | true =>
    refine ⟨true, rfl, iteT (DE.data (T := C) J3 h3 fun z L4 δ4 zw H4 J4 h4 => ?_)⟩
    exact R'.run J4.pop.top J4.top h4 fun d w H' f dw hd => q (.dat d) L4 δ4 w H' ((J4.pop.pop.pop.more f).dat dw) hd
  | false => exact ⟨false, rfl, iteF (q (.dat (.bool false)) L2 δ2 _ H' (J3.pop.pop.dat rfl) h3)⟩⟩
end
end B

/-! The data layer: lists under construction, comprehensions. -/
namespace B
open PySem PySem.Spec PyProof.Rows L2
section
variable {K : PySem.W.Frag} {Γ : Gm} {L : List Addr} {δ : Dn} {σ : L2.St} {S : List (Sv × V)} {H H' : Hp} {s : Sv} {v : V}
/-- an address owned at the top is written: all else stays -/
theorem SlR.wr {a : Addr} {o : HO} (h0 : a ∉ Γ.L0) (p0 : ∀ p ∈ Γ.P, p ∈ Γ.L0) (ha : a ∈ L) (ho : ∃ xs, H a = some (.lst xs)) : ∀ {s : Sv} {v : V}, SlR K Γ L σ H s v → (isOwn s = true → v ≠ .ref a) → SlR K Γ L σ (upd H a o) s v
  | .dat _, _, h, _ => by
    obtain ⟨xs, e⟩ := ho
    exact Dv.mono (P := [a]) (.wr e trivial (by simp)) (fun b hb => by cases List.mem_singleton.mp hb; exact ha) h
  | .pen _, _, h, _ => h
  | .own _, _, ⟨b, xs, e, h1, h2, h3, h4⟩, n => by
    obtain ⟨ys, e2⟩ := ho
    have ne : b ≠ a := fun z => n rfl (by rw [e, z])
    exact ⟨b, xs, e, h1, h2, by rw [upd_ne ne]; exact h3, Dvs.mono (P := [a]) (.wr e2 trivial (by simp)) (fun b hb => by cases List.mem_singleton.mp hb; exact ha) h4⟩
  | .ali _, _, h, _ => h
  | .fn _, _, h, _ => h
  | .ref _, _, h, _ => h
/-- the list that the stack owns beneath the top takes the top -/
theorem Sim.append {d : PyData} {acc : List PyData} {y : V} {a : Addr} {xs : List V} (I : Sim K Γ L δ σ ((.dat d, y) :: (.own acc, .ref a) :: S) H) (e : H a = some (.lst xs)) :
    Sim K Γ L δ σ ((.own (acc ++ [d]), .ref a) :: S) (upd H a (.lst (xs ++ [y]))) := by
  have J := I.pop
  obtain ⟨b, ys, e1, h1, h2, h3, h4⟩ := J.top
  cases e1
  rw [e] at h3
  cases h3
  have ha : ∃ xs, H a = some (.lst xs) := ⟨_, e⟩
  have f : Fr [a] H (upd H a (.lst (xs ++ [y]))) := .wr e trivial (by simp)
  have inL : ∀ b ∈ [a], b ∈ L := fun b hb => by cases List.mem_singleton.mp hb; exact h1
  have topS : ∀ p ∈ S, isOwn p.1 = true → p.2 ≠ .ref a := fun p hp o z => (List.pairwise_cons.mp J.sepT).1 p hp rfl o z.symm
  have slS : ∀ (i : Nat) (s : Sv) (v : V), δ.sl[i]? = some (some s) → isOwn s = true → σ[i]? = some (some v) → v ≠ .ref a := fun i s v e o ev z => J.sepS i s v e o ev (.own acc, .ref a) (List.mem_cons_self ..) rfl z.symm
  have na : δ.al a = none := J.sepB _ (List.mem_cons_self ..) rfl a rfl
  exact { J with
    fr := J.fr.put e trivial ((J.old a h1).elim (fun z => absurd z h2) .inr)
    pens := fun p hp => by
      have q := J.pens p hp
      have ne : p ≠ a := fun z => h2 (z ▸ J.pin0 p hp)
      exact q.fr f fun z => ne (List.mem_singleton.mp z)
    live := fun b hb => by
      by_cases z : b = a
      · rw [z, upd_same]; exact fun z => (nomatch z)
      · rw [upd_ne z]; exact J.live b hb
    slot := fun i s e5 => let ⟨n, v, e6, e7⟩ := J.slot i s e5; ⟨n, v, e6, e7.wr h2 J.pin0 h1 ha fun o => slS i s v e5 o e6⟩
    stk := fun p hp => (List.mem_cons.mp hp).elim (fun z => by
      rw [z]
      exact ⟨a, _, rfl, h1, h2, upd_same, (h4.mono (P := [a]) f inL).app ⟨y, [], rfl, Dv.mono (P := [a]) f inL I.top, rfl⟩⟩) fun hp => (J.stk p (List.mem_cons_of_mem _ hp)).wr h2 J.pin0 h1 ha (topS p hp)
    nal := fun p hp => (List.mem_cons.mp hp).elim (fun z j => by rw [z]; exact fun z => (nomatch z)) fun hp => J.nal p (List.mem_cons_of_mem _ hp)
    sepS := fun i s v e5 o ev p hp ho => (List.mem_cons.mp hp).elim (fun z => by rw [z]; exact fun z => slS i s v e5 o ev z.symm) fun hp => J.sepS i s v e5 o ev p (List.mem_cons_of_mem _ hp) ho
    sepT := List.pairwise_cons.mpr ⟨fun p hp _ o z => topS p hp o z.symm, (List.pairwise_cons.mp J.sepT).2⟩
    obj := fun b o eb => by
      obtain ⟨q1, q2⟩ := J.obj b o eb
      refine ⟨q1, q2.mono (P := [a]) f inL fun z => ?_⟩
      cases List.mem_singleton.mp z
      rw [na] at eb
      cases eb
    sepB := fun p hp ho b eb => (List.mem_cons.mp hp).elim (fun z => by
      rw [z] at eb
      cases eb
      exact na) fun hp => J.sepB p (List.mem_cons_of_mem _ hp) ho b eb }
/-! ### slots wiped -/
def wipeD (δ : Dn) : List Nat → Dn
  | [] => δ
  | v :: vs => (wipeD δ vs).put v none
theorem Sim.clear (I : Sim K Γ L δ σ S H) (k : Nat) : Sim K Γ L (δ.put k none) (σ.set k none) S H := by
  have J := I.forget k
  have ne : ∀ {i : Nat} {s : Sv}, (δ.put k none).sl[i]? = some (some s) → (σ.set k none)[i]? = σ[i]? := fun {i s} e => by
    rcases get_set e with h | h
    · exact nomatch h.2.1
    · rw [List.getElem?_set, if_neg h.1]
  have mo : ∀ {t : Sv} {u : V}, (∀ j, t ≠ .ali j) → SlR K Γ L σ H t u → SlR K Γ L (σ.set k none) H t u := fun {t u} n h => by
    cases t with
    | ali j => exact absurd rfl (n j)
    | _ => exact h
  exact { J with
    len := by
      show (δ.sl.set k none).length = _
      rw [List.length_set, List.length_set]; exact I.len
    slot := fun i s e => let ⟨n, v, e1, e2⟩ := J.slot i s e; ⟨n, v, by rw [ne e]; exact e1, mo n e2⟩
    stk := fun p hp => mo (I.nal p hp) (J.stk p hp)
    sep := fun i j s t v n e1 e2 o1 o2 f => by rw [ne e1] at f; rw [ne e2]; exact J.sep i j s t v n e1 e2 o1 o2 f
    sepS := fun i s v e o f => by rw [ne e] at f; exact J.sepS i s v e o f
    sepA := fun i s a e o f => by rw [ne e] at f; exact J.sepA i s a e o f }
theorem Sim.wipe (I : Sim K Γ L δ σ S H) : ∀ vs : List Nat, Sim K Γ L (wipeD δ vs) (L2.wipe σ vs) S H
  | [] => I
  | v :: vs => (I.wipe vs).clear v
/-- a slot that was cleared, as it was before -/
theorem Sim.unclear {k : Nat} {x : Option V} (I : Sim K Γ L δ σ S H) (hd : ∀ s, δ.sl[k]? ≠ some (some s)) : Sim K Γ L δ (σ.set k x) S H := by
  have ne : ∀ {i : Nat} {s : Sv}, δ.sl[i]? = some (some s) → (σ.set k x)[i]? = σ[i]? := fun {i s} e => by
    rw [List.getElem?_set, if_neg]
    intro z
    subst z
    exact hd s e
  have mo : ∀ {t : Sv} {u : V}, (∀ j, t ≠ .ali j) → SlR K Γ L σ H t u → SlR K Γ L (σ.set k x) H t u := fun {t u} n h => by
    cases t with
    | ali j => exact absurd rfl (n j)
    | _ => exact h
  exact { I with
    len := by rw [List.length_set]; exact I.len
    slot := fun i s e => let ⟨n, v, e1, e2⟩ := I.slot i s e; ⟨n, v, by rw [ne e]; exact e1, mo n e2⟩
    stk := fun p hp => mo (I.nal p hp) (I.stk p hp)
    sep := fun i j s t v n e1 e2 o1 o2 f => by rw [ne e1] at f; rw [ne e2]; exact I.sep i j s t v n e1 e2 o1 o2 f
    sepS := fun i s v e o f => by rw [ne e] at f; exact I.sepS i s v e o f
    sepA := fun i s a e o f => by rw [ne e] at f; exact I.sepA i s a e o f }
theorem wipeD_at : ∀ {vs : List Nat} {k : Nat} {s : Sv}, k ∈ vs → (wipeD δ vs).sl[k]? ≠ some (some s)
  | v :: vs, k, s, h => by
    intro e
    rcases get_set e with z | z
    · exact nomatch z.2.1
    · rcases List.mem_cons.mp h with h | h
      · exact z.1 h.symm
      · exact wipeD_at h z.2
theorem wipe_get : ∀ (vs : List Nat) (k : Nat), k ∉ vs → (L2.wipe σ vs)[k]? = σ[k]?
  | [], _, _ => rfl
  | v :: vs, k, h => by
    show ((L2.wipe σ vs).set v none)[k]? = _
    rw [List.getElem?_set, if_neg fun z => h (by rw [← z]; exact List.mem_cons_self ..)]
    exact wipe_get vs k fun z => h (List.mem_cons_of_mem _ z)
theorem Sim.unwipe {vs : List Nat} (I : Sim K Γ L (wipeD δ vs) (L2.wipe σ vs) S H) : Sim K Γ L (wipeD δ vs) σ S H := by
  have ne : ∀ {i : Nat} {s : Sv}, (wipeD δ vs).sl[i]? = some (some s) → σ[i]? = (L2.wipe σ vs)[i]? := fun {i s} e => by
    by_cases h : i ∈ vs
    · exact absurd e (wipeD_at h)
    · exact (wipe_get vs i h).symm
  have mo : ∀ {t : Sv} {u : V}, (∀ j, t ≠ .ali j) → SlR K Γ L (L2.wipe σ vs) H t u → SlR K Γ L σ H t u := fun {t u} n h => by
    cases t with
    | ali j => exact absurd rfl (n j)
    | _ => exact h
  exact { I with
    len := by rw [I.len, L2.wipe_length]
    slot := fun i s e => let ⟨n, v, e1, e2⟩ := I.slot i s e; ⟨n, v, by rw [ne e]; exact e1, mo n e2⟩
    stk := fun p hp => mo (I.nal p hp) (I.stk p hp)
    sep := fun i j s t v n e1 e2 o1 o2 f => by rw [ne e1] at f; rw [ne e2]; exact I.sep i j s t v n e1 e2 o1 o2 f
    sepS := fun i s v e o f => by rw [ne e] at f; exact I.sepS i s v e o f
    sepA := fun i s a e o f => by rw [ne e] at f; exact I.sepA i s a e o f }
end
theorem Sim.thin {K : PySem.W.Frag} {Γ : Gm} {L : List Addr} {δ : Dn} {σ : L2.St} {S S' : List (Sv × V)} {H : Hp} (I : Sim K Γ L δ σ S H) (h : S'.Sublist S) : Sim K Γ L δ σ S' H :=
  { I with
    stk := fun p hp => I.stk p (h.subset hp)
    nal := fun p hp => I.nal p (h.subset hp)
    sepS := fun i s v e o ev p hp => I.sepS i s v e o ev p (h.subset hp)
    sepT := I.sepT.sublist h
    sepB := fun p hp => I.sepB p (h.subset hp) }
/-! ### iterables -/
/-- an item as it is given out: data, or a new pair of data -/
def ItR (K : PySem.W.Frag) (L : List Addr) (H : Hp) : Bool → PyData → V → Prop
  | false, d, x => Dv K L H d x
  | true, d, x => ∃ a x1 x2 d1 d2, d = .tuple [d1, d2] ∧ x = .ref a ∧ H a = some (.tup [x1, x2]) ∧ Dv K L H d1 x1 ∧ Dv K L H d2 x2
/-- J goes over ds; hs are kept on the stack meanwhile; wk: the items are new pairs -/
structure DIt (K : PySem.W.Frag) (Γ : Gm) (wk : Bool) (J : It) (hs : List (Sv × V)) (ds : List PyData) : Prop where
  go : ∀ {i : Nat} {L : List Addr} {δ : Dn} {σ : L2.St} {S : List (Sv × V)} {H : Hp}, Sim K Γ L δ σ S H → (∀ h ∈ hs, h ∈ S) → i < ds.length → J.go i H
  stop : ∀ {L : List Addr} {δ : Dn} {σ : L2.St} {S : List (Sv × V)} {H : Hp}, Sim K Γ L δ σ S H → (∀ h ∈ hs, h ∈ S) → J.stop ds.length H
  yld : ∀ {i : Nat} {L : List Addr} {δ : Dn} {σ : L2.St} {S : List (Sv × V)} {H H' : Hp} {x : V} {d : PyData}, Sim K Γ L δ σ S H → (∀ h ∈ hs, h ∈ S) → ds[i]? = some d → J.yld i H x H' → Fr [] H H' ∧ ItR K L H' wk d x
class DI (K : PySem.W.Frag) (Γ : Gm) (wi : TI) (wk : outParam Bool) (f : outParam (Dn → (List PyData → Dn → Prop) → Prop)) : Prop where
  run : ∀ {L : List Addr} {δ : Dn} {σ : L2.St} {S : List (Sv × V)} {H : Hp} {Φ : List PyData → Dn → Prop} {R : It → Hp → Prop}, Sim K Γ L δ σ S H → f δ Φ →
    (∀ ds L' δ' J hs H', Sim K Γ L' δ' σ (hs ++ S) H' → (∀ h ∈ hs, isOwn h.1 = false) → DIt K Γ wk J hs ds → Φ ds δ' → R J H') → wi σ H R
section
variable {K : PySem.W.Frag} {Γ : Gm}
theorem one_own {p : Sv × V} (n : isOwn p.1 = false) : ∀ h ∈ [p], isOwn h.1 = false := fun h hh => by cases List.mem_singleton.mp hh; exact n
theorem dit_tup {a : Addr} {ds : List PyData} : DIt K Γ false (Itt K a) [(.dat (.tuple ds), .ref a)] ds where
  go := fun I h hi => by
    obtain ⟨b, xs, e, t, r⟩ := I.stk _ (h _ (List.mem_singleton.mpr rfl))
    cases e
    exact ⟨xs, xs[_]'(by rw [r.len]; exact hi), t.sq, List.getElem?_eq_getElem _⟩
  stop := fun I h => by
    obtain ⟨b, xs, e, t, r⟩ := I.stk _ (h _ (List.mem_singleton.mpr rfl))
    cases e
    exact ⟨xs, t.sq, by rw [r.len]; exact Nat.le_refl _⟩
  yld := fun I h hd y => by
    obtain ⟨b, xs, e, t, r⟩ := I.stk _ (h _ (List.mem_singleton.mpr rfl))
    cases e
    obtain ⟨rfl, y2⟩ := y
    obtain ⟨w, e1, e2⟩ := r.get hd
    have e3 := y2 xs t.sq
    rw [e1] at e3
    cases e3
    exact ⟨.refl _ _, e2⟩
theorem dit_lst {a : Addr} {ds : List PyData} : DIt K Γ false (Itl K a) [(.dat (.list ds), .ref a)] ds where
  go := fun I h hi => by
    obtain ⟨b, xs, e, _, t, r⟩ := I.stk _ (h _ (List.mem_singleton.mpr rfl))
    cases e
    exact ⟨xs, xs[_]'(by rw [r.len]; exact hi), sqL_of t, List.getElem?_eq_getElem _⟩
  stop := fun I h => by
    obtain ⟨b, xs, e, _, t, r⟩ := I.stk _ (h _ (List.mem_singleton.mpr rfl))
    cases e
    exact ⟨xs, sqL_of t, by rw [r.len]; exact Nat.le_refl _⟩
  yld := fun I h hd y => by
    obtain ⟨b, xs, e, _, t, r⟩ := I.stk _ (h _ (List.mem_singleton.mpr rfl))
    cases e
    obtain ⟨rfl, y2⟩ := y
    obtain ⟨w, e1, e2⟩ := r.get hd
    have e3 := y2 xs (sqL_of t)
    rw [e1] at e3
    cases e3
    exact ⟨.refl _ _, e2⟩
/-- lo, lo + 1, .. -/
def rngD (lo : Int) (n : Nat) : List PyData := (List.range n).map fun (i : Nat) => .int (lo + i)
theorem dit_rng {lo : Int} {n : Nat} {hd : List (Sv × V)} : DIt K Γ false (Itr lo n) hd (rngD lo n) where
  go := fun {i L δ σ S H} _ _ hi => by show i < n; simpa [rngD] using hi
  stop := fun _ _ => by show n ≤ (rngD lo n).length; simp [rngD]
  yld := fun {i L δ σ S H H' x d} _ _ hd y => by
    obtain ⟨rfl, rfl⟩ := y
    have hi : i < n := by
      have := (List.getElem?_eq_some_iff.mp hd).1
      simpa [rngD] using this
    unfold rngD at hd
    rw [List.getElem?_map, List.getElem?_range hi] at hd
    cases hd
    exact ⟨.refl _ _, rfl⟩
instance {a : TE} {fa : Dn → (Sv → Dn → Prop) → Prop} [A : DE K Γ a fa] : DI K Γ (iTup K a) false (fun δ Φ => fa δ fun s δ1 => asD s δ1 fun x δ2 => onT x fun ds => Φ ds δ2) := ⟨fun {L δ σ S H Φ R} I h q => by
  refine DE.data (T := A) I h fun x L1 δ1 v H1 J h1 => ?_
  cases x with
  | tuple ds =>
    obtain ⟨a, xs, rfl, t, r⟩ := J.top
    exact ⟨a, rfl, ⟨xs, t.sq⟩, q ds L1 δ1 _ [_] H1 J (one_own rfl) dit_tup h1⟩
  | _ => exact h1.elim⟩
instance {a : TE} {fa : Dn → (Sv → Dn → Prop) → Prop} [A : DE K Γ a fa] : DI K Γ (iList K a) false (fun δ Φ => fa δ fun s δ1 => asD s δ1 fun x δ2 => onL x fun ds => Φ ds δ2) := ⟨fun {L δ σ S H Φ R} I h q => by
  refine DE.data (T := A) I h fun x L1 δ1 v H1 J h1 => ?_
  cases x with
  | list ds =>
    obtain ⟨a, xs, rfl, n, t, r⟩ := J.top
    exact ⟨a, rfl, ⟨xs, sqL_of t⟩, q ds L1 δ1 _ [_] H1 J (one_own rfl) dit_lst h1⟩
  | _ => exact h1.elim⟩
instance {a : TE} {fa : Dn → (Sv → Dn → Prop) → Prop} [A : DE K Γ a fa] : DI K Γ (iRng1 (tCons a tNil)) false (fun δ Φ => fa δ fun s δ1 => asD s δ1 fun x δ2 => onI x fun j => (-(2 ^ 62) ≤ j ∧ j < 2 ^ 62) ∧ Φ (rngD 0 j.toNat) δ2) := ⟨fun {L δ σ S H Φ R} I h q => by
  refine DE.data (T := A) I h fun x L1 δ1 v H1 J h1 => ?_
  obtain ⟨j, rfl, rfl, h2⟩ := onI_run J.top h1
  exact ⟨j, rfl, h2.1.1, h2.1.2, q _ L1 δ1 _ [_] H1 J (one_own rfl) dit_rng h2.2⟩⟩
instance {a b : TE} {fa fb : Dn → (Sv → Dn → Prop) → Prop} [A : DE K Γ a fa] [B : DE K Γ b fb] : DI K Γ (iRng2 (tCons a (tCons b tNil))) false (fun δ Φ => fa δ fun s δ1 => asD s δ1 fun x δ2 => fb δ2 fun t δ3 => asD t δ3 fun y δ4 => onI x fun i => onI y fun j => (-(2 ^ 62) ≤ i ∧ i < 2 ^ 62 ∧ -(2 ^ 62) ≤ j ∧ j < 2 ^ 62) ∧ Φ (rngD i (j - i).toNat) δ4) := ⟨fun {L δ σ S H Φ R} I h q => by
  refine DE.data (T := A) I h fun x L1 δ1 v H1 J h1 => DE.data (T := B) J h1 fun y L2' δ2 w H2 J2 h2 => ?_
  obtain ⟨i, rfl, rfl, h3⟩ := onI_run J2.pop.top h2
  obtain ⟨j, rfl, rfl, h4⟩ := onI_run J2.top h3
  exact ⟨i, j, rfl, h4.1, q _ L2' δ2 _ [] H2 J2.pop.pop (fun _ z => nomatch z) dit_rng h4.2⟩⟩
end
end B

/-! The data layer: targets, comprehensions. -/
namespace B
open PySem PySem.Spec PyProof.Rows L2
/-- the slots but ws are as they were -/
def But (ws : List Nat) (σ σ' : L2.St) : Prop := σ'.length = σ.length ∧ ∀ i, i ∉ ws → σ'[i]? = σ[i]?
theorem But.refl {ws : List Nat} {σ : L2.St} : But ws σ σ := ⟨rfl, fun _ _ => rfl⟩
theorem But.trans {ws us : List Nat} {σ σ1 σ2 : L2.St} (a : But ws σ σ1) (b : But us σ1 σ2) : But (ws ++ us) σ σ2 :=
  ⟨b.1.trans a.1, fun i h => (b.2 i fun z => h (List.mem_append_right _ z)).trans (a.2 i fun z => h (List.mem_append_left _ z))⟩
theorem wipe_in : ∀ {vs : List Nat} {σ : L2.St} {k : Nat}, k ∈ vs → k < σ.length → (L2.wipe σ vs)[k]? = some none
  | v :: vs, σ, k, h, hk => by
    show ((L2.wipe σ vs).set v none)[k]? = some none
    rw [List.getElem?_set]
    by_cases e : v = k
    · rw [if_pos e, if_pos (by rw [e, L2.wipe_length]; exact hk)]
    · rw [if_neg e]
      exact wipe_in ((List.mem_cons.mp h).resolve_left fun z => e z.symm) hk
theorem But.wipe {ws vs : List Nat} {σ σ' : L2.St} (a : But ws σ σ') (h : ∀ i ∈ ws, i ∈ vs) : L2.wipe σ' vs = L2.wipe σ vs := by
  apply List.ext_getElem?
  intro i
  by_cases hi : i ∈ vs
  · by_cases hl : i < σ.length
    · rw [wipe_in hi hl, wipe_in hi (by rw [a.1]; exact hl)]
    · rw [List.getElem?_eq_none (by rw [L2.wipe_length, a.1]; omega), List.getElem?_eq_none (by rw [L2.wipe_length]; omega)]
  · rw [wipe_get vs i hi, wipe_get vs i hi, a.2 i fun z => hi (h i z)]
/-- a target's reading: its transformer, the slots it writes -/
class DG (K : PySem.W.Frag) (Γ : Gm) (g : TG) (f : outParam (Sv → Dn → (Dn → Prop) → Prop)) (ws : outParam (List Nat)) : Prop where
  run : ∀ {L : List Addr} {δ : Dn} {σ : L2.St} {S : List (Sv × V)} {H : Hp} {s : Sv} {v : V} {k : Dn → Prop} {Z : L2.St → Hp → Prop}, Sim K Γ L δ σ ((s, v) :: S) H → f s δ k →
    (∀ L' δ' σ' H', Sim K Γ L' δ' σ' S H' → But ws σ σ' → k δ' → Z σ' H') → g v σ H Z
/-- many data on the stack -/
def dst : List PyData → List V → List (Sv × V)
  | d :: ds, v :: vs => (.dat d, v) :: dst ds vs
  | _, _ => []
/-- targets a, b, .. of data that lie on the stack -/
class DGk (K : PySem.W.Frag) (Γ : Gm) (g : TGs) (f : outParam (List PyData → Dn → (Dn → Prop) → Prop)) (ws : outParam (List Nat)) : Prop where
  run : ∀ {ds : List PyData} {vs : List V} {L : List Addr} {δ : Dn} {σ : L2.St} {S : List (Sv × V)} {H : Hp} {k : Dn → Prop} {Z : L2.St → Hp → Prop}, vs.length = ds.length → Sim K Γ L δ σ (dst ds vs ++ S) H → f ds δ k →
    (∀ L' δ' σ' H', Sim K Γ L' δ' σ' S H' → But ws σ σ' → k δ' → Z σ' H') → g vs σ H Z
/-- a tuple of data -/
def onTd (s : Sv) (k : List PyData → Prop) : Prop := match s with
  | .dat (.tuple ds) => k ds
  | _ => False
def oneD (ds : List PyData) (k : PyData → List PyData → Prop) : Prop := match ds with
  | d :: r => k d r
  | [] => False
section
variable {K : PySem.W.Frag} {Γ : Gm}
instance {i : Nat} : DG K Γ (gName i) (fun s δ k => k (δ.put i (some s))) [i] := ⟨fun {L δ σ S H s v k Z} I h q => q L _ _ H (I.store i) ⟨by rw [List.length_set], fun j hj => by
  rw [List.getElem?_set, if_neg fun z => hj (by rw [z]; exact List.mem_singleton.mpr rfl)]⟩ h⟩
theorem Sim.pushAll {L : List Addr} {δ : Dn} {σ : L2.St} {H : Hp} : ∀ {ds : List PyData} {vs : List V} {S : List (Sv × V)}, Sim K Γ L δ σ S H → Dvs K L H ds vs → Sim K Γ L δ σ (dst ds vs ++ S) H
  | [], _, _, I, h => by cases h; exact I
  | d :: ds, _, S, I, ⟨v, r, e, h1, h2⟩ => by
    cases e
    exact (Sim.pushAll I h2).dat h1
instance : DGk K Γ gNil (fun ds δ k => ds = [] ∧ k δ) [] := ⟨fun {ds vs L δ σ S H k Z} e I h q => by
  obtain ⟨rfl, h2⟩ := h
  cases vs with
  | nil => exact ⟨rfl, q L δ σ H I .refl h2⟩
  | cons _ _ => cases e⟩
instance {g : TG} {u : TGs} {f : Sv → Dn → (Dn → Prop) → Prop} {fu : List PyData → Dn → (Dn → Prop) → Prop} {ws us : List Nat} [G : DG K Γ g f ws] [U : DGk K Γ u fu us] : DGk K Γ (gCons g u) (fun ds δ k => oneD ds fun d r => f (.dat d) δ fun δ1 => fu r δ1 k) (ws ++ us) := ⟨fun {ds vs L δ σ S H k Z} e I h q => by
  cases ds with
  | nil => exact h.elim
  | cons d r =>
    cases vs with
    | nil => cases e
    | cons v vs => exact ⟨v, vs, rfl, G.run I h fun L1 δ1 σ1 H1 J b1 h1 => U.run (by simpa using e) J h1 fun L2 δ2 σ2 H2 J2 b2 h2 => q L2 δ2 σ2 H2 J2 (b1.trans b2) h2⟩⟩
instance {n : Nat} {t : TGs} {f : List PyData → Dn → (Dn → Prop) → Prop} {ws : List Nat} [G : DGk K Γ t f ws] : DG K Γ (gTup K n t) (fun s δ k => onTd s fun ds => ds.length = n ∧ f ds δ k) ws := ⟨fun {L δ σ S H s v k Z} I h q => by
  cases s with
  | dat d =>
    cases d with
    | tuple ds =>
      obtain ⟨a, xs, rfl, t, r⟩ := I.top
      have e := r.len
      exact ⟨a, xs, rfl, t.sq, by rw [e]; exact h.1, G.run e (I.pop.pushAll r) h.2 q⟩
    | _ => exact h.elim
  | _ => exact h.elim⟩
/-- a target of items as they are given out -/
class DGi (K : PySem.W.Frag) (Γ : Gm) (wk : Bool) (g : TG) (f : outParam (Sv → Dn → (Dn → Prop) → Prop)) (ws : outParam (List Nat)) : Prop where
  run : ∀ {L : List Addr} {δ : Dn} {σ : L2.St} {S : List (Sv × V)} {H : Hp} {d : PyData} {v : V} {k : Dn → Prop} {Z : L2.St → Hp → Prop}, Sim K Γ L δ σ S H → ItR K L H wk d v → f (.dat d) δ k →
    (∀ L' δ' σ' H', Sim K Γ L' δ' σ' S H' → But ws σ σ' → k δ' → Z σ' H') → g v σ H Z
instance {g : TG} {f : Sv → Dn → (Dn → Prop) → Prop} {ws : List Nat} [G : DG K Γ g f ws] : DGi K Γ false g f ws := ⟨fun I r h q => G.run (I.dat r) h q⟩
instance {n : Nat} {t : TGs} {f : List PyData → Dn → (Dn → Prop) → Prop} {ws : List Nat} [G : DGk K Γ t f ws] : DGi K Γ true (gTup K n t) (fun s δ k => onTd s fun ds => ds.length = n ∧ f ds δ k) ws := ⟨fun {L δ σ S H d v k Z} I r h q => by
  obtain ⟨a, x1, x2, d1, d2, rfl, rfl, e, h1, h2⟩ := r
  have h : [d1, d2].length = n ∧ f [d1, d2] δ k := h
  exact ⟨a, [x1, x2], rfl, sqT_of e, h.1, G.run (ds := [d1, d2]) rfl (I.pushAll (ds := [d1, d2]) (vs := [x1, x2]) ⟨x1, [x2], rfl, h1, x2, [], rfl, h2, rfl⟩) h.2 q⟩⟩
/-! ### comprehensions -/
def lcD (fg : Sv → Dn → (Dn → Prop) → Prop) (ft : Dn → (Bool → Dn → Prop) → Prop) (fe : Dn → (Sv → Dn → Prop) → Prop) (vs : List Nat) (Φ : List PyData → Dn → Prop) : List PyData → List PyData → Dn → Prop
  | [], acc, δ => Φ acc (wipeD δ vs)
  | d :: ds, acc, δ => fg (.dat d) (wipeD δ vs) fun δ1 => ft δ1 fun b δ2 => bif b then fe δ2 fun s δ3 => asD s δ3 fun y δ4 => acc.length < 1000000 ∧ lcD fg ft fe vs Φ ds (acc ++ [y]) δ4 else lcD fg ft fe vs Φ ds acc δ2
theorem Sim.wiped {L : List Addr} {δ : Dn} {σ σ2 : L2.St} {S : List (Sv × V)} {H : Hp} {vs : List Nat} (I : Sim K Γ L δ σ2 S H) (e : L2.wipe σ2 vs = L2.wipe σ vs) : Sim K Γ L (wipeD δ vs) (L2.wipe σ vs) S H := by
  have := I.wipe vs
  rw [e] at this
  exact this
instance {wk : Bool} {wi : TI} {g : TG} {tt : TT} {te : TE} {vs : List Nat} {fi : Dn → (List PyData → Dn → Prop) → Prop} {fg : Sv → Dn → (Dn → Prop) → Prop} {ws : List Nat} {ft : Dn → (Bool → Dn → Prop) → Prop} {fe : Dn → (Sv → Dn → Prop) → Prop}
    [Ii : DI K Γ wi wk fi] [G : DGi K Γ wk g fg ws] [Tt : DT K Γ tt ft] [E : DE K Γ te fe] :
    DE K Γ (tLc wi g tt te vs) (fun δ Φ => (ws.all fun i => vs.contains i) = true ∧ fi δ fun ds δ1 => lcD fg ft fe vs (fun out δ2 => Φ (.own out) δ2) ds [] δ1) := ⟨fun {L δ σ S H Φ Q} I h q => by
  obtain ⟨hw, h⟩ := h
  have hws : ∀ i ∈ ws, i ∈ vs := fun i hi => by
    have := List.all_eq_true.mp hw i hi
    simpa using this
  refine Ii.run I h fun ds L1 δ1 J hz H1 I1 hno It h1 D nD => ?_
  have I2 : Sim K Γ (D :: L1) δ1 σ ((.own [], .ref D) :: (hz ++ S)) (upd H1 D (.lst [])) := I1.new nD rfl
  refine ⟨fun i m H2 => m = ds.length - i ∧ i ≤ ds.length ∧ ∃ M2 δ2 acc, Sim K Γ M2 (wipeD δ2 vs) (L2.wipe σ vs) ((.own acc, .ref D) :: (hz ++ S)) H2 ∧ lcD fg ft fe vs (fun out δ2 => Φ (.own out) δ2) (ds.drop i) acc δ2,
    ⟨ds.length, by simp, Nat.zero_le _, _, δ1, [], I2.wipe vs, h1⟩, ?_⟩
  rintro i m H2 ⟨rfl, hi, M2, δ2, acc, J2, h2⟩
  have hm : ∀ h ∈ hz, h ∈ (Sv.own acc, V.ref D) :: (hz ++ S) := fun h hh => List.mem_cons_of_mem _ (List.mem_append_left _ hh)
  by_cases hlt : i < ds.length
  · refine .inr ⟨It.go J2 hm hlt, fun H' => i + 1 ≤ ds.length ∧ ∃ M2 δ2 acc, Sim K Γ M2 (wipeD δ2 vs) (L2.wipe σ vs) ((.own acc, .ref D) :: (hz ++ S)) H' ∧ lcD fg ft fe vs (fun out δ2 => Φ (.own out) δ2) (ds.drop (i + 1)) acc δ2,
      fun H' q' => ⟨ds.length - (i + 1), by omega, rfl, q'⟩, fun x H3 y => ?_⟩
    have ed : ds.drop i = ds[i] :: ds.drop (i + 1) := List.drop_eq_getElem_cons hlt
    rw [ed] at h2
    obtain ⟨f3, dx⟩ := It.yld J2 hm (List.getElem?_eq_getElem hlt) y
    refine G.run (J2.more f3) dx h2 fun L4 δ4 σ4 H4 J4 b4 h4 => ?_
    have e4 : L2.wipe σ4 vs = L2.wipe σ vs := by
      rw [b4.wipe hws]
      exact (But.wipe (ws := vs) ⟨L2.wipe_length _ _, fun j hj => wipe_get vs j hj⟩ fun _ z => z)
    refine ⟨e4, ?_⟩
    refine Tt.run J4 h4 fun b L5 δ5 H5 J5 h5 => ?_
    cases b with
    | true =>
      refine iteT (DE.data (T := E) J5 h5 fun y L6 δ6 w H6 J6 h6 => ?_)
      obtain ⟨a, xs, ea, _, _, h3, hx⟩ := J6.pop.top
      cases ea
      have el := hx.len
      have hs := sizeLine_eq
      refine ⟨xs, h3, by omega, by omega, L6, δ6, acc ++ [y], (J6.append h3).wiped e4, h6.2⟩
    | false => exact iteF ⟨by omega, L5, δ5, acc, J5.wiped e4, h5⟩
  · have e : i = ds.length := by omega
    subst e
    rw [List.drop_length] at h2
    exact .inl ⟨It.stop J2 hm, q (.own acc) M2 _ _ H2 (J2.unwipe.thin (List.Sublist.cons_cons _ (List.sublist_append_right _ _))) h2⟩⟩
end
end B

/-! The data layer: statements, calls. -/
namespace B
open PySem PySem.Spec PyProof.Rows L2
/-- what is wanted behind a statement -/
structure Dk where
  nx : Dn → Prop
  rt : Al → Sv → Prop
  bk : Dn → Prop := fun _ => False
  ct : Dn → Prop := fun _ => False
structure DkR (K : PySem.W.Frag) (Γ : Gm) (S : List (Sv × V)) (Ψ : Dk) (D : Ends) : Prop where
  nx : ∀ {L : List Addr} {δ : Dn} {σ : L2.St} {H : Hp}, Sim K Γ L δ σ S H → Ψ.nx δ → D.nx σ H
  bk : ∀ {L : List Addr} {δ : Dn} {σ : L2.St} {H : Hp}, Sim K Γ L δ σ S H → Ψ.bk δ → D.bk σ H
  ct : ∀ {L : List Addr} {δ : Dn} {σ : L2.St} {H : Hp}, Sim K Γ L δ σ S H → Ψ.ct δ → D.ct σ H
  rt : ∀ {L : List Addr} {δ : Dn} {σ : L2.St} {T : List (Sv × V)} {s : Sv} {v : V} {H : Hp}, Sim K Γ L δ σ ((s, v) :: T) H → isOwn s = false → Ψ.rt δ.al s → D.rt v H
class DS (K : PySem.W.Frag) (Γ : Gm) (t : TS) (f : outParam (Dn → Dk → Prop)) : Prop where
  run : ∀ {L : List Addr} {δ : Dn} {σ : L2.St} {S : List (Sv × V)} {H : Hp} {Ψ : Dk} {D : Ends}, Sim K Γ L δ σ S H → f δ Ψ → DkR K Γ S Ψ D → t D σ H
/-- to be stored: a list that another slot owns is let go -/
def asS (s : Sv) (δ : Dn) (k : Sv → Dn → Prop) : Prop :=
  match s with
  | .ali i => asD (.ali i) δ fun d δ' => k (.dat d) δ'
  | s => k s δ
section
variable {K : PySem.W.Frag} {Γ : Gm}
section
variable {L : List Addr} {δ : Dn} {σ : L2.St} {S : List (Sv × V)} {H H' : Hp} {s : Sv} {v : V}
theorem Top.sto {k : Sv → Dn → Prop} (T : Top K Γ L δ σ S H s v) (h : asS s δ k) : ∃ L' δ' t, Sim K Γ L' δ' σ ((t, v) :: S) H ∧ k t δ' := by
  cases s with
  | ali i =>
    obtain ⟨L', δ', d, J, q⟩ := T.dat (s := .ali i) (k := fun d δ' => k (.dat d) δ') h
    exact ⟨L', δ', _, J, q⟩
  | _ => exact ⟨L, δ, _, T, h⟩
theorem Top.drop (T : Top K Γ L δ σ S H s v) : Sim K Γ L δ σ S H := by
  cases s with
  | ali i => exact T.1
  | _ => exact Sim.pop T
/-- what slot k owns goes to the stack -/
theorem Sim.lend {ds : List PyData} {k : Nat} (I : Sim K Γ L δ σ S H) (hd : δ.sl[k]? = some (some (.own ds))) (hv : σ[k]? = some (some v)) : Sim K Γ L (δ.put k none) σ ((.own ds, v) :: S) H := by
  obtain ⟨_, w, e1, e2⟩ := I.slot k _ hd
  rw [hv] at e1
  cases e1
  have J := I.forget k
  exact { J with
    stk := fun p hp => (List.mem_cons.mp hp).elim (fun z => by rw [z]; exact e2) (J.stk p)
    nal := fun p hp => (List.mem_cons.mp hp).elim (fun z j => by rw [z]; exact fun z => (nomatch z)) (J.nal p)
    sepS := fun i s u e o ev p hp ho => (List.mem_cons.mp hp).elim (fun z => by
      rw [z]
      rcases get_set e with h | h
      · exact nomatch h.2.1
      · intro y
        have y' : v = u := y
        subst y'
        exact I.sep k i (.own ds) s v h.1 hd h.2 rfl o hv ev) fun hp => J.sepS i s u e o ev p hp ho
    sepT := List.pairwise_cons.mpr ⟨fun p hp _ o z => I.sepS k _ v hd rfl hv p hp o z.symm, J.sepT⟩
    sepB := fun p hp ho a ea => (List.mem_cons.mp hp).elim (fun z => by
      rw [z] at ea
      have ea' : v = .ref a := ea
      exact I.sepA k _ a hd rfl (ea' ▸ hv)) fun hp => J.sepB p hp ho a ea }
/-- and back -/
theorem Sim.back {ds : List PyData} {k : Nat} (I : Sim K Γ L δ σ ((.own ds, v) :: S) H) (hv : σ[k]? = some (some v)) : Sim K Γ L (δ.put k (some (.own ds))) σ S H := by
  have J := I.store k
  have e : σ.set k (some v) = σ := by
    apply List.ext_getElem?
    intro i
    rw [List.getElem?_set]
    by_cases z : k = i
    · subst z
      have hl := (List.getElem?_eq_some_iff.mp hv).1
      rw [if_pos rfl, if_pos hl, hv]
    · rw [if_neg z]
  rw [e] at J
  exact J
end
instance : DS K Γ tNext (fun δ Ψ => Ψ.nx δ) := ⟨fun {L δ σ S H Ψ D} I h q => q.nx I h⟩
instance : DS K Γ tNever (fun _ _ => False) := ⟨fun {L δ σ S H Ψ D} I h q => h⟩
instance : DS K Γ tCont (fun δ Ψ => Ψ.ct δ) := ⟨fun {L δ σ S H Ψ D} I h q => q.ct I h⟩
instance : DS K Γ tBreak (fun δ Ψ => Ψ.bk δ) := ⟨fun {L δ σ S H Ψ D} I h q => q.bk I h⟩
instance {t u : TS} {ft fu : Dn → Dk → Prop} [T : DS K Γ t ft] [U : DS K Γ u fu] : DS K Γ (tSeq t u) (fun δ Ψ => ft δ { Ψ with nx := fun δ' => fu δ' Ψ }) := ⟨fun {L δ σ S H Ψ D} I h q =>
  T.run I h ⟨fun J hj => U.run J hj q, q.bk, q.ct, q.rt⟩⟩
instance {e : TE} {fe : Dn → (Sv → Dn → Prop) → Prop} [E : DE K Γ e fe] : DS K Γ (tRet e) (fun δ Ψ => fe δ fun s δ1 => asA s δ1 fun t δ2 => Ψ.rt δ2.al t) := ⟨fun {L δ σ S H Ψ D} I h q =>
  E.run I h fun s L1 δ1 v H1 T h1 => by
    obtain ⟨L2, δ2, t, J, n, h2⟩ := T.arg h1
    exact q.rt J n h2⟩
instance : DS K Γ tRetN (fun δ Ψ => Ψ.rt δ.al (.dat .none)) := ⟨fun {L δ σ S H Ψ D} I h q => q.rt (I.dat (d := .none) (v := .non) rfl) rfl h⟩
instance {e : TE} {g : TG} {fe : Dn → (Sv → Dn → Prop) → Prop} {fg : Sv → Dn → (Dn → Prop) → Prop} {ws : List Nat} [E : DE K Γ e fe] [G : DG K Γ g fg ws] : DS K Γ (tAsg e g) (fun δ Ψ => fe δ fun s δ1 => asS s δ1 fun t δ2 => fg t δ2 Ψ.nx) := ⟨fun {L δ σ S H Ψ D} I h q =>
  E.run I h fun s L1 δ1 v H1 T h1 => by
    obtain ⟨L2, δ2, t, J, h2⟩ := T.sto h1
    exact G.run J h2 fun L3 δ3 σ3 H3 J3 _ h3 => q.nx J3 h3⟩
instance {c : TT} {t u : TS} {fc : Dn → (Bool → Dn → Prop) → Prop} {ft fu : Dn → Dk → Prop} [C : DT K Γ c fc] [T : DS K Γ t ft] [U : DS K Γ u fu] : DS K Γ (tIfS c t u) (fun δ Ψ => fc δ fun b δ1 => bif b then ft δ1 Ψ else fu δ1 Ψ) := ⟨fun {L δ σ S H Ψ D} I h q =>
  C.run I h fun b L1 δ1 H1 J h1 => by
    cases b with
    | true => exact iteT (T.run J h1 q)
    | false => exact iteF (U.run J h1 q)⟩
/-- x.append(e) -/
instance (priority := 2000) {i : Nat} {e : TE} {fe : Dn → (Sv → Dn → Prop) → Prop} [E : DE K Γ e fe] : DS K Γ (tDrop (tBM K "list" rAppend (tVar i) (tCons e tNil))) (fun δ Ψ => match δ.at_ i with
    | some (.own _) => fe δ fun s δ1 => asD s δ1 fun y δ2 => match δ2.at_ i with
      | some (.own ds) => ds.length < 1000000 ∧ Ψ.nx (δ2.put i (some (.own (ds ++ [y]))))
      | _ => False
    | _ => False) := ⟨fun {L δ σ S H Ψ D} I h q => by
  split at h
  · rename_i ds0 e0
    obtain ⟨_, w, e1, a, xs, rfl, _, _, e2, _⟩ := I.slot i _ (at_some e0)
    refine ⟨.ref a, e1, .inl ⟨rfl, _, sqL_of e2⟩, DE.data (T := E) I h fun y L1 δ1 v H1 J h1 => ?_⟩
    split at h1
    · rename_i ds e3
      have hd := at_some e3
      have J1 := J.pop.lend hd e1
      obtain ⟨b, ys, eb, b1, b2, b3, b4⟩ := J1.top
      cases eb
      have el := b4.len
      have hs := sizeLine_eq
      refine ⟨a, ys, v, rfl, rfl, b3, by omega, q.nx (L := L1) ?_ h1.2⟩
      have tp : SlR K Γ L1 σ H1 (.dat y) v := J.top
      have J2 := ((J1.dat (d := y) tp).append b3).back e1
      rw [put_put] at J2
      exact J2
    · exact h1.elim
  · exact h.elim⟩
instance {e : TE} {fe : Dn → (Sv → Dn → Prop) → Prop} [E : DE K Γ e fe] : DS K Γ (tDrop e) (fun δ Ψ => fe δ fun s δ1 => Ψ.nx δ1) := ⟨fun {L δ σ S H Ψ D} I h q =>
  E.run I h fun s L1 δ1 v H1 T h1 => q.nx T.drop h1⟩
/-- a, b = x, y -/
instance {i j : Nat} {a b : TE} {fa fb : Dn → (Sv → Dn → Prop) → Prop} [A : DE K Γ a fa] [B : DE K Γ b fb] : DS K Γ (tPar i j (tCons a (tCons b tNil))) (fun δ Ψ => i ≠ j ∧ fa δ fun s δ1 => asS s δ1 fun s1 δ2 => fb δ2 fun t δ3 => asS t δ3 fun t1 δ4 => Ψ.nx ((δ4.put i (some s1)).put j (some t1))) := ⟨fun {L δ σ S H Ψ D} I h q => by
  obtain ⟨ne, h⟩ := h
  refine A.run I h fun s L1 δ1 v H1 T h1 => ?_
  obtain ⟨L2', δ2, s1, J2, h2⟩ := T.sto h1
  refine B.run J2 h2 fun t L3 δ3 w H3 T3 h3 => ?_
  obtain ⟨L4, δ4, t1, J4, h4⟩ := T3.sto h3
  have J5 := (J4.store j).store i
  rw [put_comm _ _ (Ne.symm ne), List.set_comm (l := σ) _ _ (Ne.symm ne)] at J5
  exact ⟨v, w, rfl, q.nx J5 h4⟩⟩
/-- for -/
def forD (fg : Sv → Dn → (Dn → Prop) → Prop) (fb : Dn → Dk → Prop) (Ψ : Dk) : List PyData → Dn → Prop
  | [], δ => Ψ.nx δ
  | d :: ds, δ => fg (.dat d) δ fun δ1 => fb δ1 { Ψ with nx := forD fg fb Ψ ds, ct := forD fg fb Ψ ds, bk := Ψ.nx }
theorem Sim.under {L : List Addr} {δ : Dn} {σ : L2.St} {S : List (Sv × V)} {H : Hp} {hd : Sv × V} (I : Sim K Γ L δ σ (hd :: S) H) : Sim K Γ L δ σ S H := I.pop
instance {wk : Bool} {wi : TI} {g : TG} {tb : TS} {fi : Dn → (List PyData → Dn → Prop) → Prop} {fg : Sv → Dn → (Dn → Prop) → Prop} {ws : List Nat} {fb : Dn → Dk → Prop} [Ii : DI K Γ wi wk fi] [G : DGi K Γ wk g fg ws] [Bd : DS K Γ tb fb] :
    DS K Γ (tFor wi g tb) (fun δ Ψ => fi δ fun ds δ1 => forD fg fb Ψ ds δ1) := ⟨fun {L δ σ S H Ψ D} I h q => by
  refine Ii.run I h fun ds L1 δ1 J hz H1 I1 hno It h1 => ?_
  have th : ∀ {L : List Addr} {δ : Dn} {σ : L2.St} {H : Hp}, Sim K Γ L δ σ (hz ++ S) H → Sim K Γ L δ σ S H := fun J => J.thin (List.sublist_append_right _ _)
  refine ⟨fun i m σ H2 => m = ds.length - i ∧ i ≤ ds.length ∧ ∃ L2 δ2, Sim K Γ L2 δ2 σ (hz ++ S) H2 ∧ forD fg fb Ψ (ds.drop i) δ2, ⟨ds.length, by simp, Nat.zero_le _, _, δ1, I1, h1⟩, ?_⟩
  rintro i m σ2 H2 ⟨rfl, hi, L2, δ2, J2, h2⟩
  have hm : ∀ h ∈ hz, h ∈ hz ++ S := fun h hh => List.mem_append_left _ hh
  by_cases hlt : i < ds.length
  · refine .inr ⟨It.go J2 hm hlt, fun σ' H' => i + 1 ≤ ds.length ∧ ∃ L2 δ2, Sim K Γ L2 δ2 σ' (hz ++ S) H' ∧ forD fg fb Ψ (ds.drop (i + 1)) δ2, fun σ' H' q' => ⟨ds.length - (i + 1), by omega, rfl, q'⟩, fun x H3 y => ?_⟩
    rw [List.drop_eq_getElem_cons hlt] at h2
    obtain ⟨f3, dx⟩ := It.yld J2 hm (List.getElem?_eq_getElem hlt) y
    refine G.run (J2.more f3) dx h2 fun L4 δ4 σ4 H4 J4 _ h4 => Bd.run J4 h4 ⟨fun J5 h5 => ⟨by omega, _, _, J5, h5⟩, fun J5 h5 => q.nx (th J5) h5, fun J5 h5 => ⟨by omega, _, _, J5, h5⟩, q.rt⟩
  · have e : i = ds.length := by omega
    subst e
    rw [List.drop_length] at h2
    exact .inl ⟨It.stop J2 hm, q.nx (th J2) h2⟩⟩
/-- while -/
instance {c : TT} {tb : TS} {fc : Dn → (Bool → Dn → Prop) → Prop} {fb : Dn → Dk → Prop} [C : DT K Γ c fc] [Bd : DS K Γ tb fb] :
    DS K Γ (tWhile c tb) (fun δ Ψ => ∃ W : Nat → Dn → Prop, (∃ m, W m δ) ∧ ∀ m δ, W m δ → fc δ fun b δ1 => bif b then fb δ1 { Ψ with nx := fun δ2 => ∃ m', m' < m ∧ W m' δ2, ct := fun δ2 => ∃ m', m' < m ∧ W m' δ2, bk := Ψ.nx } else Ψ.nx δ1) := ⟨fun {L δ σ S H Ψ D} I h q => by
  obtain ⟨W, ⟨m0, w0⟩, turn⟩ := h
  refine ⟨fun m σ H => ∃ L δ, Sim K Γ L δ σ S H ∧ W m δ, ⟨m0, L, δ, I, w0⟩, ?_⟩
  rintro m σ1 H1 ⟨L1, δ1, J1, w1⟩
  refine C.run J1 (turn m δ1 w1) fun b L2 δ2 H2 J2 h2 => ?_
  cases b with
  | true => exact iteT ⟨fun σ' H' => ∃ L δ m', m' < m ∧ Sim K Γ L δ σ' S H' ∧ W m' δ, fun σ' H' ⟨L, δ, m', hm, J, hw⟩ => ⟨m', hm, L, δ, J, hw⟩,
      Bd.run J2 h2 ⟨fun J ⟨m', hm, hw⟩ => ⟨_, _, m', hm, J, hw⟩, fun J hb => q.nx J hb, fun J ⟨m', hm, hw⟩ => ⟨_, _, m', hm, J, hw⟩, q.rt⟩⟩
  | false => exact iteF (q.nx J2 h2)⟩
end
/-! ### promises by transformers -/
/-- a def's promise: its transformer of the arguments, no known object asked -/
def spD (K : PySem.W.Frag) (n : Nat) (g : List Sv → (PyData → Prop) → Prop) : Sp := fun vs H Q _ => vs.length = n ∧ ∃ (L P : List Addr) (as : List Sv) (Φ : PyData → Prop), (∀ p ∈ P, p ∈ L) ∧ (∀ a ∈ L, H a ≠ none) ∧ (∀ p ∈ P, Pen H p) ∧
  AR K ⟨P, P, L, H⟩ L H as vs ∧ g as Φ ∧ ∀ d v H', Fr P H H' → (∀ p ∈ P, Pen H' p) → Dv K L H' d v → Φ d → Q v H'
/-- a def's promise: its transformer of the known objects and the arguments -/
def spH (K : PySem.W.Frag) (n : Nat) (g : Al → List Sv → (Al → Sv → Prop) → Prop) : Sp := fun vs H Q _ => vs.length = n ∧ ∃ (L W P : List Addr) (al : Al) (as : List Sv) (Φ : Al → Sv → Prop),
  (∀ p ∈ P, p ∈ W) ∧ (∀ p ∈ W, p ∈ L) ∧ (∀ a ∈ L, H a ≠ none) ∧ (∀ p ∈ P, Pen H p) ∧ (∀ a o, al a = some o → (a ∈ W ∧ a ∉ P) ∧ ObR K L H a o) ∧ AR K ⟨P, W, L, H⟩ L H as vs ∧ g al as Φ ∧
  ∀ L' al' s v H', Fr W H H' → (∀ p ∈ P, Pen H' p) → (∀ a ∈ L, a ∈ L') → (∀ a ∈ L', H' a ≠ none) → (∀ a ∈ L', a ∈ L ∨ H a = none) → (∀ a o, al' a = some o → (a ∈ L' ∧ a ∉ P ∧ (a ∈ W ∨ H a = none)) ∧ ObR K L' H' a o) →
    SlR K ⟨P, W, L, H⟩ L' [] H' s v → isOwn s = false → (∀ j, s ≠ .ali j) → Φ al' s → Q v H'
theorem AR.len {K : PySem.W.Frag} {Γ : Gm} {L : List Addr} {H : Hp} : ∀ {ss : List Sv} {vs : List V}, AR K Γ L H ss vs → vs.length = ss.length
  | [], _, h => by cases h; rfl
  | _ :: _, _, ⟨v, r, e, _, _, _, h⟩ => by cases e; show r.length + 1 = _ + 1; rw [h.len]
theorem AR.swap {K : PySem.W.Frag} {Γ Γ' : Gm} (hP : Γ.P = Γ'.P) {L : List Addr} {H : Hp} : ∀ {ss : List Sv} {vs : List V}, AR K Γ L H ss vs → AR K Γ' L H ss vs
  | [], _, h => h
  | s :: ss, _, ⟨v, r, e, h1, h2, h3, h4⟩ => ⟨v, r, e, by
    cases s with
    | own ds => cases h2
    | pen p => exact ⟨h1.1, hP ▸ h1.2⟩
    | _ => exact h1, h2, h3, h4.swap hP⟩
theorem AR.at {K : PySem.W.Frag} {Γ : Gm} {L : List Addr} {H : Hp} {σ : L2.St} : ∀ {ss : List Sv} {vs : List V} {i : Nat} {s : Sv}, AR K Γ L H ss vs → ss[i]? = some s → (∀ j, s ≠ .ali j) ∧ isOwn s = false ∧ ∃ v, vs[i]? = some v ∧ SlR K Γ L σ H s v
  | [], _, _, _, _, e => by simp at e
  | s :: ss, _, 0, t, ⟨v, r, e1, h1, h2, h3, _⟩, e => by
    cases e1
    simp at e
    subst e
    refine ⟨h3, h2, v, rfl, ?_⟩
    cases s with
    | ali j => exact absurd rfl (h3 j)
    | _ => exact h1
  | s :: ss, _, i + 1, t, ⟨v, r, e1, _, _, _, h4⟩, e => by
    cases e1
    obtain ⟨a, b, w, c, d⟩ := h4.at (σ := σ) (i := i) (s := t) (by simpa using e)
    exact ⟨a, b, w, by simpa using c, d⟩
/-- the environment at a def's entry -/
def startS (n : Nat) (as : List Sv) : List (Option Sv) := as.map some ++ List.replicate (n - as.length) none
theorem sim_start {K : PySem.W.Frag} {P W L : List Addr} {H : Hp} {N : List Str} {al : Al} {as : List Sv} {vs : List V} (h1 : ∀ p ∈ P, p ∈ W) (h1' : ∀ p ∈ W, p ∈ L) (h2 : ∀ a ∈ L, H a ≠ none) (h3 : ∀ p ∈ P, Pen H p)
    (h4 : ∀ a o, al a = some o → (a ∈ W ∧ a ∉ P) ∧ ObR K L H a o) (ar : AR K ⟨P, W, L, H⟩ L H as vs) :
    Sim K ⟨P, W, L, H⟩ L ⟨startS N.length as, al⟩ (L2.start N vs) [] H := by
  have el := ar.len
  have at_ : ∀ {i : Nat} {s : Sv}, (startS N.length as)[i]? = some (some s) → as[i]? = some s := fun {i s} e => by
    unfold startS at e
    by_cases hi : i < as.length
    · rw [List.getElem?_append_left (by simpa using hi), List.getElem?_map] at e
      cases e2 : as[i]? with
      | none => rw [e2] at e; cases e
      | some t => rw [e2] at e; cases e; rfl
    · rw [List.getElem?_append_right (by simpa using hi), List.getElem?_replicate] at e
      split at e <;> cases e
  have st : ∀ {i : Nat} {v : V}, vs[i]? = some v → (L2.start N vs)[i]? = some (some v) := fun {i v} e => by
    unfold L2.start
    have hi := (List.getElem?_eq_some_iff.mp e).1
    rw [List.getElem?_append_left (by simpa using hi), List.getElem?_map, e]
    rfl
  have no : ∀ {i : Nat} {s : Sv}, (startS N.length as)[i]? = some (some s) → isOwn s = true → False := fun e o => by
    obtain ⟨_, b, _⟩ := ar.at (σ := L2.start N vs) (at_ e)
    rw [o] at b
    cases b
  exact {
    fr := .refl _ _, pens := h3, pin := h1, win := h1', sub := fun _ z => z, live := h2, old := fun _ z => .inl z
    len := by
      show (startS N.length as).length = _
      unfold startS L2.start
      rw [List.length_append, List.length_append, List.length_map, List.length_map, List.length_replicate, List.length_replicate, el]
    slot := fun i s e => let ⟨a, _, v, c, d⟩ := ar.at (σ := L2.start N vs) (at_ e); ⟨a, v, st c, d⟩
    stk := fun _ z => nomatch z
    nal := fun _ z => nomatch z
    sep := fun i j s t v n e1 e2 o => (no e1 o).elim
    sepS := fun _ _ _ _ _ _ _ z => nomatch z
    sepT := List.Pairwise.nil
    obj := fun a o e => let ⟨q1, q2⟩ := h4 a o e; ⟨⟨h1' a q1.1, q1.2, .inl q1.1⟩, q2⟩
    sepA := fun i s a e o => (no e o).elim
    sepB := fun _ z => nomatch z }
def onD (s : Sv) (k : PyData → Prop) : Prop := match s with
  | .dat d => k d
  | _ => False
/-- THE RULE: a def's body by its transformer -/
theorem run_D {K : PySem.W.Frag} {n : Nat} {N : List Str} {t : TS} {f : Gm → Dn → Dk → Prop} {g : List Sv → (PyData → Prop) → Prop} [T : ∀ Γ, DS K Γ t (f Γ)] {vs : List V} {H : Hp} {Q : VK} {E : XK} (h : spD K n g vs H Q E)
    (hg : ∀ (Γ : Gm) (as : List Sv) (Φ : PyData → Prop), g as Φ → f Γ ⟨startS N.length as, fun _ => none⟩ { nx := fun _ => Φ .none, rt := fun _ s => onD s Φ }) : t { nx := fun _ H' => Q .non H', rt := Q } (L2.start N vs) H := by
  obtain ⟨_, L, P, as, Φ, h1, h2, h3, ar, hgs, q⟩ := h
  refine (T ⟨P, P, L, H⟩).run (sim_start (fun _ z => z) h1 h2 h3 (fun a o z => nomatch (show (none : Option Ob) = some o from z)) ar) (hg ⟨P, P, L, H⟩ as Φ hgs) ⟨fun J hj => q .none .non _ J.fr J.pens rfl hj, fun _ z => z.elim, fun _ z => z.elim, fun {L2' δ σ T s v H2} J n h1 => ?_⟩
  cases s with
  | dat d => exact q _ _ _ J.fr J.pens (Dv.sub (fun a ha => .inl (J.sub a ha)) J.top) h1
  | pen p => exact h1.elim
  | own p => exact h1.elim
  | ali p => exact h1.elim
  | fn p => exact h1.elim
  | ref p => exact h1.elim
theorem run_H {K : PySem.W.Frag} {n : Nat} {N : List Str} {t : TS} {f : Gm → Dn → Dk → Prop} {g : Al → List Sv → (Al → Sv → Prop) → Prop} [T : ∀ Γ, DS K Γ t (f Γ)] {vs : List V} {H : Hp} {Q : VK} {E : XK} (h : spH K n g vs H Q E)
    (hg : ∀ (Γ : Gm) (al : Al) (as : List Sv) (Φ : Al → Sv → Prop), g al as Φ → f Γ ⟨startS N.length as, al⟩ { nx := fun δ => ∃ al', Sub al' δ.al ∧ Φ al' (.dat .none), rt := fun al2 s => ∃ al', Sub al' al2 ∧ Φ al' s }) : t { nx := fun _ H' => Q .non H', rt := Q } (L2.start N vs) H := by
  obtain ⟨_, L, W, P, al, as, Φ, h1, h1', h2, h3, h4, ar, hgs, q⟩ := h
  have fin : ∀ {L2' : List Addr} {δ : Dn} {σ : L2.St} {T : List (Sv × V)} {s : Sv} {v : V} {H2 : Hp}, Sim K ⟨P, W, L, H⟩ L2' δ σ ((s, v) :: T) H2 → isOwn s = false → (∃ al', Sub al' δ.al ∧ Φ al' s) → Q v H2 := fun {L2' δ σ T s v H2} J n hp => by
    obtain ⟨al', hs, hq⟩ := hp
    have na := J.nal _ (List.mem_cons_self ..)
    refine q L2' al' s v H2 J.fr J.pens J.sub J.live J.old (fun a o e => J.obj a o (hs a o e)) ?_ n na hq
    have tp := J.top
    cases s with
    | ali j => exact absurd rfl (na j)
    | own ds => cases n
    | _ => exact tp
  exact (T ⟨P, W, L, H⟩).run (sim_start h1 h1' h2 h3 h4 ar) (hg ⟨P, W, L, H⟩ al as Φ hgs) ⟨fun J hj => fin (J.dat (d := .none) (v := .non) rfl) rfl hj, fun _ z => z.elim, fun _ z => z.elim, fun J n h1 => fin J n h1⟩
section
variable {K : PySem.W.Frag} {Γ : Gm}
theorem Sim.called {L : List Addr} {δ : Dn} {σ : L2.St} {S : List (Sv × V)} {H : Hp} (J : Sim K Γ L δ σ S H) {n : Nat} {g : Al → List Sv → (Al → Sv → Prop) → Prop} {as : List Sv} {vs : List V} {E : XK} {Q : VK} {Φ : Sv → Dn → Prop}
    (ar : AR K Γ L H as vs) (hn : as.length = n) (hg : g δ.al as fun al' s => Φ s (δ.know al'))
    (q : ∀ s L' al' v H', Sim K Γ L' (δ.know al') σ ((s, v) :: S) H' → Φ s (δ.know al') → Q v H') : spH K n g vs H Q E := by
  classical
  have pW : ∀ p ∈ Γ.P, p ∈ L.filter (fun a => decide (a ∈ Γ.P ∨ δ.al a ≠ none)) := fun p hp => List.mem_filter.mpr ⟨J.sub p (J.pin0 p hp), decide_eq_true (.inl hp)⟩
  have inW : ∀ {a : Addr}, a ∈ L.filter (fun a => decide (a ∈ Γ.P ∨ δ.al a ≠ none)) → a ∈ L ∧ (a ∈ Γ.W ∨ Γ.H0 a = none) ∧ (a ∈ Γ.P ∨ δ.al a ≠ none) := fun {a} ha => by
    obtain ⟨h1, h2⟩ := List.mem_filter.mp ha
    have h3 := of_decide_eq_true h2
    refine ⟨h1, ?_, h3⟩
    rcases h3 with z | z
    · exact .inl (J.pin a z)
    · cases e : δ.al a with
      | none => exact absurd e z
      | some o => exact (J.obj a o e).1.2.2
  refine ⟨ar.len.trans hn, L, L.filter (fun a => decide (a ∈ Γ.P ∨ δ.al a ≠ none)), Γ.P, δ.al, as, _, pW, fun p hp => (inW hp).1, J.live, J.pens, fun a o e => ?_, AR.swap (Γ := Γ) (Γ' := ⟨Γ.P, L.filter (fun a => decide (a ∈ Γ.P ∨ δ.al a ≠ none)), L, H⟩) rfl ar, hg, fun L' al' s v H' f hp sub live old obj rs no na hΦ => ?_⟩
  · obtain ⟨q1, q2⟩ := J.obj a o e
    exact ⟨⟨List.mem_filter.mpr ⟨q1.1, decide_eq_true (.inr fun z => by rw [z] at e; cases e)⟩, q1.2.1⟩, q2⟩
  · have dv : ∀ {d : PyData} {v : V}, Dv K L H d v → Dv K L' H' d v := fun h => Dv.mono f (fun a ha => sub a (inW ha).1) (Dv.sub old h)
    have dvs : ∀ {d : List PyData} {v : List V}, Dvs K L H d v → Dvs K L' H' d v := fun h => Dvs.mono f (fun a ha => sub a (inW ha).1) (Dvs.sub old h)
    have sl : ∀ {s : Sv} {v : V}, SlR K Γ L σ H s v → (isOwn s = true → ∀ a, v = .ref a → δ.al a = none) → SlR K Γ L' σ H' s v := fun {s v} h n => by
      cases s with
      | dat d => exact dv h
      | own ds =>
        obtain ⟨b, xs, e, h1, h2, h3, h4⟩ := h
        refine ⟨b, xs, e, sub b h1, h2, f.ne h3 fun z => ?_, dvs h4⟩
        rcases (inW z).2.2 with y | y
        · exact h2 (J.pin0 b y)
        · exact y (n rfl b e)
      | _ => exact h
    have none_of : ∀ {b : Addr} {u : HO}, H b = some u → b ∉ Γ.L0 → δ.al b = none → al' b = none := fun {b u} e h2 n => by
      cases e2 : al' b with
      | none => rfl
      | some o =>
        rcases (obj b o e2).1.2.2 with z | z
        · rcases (inW z).2.2 with y | y
          · exact absurd (J.pin0 b y) h2
          · exact absurd n y
        · rw [e] at z
          cases z
    have J2 : Sim K Γ L' (δ.know al') σ S H' := {
      fr := J.fr.cut f fun l hl => (inW hl).2.1
      pens := hp, pin := J.pin, win := J.win
      sub := fun a ha => sub a (J.sub a ha)
      live := live
      old := fun a ha => (old a ha).elim (J.old a) fun z => .inr (J.fr.free _ z)
      len := J.len
      slot := fun i s e => let ⟨n, v, e1, e2⟩ := J.slot i s e; ⟨n, v, e1, sl e2 fun o a ea => J.sepA i s a e o (ea ▸ e1)⟩
      stk := fun p hp => sl (J.stk p hp) (J.sepB p hp)
      nal := J.nal, sep := J.sep, sepS := J.sepS, sepT := J.sepT
      obj := fun a o e => by
        obtain ⟨⟨q1, q2, q3⟩, q4⟩ := obj a o e
        exact ⟨⟨q1, q2, q3.elim (fun z => (inW z).2.1) fun z => .inr (J.fr.free _ z)⟩, q4⟩
      sepA := fun i s a e o ea => by
        obtain ⟨_, v, e1, e2⟩ := J.slot i s e
        rw [ea] at e1
        cases e1
        obtain ⟨b, xs, e3, h1, h2, h3⟩ := e2.at_own o
        cases e3
        exact none_of h3 h2 (J.sepA i s _ e o ea)
      sepB := fun p hp o a ea => by
        obtain ⟨b, xs, e3, h1, h2, h3⟩ := (J.stk p hp).at_own o
        rw [ea] at e3
        cases e3
        exact none_of h3 h2 (J.sepB p hp o _ ea) }
    have rs' : SlR K Γ L' σ H' s v := by
      cases s with
      | ali j => exact absurd rfl (na j)
      | own ds => cases no
      | _ => exact rs
    exact q s L' al' v H' (J2.push rs' no na) hΦ
instance {n : Nat} {g : List Sv → (PyData → Prop) → Prop} {t : TA} {f : Dn → (List Sv → Dn → Prop) → Prop} [A : DA K Γ t f] : DE K Γ (tCall (spD K n g) [] E0 t) (fun δ Φ => f δ fun as δ1 => as.length = n ∧ g as fun d => Φ (.dat d) δ1) := ⟨fun {L δ σ S H Φ Q} I h q => by
  refine A.run I h fun as L1 δ1 vs H1 J ar h1 => ?_
  rw [List.append_nil]
  refine ⟨ar.len.trans h1.1, L1, Γ.P, as, _, fun p hp => J.sub p (J.pin0 p hp), J.live, J.pens, AR.swap (Γ := Γ) (Γ' := ⟨Γ.P, Γ.P, L1, H1⟩) rfl ar, h1.2, fun d v H' f1 p1 dv hd => ?_⟩
  exact q (.dat d) L1 δ1 v H' ((J.keep f1 p1).dat dv) hd⟩
theorem Sim.topOf {L : List Addr} {δ : Dn} {σ : L2.St} {S : List (Sv × V)} {H : Hp} {s : Sv} {v : V} (J : Sim K Γ L δ σ ((s, v) :: S) H) : Top K Γ L δ σ S H s v := by
  have na := J.nal _ (List.mem_cons_self ..)
  cases s with
  | ali j => exact absurd rfl (na j)
  | _ => exact J
instance {n : Nat} {g : Al → List Sv → (Al → Sv → Prop) → Prop} {t : TA} {f : Dn → (List Sv → Dn → Prop) → Prop} [A : DA K Γ t f] : DE K Γ (tCall (spH K n g) [] E0 t) (fun δ Φ => f δ fun as δ1 => as.length = n ∧ g δ1.al as fun al' s => Φ s (δ1.know al')) := ⟨fun {L δ σ S H Φ Q} I h q => by
  refine A.run I h fun as L1 δ1 vs H1 J ar h1 => ?_
  rw [List.append_nil]
  exact J.called ar h1.1 h1.2 fun s L' al' v H' J2 h2 => q s L' _ v H' J2.topOf h2⟩
end
end B

/-! The data layer: built-in functions. -/
namespace B
open PySem PySem.Spec PyProof.Rows L2
/-- the items of a list or a tuple, looked at -/
def seeS (s : Sv) (δ : Dn) (k : List PyData → Prop) : Prop :=
  match s with
  | .dat (.list ds) => k ds
  | .dat (.tuple ds) => k ds
  | .own ds => k ds
  | .ali i => match δ.at_ i with
    | some (.own ds) => k ds
    | some (.dat (.list ds)) => k ds
    | some (.dat (.tuple ds)) => k ds
    | _ => False
  | _ => False
section
variable {K : PySem.W.Frag} {Γ : Gm}
theorem see_run {L : List Addr} {δ : Dn} {σ : L2.St} {S : List (Sv × V)} {H : Hp} {s : Sv} {v : V} {k : List PyData → Prop} (T : Top K Γ L δ σ S H s v) (h : seeS s δ k) :
    ∃ a xs ds, v = .ref a ∧ ((H a = some (.lst xs)) ∨ Tp K H a xs) ∧ Dvs K L H ds xs ∧ k ds := by
  have dat : ∀ {d : PyData}, Dv K L H d v → seeS (.dat d) δ k → ∃ a xs ds, v = .ref a ∧ ((H a = some (.lst xs)) ∨ Tp K H a xs) ∧ Dvs K L H ds xs ∧ k ds := fun {d} dv h => by
    cases d with
    | list ds =>
      obtain ⟨a, xs, e, _, t, r⟩ := dv
      exact ⟨a, xs, ds, e, .inl t, r, h⟩
    | tuple ds =>
      obtain ⟨a, xs, e, t, r⟩ := dv
      exact ⟨a, xs, ds, e, .inr t, r, h⟩
    | _ => exact h.elim
  cases s with
  | dat d => exact dat (Sim.top T) h
  | pen p => exact h.elim
  | fn a => exact h.elim
  | ref a => exact h.elim
  | own ds =>
    obtain ⟨a, xs, e, _, _, t, r⟩ := Sim.top T
    exact ⟨a, xs, ds, e, .inl t, r, h⟩
  | ali i =>
    obtain ⟨I, hv⟩ := T
    unfold seeS at h
    dsimp only at h
    split at h
    · rename_i ds e
      obtain ⟨_, w, e1, a, xs, e2, _, _, t, r⟩ := I.slot i _ (at_some e)
      rw [hv] at e1
      cases e1
      exact ⟨a, xs, ds, e2, .inl t, r, h⟩
    · rename_i ds e
      obtain ⟨_, w, e1, e2⟩ := I.slot i _ (at_some e)
      rw [hv] at e1
      cases e1
      exact dat (d := .list ds) e2 h
    · rename_i ds e
      obtain ⟨_, w, e1, e2⟩ := I.slot i _ (at_some e)
      rw [hv] at e1
      cases e1
      exact dat (d := .tuple ds) e2 h
    · exact h.elim
/-- len -/
instance {e : TE} {fe : Dn → (Sv → Dn → Prop) → Prop} [E : DE K Γ e fe] : DE K Γ (tCB (rLenS K) (tCons e tNil)) (fun δ Φ => fe δ fun s δ1 => seeS s δ1 fun ds => Φ (.dat (.int (ds.length : Int))) δ1) := ⟨fun {L δ σ S H Φ Q} I h q =>
  E.run I h fun s L1 δ1 v H1 T h1 => by
    obtain ⟨a, xs, ds, rfl, t, r, h2⟩ := see_run T h1
    refine ⟨a, xs, rfl, t.imp sqL_of Tp.sq, ?_⟩
    rw [r.len]
    exact q (.dat (.int _)) L1 δ1 _ H1 (T.drop.dat rfl) h2⟩
/-- tuple(a list or a tuple) -/
instance {e : TE} {fe : Dn → (Sv → Dn → Prop) → Prop} [E : DE K Γ e fe] : DE K Γ (tCB (rTupZ K) (tCons e tNil)) (fun δ Φ => fe δ fun s δ1 => seeS s δ1 fun ds => Φ (.dat (.tuple ds)) δ1) := ⟨fun {L δ σ S H Φ Q} I h q =>
  E.run I h fun s L1 δ1 v H1 T h1 => by
    obtain ⟨a, xs, ds, rfl, t, r, h2⟩ := see_run T h1
    refine ⟨a, xs, rfl, ?_⟩
    rcases t with t | t
    · exact .inl ⟨sqL_of t, fun l o nl od => q (.dat (.tuple ds)) L1 δ1 _ _ ((T.drop.more (.new nl)).dat ⟨l, xs, rfl, .made od, r.mono (P := []) (.new nl) fun _ z => nomatch z⟩) h2⟩
    · exact .inr ⟨t.sq, q (.dat (.tuple ds)) L1 δ1 _ H1 (T.drop.dat ⟨a, xs, rfl, t, r⟩) h2⟩⟩
/-- all, any of a list of bools -/
def boolsD : List PyData → Option (List Bool)
  | [] => some []
  | .bool b :: ds => (boolsD ds).map fun bs => b :: bs
  | _ :: _ => none
theorem bools_run {L : List Addr} {H : Hp} : ∀ {ds : List PyData} {xs : List V} {bs : List Bool}, Dvs K L H ds xs → boolsD ds = some bs → xs = bs.map V.bl
  | [], _, _, h, e => by cases e; exact h
  | .bool b :: ds, _, bs, ⟨v, r, e1, h1, h2⟩, e => by
    unfold boolsD at e
    cases e3 : boolsD ds with
    | none => rw [e3] at e; cases e
    | some cs =>
      rw [e3] at e
      cases e
      cases (show v = .bl b from h1)
      rw [e1, bools_run h2 e3]
      rfl
  | .none :: _, _, _, _, e => by cases e
  | .int _ :: _, _, _, _, e => by cases e
  | .str _ :: _, _, _, _, e => by cases e
  | .tuple _ :: _, _, _, _, e => by cases e
  | .list _ :: _, _, _, _, e => by cases e
  | .dict _ :: _, _, _, _, e => by cases e
def onBs (ds : List PyData) (k : List Bool → Prop) : Prop := match boolsD ds with
  | some bs => k bs
  | none => False
instance {e : TE} {fe : Dn → (Sv → Dn → Prop) → Prop} [E : DE K Γ e fe] : DE K Γ (tCB (rAll K) (tCons e tNil)) (fun δ Φ => fe δ fun s δ1 => asD s δ1 fun d δ2 => onL d fun ds => onBs ds fun bs => Φ (.dat (.bool (bs.all id))) δ2) := ⟨fun {L δ σ S H Φ Q} I h q =>
  DE.data (T := E) I h fun d L1 δ1 v H1 J h1 => by
    cases d with
    | list ds =>
      obtain ⟨a, xs, rfl, _, t, r⟩ := J.top
      have h2 : onBs ds fun bs => Φ (.dat (.bool (bs.all id))) δ1 := h1
      unfold onBs at h2
      split at h2
      · rename_i bs e
        have ex := bools_run r e
        subst ex
        exact ⟨a, bs, rfl, sqL_of t, q (.dat (.bool _)) L1 δ1 _ H1 (J.pop.dat rfl) h2⟩
      · exact h2.elim
    | _ => exact h1.elim⟩
/-- isinstance(x, int) and the like -/
theorem isi_run {T : String} {isi : PyData → Bool} (hk : ∀ d, PySem.W.kitOne K (.type (tyD d)) (.type T) = some (isi d)) (hc : ClsV (.ty T) (.type T)) {e : TE} {fe : Dn → (Sv → Dn → Prop) → Prop} [E : DE K Γ e fe] :
    DE K Γ (tCB (rIsi K) (tCons e (tCons (tC (.ty T)) tNil))) (fun δ Φ => fe δ fun s δ1 => asD s δ1 fun d δ2 => Φ (.dat (.bool (isi d))) δ2) := ⟨fun {L δ σ S H Φ Q} I h q =>
  DE.data (T := E) I h fun d L1 δ1 v H1 J h1 => ⟨v, .ty T, _, _, isi d, rfl, hc, Dv.ty J.top, hk d, q (.dat (.bool _)) L1 δ1 _ H1 (J.pop.dat rfl) h1⟩⟩
end
def fn1 (F : PyData → (PyData → Prop) → Prop) (as : List Sv) (Φ : PyData → Prop) : Prop := match as with
  | [.dat x1] => F x1 Φ
  | _ => False
theorem of_fn1 {F : PyData → (PyData → Prop) → Prop} {as : List Sv} {Φ : PyData → Prop} (h : fn1 F as Φ) : ∃ (x1 : PyData), as = [.dat x1] ∧ F x1 Φ := by
  unfold fn1 at h
  split at h
  · exact ⟨_, rfl, h⟩
  · exact h.elim
def fn2 (F : PyData → PyData → (PyData → Prop) → Prop) (as : List Sv) (Φ : PyData → Prop) : Prop := match as with
  | [.dat x1, .dat x2] => F x1 x2 Φ
  | _ => False
theorem of_fn2 {F : PyData → PyData → (PyData → Prop) → Prop} {as : List Sv} {Φ : PyData → Prop} (h : fn2 F as Φ) : ∃ (x1 x2 : PyData), as = [.dat x1, .dat x2] ∧ F x1 x2 Φ := by
  unfold fn2 at h
  split at h
  · exact ⟨_, _, rfl, h⟩
  · exact h.elim
def fn3 (F : PyData → PyData → PyData → (PyData → Prop) → Prop) (as : List Sv) (Φ : PyData → Prop) : Prop := match as with
  | [.dat x1, .dat x2, .dat x3] => F x1 x2 x3 Φ
  | _ => False
theorem of_fn3 {F : PyData → PyData → PyData → (PyData → Prop) → Prop} {as : List Sv} {Φ : PyData → Prop} (h : fn3 F as Φ) : ∃ (x1 x2 x3 : PyData), as = [.dat x1, .dat x2, .dat x3] ∧ F x1 x2 x3 Φ := by
  unfold fn3 at h
  split at h
  · exact ⟨_, _, _, rfl, h⟩
  · exact h.elim
def fn4 (F : PyData → PyData → PyData → PyData → (PyData → Prop) → Prop) (as : List Sv) (Φ : PyData → Prop) : Prop := match as with
  | [.dat x1, .dat x2, .dat x3, .dat x4] => F x1 x2 x3 x4 Φ
  | _ => False
theorem of_fn4 {F : PyData → PyData → PyData → PyData → (PyData → Prop) → Prop} {as : List Sv} {Φ : PyData → Prop} (h : fn4 F as Φ) : ∃ (x1 x2 x3 x4 : PyData), as = [.dat x1, .dat x2, .dat x3, .dat x4] ∧ F x1 x2 x3 x4 Φ := by
  unfold fn4 at h
  split at h
  · exact ⟨_, _, _, _, rfl, h⟩
  · exact h.elim
def fn5 (F : PyData → PyData → PyData → PyData → PyData → (PyData → Prop) → Prop) (as : List Sv) (Φ : PyData → Prop) : Prop := match as with
  | [.dat x1, .dat x2, .dat x3, .dat x4, .dat x5] => F x1 x2 x3 x4 x5 Φ
  | _ => False
theorem of_fn5 {F : PyData → PyData → PyData → PyData → PyData → (PyData → Prop) → Prop} {as : List Sv} {Φ : PyData → Prop} (h : fn5 F as Φ) : ∃ (x1 x2 x3 x4 x5 : PyData), as = [.dat x1, .dat x2, .dat x3, .dat x4, .dat x5] ∧ F x1 x2 x3 x4 x5 Φ := by
  unfold fn5 at h
  split at h
  · exact ⟨_, _, _, _, _, rfl, h⟩
  · exact h.elim
def pn0 (F : (PyData → Prop) → Prop) (as : List Sv) (Φ : PyData → Prop) : Prop := match as with
  | [.pen _] => F Φ
  | _ => False
theorem of_pn0 {F : (PyData → Prop) → Prop} {as : List Sv} {Φ : PyData → Prop} (h : pn0 F as Φ) : ∃ (p : Addr), as = [.pen p] ∧ F Φ := by
  unfold pn0 at h
  split at h
  · exact ⟨_, rfl, h⟩
  · exact h.elim
def pn1 (F : PyData → (PyData → Prop) → Prop) (as : List Sv) (Φ : PyData → Prop) : Prop := match as with
  | [.pen _, .dat x1] => F x1 Φ
  | _ => False
theorem of_pn1 {F : PyData → (PyData → Prop) → Prop} {as : List Sv} {Φ : PyData → Prop} (h : pn1 F as Φ) : ∃ (p : Addr) (x1 : PyData), as = [.pen p, .dat x1] ∧ F x1 Φ := by
  unfold pn1 at h
  split at h
  · exact ⟨_, _, rfl, h⟩
  · exact h.elim
def pn2 (F : PyData → PyData → (PyData → Prop) → Prop) (as : List Sv) (Φ : PyData → Prop) : Prop := match as with
  | [.pen _, .dat x1, .dat x2] => F x1 x2 Φ
  | _ => False
theorem of_pn2 {F : PyData → PyData → (PyData → Prop) → Prop} {as : List Sv} {Φ : PyData → Prop} (h : pn2 F as Φ) : ∃ (p : Addr) (x1 x2 : PyData), as = [.pen p, .dat x1, .dat x2] ∧ F x1 x2 Φ := by
  unfold pn2 at h
  split at h
  · exact ⟨_, _, _, rfl, h⟩
  · exact h.elim
def pn3 (F : PyData → PyData → PyData → (PyData → Prop) → Prop) (as : List Sv) (Φ : PyData → Prop) : Prop := match as with
  | [.pen _, .dat x1, .dat x2, .dat x3] => F x1 x2 x3 Φ
  | _ => False
theorem of_pn3 {F : PyData → PyData → PyData → (PyData → Prop) → Prop} {as : List Sv} {Φ : PyData → Prop} (h : pn3 F as Φ) : ∃ (p : Addr) (x1 x2 x3 : PyData), as = [.pen p, .dat x1, .dat x2, .dat x3] ∧ F x1 x2 x3 Φ := by
  unfold pn3 at h
  split at h
  · exact ⟨_, _, _, _, rfl, h⟩
  · exact h.elim
def pn4 (F : PyData → PyData → PyData → PyData → (PyData → Prop) → Prop) (as : List Sv) (Φ : PyData → Prop) : Prop := match as with
  | [.pen _, .dat x1, .dat x2, .dat x3, .dat x4] => F x1 x2 x3 x4 Φ
  | _ => False
theorem of_pn4 {F : PyData → PyData → PyData → PyData → (PyData → Prop) → Prop} {as : List Sv} {Φ : PyData → Prop} (h : pn4 F as Φ) : ∃ (p : Addr) (x1 x2 x3 x4 : PyData), as = [.pen p, .dat x1, .dat x2, .dat x3, .dat x4] ∧ F x1 x2 x3 x4 Φ := by
  unfold pn4 at h
  split at h
  · exact ⟨_, _, _, _, _, rfl, h⟩
  · exact h.elim
def pn5 (F : PyData → PyData → PyData → PyData → PyData → (PyData → Prop) → Prop) (as : List Sv) (Φ : PyData → Prop) : Prop := match as with
  | [.pen _, .dat x1, .dat x2, .dat x3, .dat x4, .dat x5] => F x1 x2 x3 x4 x5 Φ
  | _ => False
theorem of_pn5 {F : PyData → PyData → PyData → PyData → PyData → (PyData → Prop) → Prop} {as : List Sv} {Φ : PyData → Prop} (h : pn5 F as Φ) : ∃ (p : Addr) (x1 x2 x3 x4 x5 : PyData), as = [.pen p, .dat x1, .dat x2, .dat x3, .dat x4, .dat x5] ∧ F x1 x2 x3 x4 x5 Φ := by
  unfold pn5 at h
  split at h
  · exact ⟨_, _, _, _, _, _, rfl, h⟩
  · exact h.elim
theorem of_onI {x : PyData} {k : Int → Prop} (h : onI x k) : ∃ i, x = .int i ∧ k i := by
  cases x <;> first | exact h.elim | exact ⟨_, rfl, h⟩
theorem of_onT {x : PyData} {k : List PyData → Prop} (h : onT x k) : ∃ i, x = .tuple i ∧ k i := by
  cases x <;> first | exact h.elim | exact ⟨_, rfl, h⟩
theorem of_onL {x : PyData} {k : List PyData → Prop} (h : onL x k) : ∃ i, x = .list i ∧ k i := by
  cases x <;> first | exact h.elim | exact ⟨_, rfl, h⟩
end B

/-! len(set(xs)), xs a list or a tuple of texts -/
namespace B
open PySem PySem.Spec PyProof.Rows L2
def tLenSetS (K : PySem.W.Frag) (ta : TE) : TE := fun σ H Q => ta σ H fun x H1 => ∃ (l : Addr) (xs : List Str), x = .ref l ∧ (SqL K H1 l (xs.map V.str) ∨ SqT K H1 l (xs.map V.str)) ∧ xs.length ≤ 1000 ∧ Q (.int (unl xs xs.length : Nat)) H1
theorem strs_of : ∀ {ys : List Str} {us : List Value}, Vals (ys.map V.str) us → StrsAre us ys
  | [], _, .nil => .nil
  | y :: ys, _, .cons ⟨k, e⟩ t => by
    cases e
    exact .cons y k (strs_of t)
theorem pe_lenSetS {X : Cx} {a : Expr} {ta : TE} {p p2 q pos : Pos} (hg : Gl X "len") (hm : X.mg "len" = none) (hg2 : Gl X "set") (hm2 : X.mg "set" = none) (ha : PE X a ta) (hc : X.calm = true)
    (na : starEach [a] X.env = (false, eval a X.env) :: starEach [] X.env) : PE X (.Call (.Name "len" p) [.Call (.Name "set" p2) [a] [] q] [] pos) (tLenSetS X.K ta) := by
  constructor
  intro pins s σ H Q I h
  refine Call_ ?_
  apply ld_blt I hg hm boot_len
  refine PyProof.Rows.callWith_builtin1 (PyProof.Rows.args_cons ?_ rfl) rfl rfl
  refine Call_ ?_
  apply ld_blt I hg2 hm2 boot_set
  refine PyProof.Rows.callWith_type1 (PyProof.Rows.args_cons (thn (ha.run pins s σ H _ I h) ?_) na) na rfl
  rintro v s1 ⟨x, H1, I1, r1, l, xs, rfl, hq, hl, q1⟩
  cases r1
  apply PyProof.Rows.args_nil
  have fin : ∀ (its : List Value), Vals (xs.map V.str) its → ∀ (h1 : Heap) (tk : Nat), h1.SetOf (PySem.strKind X.prog X.w) s1.heap.objs.size (fun x => (xs.take its.toArray.size).any (· == x)) (unl xs its.toArray.size) →
      (∀ b o, b < s1.heap.objs.size → s1.heap.get? b = some o → h1.get? b = some o) →
      wpAny (model X.prog X.w) X.A (spliced (backTo pos (starEach [] X.env))) (fun vs s2 => wpAny (model X.prog X.w) X.A (call (.builtin "len") (Value.ref s1.heap.objs.size :: vs)) (EP X pins σ Q) X.xe s2) X.xe { s1 with heap := h1, toks := tk } := by
    intro its r h1 tk hS keep
    apply PyProof.Rows.args_nil
    have el : its.toArray.size = xs.length := by rw [List.size_toArray, ← r.length, List.length_map]
    rw [el] at hS
    obtain ⟨o, es, ep, t, ho, hex, hd, _, _, _, hf, hn⟩ := hS
    have I2 : Inv X pins σ H1 { s1 with heap := h1, toks := tk } := I1.kept fun b o e => keep b o (Heap.lt_size e) e
    have hu := unl_le xs xs.length
    exact call_len_set ho hex hd hf (by rw [hn] <;> omega) ⟨.int (unl xs xs.length : Nat), H1, I2.tok _, ⟨_, by rw [hn]⟩, q1⟩
  rcases hq with hq | hq
  · obtain ⟨its, r, pl, hz⟩ := I1.list hq
    have el : its.length = xs.length := by rw [← r.length, List.length_map]
    exact set_of_list (I1.ok.hd hc) pl.isList (by simpa using strs_of r) (by rw [List.size_toArray, el]; unfold scanBound; omega) fun h1 tk hS keep => fin its r h1 tk hS keep
  · obtain ⟨its, r, pl, hz⟩ := I1.tuple hq
    have el : its.length = xs.length := by rw [← r.length, List.length_map]
    exact set_of_tuple (I1.ok.hd hc) pl (by simpa using strs_of r) (by rw [List.size_toArray, el]; unfold scanBound; omega) fun h1 tk hS keep => fin its r h1 tk hS keep
theorem pe_lenSetSK {X : Cx} (K : PySem.W.Frag) (hK : X.K = K) {a : Expr} {ta : TE} {p p2 q pos : Pos} (hg : Gl X "len") (hm : X.mg "len" = none) (hg2 : Gl X "set") (hm2 : X.mg "set" = none) (ha : PE X a ta) (hc : X.calm = true)
    (na : starEach [a] X.env = (false, eval a X.env) :: starEach [] X.env) : PE X (.Call (.Name "len" p) [.Call (.Name "set" p2) [a] [] q] [] pos) (tLenSetS K ta) := by
  subst hK
  exact pe_lenSetS hg hm hg2 hm2 ha hc na
/-- data that are texts -/
def textsD : List PyData → Option (List Str)
  | [] => some []
  | .str x :: ds => (textsD ds).map fun xs => x :: xs
  | _ :: _ => none
theorem texts_run {K : PySem.W.Frag} {L : List Addr} {H : Hp} : ∀ {ds : List PyData} {vs : List V} {xs : List Str}, Dvs K L H ds vs → textsD ds = some xs → vs = xs.map V.str
  | [], _, _, h, e => by cases e; exact h
  | .str b :: ds, _, bs, ⟨v, r, e1, h1, h2⟩, e => by
    unfold textsD at e
    cases e3 : textsD ds with
    | none => rw [e3] at e; cases e
    | some cs =>
      rw [e3] at e
      cases e
      cases (show v = .str b from h1)
      rw [e1, texts_run h2 e3]
      rfl
  | .none :: _, _, _, _, e => by cases e
  | .int _ :: _, _, _, _, e => by cases e
  | .bool _ :: _, _, _, _, e => by cases e
  | .tuple _ :: _, _, _, _, e => by cases e
  | .list _ :: _, _, _, _, e => by cases e
  | .dict _ :: _, _, _, _, e => by cases e
theorem textsD_map : ∀ xs : List Str, textsD (xs.map PyData.str) = some xs
  | [] => rfl
  | x :: xs => by rw [List.map_cons, textsD, textsD_map xs]; rfl
def onXs (ds : List PyData) (k : List Str → Prop) : Prop := match textsD ds with
  | some xs => k xs
  | none => False
theorem onXs_map {xs : List Str} {k : List Str → Prop} (h : k xs) : onXs (xs.map PyData.str) k := by
  unfold onXs
  rw [textsD_map]
  exact h
section
variable {K : PySem.W.Frag} {Γ : Gm}
instance {e : TE} {fe : Dn → (Sv → Dn → Prop) → Prop} [E : DE K Γ e fe] : DE K Γ (tLenSetS K e) (fun δ Φ => fe δ fun s δ1 => seeS s δ1 fun ds => onXs ds fun xs => xs.length ≤ 1000 ∧ Φ (.dat (.int (unl xs xs.length : Nat))) δ1) := ⟨fun {L δ σ S H Φ Q} I h q =>
  E.run I h fun s L1 δ1 v H1 T h1 => by
    obtain ⟨a, vs, ds, rfl, t, r, h2⟩ := see_run T h1
    unfold onXs at h2
    split at h2
    · rename_i xs e
      have ex := texts_run r e
      subst ex
      exact ⟨a, xs, rfl, t.imp sqL_of Tp.sq, h2.1, q (.dat (.int _)) L1 δ1 _ H1 (T.drop.dat rfl) h2.2⟩
    · exact h2.elim⟩
end
/-- unlike texts -/
theorem unl_nodup {xs : List Str} (nd : xs.Nodup) : ∀ i, i ≤ xs.length → unl xs i = i
  | 0, _ => rfl
  | i + 1, h => by
    have ih := unl_nodup nd i (by omega)
    unfold unl
    rw [if_neg, ih]
    intro z
    obtain ⟨x, hx, e⟩ := List.any_eq_true.mp z
    have e2 : x = xs.getD i Str.empty := by simpa using e
    obtain ⟨j, hj⟩ := List.getElem?_of_mem hx
    have hji : j < i := by
      have := (List.getElem?_eq_some_iff.mp hj).1
      rw [List.length_take] at this
      omega
    rw [List.getElem?_take, if_pos hji] at hj
    have hi : xs[i]? = some x := by
      rw [e2, List.getD_eq_getElem?_getD, List.getElem?_eq_getElem (by omega)]
      rfl
    obtain ⟨h1, h2⟩ := List.getElem?_eq_some_iff.mp hj
    obtain ⟨h3, h4⟩ := List.getElem?_eq_some_iff.mp hi
    have := (List.getElem_inj nd (h₀ := h1) (h₁ := h3)).mp (h2.trans h4.symm)
    omega
end B

/-! The data layer: in, texts, list + list. -/
namespace B
open PySem PySem.Spec PyProof.Rows L2
/-- the value of scalar data -/
def vD : PyData → Option V
  | .none => some .non
  | .bool b => some (.bl b)
  | .int i => some (.int i)
  | .str x => some (.str x)
  | _ => none
def vDs : List PyData → Option (List V)
  | [] => some []
  | d :: ds => match vD d, vDs ds with
    | some v, some vs => some (v :: vs)
    | _, _ => none
theorem vD_run {K : PySem.W.Frag} {L : List Addr} {H : Hp} {d : PyData} {v u : V} (h : Dv K L H d v) (e : vD d = some u) : v = u ∧ flatV u = true := by
  cases d <;> (unfold vD at e; cases e) <;> exact ⟨h, rfl⟩
theorem vDs_run {K : PySem.W.Frag} {L : List Addr} {H : Hp} : ∀ {ds : List PyData} {vs us : List V}, Dvs K L H ds vs → vDs ds = some us → vs = us ∧ us.all flatV = true
  | [], _, _, h, e => by cases e; exact ⟨h, rfl⟩
  | d :: ds, _, us, ⟨v, r, e1, h1, h2⟩, e => by
    unfold vDs at e
    split at e
    · rename_i v0 us0 a b
      cases e
      obtain ⟨rfl, f⟩ := vD_run h1 a
      obtain ⟨rfl, g⟩ := vDs_run h2 b
      exact ⟨e1, by rw [List.all_cons, f, g]; rfl⟩
    · cases e
def inD (x : PyData) (ds : List PyData) (k : Bool → Prop) : Prop := match vD x, vDs ds with
  | some v, some vs => k (inV v vs)
  | _, _ => False
def seqD (y : PyData) (k : List PyData → Prop) : Prop := match y with
  | .list ds => k ds
  | .tuple ds => k ds
  | _ => False
section
variable {K : PySem.W.Frag} {Γ : Gm}
instance {neg : Bool} : DR K Γ (rIn K neg) (fun x y Φ => seqD y fun ds => inD x ds fun b => Φ (.bool (if neg then !b else b))) := ⟨fun {L H x y v u Φ Q} dx dy h q => by
  have key : ∀ {ds : List PyData} {a : Addr} {xs : List V}, u = .ref a → (SqL K H a xs ∨ SqT K H a xs) → Dvs K L H ds xs → (inD x ds fun b => Φ (.bool (if neg then !b else b))) → rIn K neg v u H Q := fun {ds a xs} e t r h => by
    unfold inD at h
    split at h
    · rename_i v0 vs0 e1 e2
      obtain ⟨rfl, f⟩ := vD_run dx e1
      obtain ⟨rfl, g⟩ := vDs_run r e2
      exact ⟨a, xs, e, t, f, g, q (.bool _) (.bl _) H (.refl _ _) rfl h⟩
    · exact h.elim
  cases y with
  | list ds =>
    obtain ⟨a, xs, e, n, t, r⟩ := dy
    exact key e (.inl (sqL_of t)) r h
  | tuple ds =>
    obtain ⟨a, xs, e, t, r⟩ := dy
    exact key e (.inr t.sq) r h
  | _ => exact h.elim⟩
end
theorem vDs_texts : ∀ xs : List Str, vDs (xs.map PyData.str) = some (xs.map V.str)
  | [] => rfl
  | x :: xs => by
    rw [List.map_cons, vDs, vDs_texts xs]
    rfl
theorem inV_str (x : Str) : ∀ xs : List Str, inV (.str x) (xs.map V.str) = decide (x ∈ xs)
  | [] => by simp [inV]
  | y :: ys => by
    have ih := inV_str x ys
    unfold inV at ih ⊢
    rw [List.map_cons, List.any_cons, ih]
    have e : eqV (V.str y) (V.str x) = decide (y = x) := by
      first
        | rfl
        | (unfold eqV; simp)
    rw [e]
    by_cases h1 : y = x
    · simp [h1]
    · have h2 : ¬ x = y := fun z => h1 z.symm
      simp [h1, h2]
theorem inD_texts {x : Str} {xs : List Str} {k : Bool → Prop} (h : k (decide (x ∈ xs))) : inD (.str x) (xs.map PyData.str) k := by
  unfold inD
  rw [vDs_texts]
  show k (inV (.str x) (xs.map V.str))
  rw [inV_str]
  exact h
/-! ### signs of a text -/
def rSign (neg : Bool) : R2 := fun x y H Q => ∃ (c : Nat) (z : Str), x = .str ⟨#[c]⟩ ∧ y = .str z ∧ Q (.bl (if neg then !decide (c ∈ z.cps.toList) else decide (c ∈ z.cps.toList))) H
theorem op_signIn {X : Cx} : OpR X (compareOp .In) (rSign false) := op_in_sign
theorem op_signNotIn {X : Cx} : OpR X (compareOp .NotIn) (rSign true) := op_notIn_sign
def rLenTx : List V → Hp → VK → Prop := fun xs H Q => ∃ z, xs = [.str z] ∧ z.length ≤ sizeLine ∧ Q (.int z.length) H
theorem call_lenTx {X : Cx} : CallR X (.builtin "len") rLenTx := call_len_str
def onX (x : PyData) (k : Str → Prop) : Prop := match x with
  | .str z => k z
  | _ => False
theorem onX_run {L : List Addr} {H : Hp} {K : PySem.W.Frag} {x : PyData} {v : V} {k : Str → Prop} (d : Dv K L H x v) (h : onX x k) : ∃ i, x = .str i ∧ v = .str i ∧ k i := by
  cases x <;> first | exact h.elim | exact ⟨_, rfl, d, h⟩
theorem of_onX {x : PyData} {k : Str → Prop} (h : onX x k) : ∃ i, x = .str i ∧ k i := by
  cases x <;> first | exact h.elim | exact ⟨_, rfl, h⟩
/-- a text of one sign -/
def oneC (z : Str) (k : Nat → Prop) : Prop := match z.cps.toList with
  | [c] => k c
  | _ => False
def signsD (z : Str) : List PyData := z.cps.toList.map fun c => .str ⟨#[c]⟩
section
variable {K : PySem.W.Frag} {Γ : Gm}
instance {neg : Bool} : DR K Γ (rSign neg) (fun x y Φ => onX x fun a => onX y fun z => oneC a fun c => Φ (.bool (if neg then !decide (c ∈ z.cps.toList) else decide (c ∈ z.cps.toList)))) := ⟨fun {L H x y v u Φ Q} dx dy h q => by
  obtain ⟨a, rfl, rfl, h1⟩ := onX_run dx h
  obtain ⟨z, rfl, rfl, h2⟩ := onX_run dy h1
  unfold oneC at h2
  split at h2
  · rename_i c e
    refine ⟨c, z, ?_, rfl, q (.bool _) (.bl _) H (.refl _ _) rfl h2⟩
    obtain ⟨⟨l⟩⟩ := a
    have e' : l = [c] := e
    rw [e']
  · exact h2.elim⟩
instance {e : TE} {fe : Dn → (Sv → Dn → Prop) → Prop} [E : DE K Γ e fe] : DE K Γ (tCB rLenTx (tCons e tNil)) (fun δ Φ => fe δ fun s δ1 => asD s δ1 fun d δ2 => onX d fun z => z.length ≤ sizeLine ∧ Φ (.dat (.int (z.length : Int))) δ2) := ⟨fun {L δ σ S H Φ Q} I h q =>
  DE.data (T := E) I h fun d L1 δ1 v H1 J h1 => by
    obtain ⟨z, rfl, rfl, h2⟩ := onX_run J.top h1
    exact ⟨z, rfl, h2.1, q (.dat (.int _)) L1 δ1 _ H1 (J.pop.dat rfl) h2.2⟩⟩
instance {e : TE} {fe : Dn → (Sv → Dn → Prop) → Prop} [E : DE K Γ e fe] : DI K Γ (iStr e) false (fun δ Φ => fe δ fun s δ1 => asD s δ1 fun d δ2 => onX d fun z => Φ (signsD z) δ2) := ⟨fun {L δ σ S H Φ R} I h q =>
  DE.data (T := E) I h fun d L1 δ1 v H1 J h1 => by
    obtain ⟨z, rfl, rfl, h2⟩ := onX_run J.top h1
    refine ⟨z, rfl, q (signsD z) L1 δ1 (Its z) [_] H1 J (one_own rfl) ?_ h2⟩
    have W := walk_str (z := z)
    have el : (signsD z).length = z.cps.size := by simp [signsD]
    exact {
      go := fun {i L δ σ S H} _ _ hi => W.goes i H (by rw [← el]; exact hi) trivial
      stop := fun {L δ σ S H} _ _ => by rw [el]; exact W.stops H trivial
      yld := fun {i L δ σ S H H' x d} _ _ hd y => by
        have hi : i < z.cps.size := by
          rw [← el]
          exact (List.getElem?_eq_some_iff.mp hd).1
        obtain ⟨rfl, c, hc, rfl⟩ := W.yields i H x H' hi trivial y
        unfold signsD at hd
        rw [List.getElem?_map, Array.getElem?_toList, hc] at hd
        cases hd
        exact ⟨.refl _ _, rfl⟩ }⟩
/-- list + list: a new one -/
instance (priority := 2000) {a b : TE} {fa fb : Dn → (Sv → Dn → Prop) → Prop} [A : DE K Γ a fa] [B : DE K Γ b fb] :
    DE K Γ (tOp rCat a b) (fun δ Φ => fa δ fun s δ1 => asD s δ1 fun x δ2 => fb δ2 fun t δ3 => asD t δ3 fun y δ4 => onL x fun ds => onL y fun es => ds.length + es.length ≤ 1000000 ∧ Φ (.own (ds ++ es)) δ4) := ⟨fun {L δ σ S H Φ Q} I h q => by
  refine DE.data (T := A) I h fun x L1 δ1 v H1 J h1 => DE.data (T := B) J h1 fun y L2' δ2 u H2 J2 h2 => ?_
  cases x with
  | list ds =>
    cases y with
    | list es =>
      obtain ⟨a, xs, rfl, n1, t1, r1⟩ := J2.pop.top
      obtain ⟨b, ys, rfl, n2, t2, r2⟩ := J2.top
      have l1 := r1.len
      have l2 := r2.len
      have hs := sizeLine_eq
      have h3 : ds.length + es.length ≤ 1000000 ∧ Φ (.own (ds ++ es)) δ2 := h2
      refine ⟨a, b, xs, ys, rfl, rfl, t1, t2, by omega, fun p np => q (.own (ds ++ es)) _ δ2 _ _ (J2.pop.pop.new np (r1.app r2)) h3.2⟩
    | _ => exact h2.elim
  | _ => exact h2.elim⟩
end
/-! ### written texts and tuples of texts -/
theorem pe_gstr {X : Cx} {x : Str} {z : Str} {pos : Pos} (hg : Gl X x) (hm : ∃ t, X.mg x = some (.str z t)) (hd : (x == ("__debug__" : Str)) = false := by decide) : PE X (.Name x pos) (tC (.str z)) := by
  obtain ⟨t, e⟩ := hm
  exact pe_glob hg e ⟨t, rfl⟩ hd
/-- a tuple of texts that the module holds under the name x -/
def GlT (K : PySem.W.Frag) (mg : Str → Option Value) (x : Str) (ws : List Str) : Prop := ∃ a, mg x = some (.ref a) ∧ ∃ (o : Obj) (its : Array Value) (n : Nat), K.lookup a = some o ∧ o.cls = .type "tuple" ∧ o.dict = none ∧ o.data = .seq its n ∧ its.size ≤ sizeLine ∧ Vals (ws.map V.str) its.toList
def tGT (K : PySem.W.Frag) (ws : List Str) : TE := fun _ H Q => ∀ a, (∃ (o : Obj) (its : Array Value) (n : Nat), K.lookup a = some o ∧ o.cls = .type "tuple" ∧ o.dict = none ∧ o.data = .seq its n ∧ its.size ≤ sizeLine ∧ Vals (ws.map V.str) its.toList) → Q (.ref a) H
theorem pe_gtup {X : Cx} (K : PySem.W.Frag) {x : Str} {ws : List Str} {pos : Pos} (hg : Gl X x) (hm : GlT K X.mg x ws) (hd : (x == ("__debug__" : Str)) = false := by decide) : PE X (.Name x pos) (tGT K ws) := by
  obtain ⟨a, e, h⟩ := hm
  have P : PE X (.Name x pos) (tC (.ref a)) := pe_glob hg e rfl hd
  exact ⟨fun pins s σ H Q I q => P.run pins s σ H Q I (q a h)⟩
theorem dvs_texts {K : PySem.W.Frag} {L : List Addr} {H : Hp} : ∀ xs : List Str, Dvs K L H (xs.map PyData.str) (xs.map V.str)
  | [] => rfl
  | x :: xs => ⟨_, _, rfl, rfl, dvs_texts xs⟩
instance {K : PySem.W.Frag} {Γ : Gm} {ws : List Str} : DE K Γ (tGT K ws) (fun δ Φ => decide (4 ≤ ws.length) = true ∧ Φ (.dat (.tuple (ws.map PyData.str))) δ) := ⟨fun {L δ σ S H Φ Q} I h q a ha => by
  refine q (.dat (.tuple (ws.map PyData.str))) L δ _ H (I.dat ⟨a, _, rfl, .inr ⟨?_, .inr ha⟩, dvs_texts ws⟩) h.2
  have h4 := of_decide_eq_true h.1
  unfold keyV
  rw [List.length_map, decide_eq_false (by omega : ¬ ws.length < 4), Bool.and_false, Bool.false_and]⟩
section
variable {K : PySem.W.Frag} {Γ : Gm}
instance {a : TE} {fa : Dn → (Sv → Dn → Prop) → Prop} [A : DE K Γ a fa] : DT K Γ (tB a) (fun δ Φ => fa δ fun s δ1 => asD s δ1 fun x δ2 => onBo x fun b => Φ b δ2) := ⟨fun {L δ σ S H Φ Q} I h q => by
  refine DE.data (T := A) I h fun x L1 δ1 v H1 J h1 => ?_
  obtain ⟨b, rfl, rfl, h2⟩ := onBo_run J.top h1
  exact ⟨b, rfl, q b L1 δ1 H1 J.pop h2⟩⟩
end
end B

/-! The data layer: comprehensions and loops, by what one turn does. -/
namespace B
open PySem PySem.Spec PyProof.Rows L2
section
variable {fg : Sv → Dn → (Dn → Prop) → Prop} {ft : Dn → (Bool → Dn → Prop) → Prop} {fe : Dn → (Sv → Dn → Prop) → Prop} {vs : List Nat} {Φ : List PyData → Dn → Prop}
/-- each item gives f of it (filtered by c) -/
theorem lcD_by {δ0 : Dn} (c : PyData → Bool) (f : PyData → PyData) : ∀ {ds acc : List PyData} {δ : Dn}, wipeD δ vs = δ0 → acc.length + ds.length ≤ 1000000 →
    (∀ d ∈ ds, ∀ (k : PyData → Dn → Prop) (m : Dn → Prop), (c d = true → ∀ δ4, wipeD δ4 vs = δ0 → k (f d) δ4) → (c d = false → ∀ δ4, wipeD δ4 vs = δ0 → m δ4) →
      fg (.dat d) δ0 fun δ1 => ft δ1 fun b δ2 => bif b then fe δ2 fun s δ3 => asD s δ3 k else m δ2) →
    Φ (acc ++ (ds.filter c).map f) δ0 → lcD fg ft fe vs Φ ds acc δ
  | [], acc, δ, e, _, _, h => by
    unfold lcD
    rw [e]
    simpa using h
  | d :: ds, acc, δ, e, hl, hs, h => by
    unfold lcD
    rw [e]
    rw [List.length_cons] at hl
    refine hs d (List.mem_cons_self ..) _ _ (fun hc δ4 e4 => ⟨by omega, ?_⟩) fun hc δ4 e4 => ?_
    · refine lcD_by c f e4 (by rw [List.length_append, List.length_singleton]; omega) (fun x hx => hs x (List.mem_cons_of_mem _ hx)) ?_
      rw [List.filter_cons, if_pos hc] at h
      simpa using h
    · refine lcD_by c f e4 (by omega) (fun x hx => hs x (List.mem_cons_of_mem _ hx)) ?_
      rw [List.filter_cons, if_neg (by rw [hc]; decide)] at h
      exact h
/-- no test -/
theorem lcD_map {δ0 : Dn} (f : PyData → PyData) {ds acc : List PyData} {δ : Dn} (e : wipeD δ vs = δ0) (hl : acc.length + ds.length ≤ 1000000)
    (hs : ∀ d ∈ ds, ∀ (k : PyData → Dn → Prop), (∀ δ4, wipeD δ4 vs = δ0 → k (f d) δ4) → fg (.dat d) δ0 fun δ1 => fe δ1 fun s δ3 => asD s δ3 k) (h : Φ (acc ++ ds.map f) δ0) :
    lcD fg (fun δ Φ => Φ true δ) fe vs Φ ds acc δ := by
  refine lcD_by (fun _ => true) f e hl (fun d hd k m hk _ => hs d hd k (hk rfl)) ?_
  have : ds.filter (fun _ => true) = ds := by simp
  rw [this]
  exact h
/-- some data, each as told -/
theorem lcD_any {δ0 : Dn} (R : PyData → Prop) : ∀ {ds acc : List PyData} {δ : Dn}, wipeD δ vs = δ0 → acc.length + ds.length ≤ 1000000 →
    (∀ d ∈ ds, ∀ (k : PyData → Dn → Prop), (∀ y δ4, R y → wipeD δ4 vs = δ0 → k y δ4) → fg (.dat d) δ0 fun δ1 => fe δ1 fun s δ3 => asD s δ3 k) →
    (∀ out : List PyData, out.length = ds.length → (∀ y ∈ out, R y) → Φ (acc ++ out) δ0) → lcD fg (fun δ Φ => Φ true δ) fe vs Φ ds acc δ
  | [], acc, δ, e, _, _, h => by
    unfold lcD
    rw [e]
    simpa using h [] rfl (fun _ z => nomatch z)
  | d :: ds, acc, δ, e, hl, hs, h => by
    unfold lcD
    rw [e]
    rw [List.length_cons] at hl
    refine hs d (List.mem_cons_self ..) _ fun y δ4 hy e4 => ⟨by omega, ?_⟩
    refine lcD_any R e4 (by rw [List.length_append, List.length_singleton]; omega) (fun x hx => hs x (List.mem_cons_of_mem _ hx)) fun out lo ho => ?_
    have := h (y :: out) (by simp [lo]) fun z hz => (List.mem_cons.mp hz).elim (fun e => e ▸ hy) (ho z)
    simpa using this
end
/-- a loop, by a word that each turn keeps -/
theorem forD_by {fg : Sv → Dn → (Dn → Prop) → Prop} {fb : Dn → Dk → Prop} {Ψ : Dk} (Pv : Nat → Dn → Prop) : ∀ {ds : List PyData} {i : Nat} {δ : Dn}, Pv i δ →
    (∀ j d, ds[j]? = some d → ∀ δ, Pv (i + j) δ → ∀ nx : Dn → Prop, (∀ δ', Pv (i + j + 1) δ' → nx δ') → fg (.dat d) δ fun δ1 => fb δ1 { Ψ with nx := nx, ct := nx, bk := Ψ.nx }) →
    (∀ δ, Pv (i + ds.length) δ → Ψ.nx δ) → forD fg fb Ψ ds δ
  | [], i, δ, h0, _, hd => hd δ (by simpa using h0)
  | d :: ds, i, δ, h0, hs, hd => by
    unfold forD
    refine hs 0 d rfl δ h0 _ fun δ' h' => ?_
    refine forD_by Pv (i := i + 1) (by simpa using h') (fun j e he δ hp nx hn => ?_) fun δ hp => hd δ ?_
    · have := hs (j + 1) e (by simpa using he) δ (by rw [show i + (j + 1) = i + 1 + j by omega]; exact hp) nx (fun δ' q => hn δ' (by rw [show i + 1 + j + 1 = i + (j + 1) + 1 by omega]; exact q))
      exact this
    · rw [List.length_cons, show i + (ds.length + 1) = i + 1 + ds.length by omega]
      exact hp
theorem atD_at {ds : List PyData} {i : Int} {j : Nat} {d : PyData} {k : PyData → Prop} (hi : i = (j : Int)) (e : ds[j]? = some d) (h : k d) : atD ds i k := by
  unfold atD
  rw [hi, atI_nat e]
  exact h
end B

/-! The data layer: a call of what a slot holds. -/
namespace B
open PySem PySem.Spec PyProof.Rows L2
instance (priority := 2000) {K : PySem.W.Frag} {Γ : Gm} {a : Addr} : DE K Γ (tC (.ref a)) (fun δ Φ => Φ (.fn a) δ) := ⟨fun {L δ σ S H Φ Q} I h q => q (.fn a) L δ _ H (I.push (s := .fn a) rfl rfl fun _ z => nomatch z) h⟩
theorem pe_globF {X : Cx} {x : Str} {a : Addr} {pos : Pos} (hg : Gl X x) (hm : X.mg x = some (.ref a)) (hd : (x == ("__debug__" : Str)) = false := by decide) : PE X (.Name x pos) (tC (.ref a)) := pe_glob hg hm rfl hd
section
variable {P : Program} {wd : World} {K : PySem.W.Frag} {mg : Str → Option Value} {base : Heap} {k j : Nat} {x m : Str} {C : Addr} {sp sp' : Sp}
theorem Cal.imp (c : Cal P wd K mg base k x sp) (h : ∀ vs H Q E, sp' vs H Q E → sp vs H Q E) (hj : k ≤ j) : Cal P wd K mg base j x sp' := by
  obtain ⟨f, fd, ps, F, r⟩ := c.ex
  exact ⟨f, fd, ps, (F.imp h).mono hj, r⟩
theorem Met.imp (c : Met P wd K mg base k C m sp) (h : ∀ vs H Q E, sp' vs H Q E → sp vs H Q E) (hj : k ≤ j) : Met P wd K mg base j C m sp' := by
  obtain ⟨f, fd, ps, c1, c2, F, r⟩ := c.ex
  exact ⟨f, fd, ps, c1, c2, (F.imp h).mono hj, r⟩
theorem spD_imp {n : Nat} {g g' : List Sv → (PyData → Prop) → Prop} (h : ∀ as Φ, g' as Φ → g as Φ) : ∀ vs H Q E, spD K n g' vs H Q E → spD K n g vs H Q E := fun _ _ _ _ ⟨h1, L, P, as, Φ, h2, h3, h4, h5, h6, h7⟩ => ⟨h1, L, P, as, Φ, h2, h3, h4, h5, h as Φ h6, h7⟩
theorem spH_imp {n : Nat} {g g' : Al → List Sv → (Al → Sv → Prop) → Prop} (h : ∀ al as Φ, g' al as Φ → g al as Φ) : ∀ vs H Q E, spH K n g' vs H Q E → spH K n g vs H Q E := fun _ _ _ _ ⟨h1, L, W, P, al, as, Φ, h2, h3, h4, h5, h6, h7, h8, h9⟩ => ⟨h1, L, W, P, al, as, Φ, h2, h3, h4, h5, h6, h7, h al as Φ h8, h9⟩
theorem spD_no {n : Nat} {g : List Sv → (PyData → Prop) → Prop} {vs : List V} {H : Hp} {Q : VK} {E : XK} (h : ∀ as Φ, ¬ g as Φ) : ¬ spD K n g vs H Q E := fun ⟨_, L, P, as, Φ, _, _, _, _, h6, _⟩ => h as Φ h6
theorem spH_no {n : Nat} {g : Al → List Sv → (Al → Sv → Prop) → Prop} {vs : List V} {H : Hp} {Q : VK} {E : XK} (h : ∀ al as Φ, ¬ g al as Φ) : ¬ spH K n g vs H Q E := fun ⟨_, L, W, P, al, as, Φ, _, _, _, _, _, _, h8, _⟩ => h al as Φ h8
end
theorem pe_mk0 {X : Cx} {k j : Nat} {C : Addr} {x : Str} {sp : Sp} {p pos : Pos} (c : Mak X.prog X.w X.K X.mg X.base k x C sp) (hr : Room j X.A) (hk : k + 1 ≤ j) (hg : Gl X x) (hdb : (x == ("__debug__" : Str)) = false := by decide) :
    PE X (.Call (.Name x p) [] [] pos) (tMake C sp [] E0 tNil) := by
  obtain ⟨f, fd, ps, M, F, hm, b⟩ := c.ex
  exact pe_make0 M F (hr.mono hk) hg hm b .nil pass0 hdb
def fnD (i : Nat) (n : Nat) (G : Addr → Option (List Sv → (PyData → Prop) → Prop)) (δ : Dn) (k : (List Sv → (PyData → Prop) → Prop) → Prop) : Prop := match δ.at_ i with
  | some (.fn a) => match G a with
    | some g => k g
    | none => False
  | _ => False
instance {K : PySem.W.Frag} {Γ : Gm} {i n : Nat} {G : Addr → Option (List Sv → (PyData → Prop) → Prop)} {t : TA} {f : Dn → (List Sv → Dn → Prop) → Prop} [A : DA K Γ t f] :
    DE K Γ (tCallA i (fun a => (G a).map (spD K n)) t) (fun δ Φ => fnD i n G δ fun g => f δ fun as δ1 => as.length = n ∧ g as fun d => Φ (.dat d) δ1) := ⟨fun {L δ σ S H Φ Q} I h q => by
  unfold fnD at h
  split at h
  · rename_i a e
    obtain ⟨_, v, e1, e2⟩ := I.slot i _ (getD_some e)
    cases (show v = .ref a from e2)
    split at h
    · rename_i g eg
      refine ⟨a, spD K n g, e1, (by show Option.map (spD K n) (G a) = _; rw [eg]; rfl), A.run I h fun as L1 δ1 vs H1 J ar h1 => ?_⟩
      refine ⟨ar.len.trans h1.1, L1, Γ.P, as, _, fun p hp => J.sub p (J.pin0 p hp), J.live, J.pens, AR.swap (Γ := Γ) (Γ' := ⟨Γ.P, Γ.P, L1, H1⟩) rfl ar, h1.2, fun d v H' f1 p1 dv hd => ?_⟩
      exact q (.dat d) L1 δ1 v H' ((J.keep f1 p1).dat dv) hd
    · exact h.elim
  · exact h.elim⟩
end B

/-! The data layer: known objects, their fields, methods, dicts, lists. -/
namespace B
open PySem PySem.Spec PyProof.Rows L2
/-- the known object that is told -/
def onR (s : Sv) (k : Addr → Prop) : Prop := match s with
  | .ref a => k a
  | _ => False
def asIns (al : Al) (a : Addr) (k : Addr → Addr → List (Str × Sv) → Prop) : Prop := match al a with
  | some (.ins C dx fs) => k C dx fs
  | _ => False
def asLst (al : Al) (a : Addr) (k : List Sv → Prop) : Prop := match al a with
  | some (.lst ss) => k ss
  | _ => False
def onF (fs : List (Str × Sv)) (f : Str) (k : Sv → Prop) : Prop := match fs.lookup f with
  | some s => k s
  | none => False
theorem asIns_of {al : Al} {a C dx : Addr} {fs : List (Str × Sv)} {k : Addr → Addr → List (Str × Sv) → Prop} (e : al a = some (.ins C dx fs)) (h : k C dx fs) : asIns al a k := by
  unfold asIns; rw [e]; exact h
theorem asLst_of {al : Al} {a : Addr} {ss : List Sv} {k : List Sv → Prop} (e : al a = some (.lst ss)) (h : k ss) : asLst al a k := by
  unfold asLst; rw [e]; exact h
theorem onF_of {fs : List (Str × Sv)} {f : Str} {s : Sv} {k : Sv → Prop} (e : fs.lookup f = some s) (h : k s) : onF fs f k := by
  unfold onF; rw [e]; exact h
def putS (f : Str) (v : Sv) : List (Str × Sv) → List (Str × Sv)
  | [] => [(f, v)]
  | (g, x) :: r => if g = f then (g, v) :: r else (g, x) :: putS f v r
section
variable {K : PySem.W.Frag} {Γ : Gm}
section
variable {L : List Addr} {δ : Dn} {σ : L2.St} {S : List (Sv × V)} {H : Hp} {s : Sv} {v : V}
theorem Top.ref {k : Addr → Prop} (T : Top K Γ L δ σ S H s v) (h : onR s k) : ∃ a, s = .ref a ∧ v = .ref a ∧ Sim K Γ L δ σ S H ∧ k a := by
  cases s with
  | ref a => exact ⟨a, rfl, Sim.top T, Sim.pop T, h⟩
  | _ => exact h.elim
theorem Sim.ins {a : Addr} {k : Addr → Addr → List (Str × Sv) → Prop} (I : Sim K Γ L δ σ S H) (h : asIns δ.al a k) : ∃ C dx fs vs, δ.al a = some (.ins C dx fs) ∧ H a = some (.ins C dx vs) ∧ SvF K L H fs vs ∧ k C dx fs := by
  unfold asIns at h
  split at h
  · rename_i C dx fs e
    obtain ⟨vs, e2, e3⟩ := (I.obj a _ e).2
    exact ⟨C, dx, fs, vs, e, e2, e3, h⟩
  · exact h.elim
theorem Sim.lst {a : Addr} {k : List Sv → Prop} (I : Sim K Γ L δ σ S H) (h : asLst δ.al a k) : ∃ ss xs, δ.al a = some (.lst ss) ∧ H a = some (.lst xs) ∧ SvIs K L H ss xs ∧ k ss := by
  unfold asLst at h
  split at h
  · rename_i ss e
    obtain ⟨xs, e2, e3⟩ := (I.obj a _ e).2
    exact ⟨ss, xs, e, e2, e3, h⟩
  · exact h.elim
theorem SvF.lookup {f : Str} : ∀ {fs : List (Str × Sv)} {vs : List (Str × V)} {s : Sv}, SvF K L H fs vs → fs.lookup f = some s → ∃ v, vs.lookup f = some v ∧ SvI K L H s v
  | [], _, _, _, e => by cases e
  | (g, t) :: fs, _, s, ⟨v, r, e1, h1, h2⟩, e => by
    cases e1
    by_cases z : (f == g) = true
    · simp only [List.lookup, z] at e ⊢
      cases e
      exact ⟨v, rfl, h1⟩
    · have z' : (f == g) = false := by simpa using z
      simp only [List.lookup, z'] at e ⊢
      exact h2.lookup e
theorem SvF.miss {f : Str} : ∀ {fs : List (Str × Sv)} {vs : List (Str × V)}, SvF K L H fs vs → fs.lookup f = none → vs.lookup f = none
  | [], _, h, _ => by cases h; rfl
  | (g, t) :: fs, _, ⟨v, r, e1, h1, h2⟩, e => by
    cases e1
    by_cases z : (f == g) = true
    · simp only [List.lookup, z] at e
      cases e
    · have z' : (f == g) = false := by simpa using z
      simp only [List.lookup, z'] at e ⊢
      exact h2.miss e
theorem SvF.len : ∀ {fs : List (Str × Sv)} {vs : List (Str × V)}, SvF K L H fs vs → vs.length = fs.length
  | [], _, h => by cases h; rfl
  | _ :: _, _, ⟨v, r, e, _, h⟩ => by cases e; show r.length + 1 = _ + 1; rw [h.len]
theorem SvF.put {f : Str} {s : Sv} {v : V} (hs : SvI K L H s v) : ∀ {fs : List (Str × Sv)} {vs : List (Str × V)}, SvF K L H fs vs → SvF K L H (putS f s fs) (putF f v vs)
  | [], _, h => by cases h; exact ⟨v, [], rfl, hs, rfl⟩
  | (g, t) :: fs, _, ⟨w, r, e1, h1, h2⟩ => by
    cases e1
    unfold putS putF
    split
    · exact ⟨v, r, rfl, hs, h2⟩
    · exact ⟨w, _, rfl, h1, h2.put hs⟩
theorem SvIs.len : ∀ {ss : List Sv} {vs : List V}, SvIs K L H ss vs → vs.length = ss.length
  | [], _, h => by cases h; rfl
  | _ :: _, _, ⟨v, r, e, _, h⟩ => by cases e; show r.length + 1 = _ + 1; rw [h.len]
theorem SvIs.get : ∀ {ss : List Sv} {vs : List V} {i : Nat} {s : Sv}, SvIs K L H ss vs → ss[i]? = some s → ∃ v, vs[i]? = some v ∧ SvI K L H s v
  | [], _, _, _, _, e => by simp at e
  | s :: ss, _, 0, t, ⟨v, r, e, h1, h2⟩, g => by
    cases e
    simp at g
    subst g
    exact ⟨v, rfl, h1⟩
  | s :: ss, _, i + 1, t, ⟨v, r, e, h1, h2⟩, g => by
    cases e
    obtain ⟨w, e', h'⟩ := h2.get (i := i) (by simpa using g)
    exact ⟨w, by simpa using e', h'⟩
theorem SvIs.app : ∀ {ss ts : List Sv} {vs us : List V}, SvIs K L H ss vs → SvIs K L H ts us → SvIs K L H (ss ++ ts) (vs ++ us)
  | [], _, _, _, h, g => by cases h; exact g
  | _ :: _, _, _, _, ⟨v, r, e, h1, h2⟩, g => by cases e; exact ⟨v, r ++ _, rfl, h1, h2.app g⟩
theorem SvIs.set : ∀ {ss : List Sv} {vs : List V} {i : Nat} {s : Sv} {v : V}, SvIs K L H ss vs → SvI K L H s v → SvIs K L H (ss.set i s) (vs.set i v)
  | [], _, _, _, _, h, _ => by cases h; exact rfl
  | _ :: _, _, 0, _, _, ⟨w, r, e, h1, h2⟩, g => by cases e; exact ⟨_, _, rfl, g, h2⟩
  | _ :: _, _, i + 1, _, _, ⟨w, r, e, h1, h2⟩, g => by cases e; exact ⟨_, _, rfl, h1, h2.set g⟩
theorem SvIs.dropLast : ∀ {ss : List Sv} {vs : List V}, SvIs K L H ss vs → SvIs K L H ss.dropLast vs.dropLast
  | [], _, h => by cases h; exact rfl
  | [_], _, ⟨w, r, e, h1, h2⟩ => by cases e; cases h2; exact rfl
  | _ :: s :: ss, _, ⟨w, r, e, h1, w2, r2, e2, h2, h3⟩ => by
    cases e
    cases e2
    exact ⟨w, _, rfl, h1, SvIs.dropLast (ss := s :: ss) ⟨w2, r2, rfl, h2, h3⟩⟩
theorem Sim.item (I : Sim K Γ L δ σ S H) (h : SvI K L H s v) (np : ∀ p, s ≠ .pen p) : Top K Γ L δ σ S H s v := by
  cases s with
  | dat d => exact I.dat h
  | ref a => exact I.push (s := .ref a) h rfl fun _ z => nomatch z
  | fn a => exact I.push (s := .fn a) h rfl fun _ z => nomatch z
  | pen p => exact absurd rfl (np p)
  | own ds => exact h.elim
  | ali i => exact h.elim
/-- what may stand within an object -/
def inOb (s : Sv) (k : Sv → Prop) : Prop := match s with
  | .dat d => k (.dat d)
  | .ref a => k (.ref a)
  | .fn a => k (.fn a)
  | _ => False
theorem inOb_run {k : Sv → Prop} (h : inOb s k) (r : SlR K Γ L σ H s v) : SvI K L H s v ∧ k s := by
  cases s with
  | dat d => exact ⟨r, h⟩
  | ref d => exact ⟨r, h⟩
  | fn d => exact ⟨r, h⟩
  | _ => exact h.elim
theorem inOb_top {k : Sv → Prop} (I : Sim K Γ L δ σ S H) (r : SvI K L H s v) (h : inOb s k) : Top K Γ L δ σ S H s v ∧ k s := by
  cases s with
  | dat d => exact ⟨I.item r (fun _ z => nomatch z), h⟩
  | ref d => exact ⟨I.item r (fun _ z => nomatch z), h⟩
  | fn d => exact ⟨I.item r (fun _ z => nomatch z), h⟩
  | _ => exact h.elim
end
/-! ### rules with K by name -/
section
variable {X : Cx}
theorem ps_fldK (K : PySem.W.Frag) {o value : Expr} {f : Str} {pos pos' : Pos} {ta tv : TE} (h : X.K = K) (ha : PE X o ta) (hv : PE X value tv) (hs : swapsWith value (some (.Attribute o f pos')) pos.line X.env = pure false) : PS X (.Assign [.Attribute o f pos'] value pos) (sFld K ta tv f) := by subst h; exact ps_fld ha hv hs
theorem ps_fldaugK (K : PySem.W.Frag) {o value : Expr} {f : Str} {pos tpos : Pos} {ta tv : TE} {op : Operator} {rd : V → V → Hp → VK → Prop} (h : X.K = K) (ha : PE X o ta) (hv : PE X value tv) (hop : InOp X op rd) : PS X (.AugAssign (.Attribute o f tpos) op value pos) (sFldAug K ta tv rd f) := by subst h; exact ps_fldaug ha hv hop
theorem pg_unlK (K : PySem.W.Frag) {es : List Expr} {k : Nat} {t : TGs} {n : Nat} {pos : Pos} (h : X.K = K) (hc : X.calm = true) (hp : PGs X es t) (hn : (assignEach es X.env).length = n) (hst : (assignEach es X.env).findIdx? (·.1) = none) : PG X (.Tuple es k pos) (gUnl K n t) := by subst h; exact pg_unl hc hp hn hst
end
/-! ### fields -/
instance {e : TE} {f : Str} {fe : Dn → (Sv → Dn → Prop) → Prop} [E : DE K Γ e fe] : DE K Γ (tFld K e f) (fun δ Φ => fe δ fun s δ1 => onR s fun a => asIns δ1.al a fun C _ fs => (Cls K C ∧ NoAttr K C f) ∧ onF fs f fun t => inOb t fun t => Φ t δ1) := ⟨fun {L δ σ S H Φ Q} I h q =>
  E.run I h fun s L1 δ1 v H1 T h1 => by
    obtain ⟨a, rfl, rfl, J, h2⟩ := T.ref h1
    obtain ⟨C, dx, fs, vs, e1, e2, e3, ⟨c, n⟩, h3⟩ := J.ins h2
    unfold onF at h3
    split at h3
    · rename_i t et
      obtain ⟨w, e4, e5⟩ := e3.lookup et
      obtain ⟨T2, h4⟩ := inOb_top J e5 h3
      exact ⟨a, C, dx, vs, w, rfl, e2, c, n, e4, q t L1 δ1 w H1 T2 h4⟩
    · exact h3.elim⟩
theorem Sim.put_ins {L : List Addr} {δ : Dn} {σ : L2.St} {S : List (Sv × V)} {H : Hp} {a C dx : Addr} {fs : List (Str × Sv)} {vs : List (Str × V)} {f : Str} {s : Sv} {v : V} (J : Sim K Γ L δ σ S H) (e1 : δ.al a = some (.ins C dx fs)) (e2 : H a = some (.ins C dx vs)) (e3 : SvF K L H fs vs) (i : SvI K L H s v) :
    Sim K Γ L (δ.know (oup δ.al a (.ins C dx (putS f s fs)))) σ S (upd H a (.ins C dx (putF f v vs))) := by
  have aL := (J.obj a _ e1).1.1
  have f1 : Fr [a] H (upd H a (.ins C dx (putF f v vs))) := .wr e2 trivial (by simp)
  have inL : ∀ b ∈ [a], b ∈ L := fun b hb => by cases List.mem_singleton.mp hb; exact aL
  exact J.wrOb e1 ⟨_, upd_same, (e3.put i).to fun d v => Dv.mono f1 inL⟩
/-- o.f = e -/
instance {eo ev : TE} {f : Str} {fo fv : Dn → (Sv → Dn → Prop) → Prop} [O : DE K Γ eo fo] [E : DE K Γ ev fv] : DS K Γ (sFld K eo ev f) (fun δ Ψ => fv δ fun s δ1 => asA s δ1 fun t δ2 => inOb t fun t => fo δ2 fun u δ3 => onR u fun a => asIns δ3.al a fun C dx fs => ((Cls K C ∧ NoAttr K C f) ∧ fs.length < 1000) ∧ Ψ.nx (δ3.know (oup δ3.al a (.ins C dx (putS f t fs))))) := ⟨fun {L δ σ S H Ψ D} I h q => by
  refine E.run I h fun s L1 δ1 v H1 T h1 => ?_
  obtain ⟨L2, δ2, t, J, nt, h2⟩ := T.arg h1
  have h3 := (inOb_run h2 J.top).2
  refine O.run J h3 fun u L3 δ3 w H3 T3 h4 => ?_
  obtain ⟨a, rfl, rfl, J3, h5⟩ := T3.ref h4
  obtain ⟨C, dx, fs, vs, e1, e2, e3, ⟨⟨c, n⟩, hl⟩, h6⟩ := J3.ins h5
  refine ⟨a, C, dx, vs, rfl, e2, c, n, by rw [e3.len]; exact hl, q.nx (J3.pop.put_ins e1 e2 e3 ?_) h6⟩
  exact (inOb_run (k := fun _ => True) (s := t) (by cases t <;> first | trivial | exact h2) J3.top).1⟩
/-- a target o.f -/
instance {eo : TE} {f : Str} {fo : Dn → (Sv → Dn → Prop) → Prop} [O : DE K Γ eo fo] : DG K Γ (gFld K eo f) (fun s δ k => inOb s fun t => fo δ fun u δ3 => onR u fun a => asIns δ3.al a fun C dx fs => ((Cls K C ∧ NoAttr K C f) ∧ fs.length < 1000) ∧ k (δ3.know (oup δ3.al a (.ins C dx (putS f t fs))))) [] := ⟨fun {L δ σ S H s v k Z} I h q => by
  have h3 := (inOb_run h I.top).2
  refine O.run I h3 fun u L3 δ3 w H3 T3 h4 => ?_
  obtain ⟨a, rfl, rfl, J3, h5⟩ := T3.ref h4
  obtain ⟨C, dx, fs, vs, e1, e2, e3, ⟨⟨c, n⟩, hl⟩, h6⟩ := J3.ins h5
  refine ⟨a, C, dx, vs, rfl, e2, c, n, by rw [e3.len]; exact hl, q L3 _ σ _ (J3.pop.put_ins e1 e2 e3 ?_) .refl h6⟩
  exact (inOb_run (k := fun _ => True) (s := s) (by cases s <;> first | trivial | exact h) J3.top).1⟩
/-- o.f += e -/
instance {eo ev : TE} {r : R2} {f : Str} {fo fv : Dn → (Sv → Dn → Prop) → Prop} {g : PyData → PyData → (PyData → Prop) → Prop} [R : DR K Γ r g] [O : DE K Γ eo fo] [E : DE K Γ ev fv] : DS K Γ (sFldAug K eo ev r f) (fun δ Ψ => fo δ fun u δ1 => onR u fun a => asIns δ1.al a fun C _ fs => (Cls K C ∧ NoAttr K C f) ∧ onF fs f fun t => onD t fun x => fv δ1 fun s δ2 => asD s δ2 fun y δ3 => g x y fun z => asIns δ3.al a fun C' dx' fs' => (C' = C ∧ fs'.length < 1000) ∧ Ψ.nx (δ3.know (oup δ3.al a (.ins C' dx' (putS f (.dat z) fs'))))) := ⟨fun {L δ σ S H Ψ D} I h q => by
  refine O.run I h fun u L1 δ1 v H1 T h1 => ?_
  obtain ⟨a, rfl, rfl, J, h2⟩ := T.ref h1
  obtain ⟨C, dx, fs, vs, e1, e2, e3, ⟨c, n⟩, h3⟩ := J.ins h2
  unfold onF at h3
  split at h3
  · rename_i t et
    obtain ⟨w, e4, e5⟩ := e3.lookup et
    cases t with
    | dat x =>
      refine ⟨a, C, dx, vs, w, rfl, e2, c, n, e4, ?_⟩
      refine DE.data (T := E) (J.dat (d := x) e5) h3 fun y L2 δ2 vy H2 J2 h4 => ?_
      refine R.run J2.pop.top J2.top h4 fun z vz H3 f3 dz h5 => ?_
      have J3 := J2.pop.pop.more f3
      obtain ⟨C', dx', fs', vs', e6, e7, e8, ⟨rfl, hl⟩, h6⟩ := J3.ins h5
      refine ⟨dx', vs', e7, by rw [e8.len]; exact hl, q.nx (J3.put_ins (s := .dat z) e6 e7 e8 dz) h6⟩
    | _ => exact h3.elim
  · exact h3.elim⟩
instance : DR K Γ rAdd (fun x y Φ => onI x fun i => onI y fun j => Φ (.int (i + j))) := ⟨fun dx dy h q => by
  obtain ⟨i, rfl, rfl, h1⟩ := onI_run dx h
  obtain ⟨j, rfl, rfl, h2⟩ := onI_run dy h1
  exact ⟨i, j, rfl, rfl, q (.int (i + j)) _ _ (.refl _ _) rfl h2⟩⟩
instance : DR K Γ rSub (fun x y Φ => onI x fun i => onI y fun j => Φ (.int (i - j))) := ⟨fun dx dy h q => by
  obtain ⟨i, rfl, rfl, h1⟩ := onI_run dx h
  obtain ⟨j, rfl, rfl, h2⟩ := onI_run dy h1
  exact ⟨i, j, rfl, rfl, q (.int (i - j)) _ _ (.refl _ _) rfl h2⟩⟩
/-! ### methods, new instances -/
instance {C : Addr} {m : Str} {n : Nat} {g : Al → List Sv → (Al → Sv → Prop) → Prop} {eo : TE} {t : TA} {fo : Dn → (Sv → Dn → Prop) → Prop} {f : Dn → (List Sv → Dn → Prop) → Prop} [O : DE K Γ eo fo] [A : DA K Γ t f] :
    DE K Γ (tMeth C m (spH K n g) [] E0 eo t) (fun δ Φ => fo δ fun s δ1 => onR s fun a => asIns δ1.al a fun C' _ fs => (C' = C ∧ fs.lookup m = none) ∧ f δ1 fun as δ2 => as.length + 1 = n ∧ g δ2.al (.ref a :: as) fun al' s => Φ s (δ2.know al')) := ⟨fun {L δ σ S H Φ Q} I h q => by
  refine O.run I h fun s L1 δ1 v H1 T h1 => ?_
  obtain ⟨a, rfl, rfl, J, h2⟩ := T.ref h1
  obtain ⟨C', dx, fs, vs, e1, e2, e3, ⟨rfl, hn⟩, h3⟩ := J.ins h2
  refine ⟨a, dx, vs, rfl, e2, e3.miss hn, A.run J h3 fun as L2 δ2 vs H2 J2 ar h4 => ?_⟩
  rw [List.append_nil]
  exact J2.called (as := .ref a :: as) ⟨_, _, rfl, rfl, rfl, (fun _ z => nomatch z), ar⟩ h4.1 h4.2 fun s L' al' v H' J3 h5 => q s L' _ v H' J3.topOf h5⟩
instance {C : Addr} {n : Nat} {g : Al → List Sv → (Al → Sv → Prop) → Prop} {t : TA} {f : Dn → (List Sv → Dn → Prop) → Prop} [A : DA K Γ t f] :
    DE K Γ (tMake C (spH K n g) [] E0 t) (fun δ Φ => f δ fun as δ1 => as.length + 1 = n ∧ ∀ x dx, δ1.al x = none → g (oup δ1.al x (.ins C dx [])) (.ref x :: as) fun al' s => s = .dat .none ∧ Φ (.ref x) (δ1.know al')) := ⟨fun {L δ σ S H Φ Q} I h q => by
  refine A.run I h fun as L1 δ1 vs H1 J ar h1 => ?_
  rw [List.append_nil]
  intro x dx nx ndx ne
  have nx2 : (upd H1 dx (.own x)) x = none := by rw [upd_ne (Ne.symm ne)]; exact nx
  have J1 : Sim K Γ L1 δ1 σ S (upd H1 dx (.own x)) := J.more (.new ndx)
  have al0 := (J1.fresh nx2).1
  have J2 := J1.newOb (u := .ins C dx []) (o := .ins C dx []) nx2 ⟨[], upd_same, rfl⟩
  have ar2 : AR K Γ (x :: L1) (upd (upd H1 dx (.own x)) x (.ins C dx [])) (.ref x :: as) (.ref x :: vs) := by
    refine ⟨_, _, rfl, rfl, rfl, (fun _ z => nomatch z), ?_⟩
    have mo : ∀ {ss : List Sv} {ws : List V}, AR K Γ L1 H1 ss ws → AR K Γ (x :: L1) (upd (upd H1 dx (.own x)) x (.ins C dx [])) ss ws := by
      intro ss
      induction ss with
      | nil => exact fun h => h
      | cons s ss ih =>
        rintro ws ⟨w, r, e, q1, q2, q3, q4⟩
        refine ⟨w, r, e, ?_, q2, q3, ih q4⟩
        have fr : Fr [] H1 (upd (upd H1 dx (.own x)) x (.ins C dx [])) := (Fr.new ndx).trans (.new nx2)
        cases s with
        | dat d => exact Dv.mono fr (fun _ z => nomatch z) (Dv.sub (fun b hb => (List.mem_cons.mp hb).elim (fun e => .inr (e ▸ nx)) .inl) q1)
        | own ds => cases q2
        | ali j => exact absurd rfl (q3 j)
        | _ => exact q1
    exact mo ar
  refine J2.called (as := .ref x :: as) (Φ := fun s δ3 => s = .dat .none ∧ Φ (.ref x) δ3) ar2 h1.1 (h1.2 x dx al0) fun s L' al' v H' J3 h5 => ?_
  obtain ⟨rfl, h6⟩ := h5
  have tv : v = .non := J3.top
  exact ⟨tv, q (.ref x) L' _ _ H' (J3.pop.push (s := .ref x) rfl rfl fun _ z => nomatch z) h6⟩⟩
/-! ### what is marked to become a known object -/
def tRef (t : TE) : TE := t
theorem pe_ref {X : Cx} {e : Expr} {t : TE} (h : PE X e t) : PE X e (tRef t) := h
/-- a list under construction becomes a known object -/
def asR (s : Sv) (δ : Dn) (k : Sv → Dn → Prop) : Prop := match s with
  | .own ds => ∀ p, δ.al p = none → k (.ref p) (δ.know (oup δ.al p (.lst (ds.map .dat))))
  | s => k s δ
instance {t : TE} {f : Dn → (Sv → Dn → Prop) → Prop} [E : DE K Γ t f] : DE K Γ (tRef t) (fun δ Φ => f δ fun s δ1 => asR s δ1 Φ) := ⟨fun {L δ σ S H Φ Q} I h q =>
  E.run I h fun s L1 δ1 v H1 T h1 => by
    cases s with
    | own ds =>
      obtain ⟨a, xs, rfl, _⟩ := Sim.top T
      obtain ⟨n, _, J⟩ := Sim.toRef T
      exact q (.ref a) L1 _ _ H1 (J.push (s := .ref a) rfl rfl fun _ z => nomatch z) (h1 a n)
    | _ => exact q _ L1 δ1 v H1 T h1⟩
/-- a list of objects -/
def tLstO (t : TA) : TE := tLst t
theorem pe_lstO {X : Cx} {es : List Expr} {t : TA} {k : Nat} {pos : Pos} {e : Expr} (h : PE X e (tLst t)) : PE X e (tLstO t) := h
def allOb : List Sv → Bool
  | [] => true
  | .dat _ :: ss => allOb ss
  | .ref _ :: ss => allOb ss
  | .fn _ :: ss => allOb ss
  | _ :: _ => false
theorem allOb_run {L : List Addr} {H : Hp} : ∀ {ss : List Sv} {vs : List V}, AR K Γ L H ss vs → allOb ss = true → SvIs K L H ss vs
  | [], _, h, _ => h
  | s :: ss, _, ⟨v, r, e, h1, h2, h3, h4⟩, ha => by
    cases s with
    | dat d => exact ⟨v, r, e, h1, allOb_run h4 ha⟩
    | ref d => exact ⟨v, r, e, h1, allOb_run h4 ha⟩
    | fn d => exact ⟨v, r, e, h1, allOb_run h4 ha⟩
    | _ => cases ha
theorem SvIs.mono {L L' P : List Addr} {H H' : Hp} (s : ∀ a, a ∈ L' → a ∈ L ∨ H a = none) (f : Fr P H H') (hP : ∀ a ∈ P, a ∈ L') {ss : List Sv} {vs : List V} (h : SvIs K L H ss vs) : SvIs K L' H' ss vs := h.to fun d v z => Dv.mono f hP (Dv.sub s z)
theorem ARlen {L : List Addr} {H : Hp} {ss : List Sv} {vs : List V} (h : SvIs K L H ss vs) : vs.length = ss.length := h.len
instance {t : TA} {f : Dn → (List Sv → Dn → Prop) → Prop} [A : DA K Γ t f] : DE K Γ (tLstO t) (fun δ Φ => f δ fun ss δ1 => (allOb ss = true ∧ ss.length ≤ 1000000) ∧ ∀ p, δ1.al p = none → Φ (.ref p) (δ1.know (oup δ1.al p (.lst ss)))) := ⟨fun {L δ σ S H Φ Q} I h q => by
  refine A.run I h fun ss L1 δ1 vs H1 J ar h1 => ?_
  have sv := allOb_run ar h1.1.1
  refine ⟨by rw [sv.len]; exact Nat.le_trans h1.1.2 (by decide), fun p np => ?_⟩
  have J2 := J.newOb (u := .lst vs) (o := .lst ss) np ⟨vs, upd_same, sv.mono (fun b hb => (List.mem_cons.mp hb).elim (fun e => .inr (e ▸ np)) .inl) (.new np) (P := []) fun _ z => nomatch z⟩
  exact q (.ref p) _ _ _ _ (J2.push (s := .ref p) rfl rfl fun _ z => nomatch z) (h1.2 p (J.fresh np).1)⟩
end
end B

/-! The data layer: dicts and lists that are known objects. -/
namespace B
open PySem PySem.Spec PyProof.Rows L2
/-! ### keys -/
def keyD : PyData → Option Key
  | .int i => some (.inl i)
  | .str x => some (.inr x)
  | _ => none
def keysD : List PyData → Option (List Key)
  | [] => some []
  | d :: ds => match keyD d, keysD ds with
    | some k, some ks => some (k :: ks)
    | _, _ => none
section
variable {κ : Type} [DecidableEq κ]
def getE {α : Type} (es : List (κ × α)) (k : κ) : Option α := (es.find? fun e => decide (e.1 = k)).map (·.2)
def putE {α : Type} (es : List (κ × α)) (k : κ) (x : α) : List (κ × α) := if (es.any fun e => decide (e.1 = k)) then es.map fun e => if e.1 = k then (e.1, x) else e else es ++ [(k, x)]
end
theorem keyD_run {K : PySem.W.Frag} {L : List Addr} {H : Hp} {d : PyData} {v : V} {k : Key} (h : Dv K L H d v) (e : keyD d = some k) : v = kV k := by
  cases d <;> (unfold keyD at e; cases e) <;> exact h
theorem keysD_run {K : PySem.W.Frag} {L : List Addr} {H : Hp} : ∀ {ds : List PyData} {vs : List V} {ks : List Key}, Dvs K L H ds vs → keysD ds = some ks → vs = ks.map kV
  | [], _, _, h, e => by cases e; exact h
  | d :: ds, _, ks, ⟨v, r, e1, h1, h2⟩, e => by
    unfold keysD at e
    split at e
    · rename_i a b
      cases e
      rw [e1, keyD_run h1 a, keysD_run h2 b]
      rfl
    · cases e
section
variable {κ : Type} [DecidableEq κ] {K : PySem.W.Frag} {L : List Addr} {H : Hp}
theorem DvK.get {k : κ} : ∀ {es : List (κ × PyData)} {kvs : List (κ × V)}, DvK K L H es kvs → (getE es k = none → valV kvs k = none) ∧ ∀ d, getE es k = some d → ∃ v, valV kvs k = some v ∧ Dv K L H d v
  | [], _, h => by cases h; exact ⟨(fun _ => rfl), (fun _ e => by cases e)⟩
  | (j, x) :: es, _, ⟨v, r, e, h1, h2⟩ => by
    cases e
    have ih := h2.get (k := k)
    unfold getE valV at ih ⊢
    by_cases z : j = k
    · simp only [List.find?_cons, z, decide_true]
      exact ⟨(fun e => by cases e), (fun d e => by cases e; exact ⟨v, rfl, h1⟩)⟩
    · simp only [List.find?_cons, z, decide_false]
      exact ih
theorem DvK.len {κ : Type} : ∀ {es : List (κ × PyData)} {kvs : List (κ × V)}, DvK K L H es kvs → kvs.length = es.length
  | [], _, h => by cases h; rfl
  | _ :: _, _, ⟨v, r, e, _, h⟩ => by cases e; show r.length + 1 = _ + 1; rw [h.len]
theorem DvK.any {k : κ} : ∀ {es : List (κ × PyData)} {kvs : List (κ × V)}, DvK K L H es kvs → (kvs.any fun e => decide (e.1 = k)) = es.any fun e => decide (e.1 = k)
  | [], _, h => by cases h; rfl
  | (j, x) :: es, _, ⟨v, r, e, _, h⟩ => by cases e; simp only [List.any_cons, h.any]
theorem DvK.repl {k : κ} {d : PyData} {v : V} (hd : Dv K L H d v) : ∀ {es : List (κ × PyData)} {kvs : List (κ × V)}, DvK K L H es kvs → DvK K L H (es.map fun e => if e.1 = k then (e.1, d) else e) (kvs.map fun e => if e.1 = k then (e.1, v) else e)
  | [], _, h => by cases h; exact rfl
  | (j, x) :: es, _, ⟨w, r, e, h1, h⟩ => by
    cases e
    rw [List.map_cons, List.map_cons]
    by_cases z : j = k
    · simp only [z, if_true]
      exact ⟨v, _, rfl, hd, h.repl hd⟩
    · simp only [z, if_false]
      exact ⟨w, _, rfl, h1, h.repl hd⟩
theorem DvK.snoc {κ : Type} {k : κ} {d : PyData} {v : V} (hd : Dv K L H d v) : ∀ {es : List (κ × PyData)} {kvs : List (κ × V)}, DvK K L H es kvs → DvK K L H (es ++ [(k, d)]) (kvs ++ [(k, v)])
  | [], _, h => by cases h; exact ⟨v, [], rfl, hd, rfl⟩
  | (j, x) :: es, _, ⟨w, r, e, h1, h⟩ => by cases e; exact ⟨w, _, rfl, h1, h.snoc hd⟩
theorem DvK.put {k : κ} {d : PyData} {v : V} (hd : Dv K L H d v) {es : List (κ × PyData)} {kvs : List (κ × V)} (h : DvK K L H es kvs) : DvK K L H (putE es k d) (putK kvs k v) := by
  unfold putE putK
  rw [h.any]
  split
  · exact h.repl hd
  · exact h.snoc hd
end
/-! ### dicts -/
/-- what a known dict holds under a key -/
def dictAt (al : Al) (a : Addr) (y : PyData) (k : Option PyData → Prop) : Prop := match al a with
  | some (.dK es) => match keyD y with
    | some κ => k (getE es κ)
    | none => False
  | some (.dT es) => match y with
    | .tuple ds => (ds ≠ [] ∧ ds.length < 4) ∧ match keysD ds with
      | some κs => k (getE es κs)
      | none => False
    | _ => False
  | _ => False
def dictPut (al : Al) (a : Addr) (y d : PyData) (k : Al → Prop) : Prop := match al a with
  | some (.dK es) => match keyD y with
    | some κ => es.length < 1000000 ∧ k (oup al a (.dK (putE es κ d)))
    | none => False
  | some (.dT es) => match y with
    | .tuple ds => (ds ≠ [] ∧ ds.length < 4) ∧ match keysD ds with
      | some κs => es.length < 1000000 ∧ k (oup al a (.dT (putE es κs d)))
      | none => False
    | _ => False
  | _ => False
theorem dictAt_K {al : Al} {a : Addr} {es : List (Key × PyData)} {y : PyData} {κ : Key} {k : Option PyData → Prop} (e : al a = some (.dK es)) (ek : keyD y = some κ) (h : k (getE es κ)) : dictAt al a y k := by
  unfold dictAt; rw [e]; dsimp only; rw [ek]; exact h
theorem dictPut_K {al : Al} {a : Addr} {es : List (Key × PyData)} {y d : PyData} {κ : Key} {k : Al → Prop} (e : al a = some (.dK es)) (ek : keyD y = some κ) (hl : es.length < 1000000) (h : k (oup al a (.dK (putE es κ d)))) : dictPut al a y d k := by
  unfold dictPut; rw [e]; dsimp only; rw [ek]; exact ⟨hl, h⟩
theorem dictAt_T {al : Al} {a : Addr} {es : List (List Key × PyData)} {ds : List PyData} {κ : List Key} {k : Option PyData → Prop} (e : al a = some (.dT es)) (h0 : ds ≠ [] ∧ ds.length < 4) (ek : keysD ds = some κ) (h : k (getE es κ)) : dictAt al a (.tuple ds) k := by
  unfold dictAt; rw [e]; dsimp only; rw [ek]; exact ⟨h0, h⟩
theorem dictPut_T {al : Al} {a : Addr} {es : List (List Key × PyData)} {ds : List PyData} {d : PyData} {κ : List Key} {k : Al → Prop} (e : al a = some (.dT es)) (h0 : ds ≠ [] ∧ ds.length < 4) (ek : keysD ds = some κ) (hl : es.length < 1000000) (h : k (oup al a (.dT (putE es κ d)))) : dictPut al a (.tuple ds) d k := by
  unfold dictPut; rw [e]; dsimp only; rw [ek]; exact ⟨h0, hl, h⟩
section
variable {K : PySem.W.Frag} {Γ : Gm}
section
variable {L : List Addr} {δ : Dn} {σ : L2.St} {S : List (Sv × V)} {H : Hp} {s : Sv} {v : V}
theorem keyV_keys {ks : List Key} (h0 : ks ≠ []) (h4 : ks.length < 4) : keyV (ks.map kV) = true := by
  unfold keyV
  have e1 : (ks.map kV).isEmpty = false := by cases ks with | nil => exact absurd rfl h0 | cons _ _ => rfl
  rw [e1, List.length_map, decide_eq_true h4]
  show (true && true && _) = true
  rw [List.all_map]
  show (true && _) = true
  rw [Bool.true_and]
  refine List.all_eq_true.mpr fun k _ => ?_
  cases k <;> rfl
theorem keysD_len : ∀ {ds : List PyData} {ks : List Key}, keysD ds = some ks → ks.length = ds.length
  | [], _, e => by cases e; rfl
  | d :: ds, ks, e => by
    unfold keysD at e
    split at e
    · rename_i a b
      cases e
      rw [List.length_cons, List.length_cons, keysD_len b]
    · cases e
theorem tp_key {b : Addr} {vs : List V} {ds : List PyData} {ks : List Key} (h : Tp K H b vs) (ev : vs = ks.map kV) (ek : keysD ds = some ks) (h1 : ds ≠ []) (h2 : ds.length < 4) : H b = some (.tup vs) := by
  have el := keysD_len ek
  refine h.key ?_
  rw [ev]
  exact keyV_keys (fun z => h1 (List.length_eq_zero_iff.mp (by rw [← el, z]; rfl))) (by omega)
theorem Sim.dget {a : Addr} {y : PyData} {k : Option PyData → Prop} (I : Sim K Γ L δ σ S H) (dy : Dv K L H y v) (h : dictAt δ.al a y k) : ∃ o od, DGet H a v o ∧ IsD H a ∧ k od ∧ (od = none → o = none) ∧ ∀ d, od = some d → ∃ x, o = some x ∧ Dv K L H d x := by
  unfold dictAt at h
  split at h
  · rename_i es e
    obtain ⟨kvs, e2, e3⟩ := (I.obj a _ e).2
    split at h
    · rename_i κ ek
      have g := e3.get (k := κ)
      refine ⟨_, getE es κ, ?_, .inl ⟨kvs, .inl e2⟩, h, g.1, g.2⟩
      rw [keyD_run dy ek]
      exact DGet.k e2
    · exact h.elim
  · rename_i es e
    obtain ⟨kvs, e2, e3⟩ := (I.obj a _ e).2
    cases y with
    | tuple ds =>
      obtain ⟨⟨h0, h4⟩, h⟩ := h
      split at h
      · rename_i κs ek
        obtain ⟨b, vs, rfl, t, r⟩ := dy
        have ev := keysD_run r ek
        have el := r.len
        have tb := tp_key t ev ek h0 h4
        rw [ev] at tb
        have g := e3.get (k := κs)
        exact ⟨_, getE es κs, DGet.t e2 tb, .inr ⟨kvs, .inl e2⟩, h, g.1, g.2⟩
      · exact h.elim
    | _ => exact h.elim
  · exact h.elim
theorem Sim.dput {a : Addr} {y d : PyData} {k : Al → Prop} {u : V} (I : Sim K Γ L δ σ S H) (dy : Dv K L H y v) (dd : Dv K L H d u) (h : dictPut δ.al a y d k) : ∃ H' al', DPut H a v u H' ∧ Sim K Γ L (δ.know al') σ S H' ∧ k al' := by
  unfold dictPut at h
  have hs := sizeLine_eq
  split at h
  · rename_i es e
    obtain ⟨⟨aL, _⟩, kvs, e2, e3⟩ := I.obj a _ e
    split at h
    · rename_i κ ek
      have el := e3.len
      have f1 : Fr [a] H (upd H a (.dK (putK kvs κ u))) := .wr e2 trivial (by simp)
      have inL : ∀ b ∈ [a], b ∈ L := fun b hb => by cases List.mem_singleton.mp hb; exact aL
      refine ⟨_, _, ?_, I.wrOb (u := .dK (putK kvs κ u)) (o' := .dK (putE es κ d)) e ⟨_, upd_same, (e3.put dd).to fun d v => Dv.mono f1 inL⟩, h.2⟩
      rw [keyD_run dy ek]
      exact DPut.k e2 (by omega)
    · exact h.elim
  · rename_i es e
    obtain ⟨⟨aL, _⟩, kvs, e2, e3⟩ := I.obj a _ e
    cases y with
    | tuple ds =>
      obtain ⟨⟨h0, h4⟩, h⟩ := h
      split at h
      · rename_i κs ek
        obtain ⟨b, vs, rfl, t, r⟩ := dy
        have ev := keysD_run r ek
        have el := r.len
        have tb := tp_key t ev ek h0 h4
        rw [ev] at tb
        have el2 := e3.len
        have f1 : Fr [a] H (upd H a (.dT (putK kvs κs u))) := .wr e2 trivial (by simp)
        have inL : ∀ b ∈ [a], b ∈ L := fun b hb => by cases List.mem_singleton.mp hb; exact aL
        exact ⟨_, _, DPut.t e2 tb (by omega), I.wrOb (u := .dT (putK kvs κs u)) (o' := .dT (putE es κs d)) e ⟨_, upd_same, (e3.put dd).to fun d v => Dv.mono f1 inL⟩, h.2⟩
      · exact h.elim
    | _ => exact h.elim
  · exact h.elim
end
def someD (o : Option PyData) (k : PyData → Prop) : Prop := match o with
  | some d => k d
  | none => False
/-- d[k] -/
instance {td ty : TE} {fd fy : Dn → (Sv → Dn → Prop) → Prop} [D : DE K Γ td fd] [Y : DE K Γ ty fy] : DE K Γ (tDGet td ty) (fun δ Φ => fd δ fun s δ1 => onR s fun a => fy δ1 fun t δ2 => asD t δ2 fun y δ3 => dictAt δ3.al a y fun o => someD o fun d => Φ (.dat d) δ3) := ⟨fun {L δ σ S H Φ Q} I h q => by
  refine D.run I h fun s L1 δ1 v H1 T h1 => ?_
  obtain ⟨a, rfl, rfl, J, h2⟩ := T.ref h1
  refine DE.data (T := Y) J h2 fun y L2 δ2 u H2 J2 h3 => ?_
  obtain ⟨o, od, g, _, h4, n, sm⟩ := J2.pop.dget J2.top h3
  cases od with
  | none => exact h4.elim
  | some d =>
    obtain ⟨x, rfl, dx⟩ := sm d rfl
    exact ⟨a, x, rfl, g, q (.dat d) L2 δ2 x H2 (J2.pop.dat dx) h4⟩⟩
/-- k in d -/
instance {td ty : TE} {fd fy : Dn → (Sv → Dn → Prop) → Prop} [D : DE K Γ td fd] [Y : DE K Γ ty fy] : DE K Γ (tDIn ty td) (fun δ Φ => fy δ fun t δ1 => asD t δ1 fun y δ2 => fd δ2 fun s δ3 => onR s fun a => dictAt δ3.al a y fun o => Φ (.dat (.bool o.isSome)) δ3) := ⟨fun {L δ σ S H Φ Q} I h q => by
  refine DE.data (T := Y) I h fun y L1 δ1 u H1 J1 h1 => D.run J1 h1 fun s L2 δ2 v H2 T h2 => ?_
  obtain ⟨a, rfl, rfl, J, h3⟩ := T.ref h2
  obtain ⟨o, od, g, _, h4, n, sm⟩ := J.pop.dget J.top h3
  have e : o.isSome = od.isSome := by
    cases od with
    | none => rw [n rfl]; rfl
    | some d => obtain ⟨x, rfl, _⟩ := sm d rfl; rfl
  refine ⟨a, o, rfl, g, ?_⟩
  rw [e]
  exact q (.dat (.bool od.isSome)) L2 δ2 (.bl od.isSome) H2 (J.pop.dat rfl) h4⟩
instance {td ty : TE} {fd fy : Dn → (Sv → Dn → Prop) → Prop} [D : DE K Γ td fd] [Y : DE K Γ ty fy] : DE K Γ (tDNotIn ty td) (fun δ Φ => fy δ fun t δ1 => asD t δ1 fun y δ2 => fd δ2 fun s δ3 => onR s fun a => dictAt δ3.al a y fun o => Φ (.dat (.bool (!o.isSome))) δ3) := ⟨fun {L δ σ S H Φ Q} I h q => by
  refine DE.data (T := Y) I h fun y L1 δ1 u H1 J1 h1 => D.run J1 h1 fun s L2 δ2 v H2 T h2 => ?_
  obtain ⟨a, rfl, rfl, J, h3⟩ := T.ref h2
  obtain ⟨o, od, g, _, h4, n, sm⟩ := J.pop.dget J.top h3
  have e : o.isSome = od.isSome := by
    cases od with
    | none => rw [n rfl]; rfl
    | some d => obtain ⟨x, rfl, _⟩ := sm d rfl; rfl
  refine ⟨a, o, rfl, g, ?_⟩
  rw [e]
  exact q (.dat (.bool (!od.isSome))) L2 δ2 (.bl (!od.isSome)) H2 (J.pop.dat rfl) h4⟩
/-- d[k] = v -/
instance {td ty tv : TE} {fd fy fv : Dn → (Sv → Dn → Prop) → Prop} [D : DE K Γ td fd] [Y : DE K Γ ty fy] [E : DE K Γ tv fv] : DS K Γ (sDPut td ty tv) (fun δ Ψ => fv δ fun s δ1 => asD s δ1 fun x δ2 => fd δ2 fun t δ3 => onR t fun a => fy δ3 fun u δ4 => asD u δ4 fun y δ5 => dictPut δ5.al a y x fun al' => Ψ.nx (δ5.know al')) := ⟨fun {L δ σ S H Ψ Dd} I h q => by
  refine DE.data (T := E) I h fun x L1 δ1 v H1 J1 h1 => D.run J1 h1 fun s L2 δ2 w H2 T h2 => ?_
  obtain ⟨a, rfl, rfl, J, h3⟩ := T.ref h2
  refine DE.data (T := Y) J h3 fun y L3 δ3 u H3 J3 h4 => ?_
  obtain ⟨H', al', g, J4, h5⟩ := J3.pop.pop.dput J3.top J3.pop.top h4
  exact ⟨a, H', rfl, g, q.nx J4 h5⟩⟩
/-- d.get(k, x) -/
instance {td ty tx : TE} {fd fy fx : Dn → (Sv → Dn → Prop) → Prop} [D : DE K Γ td fd] [Y : DE K Γ ty fy] [X : DE K Γ tx fx] : DE K Γ (tDGet2 td ty tx) (fun δ Φ => fd δ fun s δ1 => onR s fun a => ((∃ es, δ1.al a = some (.dK es)) ∨ ∃ es, δ1.al a = some (.dT es)) ∧ fy δ1 fun t δ2 => asD t δ2 fun y δ3 => fx δ3 fun u δ4 => asD u δ4 fun x δ5 => dictAt δ5.al a y fun o => Φ (.dat (o.getD x)) δ5) := ⟨fun {L δ σ S H Φ Q} I h q => by
  refine D.run I h fun s L1 δ1 v H1 T h1 => ?_
  obtain ⟨a, rfl, rfl, J, hd, h2⟩ := T.ref h1
  have isd : IsD H1 a := by
    rcases hd with ⟨es, e⟩ | ⟨es, e⟩
    · obtain ⟨kvs, e2, _⟩ := (J.obj a _ e).2
      exact .inl ⟨kvs, .inl e2⟩
    · obtain ⟨kvs, e2, _⟩ := (J.obj a _ e).2
      exact .inr ⟨kvs, .inl e2⟩
  refine ⟨a, rfl, isd, DE.data (T := Y) J h2 fun y L2 δ2 u H2 J2 h3 => DE.data (T := X) J2 h3 fun x L3 δ3 w H3 J3 h4 => ?_⟩
  obtain ⟨o, od, g, _, h5, n, sm⟩ := J3.pop.pop.dget J3.pop.top h4
  refine ⟨o, g, ?_⟩
  cases od with
  | none =>
    rw [n rfl]
    exact q (.dat x) L3 δ3 w H3 (J3.pop.pop.dat J3.top) h5
  | some d =>
    obtain ⟨z, rfl, dz⟩ := sm d rfl
    exact q (.dat d) L3 δ3 z H3 (J3.pop.pop.dat dz) h5⟩
instance : DE K Γ tDNewK (fun δ Φ => ∀ p, δ.al p = none → Φ (.ref p) (δ.know (oup δ.al p (.dK [])))) := ⟨fun {L δ σ S H Φ Q} I h q => by
  intro p np
  have J := I.newOb (u := .dK []) (o := .dK []) np ⟨[], upd_same, rfl⟩
  exact q (.ref p) _ _ _ _ (J.push (s := .ref p) rfl rfl fun _ z => nomatch z) (h p (I.fresh np).1)⟩
instance : DE K Γ tDNewT (fun δ Φ => ∀ p, δ.al p = none → Φ (.ref p) (δ.know (oup δ.al p (.dT [])))) := ⟨fun {L δ σ S H Φ Q} I h q => by
  intro p np
  have J := I.newOb (u := .dT []) (o := .dT []) np ⟨[], upd_same, rfl⟩
  exact q (.ref p) _ _ _ _ (J.push (s := .ref p) rfl rfl fun _ z => nomatch z) (h p (I.fresh np).1)⟩
/-- len(d) -/
def rLenD : List V → Hp → VK → Prop := fun xs H Q => ∃ a kvs, xs = [V.ref a] ∧ H a = some (.dK kvs) ∧ Q (.int kvs.length) H
theorem call_lenDk {X : Cx} : CallR X (.builtin "len") rLenD := call_lenD
def asDK (al : Al) (a : Addr) (k : List (Key × PyData) → Prop) : Prop := match al a with
  | some (.dK es) => k es
  | _ => False
theorem asDK_of {al : Al} {a : Addr} {es : List (Key × PyData)} {k : List (Key × PyData) → Prop} (e : al a = some (.dK es)) (h : k es) : asDK al a k := by
  unfold asDK; rw [e]; exact h
instance {e : TE} {fe : Dn → (Sv → Dn → Prop) → Prop} [E : DE K Γ e fe] : DE K Γ (tCB rLenD (tCons e tNil)) (fun δ Φ => fe δ fun s δ1 => onR s fun a => asDK δ1.al a fun es => Φ (.dat (.int (es.length : Int))) δ1) := ⟨fun {L δ σ S H Φ Q} I h q =>
  E.run I h fun s L1 δ1 v H1 T h1 => by
    obtain ⟨a, rfl, rfl, J, h2⟩ := T.ref h1
    unfold asDK at h2
    split at h2
    · rename_i es e
      obtain ⟨kvs, e2, e3⟩ := (J.obj a _ e).2
      refine ⟨a, kvs, rfl, e2, ?_⟩
      rw [e3.len]
      exact q (.dat (.int _)) L1 δ1 _ H1 (J.dat rfl) h2
    · exact h2.elim⟩
/-! ### lists -/
def atS (ss : List Sv) (i : Int) (k : Sv → Prop) : Prop := match atI ss i with
  | some s => k s
  | none => False
theorem atS_at {ss : List Sv} {i : Int} {j : Nat} {s : Sv} {k : Sv → Prop} (hi : i = (j : Int)) (e : ss[j]? = some s) (h : k s) : atS ss i k := by
  unfold atS
  rw [hi, atI_nat e]
  exact h
/-- the items of a list, looked at -/
def seeL (s : Sv) (δ : Dn) (k : List PyData → Prop) : Prop := match s with
  | .dat (.list ds) => k ds
  | .own ds => k ds
  | .ali i => match δ.at_ i with
    | some (.own ds) => k ds
    | some (.dat (.list ds)) => k ds
    | _ => False
  | _ => False
theorem seeL_run {L : List Addr} {δ : Dn} {σ : L2.St} {S : List (Sv × V)} {H : Hp} {s : Sv} {v : V} {k : List PyData → Prop} (T : Top K Γ L δ σ S H s v) (h : seeL s δ k) :
    ∃ a xs ds, v = .ref a ∧ H a = some (.lst xs) ∧ Dvs K L H ds xs ∧ k ds := by
  cases s with
  | dat d =>
    cases d with
    | list ds =>
      obtain ⟨a, xs, e, _, t, r⟩ := Sim.top T
      exact ⟨a, xs, ds, e, t, r, h⟩
    | _ => exact h.elim
  | own ds =>
    obtain ⟨a, xs, e, _, _, t, r⟩ := Sim.top T
    exact ⟨a, xs, ds, e, t, r, h⟩
  | ali i =>
    obtain ⟨I, hv⟩ := T
    unfold seeL at h
    dsimp only at h
    split at h
    · rename_i ds e
      obtain ⟨_, w, e1, a, xs, e2, _, _, t, r⟩ := I.slot i _ (at_some e)
      rw [hv] at e1
      cases e1
      exact ⟨a, xs, ds, e2, t, r, h⟩
    · rename_i ds e
      obtain ⟨_, w, e1, a, xs, e2, _, t, r⟩ := I.slot i _ (at_some e)
      rw [hv] at e1
      cases e1
      exact ⟨a, xs, ds, e2, t, r, h⟩
    · exact h.elim
  | _ => exact h.elim
/-- what stands on the stack while the rest is reckoned -/
theorem Top.hold {L : List Addr} {δ : Dn} {σ : L2.St} {S : List (Sv × V)} {H : Hp} {s : Sv} {v : V} (T : Top K Γ L δ σ S H s v) : ∃ S', Sim K Γ L δ σ S' H ∧ ∀ {L2 : List Addr} {δ2 : Dn} {H2 : Hp} {p : Sv × V}, Sim K Γ L2 δ2 σ (p :: S') H2 → Top K Γ L2 δ2 σ S H2 s v ∧ SlR K Γ L2 σ H2 p.1 p.2 := by
  cases s with
  | ali i => exact ⟨S, T.1, fun J => ⟨⟨J.pop, T.2⟩, J.top⟩⟩
  | _ => exact ⟨_, T, fun J => ⟨J.pop, J.top⟩⟩
/-- s[i], s a list -/
def ixS (s : Sv) (i : Int) (δ : Dn) (k : Sv → Dn → Prop) : Prop := match s with
  | .ref a => asLst δ.al a fun ss => atS ss i fun t => inOb t fun t => k t δ
  | s => seeL s δ fun ds => atD ds i fun d => k (.dat d) δ
theorem ixS_run {L3 : List Addr} {δ3 : Dn} {σ : L2.St} {S3 : List (Sv × V)} {H3 : Hp} {i : Int} {s : Sv} {v : V} {Φ : Sv → Dn → Prop} (T3 : Top K Γ L3 δ3 σ S3 H3 s v) (h3 : ixS s i δ3 Φ) :
    ∃ a xs w t, v = .ref a ∧ H3 a = some (.lst xs) ∧ atI xs i = some w ∧ Top K Γ L3 δ3 σ S3 H3 t w ∧ Φ t δ3 := by
  have dat : seeL s δ3 (fun ds => atD ds i fun d => Φ (.dat d) δ3) → ∃ a xs w t, v = .ref a ∧ H3 a = some (.lst xs) ∧ atI xs i = some w ∧ Top K Γ L3 δ3 σ S3 H3 t w ∧ Φ t δ3 := fun h4 => by
    obtain ⟨a, xs, ds, rfl, t, r, h5⟩ := seeL_run T3 h4
    unfold atD at h5
    split at h5
    · rename_i d e
      obtain ⟨w, e2, dw⟩ := atI_dvs r e
      exact ⟨a, xs, w, .dat d, rfl, t, e2, T3.drop.dat dw, h5⟩
    · exact h5.elim
  cases s with
  | ref a =>
    obtain ⟨ss, xs, e1, e2, e3, h4⟩ := (Sim.pop T3).lst h3
    have ev : v = .ref a := Sim.top T3
    subst ev
    unfold atS at h4
    split at h4
    · rename_i t et
      have ew : ∃ w, atI xs i = some w ∧ SvI K L3 H3 t w := by
        unfold atI at et ⊢
        rw [e3.len]
        cases e4 : ixN ss.length i with
        | none => rw [e4] at et; cases et
        | some j =>
          rw [e4] at et
          exact e3.get (show ss[j]? = some t from et)
      obtain ⟨w, e5, e6⟩ := ew
      obtain ⟨T4, h5⟩ := inOb_top (Sim.pop T3) e6 h4
      exact ⟨a, xs, w, t, rfl, e2, e5, T4, h5⟩
    · exact h4.elim
  | _ => exact dat h3
instance (priority := 2000) {a b : TE} {fa fb : Dn → (Sv → Dn → Prop) → Prop} [A : DE K Γ a fa] [B : DE K Γ b fb] :
    DE K Γ (tOp (rIxL K) a b) (fun δ Φ => fa δ fun s δ1 => fb δ1 fun t δ2 => asD t δ2 fun y δ3 => onI y fun i => ixS s i δ3 Φ) := ⟨fun {L δ σ S H Φ Q} I h q => by
  refine A.run I h fun s L1 δ1 v H1 T h1 => ?_
  obtain ⟨S', J, hold⟩ := T.hold
  refine DE.data (T := B) J h1 fun y L2 δ2 w H2 J2 h2 => ?_
  obtain ⟨T2, dy⟩ := hold J2
  obtain ⟨i, rfl, rfl, h3⟩ := onI_run dy h2
  obtain ⟨a, xs, u, t, rfl, e1, e2, T4, h5⟩ := ixS_run T2 h3
  exact ⟨a, xs, i, u, rfl, rfl, sqL_of e1, e2, q t L2 δ2 u H2 T4 h5⟩⟩
/-- the length of a list or a tuple -/
def lenS (s : Sv) (δ : Dn) (k : Nat → Prop) : Prop := match s with
  | .ref a => asLst δ.al a fun ss => k ss.length
  | s => seeS s δ fun ds => k ds.length
instance (priority := 2000) {e : TE} {fe : Dn → (Sv → Dn → Prop) → Prop} [E : DE K Γ e fe] : DE K Γ (tCB (rLenS K) (tCons e tNil)) (fun δ Φ => fe δ fun s δ1 => lenS s δ1 fun n => Φ (.dat (.int (n : Int))) δ1) := ⟨fun {L δ σ S H Φ Q} I h q =>
  E.run I h fun s L1 δ1 v H1 T h1 => by
    have fin : seeS s δ1 (fun ds => Φ (.dat (.int (ds.length : Int))) δ1) → rLenS K [v] H1 Q := fun h1 => by
      obtain ⟨a, xs, ds, rfl, t, r, h2⟩ := see_run T h1
      refine ⟨a, xs, rfl, t.imp sqL_of Tp.sq, ?_⟩
      rw [r.len]
      exact q (.dat (.int _)) L1 δ1 _ H1 (T.drop.dat rfl) h2
    cases s with
    | ref a =>
      have ev : v = .ref a := Sim.top T
      subst ev
      obtain ⟨ss, xs, e1, e2, e3, h4⟩ := (Sim.pop T).lst h1
      refine ⟨a, xs, rfl, .inl (sqL_of e2), ?_⟩
      rw [e3.len]
      exact q (.dat (.int _)) L1 δ1 _ H1 ((Sim.pop T).dat rfl) h4
    | _ => exact fin h1⟩
/-- a known list is written -/
theorem Sim.wrL {L : List Addr} {δ : Dn} {σ : L2.St} {S : List (Sv × V)} {H : Hp} {a : Addr} {ss ss' : List Sv} {xs xs' : List V} (I : Sim K Γ L δ σ S H) (e1 : δ.al a = some (.lst ss)) (e2 : H a = some (.lst xs)) (r : SvIs K L H ss' xs') : Sim K Γ L (δ.know (oup δ.al a (.lst ss'))) σ S (upd H a (.lst xs')) := by
  have aL := (I.obj a _ e1).1.1
  have f1 : Fr [a] H (upd H a (.lst xs')) := .wr e2 trivial (by simp)
  have inL : ∀ b ∈ [a], b ∈ L := fun b hb => by cases List.mem_singleton.mp hb; exact aL
  exact I.wrOb e1 ⟨_, upd_same, r.to fun d v => Dv.mono f1 inL⟩
/-- s.append(x) -/
def appS (s : Sv) (fe : Dn → (Sv → Dn → Prop) → Prop) (δ : Dn) (k : Dn → Prop) : Prop := match s with
  | .ali i => (match δ.at_ i with | some (.own _) => True | _ => False) ∧ fe δ fun t δ2 => asD t δ2 fun y δ3 => match δ3.at_ i with
    | some (.own ds) => ds.length < 1000000 ∧ k (δ3.put i (some (.own (ds ++ [y]))))
    | _ => False
  | .ref a => (asLst δ.al a fun _ => True) ∧ fe δ fun t δ2 => asA t δ2 fun u δ3 => inOb u fun u => asLst δ3.al a fun ss => ss.length < 1000000 ∧ k (δ3.know (oup δ3.al a (.lst (ss ++ [u]))))
  | _ => False
instance (priority := 3000) {eo e : TE} {fo fe : Dn → (Sv → Dn → Prop) → Prop} [O : DE K Γ eo fo] [E : DE K Γ e fe] : DS K Γ (tDrop (tBM K "list" rAppend eo (tCons e tNil))) (fun δ Ψ => fo δ fun s δ1 => appS s fe δ1 Ψ.nx) := ⟨fun {L δ σ S H Ψ D} I h q => by
  refine O.run I h fun s L0 δ0 v0 H0 T0 h0 => ?_
  have hs := sizeLine_eq
  cases s with
  | ali i =>
    obtain ⟨I0, hv0⟩ := T0
    obtain ⟨hk, h⟩ := h0
    split at hk
    · rename_i ds0 e0
      obtain ⟨_, w, e1, a, xs, rfl, _, _, e2, _⟩ := I0.slot i _ (at_some e0)
      rw [hv0] at e1
      cases e1
      refine ⟨.inl ⟨rfl, _, sqL_of e2⟩, DE.data (T := E) I0 h fun y L1 δ1 v H1 J h1 => ?_⟩
      split at h1
      · rename_i ds e3
        have hd := at_some e3
        have J1 := J.pop.lend hd hv0
        obtain ⟨b, ys, eb, b1, b2, b3, b4⟩ := J1.top
        cases eb
        have el := b4.len
        refine ⟨a, ys, v, rfl, rfl, b3, by omega, q.nx (L := L1) ?_ h1.2⟩
        have tp : SlR K Γ L1 σ H1 (.dat y) v := J.top
        have J2 := ((J1.dat (d := y) tp).append b3).back hv0
        rw [put_put] at J2
        exact J2
      · exact h1.elim
    · exact hk.elim
  | ref a =>
    have ev : v0 = .ref a := Sim.top T0
    subst ev
    obtain ⟨hk, h⟩ := h0
    obtain ⟨ss0, xs0, e1, e2, e3, _⟩ := (Sim.pop T0).lst hk
    refine ⟨.inl ⟨rfl, _, sqL_of e2⟩, E.run (Sim.pop T0) h fun t L1 δ1 v H1 T1 h1 => ?_⟩
    obtain ⟨L2, δ2, u, J, nu, h2⟩ := T1.arg h1
    obtain ⟨iu, h3⟩ := inOb_run h2 J.top
    obtain ⟨ss, xs, e4, e5, e6, hl, h4⟩ := J.lst h3
    have el := e6.len
    exact ⟨a, xs, v, rfl, rfl, e5, by omega, q.nx (J.pop.wrL e4 e5 (e6.app (ts := [_]) ⟨v, [], rfl, iu, rfl⟩)) h4⟩
  | _ => exact h0.elim⟩
/-- s.extend(a list of data) -/
instance (priority := 3000) {eo e : TE} {fo fe : Dn → (Sv → Dn → Prop) → Prop} [O : DE K Γ eo fo] [E : DE K Γ e fe] : DS K Γ (tDrop (tBM K "list" rExtend eo (tCons e tNil))) (fun δ Ψ => fo δ fun s δ1 => onR s fun a => (asLst δ1.al a fun _ => True) ∧ fe δ1 fun t δ2 => asD t δ2 fun y δ3 => onL y fun ds => asLst δ3.al a fun ss => ss.length + ds.length ≤ 1000000 ∧ Ψ.nx (δ3.know (oup δ3.al a (.lst (ss ++ ds.map .dat))))) := ⟨fun {L δ σ S H Ψ D} I h q => by
  refine O.run I h fun s L0 δ0 v0 H0 T0 h0 => ?_
  have hs := sizeLine_eq
  obtain ⟨a, rfl, rfl, J0, hk, h1⟩ := T0.ref h0
  obtain ⟨ss0, xs0, e1, e2, e3, _⟩ := J0.lst hk
  refine ⟨.inl ⟨rfl, _, sqL_of e2⟩, DE.data (T := E) J0 h1 fun y L1 δ1 v H1 J h2 => ?_⟩
  cases y with
  | list ds =>
    obtain ⟨b, ys, rfl, nb, t, r⟩ := J.top
    obtain ⟨ss, xs, e4, e5, e6, hl, h4⟩ := J.lst h2
    have el := e6.len
    have el2 := r.len
    have sv : ∀ {ds : List PyData} {xs : List V}, Dvs K L1 H1 ds xs → SvIs K L1 H1 (ds.map .dat) xs := by
      intro ds
      induction ds with
      | nil => exact fun h => h
      | cons d ds ih => exact fun ⟨x, r, e, q1, q2⟩ => ⟨x, r, e, q1, ih q2⟩
    exact ⟨a, b, xs, ys, rfl, rfl, e5, t, by omega, q.nx (J.pop.wrL e4 e5 (e6.app (sv r))) h4⟩
  | _ => exact h2.elim⟩
/-- s.pop() -/
instance {eo : TE} {fo : Dn → (Sv → Dn → Prop) → Prop} [O : DE K Γ eo fo] : DE K Γ (tBM0 K "list" rPop eo) (fun δ Φ => fo δ fun s δ1 => onR s fun a => asLst δ1.al a fun ss => match ss[ss.length - 1]? with
    | some t => inOb t fun t => Φ t (δ1.know (oup δ1.al a (.lst ss.dropLast)))
    | none => False) := ⟨fun {L δ σ S H Φ Q} I h q => by
  refine O.run I h fun s L0 δ0 v0 H0 T0 h0 => ?_
  obtain ⟨a, rfl, rfl, J0, h1⟩ := T0.ref h0
  obtain ⟨ss, xs, e1, e2, e3, h2⟩ := J0.lst h1
  refine ⟨.inl ⟨rfl, _, sqL_of e2⟩, ?_⟩
  split at h2
  · rename_i t et
    obtain ⟨w, e4, e5⟩ := e3.get et
    have el := e3.len
    have aL := (J0.obj a _ e1).1.1
    have f1 : Fr [a] H0 (upd H0 a (.lst xs.dropLast)) := .wr e2 trivial (by simp)
    have inL : ∀ b ∈ [a], b ∈ L0 := fun b hb => by cases List.mem_singleton.mp hb; exact aL
    have e6 : SvI K L0 (upd H0 a (.lst xs.dropLast)) t w := e5.to fun d v => Dv.mono f1 inL
    obtain ⟨T2, h3⟩ := inOb_top (J0.wrL e1 e2 e3.dropLast) e6 h2
    exact ⟨a, xs, w, rfl, rfl, e2, by rw [el]; exact e4, q t L0 _ w _ T2 h3⟩
  · exact h2.elim⟩
/-- a[i] = x -/
def setS (a : Addr) (i : Int) (x : Sv) (δ : Dn) (k : Dn → Prop) : Prop := asLst δ.al a fun ss => match ixN ss.length i with
  | some j => inOb x fun x => k (δ.know (oup δ.al a (.lst (ss.set j x))))
  | none => False
instance {eo ei : TE} {fo fi : Dn → (Sv → Dn → Prop) → Prop} [O : DE K Γ eo fo] [Ii : DE K Γ ei fi] : DG K Γ (gSub eo ei rSetL) (fun x δ k => fo δ fun s δ1 => onR s fun a => fi δ1 fun t δ2 => asD t δ2 fun y δ3 => onI y fun i => setS a i x δ3 k) [] := ⟨fun {L δ σ S H x v k Z} I h q => by
  refine O.run I h fun s L1 δ1 w H1 T h1 => ?_
  obtain ⟨a, rfl, rfl, J, h2⟩ := T.ref h1
  refine DE.data (T := Ii) J h2 fun y L2 δ2 u H2 J2 h2 => ?_
  obtain ⟨i, rfl, rfl, h3⟩ := onI_run J2.top h2
  obtain ⟨ss, xs, e1, e2, e3, h4⟩ := J2.lst h3
  split at h4
  · rename_i j ej
    obtain ⟨ix, h5⟩ := inOb_run h4 J2.pop.top
    exact ⟨a, xs, i, j, rfl, rfl, e2, by rw [e3.len]; exact ej, q L2 _ σ _ (J2.pop.pop.wrL e1 e2 (e3.set ix)) .refl h5⟩
  · exact h4.elim⟩
/-! ### a list taken apart -/
def dstS : List Sv → List V → List (Sv × V)
  | s :: ss, v :: vs => (s, v) :: dstS ss vs
  | _, _ => []
def plainSv (s : Sv) : Bool := match s with
  | .dat _ => true
  | .ref _ => true
  | .fn _ => true
  | _ => false
class DGs (K : PySem.W.Frag) (Γ : Gm) (g : TGs) (f : outParam (List Sv → Dn → (Dn → Prop) → Prop)) (ws : outParam (List Nat)) : Prop where
  run : ∀ {ds : List Sv} {vs : List V} {L : List Addr} {δ : Dn} {σ : L2.St} {S : List (Sv × V)} {H : Hp} {k : Dn → Prop} {Z : L2.St → Hp → Prop}, vs.length = ds.length → Sim K Γ L δ σ (dstS ds vs ++ S) H → f ds δ k →
    (∀ L' δ' σ' H', Sim K Γ L' δ' σ' S H' → But ws σ σ' → k δ' → Z σ' H') → g vs σ H Z
def oneS (ds : List Sv) (k : Sv → List Sv → Prop) : Prop := match ds with
  | d :: r => k d r
  | [] => False
instance : DGs K Γ gNil (fun ds δ k => ds = [] ∧ k δ) [] := ⟨fun {ds vs L δ σ S H k Z} e I h q => by
  obtain ⟨rfl, h2⟩ := h
  cases vs with
  | nil => exact ⟨rfl, q L δ σ H I .refl h2⟩
  | cons _ _ => cases e⟩
instance {g : TG} {u : TGs} {f : Sv → Dn → (Dn → Prop) → Prop} {fu : List Sv → Dn → (Dn → Prop) → Prop} {ws us : List Nat} [G : DG K Γ g f ws] [U : DGs K Γ u fu us] : DGs K Γ (gCons g u) (fun ds δ k => oneS ds fun d r => f d δ fun δ1 => fu r δ1 k) (ws ++ us) := ⟨fun {ds vs L δ σ S H k Z} e I h q => by
  cases ds with
  | nil => exact h.elim
  | cons d r =>
    cases vs with
    | nil => cases e
    | cons v vs => exact ⟨v, vs, rfl, G.run I h fun L1 δ1 σ1 H1 J b1 h1 => U.run (by simpa using e) J h1 fun L2 δ2 σ2 H2 J2 b2 h2 => q L2 δ2 σ2 H2 J2 (b1.trans b2) h2⟩⟩
theorem Sim.pushS {L : List Addr} {δ : Dn} {σ : L2.St} {H : Hp} : ∀ {ss : List Sv} {vs : List V} {S : List (Sv × V)}, Sim K Γ L δ σ S H → SvIs K L H ss vs → ss.all plainSv = true → Sim K Γ L δ σ (dstS ss vs ++ S) H
  | [], _, _, I, h, _ => by cases h; exact I
  | s :: ss, _, S, I, ⟨v, r, e, h1, h2⟩, ha => by
    cases e
    have hb := Bool.and_eq_true_iff.mp ha
    have J := Sim.pushS I h2 hb.2
    cases s with
    | dat d => exact J.dat h1
    | ref a => exact J.push (s := .ref a) h1 rfl fun _ z => nomatch z
    | fn a => exact J.push (s := .fn a) h1 rfl fun _ z => nomatch z
    | _ => exact nomatch hb.1
instance {n : Nat} {t : TGs} {f : List Sv → Dn → (Dn → Prop) → Prop} {ws : List Nat} [G : DGs K Γ t f ws] : DG K Γ (gUnl K n t) (fun s δ k => onR s fun a => asLst δ.al a fun ss => (ss.length = n ∧ ss.all plainSv = true) ∧ f ss δ k) ws := ⟨fun {L δ σ S H s v k Z} I h q => by
  obtain ⟨a, rfl, rfl, J, h2⟩ := (I.topOf).ref h
  obtain ⟨ss, xs, e1, e2, e3, ⟨hn, hp⟩, h4⟩ := J.lst h2
  have el := e3.len
  exact ⟨a, xs, rfl, sqL_of e2, by rw [el]; exact hn, G.run el (J.pushS e3 hp) h4 q⟩⟩
/-! ### in -/
/-- the items of a list or a tuple, a known list too -/
def seeR (s : Sv) (δ : Dn) (k : List PyData → Prop) : Prop := match s with
  | .ref a => asLst δ.al a fun ss => match datas ss with
    | some ds => k ds
    | none => False
  | s => seeS s δ k
theorem datas_dvs {L : List Addr} {H : Hp} : ∀ {ss : List Sv} {vs : List V} {ds : List PyData}, SvIs K L H ss vs → datas ss = some ds → Dvs K L H ds vs
  | [], _, _, h, e => by cases e; exact h
  | s :: ss, _, ds, ⟨v, r, e1, h1, h2⟩, e => by
    cases s with
    | dat d =>
      unfold datas at e
      cases e3 : datas ss with
      | none => rw [e3] at e; cases e
      | some es => rw [e3] at e; cases e; exact ⟨v, r, e1, h1, datas_dvs h2 e3⟩
    | _ => cases e
theorem seeR_run {L : List Addr} {δ : Dn} {σ : L2.St} {S : List (Sv × V)} {H : Hp} {s : Sv} {v : V} {k : List PyData → Prop} (T : Top K Γ L δ σ S H s v) (h : seeR s δ k) :
    ∃ a xs ds, v = .ref a ∧ ((H a = some (.lst xs)) ∨ Tp K H a xs) ∧ Dvs K L H ds xs ∧ k ds := by
  cases s with
  | ref a =>
    have ev : v = .ref a := Sim.top T
    subst ev
    obtain ⟨ss, xs, e1, e2, e3, h4⟩ := (Sim.pop T).lst h
    split at h4
    · rename_i ds e
      exact ⟨a, xs, ds, rfl, .inl e2, datas_dvs e3 e, h4⟩
    · exact h4.elim
  | _ => exact see_run T h
instance (priority := 2000) {neg : Bool} {a b : TE} {fa fb : Dn → (Sv → Dn → Prop) → Prop} [A : DE K Γ a fa] [B : DE K Γ b fb] :
    DE K Γ (tOp (rIn K neg) a b) (fun δ Φ => fa δ fun s δ1 => asD s δ1 fun x δ2 => fb δ2 fun t δ3 => seeR t δ3 fun ds => inD x ds fun b => Φ (.dat (.bool (if neg then !b else b))) δ3) := ⟨fun {L δ σ S H Φ Q} I h q => by
  refine DE.data (T := A) I h fun x L1 δ1 v H1 J h1 => B.run J h1 fun t L2 δ2 w H2 T2 h2 => ?_
  obtain ⟨a', xs, ds, rfl, ht, r, h3⟩ := seeR_run T2 h2
  unfold inD at h3
  split at h3
  · rename_i v0 vs0 e1 e2
    obtain ⟨rfl, f⟩ := vD_run T2.drop.top e1
    obtain ⟨rfl, g⟩ := vDs_run r e2
    exact ⟨a', _, rfl, ht.imp sqL_of Tp.sq, f, g, q (.dat (.bool _)) L2 δ2 (.bl _) H2 (T2.drop.pop.dat rfl) h3⟩
  · exact h3.elim⟩
/-! ### == [] -/
def rEq0 (K : PySem.W.Frag) (neg : Bool) : R2 := fun x y H Q => ∃ a b xs ys, x = .ref a ∧ y = .ref b ∧ H a = some (.lst xs) ∧ H b = some (.lst ys) ∧ (xs = [] ∨ ys = []) ∧ Q (.bl (if neg then !decide (xs.length = ys.length) else decide (xs.length = ys.length))) H
theorem op_eq0 {X : Cx} (hu : X.A.units < cLine) : OpR X (compareOp .Eq) (rEq0 X.K false) := by
  intro pins s σ H x y v u Q I rx ry h
  obtain ⟨a, b, xs, ys, rfl, rfl, ha, hb, he, q⟩ := h
  cases rx
  cases ry
  obtain ⟨_, its, n, r1, e1⟩ := I.hok a _ ha
  obtain ⟨_, its2, n2, r2, e2⟩ := I.hok b _ hb
  have l1 : s.heap.IsList a its.toArray := ⟨_, e1, rfl, n, rfl⟩
  have l2 : s.heap.IsList b its2.toArray := ⟨_, e2, rfl, n2, rfl⟩
  have z1 := r1.length
  have z2 := r2.length
  by_cases hz : xs.length = ys.length
  · have e0 : its.toArray.size = 0 := by
      rw [List.size_toArray, ← z1]
      rcases he with z | z
      · rw [z]; rfl
      · rw [hz, z]; rfl
    have e0' : its2.toArray.size = 0 := by
      rw [List.size_toArray, ← z2, ← hz, z1, ← List.size_toArray]; exact e0
    have key := SeqAt.RcAt.lists (A := X.A) (e := fun _ => true) l1 l2 (e0.trans e0'.symm) hu (fun j h1 _ => absurd h1 (by omega))
    refine key X.prog X.w X.xe _ ?_
    have : (List.range its.toArray.size).all (fun _ => true) = true := by simp
    rw [this]
    have hd : decide (xs.length = ys.length) = true := decide_eq_true hz
    rw [hd] at q
    exact ⟨.bl true, H, I, rfl, q⟩
  · have hne : (its.toArray.size != its2.toArray.size) = true := by
      rw [List.size_toArray, List.size_toArray, ← z1, ← z2]
      simpa using hz
    have key := SeqAt.RcAt.lists_lengths (A := X.A) l1 l2 hne hu
    refine key X.prog X.w X.xe _ ?_
    have hd : decide (xs.length = ys.length) = false := decide_eq_false hz
    rw [hd] at q
    exact ⟨.bl false, H, I, rfl, q⟩
theorem op_ne0 {X : Cx} (hu : X.A.units < cLine) : OpR X (compareOp .NotEq) (rEq0 X.K true) := by
  intro pins s σ H x y v u Q I rx ry h
  obtain ⟨a, b, xs, ys, rfl, rfl, ha, hb, he, q⟩ := h
  cases rx
  cases ry
  obtain ⟨_, its, n, r1, e1⟩ := I.hok a _ ha
  obtain ⟨_, its2, n2, r2, e2⟩ := I.hok b _ hb
  have l1 : s.heap.IsList a its.toArray := ⟨_, e1, rfl, n, rfl⟩
  have l2 : s.heap.IsList b its2.toArray := ⟨_, e2, rfl, n2, rfl⟩
  have z1 := r1.length
  have z2 := r2.length
  by_cases hz : xs.length = ys.length
  · have e0 : its.toArray.size = 0 := by
      rw [List.size_toArray, ← z1]
      rcases he with z | z
      · rw [z]; rfl
      · rw [hz, z]; rfl
    have e0' : its2.toArray.size = 0 := by
      rw [List.size_toArray, ← z2, ← hz, z1, ← List.size_toArray]; exact e0
    have key := SeqAt.RcNeAt.lists (A := X.A) (e := fun _ => true) l1 l2 (e0.trans e0'.symm) hu (fun j h1 _ => absurd h1 (by omega))
    refine key X.prog X.w X.xe _ ?_
    have : (List.range its.toArray.size).all (fun _ => true) = true := by simp
    rw [this]
    have hd : decide (xs.length = ys.length) = true := decide_eq_true hz
    rw [hd] at q
    exact ⟨.bl false, H, I, rfl, q⟩
  · have hne : (its.toArray.size != its2.toArray.size) = true := by
      rw [List.size_toArray, List.size_toArray, ← z1, ← z2]
      simpa using hz
    have key := SeqAt.RcNeAt.lists_lengths (A := X.A) l1 l2 hne hu
    refine key X.prog X.w X.xe _ ?_
    have hd : decide (xs.length = ys.length) = false := decide_eq_false hz
    rw [hd] at q
    exact ⟨.bl true, H, I, rfl, q⟩
theorem op_eq0K {X : Cx} (K : PySem.W.Frag) (h : X.K = K) (hu : X.A.units < cLine) : OpR X (compareOp .Eq) (rEq0 K false) := by subst h; exact op_eq0 hu
theorem op_ne0K {X : Cx} (K : PySem.W.Frag) (h : X.K = K) (hu : X.A.units < cLine) : OpR X (compareOp .NotEq) (rEq0 K true) := by subst h; exact op_ne0 hu
def emptyOn (s : Sv) (δ : Dn) (k : Bool → Prop) : Prop := match s with
  | .ref a => asLst δ.al a fun ss => k ss.isEmpty
  | s => seeL s δ fun ds => k ds.isEmpty
/-- s == [], s != [] -/
instance (priority := 2000) {neg : Bool} {a b : TE} {fa fb : Dn → (Sv → Dn → Prop) → Prop} [A : DE K Γ a fa] [B : DE K Γ b fb] :
    DE K Γ (tOp (rEq0 K neg) a b) (fun δ Φ => fa δ fun s δ1 => fb δ1 fun t δ2 => (match t with | .own [] => True | _ => False) ∧ emptyOn s δ2 fun e => Φ (.dat (.bool (if neg then !e else e))) δ2) := ⟨fun {L δ σ S H Φ Q} I h q => by
  refine A.run I h fun s L1 δ1 v H1 T h1 => ?_
  obtain ⟨S', J, hold⟩ := T.hold
  refine B.run J h1 fun t L2 δ2 w H2 T2 h2 => ?_
  obtain ⟨ht, h3⟩ := h2
  split at ht
  · obtain ⟨b, ys, rfl, _, _, eb, rb⟩ := Sim.top T2
    have ry : ys = [] := rb
    subst ry
    obtain ⟨T3, _⟩ := hold T2
    have fin : seeL s δ2 (fun ds => Φ (.dat (.bool (if neg then !ds.isEmpty else ds.isEmpty))) δ2) → rEq0 K neg v (.ref b) H2 Q := fun h4 => by
      obtain ⟨a, xs, ds, rfl, t, r, h5⟩ := seeL_run T3 h4
      refine ⟨a, b, xs, [], rfl, rfl, t, eb, .inr rfl, ?_⟩
      have e : decide (xs.length = ([] : List V).length) = ds.isEmpty := by
        rw [r.len]
        cases ds <;> simp
      rw [e]
      exact q (.dat (.bool _)) L2 δ2 (.bl _) H2 (T3.drop.dat rfl) h5
    cases s with
    | ref a =>
      have ev : v = .ref a := Sim.top T3
      subst ev
      obtain ⟨ss, xs, e1, e2, e3, h4⟩ := (Sim.pop T3).lst h3
      refine ⟨a, b, xs, [], rfl, rfl, e2, eb, .inr rfl, ?_⟩
      have e : decide (xs.length = ([] : List V).length) = ss.isEmpty := by
        rw [e3.len]
        cases ss <;> simp
      rw [e]
      exact q (.dat (.bool _)) L2 δ2 (.bl _) H2 ((Sim.pop T3).dat rfl) h4
    | _ => exact fin h3
  · exact ht.elim⟩
/-! ### == () -/
def rEqT0 (K : PySem.W.Frag) (neg : Bool) : R2 := fun x y H Q => ∃ a b xs ys, x = .ref a ∧ y = .ref b ∧ SqT K H a xs ∧ SqT K H b ys ∧ (xs = [] ∨ ys = []) ∧ Q (.bl (if neg then !decide (xs.length = ys.length) else decide (xs.length = ys.length))) H
theorem op_eqT0 {X : Cx} (hu : X.A.units < cLine) : OpR X (compareOp .Eq) (rEqT0 X.K false) := by
  intro pins s σ H x y v u Q I rx ry h
  obtain ⟨a, b, xs, ys, rfl, rfl, ha, hb, he, q⟩ := h
  cases rx
  cases ry
  obtain ⟨its, r1, t1, _⟩ := I.tuple ha
  obtain ⟨its2, r2, t2, _⟩ := I.tuple hb
  have z1 := r1.length
  have z2 := r2.length
  have em : its.toArray.size = 0 ∨ its2.toArray.size = 0 := by
    rw [List.size_toArray, List.size_toArray, ← z1, ← z2]
    exact he.imp (fun z => by rw [z]; rfl) (fun z => by rw [z]; rfl)
  have key := SeqAt.RcAt.tuples (A := X.A) (e := fun _ => true) t1 t2 hu (fun j h1 h2 => absurd em (by omega))
  refine key X.prog X.w X.xe _ ?_
  rw [List.size_toArray, List.size_toArray, ← z1, ← z2]
  have eb : ((List.range (min xs.length ys.length)).all (fun _ => true) && xs.length == ys.length) = decide (xs.length = ys.length) := by
    by_cases hz : xs.length = ys.length
    · simp [hz]
    · simp [hz]
  rw [eb]
  exact ⟨.bl _, H, I, rfl, q⟩
theorem op_neT0 {X : Cx} (hu : X.A.units < cLine) : OpR X (compareOp .NotEq) (rEqT0 X.K true) := by
  intro pins s σ H x y v u Q I rx ry h
  obtain ⟨a, b, xs, ys, rfl, rfl, ha, hb, he, q⟩ := h
  cases rx
  cases ry
  obtain ⟨its, r1, t1, _⟩ := I.tuple ha
  obtain ⟨its2, r2, t2, _⟩ := I.tuple hb
  have z1 := r1.length
  have z2 := r2.length
  have em : its.toArray.size = 0 ∨ its2.toArray.size = 0 := by
    rw [List.size_toArray, List.size_toArray, ← z1, ← z2]
    exact he.imp (fun z => by rw [z]; rfl) (fun z => by rw [z]; rfl)
  have key := SeqAt.RcNeAt.tuples (A := X.A) (e := fun _ => true) t1 t2 hu (fun j h1 h2 => absurd em (by omega))
  refine key X.prog X.w X.xe _ ?_
  rw [List.size_toArray, List.size_toArray, ← z1, ← z2]
  have eb : ((List.range (min xs.length ys.length)).all (fun _ => true) && xs.length == ys.length) = decide (xs.length = ys.length) := by
    by_cases hz : xs.length = ys.length
    · simp [hz]
    · simp [hz]
  rw [eb]
  exact ⟨.bl _, H, I, rfl, q⟩
theorem op_eqT0K {X : Cx} (K : PySem.W.Frag) (h : X.K = K) (hu : X.A.units < cLine) : OpR X (compareOp .Eq) (rEqT0 K false) := by subst h; exact op_eqT0 hu
theorem op_neT0K {X : Cx} (K : PySem.W.Frag) (h : X.K = K) (hu : X.A.units < cLine) : OpR X (compareOp .NotEq) (rEqT0 K true) := by subst h; exact op_neT0 hu
instance {neg : Bool} : DR K Γ (rEqT0 K neg) (fun x y Φ => onT x fun ds => onT y fun es => es = [] ∧ Φ (.bool (if neg then !ds.isEmpty else ds.isEmpty))) := ⟨fun {L H x y v u Φ Q} dx dy h q => by
  cases x with
  | tuple ds =>
    cases y with
    | tuple es =>
      obtain ⟨h1, h2⟩ : es = [] ∧ Φ (.bool (if neg then !ds.isEmpty else ds.isEmpty)) := h
      subst h1
      obtain ⟨a, xs, rfl, t, r⟩ := dx
      obtain ⟨b, ys, rfl, t', r'⟩ := dy
      cases r'
      refine ⟨a, b, xs, [], rfl, rfl, t.sq, t'.sq, .inr rfl, ?_⟩
      have e : decide (xs.length = ([] : List V).length) = ds.isEmpty := by
        rw [r.len]
        cases ds <;> simp
      rw [e]
      exact q (.bool _) (.bl _) H (.refl _ _) rfl h2
    | _ => exact h.elim
  | _ => exact h.elim⟩
/-! ### is None -/
def noneOn (s : Sv) (k : Bool → Prop) : Prop := match s with
  | .ref _ => k false
  | .dat .none => k true
  | .dat _ => k false
  | _ => False
instance (priority := 2000) {a b : TE} {fa fb : Dn → (Sv → Dn → Prop) → Prop} [A : DE K Γ a fa] [B : DE K Γ b fb] :
    DE K Γ (tOp rIsN a b) (fun δ Φ => fa δ fun s δ1 => fb δ1 fun t δ2 => (match t with | .dat .none => True | _ => False) ∧ noneOn s fun b => Φ (.dat (.bool b)) δ2) := ⟨fun {L δ σ S H Φ Q} I h q => by
  refine A.run I h fun s L1 δ1 v H1 T h1 => ?_
  obtain ⟨S', J, hold⟩ := T.hold
  refine B.run J h1 fun t L2 δ2 w H2 T2 h2 => ?_
  obtain ⟨ht, h3⟩ := h2
  split at ht
  · have ew : w = .non := Sim.top T2
    subst ew
    obtain ⟨T3, _⟩ := hold T2
    refine ⟨rfl, ?_⟩
    cases s with
    | ref a =>
      have ev : v = .ref a := Sim.top T3
      subst ev
      exact q (.dat (.bool false)) L2 δ2 (.bl false) H2 ((Sim.pop T3).dat rfl) h3
    | dat d =>
      have dv : Dv K L2 H2 d v := Sim.top T3
      have no : (∀ z, d ≠ z → z = PyData.none → decide (v = V.non) = false) := fun z hz hn => by
        subst hn
        refine decide_eq_false fun e => ?_
        subst e
        cases d with
        | none => exact hz rfl
        | tuple ds => obtain ⟨a, xs, e, _⟩ := dv; cases e
        | list ds => obtain ⟨a, xs, e, _⟩ := dv; cases e
        | dict ds => obtain ⟨_, a, e, _⟩ := dv; cases e
        | _ => cases dv
      cases d with
      | none =>
        have ev : v = .non := dv
        subst ev
        exact q (.dat (.bool true)) L2 δ2 (.bl true) H2 ((Sim.pop T3).dat rfl) h3
      | _ =>
        rw [no .none (fun z => nomatch z) rfl]
        exact q (.dat (.bool false)) L2 δ2 (.bl false) H2 ((Sim.pop T3).dat rfl) h3
    | _ => exact h3.elim
  · exact ht.elim⟩
/-- x if t else y -/
instance {c : TT} {a b : TE} {fc : Dn → (Bool → Dn → Prop) → Prop} {fa fb : Dn → (Sv → Dn → Prop) → Prop} [C : DT K Γ c fc] [A : DE K Γ a fa] [B : DE K Γ b fb] : DE K Γ (tIf c a b) (fun δ Φ => fc δ fun d δ1 => bif d then fa δ1 Φ else fb δ1 Φ) := ⟨fun {L δ σ S H Φ Q} I h q =>
  C.run I h fun d L1 δ1 H1 J h1 => by
    cases d with
    | true => exact iteT (A.run J h1 q)
    | false => exact iteF (B.run J h1 q)⟩
/-- int(an int or a bool) -/
def rInt1 : List V → Hp → VK → Prop := fun xs H Q => (∃ i, xs = [.int i] ∧ Q (.int i) H) ∨ ∃ k, xs = [.bl k] ∧ Q (.int (if k then 1 else 0)) H
def intOn (d : PyData) (k : Int → Prop) : Prop := match d with
  | .int i => k i
  | .bool b => k (bif b then 1 else 0)
  | _ => False
theorem call_int1r {X : Cx} : CallR X (.type "int") rInt1 := call_int1
instance {e : TE} {fe : Dn → (Sv → Dn → Prop) → Prop} [E : DE K Γ e fe] : DE K Γ (tCB rInt1 (tCons e tNil)) (fun δ Φ => fe δ fun s δ1 => asD s δ1 fun d δ2 => intOn d fun i => Φ (.dat (.int i)) δ2) := ⟨fun {L δ σ S H Φ Q} I h q =>
  DE.data (T := E) I h fun d L1 δ1 v H1 J h1 => by
    cases d with
    | int i =>
      cases (show v = .int i from J.top)
      exact .inl ⟨i, rfl, q (.dat (.int i)) L1 δ1 _ H1 (J.pop.dat rfl) h1⟩
    | bool b =>
      cases (show v = .bl b from J.top)
      refine .inr ⟨b, rfl, ?_⟩
      have h1 : Φ (.dat (.int (bif b then 1 else 0))) δ1 := h1
      cases b <;> exact q (.dat (.int _)) L1 δ1 _ H1 (J.pop.dat rfl) h1
    | _ => exact h1.elim⟩
/-- a[i] op= e, a a list -/
theorem pget_list {X : Cx} : PGet X (rIxL X.K) := by
  intro pins s σ H x y v u Q I rx ry h
  obtain ⟨p, xs, i, z, rfl, rfl, hq, he, q⟩ := h
  cases rx
  obtain ⟨t, rfl⟩ := ry
  obtain ⟨its, r, pl, hz⟩ := I.list hq
  obtain ⟨j, h1, h2, h3, h4, h5⟩ := atI_get he
  obtain ⟨w, ew, rw'⟩ := r.get h2
  have hl := r.length
  have hn := line63
  have fin : EP X pins σ Q w s := ⟨z, H, I, rw', q⟩
  by_cases h0 : 0 ≤ i
  · have hj : i.toNat = j := by
      rw [PySem.seqIndex_of h0 h5] at h1
      exact Option.some.inj h1
    exact wpAny_getItem_list pl.isList h0 (by omega) (by rw [hj]; simpa using ew) fin
  · have hj : (i + (its.toArray.size : Int)).toNat = j := by
      rw [PySem.seqIndex_neg (by omega) h4] at h1
      rw [List.size_toArray, ← hl]
      exact Option.some.inj h1
    exact wpAny_getItem_list_neg pl.isList (by omega) (by rw [List.size_toArray] <;> omega) (by omega) (by rw [hj]; simpa using ew) fin
theorem pget_listK {X : Cx} (K : PySem.W.Frag) (h : X.K = K) : PGet X (rIxL K) := by subst h; exact pget_list
instance {eo ei ev : TE} {f : Int → Int → Int} {fo fi fv : Dn → (Sv → Dn → Prop) → Prop} [O : DE K Γ eo fo] [Ii : DE K Γ ei fi] [E : DE K Γ ev fv] : DS K Γ (tAugS eo ei ev (rIxL K) (ipI f) rSetL) (fun δ Ψ => fo δ fun s δ1 => onR s fun a => fi δ1 fun t δ2 => asD t δ2 fun y δ3 => onI y fun i => asLst δ3.al a fun ss => atS ss i fun t => onD t fun x => onI x fun n => fv δ3 fun u δ4 => asD u δ4 fun z δ5 => onI z fun m => setS a i (.dat (.int (f n m))) δ5 Ψ.nx) := ⟨fun {L δ σ S H Ψ D} I h q => by
  refine O.run I h fun s L1 δ1 w H1 T h1 => ?_
  obtain ⟨a, rfl, rfl, J, h2⟩ := T.ref h1
  refine DE.data (T := Ii) J h2 fun y L2 δ2 u H2 J2 h3 => ?_
  obtain ⟨i, rfl, rfl, h4⟩ := onI_run J2.top h3
  obtain ⟨ss, xs, e1, e2, e3, h5⟩ := J2.lst h4
  unfold atS at h5
  split at h5
  · rename_i t et
    have ew : ∃ w, atI xs i = some w ∧ SvI K L2 H2 t w := by
      unfold atI at et ⊢
      rw [e3.len]
      cases e4 : ixN ss.length i with
      | none => rw [e4] at et; cases et
      | some j =>
        rw [e4] at et
        exact e3.get (show ss[j]? = some t from et)
    obtain ⟨w, e5, e6⟩ := ew
    cases t with
    | dat x =>
      obtain ⟨n, rfl, rfl, h6⟩ := onI_run (v := w) (K := K) (L := L2) (H := H2) e6 h5
      refine ⟨a, xs, i, _, rfl, rfl, sqL_of e2, e5, DE.data (T := E) J2.pop h6 fun z L3 δ3 v H3 J3 h7 => ?_⟩
      obtain ⟨m, rfl, rfl, h8⟩ := onI_run J3.top h7
      refine ⟨n, m, rfl, rfl, ?_⟩
      obtain ⟨ss3, xs3, e7, e8, e9, h9⟩ := J3.lst h8
      split at h9
      · rename_i j ej
        exact ⟨a, xs3, i, j, rfl, rfl, e8, by rw [e9.len]; exact ej, q.nx (J3.pop.wrL e7 e8 (e9.set (s := .dat (.int (f n m))) rfl)) h9⟩
      · exact h9.elim
    | _ => exact h5.elim
  · exact h5.elim⟩
end
end B

/-! The data layer: dicts made at once; zip, enumerate. -/
namespace B
open PySem PySem.Spec PyProof.Rows L2
section
variable {X : Cx}
theorem pe_dcX {kx vx tg iter : Expr} {ifs : List Expr} {scope : Scope} (own : List (Str × Nat)) {pos : Pos} {wi : TI} {g : TG} {tt : TT} {tk tv : TE} (hc : X.calm = true) (hN : X.N.Nodup) (hi : PI X tg iter wi) (ok : BlkOk X.N X.env.scope scope own)
    (hg : ∀ (s : Shared) (H : Hp) (C : Addr) (cl : List (Str × Addr)) (fp : List Addr), PG (X.blk s H scope (compEnvC scope cl C X.env) fp) tg g) (ht : ∀ (s : Shared) (H : Hp) (C : Addr) (cl : List (Str × Addr)) (fp : List Addr), PTs (X.blk s H scope (compEnvC scope cl C X.env) fp) ifs tt)
    (hk : ∀ (s : Shared) (H : Hp) (C : Addr) (cl : List (Str × Addr)) (fp : List Addr), PE (X.blk s H scope (compEnvC scope cl C X.env) fp) kx tk)
    (he : ∀ (s : Shared) (H : Hp) (C : Addr) (cl : List (Str × Addr)) (fp : List Addr), PE (X.blk s H scope (compEnvC scope cl C X.env) fp) vx tv) (hs : ∀ x, foldedSetIterable iter X.env x = pure x) :
    PE X (.DictComp kx vx [⟨tg, iter, ifs, 0⟩] scope pos) (tDc wi g tt tk tv (own.map (·.2))) := pe_dc hc hN hi ok hg ht hk he hs
/-- dict(a tuple of pairs) -/
def rDictT (K : PySem.W.Frag) : List V → Hp → VK → Prop := fun xs H Q => ∃ (a : Addr) (ps : List Addr) (kvs : List (Key × V)), xs = [.ref a] ∧ Tp K H a (ps.map V.ref) ∧ Paired (fun p kv => SqT K H p [kV kv.1, kv.2]) ps kvs ∧
    ∀ p, H p = none → Q (.ref p) (upd H p (.dK (mergeK [] kvs)))
theorem pair_list {h : Heap} : ∀ {ps : List Addr} {prs : List (Key × Value)}, prs.length = ps.length → (∀ (j : Nat) (q : Key × Value), prs[j]? = some q → ∃ (b : Addr) (u : Value), ps[j]? = some b ∧ IsTup h b #[u, q.2] ∧ keyIs q.1 u = true) →
    ∃ vs : List (Value × Value), vs.length = ps.length ∧ (∀ (j : Nat) (k v : Value), vs[j]? = some (k, v) → ∃ q, prs[j]? = some (q, v) ∧ keyIs q k = true) ∧ ∀ (j : Nat) (k v : Value), vs[j]? = some (k, v) → ∃ b, ps[j]? = some b ∧ IsTup h b #[k, v]
  | [], prs, hl, _ => ⟨[], rfl, fun j k v e => by simp at e, fun j k v e => by simp at e⟩
  | p :: ps, [], hl, _ => by cases hl
  | p :: ps, q :: prs, hl, hp => by
    obtain ⟨vs, e1, e2, e3⟩ := pair_list (ps := ps) (prs := prs) (by simpa using hl) fun j q' e => by
      obtain ⟨b, u, h1, h2, h3⟩ := hp (j + 1) q' (by simpa using e)
      exact ⟨b, u, by simpa using h1, h2, h3⟩
    obtain ⟨b, u, h1, h2, h3⟩ := hp 0 q rfl
    refine ⟨(u, q.2) :: vs, by simp [e1], fun j k v e => ?_, fun j k v e => ?_⟩
    · cases j with
      | zero =>
        have ee : (u, q.2) = (k, v) := Option.some.inj e
        cases ee
        exact ⟨q.1, rfl, h3⟩
      | succ j => exact e2 j k v (by simpa using e)
    · cases j with
      | zero =>
        have ee : (u, q.2) = (k, v) := Option.some.inj e
        cases ee
        exact ⟨b, h1, h2⟩
      | succ j =>
        obtain ⟨b, h4, h5⟩ := e3 j k v (by simpa using e)
        exact ⟨b, by simpa using h4, h5⟩
theorem call_dictT (hcalm : X.calm = true) : CallR X (.type "dict") (rDictT X.K) := by
  intro pins s σ H xs us Q I r q
  obtain ⟨a, ps, kvs, ex, ht, hp, q⟩ := q
  subst ex
  obtain ⟨u, eu, rx⟩ := vals1 r
  subst eu
  cases rx
  obtain ⟨its, rv, pl, hz⟩ := I.tuple ht.sq
  have ei := refs_at rv
  subst ei
  rw [List.length_map] at hz
  obtain ⟨prs, rel, hl, hpr⟩ := pairs_of I hp
  obtain ⟨vs, v1, v2, v3⟩ := pair_list hl hpr
  have nk : keyV (ps.map V.ref) = false := by
    unfold keyV
    cases ps with
    | nil => rfl
    | cons p ps => show (true && _ && (false && _)) = false; rw [Bool.false_and, Bool.and_false]
  have plain : PlainSeq "tuple" s.heap a (ps.map Value.ref).toArray := by
    rcases ht with ⟨k, _⟩ | ⟨_, ⟨o, d, e⟩ | ⟨o, its, n, e1, e2, e3, e4, e5, e6⟩⟩
    · rw [nk] at k
      cases k
    · obtain ⟨h1, _, us, r1, o', h2, h3, n, h4⟩ := I.hok a _ e
      have eo : o' = o := Option.some.inj (h2.symm.trans h1)
      subst eo
      rw [refs_at r1] at h4
      exact ⟨o', n, h1, h3, d, h4⟩
    · rw [← Array.toArray_toList (xs := its), refs_at e6] at e4
      exact ⟨o, n, I.kIn a o e1, e2, e3, e4⟩
  have hm : (s.heap.objs.size == sysModules) = false := beq_eq_false_iff_ne.mpr (Nat.ne_of_gt I.big)
  have hlen : (mergeK [] kvs).length ≤ sizeLine := by
    refine Nat.le_trans (length_mergeK kvs []) ?_
    rw [List.length_nil, Nat.zero_add, rel.length, hl]
    exact hz
  refine PySem.call_dict_pairs (knd := mixKind X.prog X.w) (kvs := prs) (PairArg.tuple a (ps.map Value.ref).toArray (fun j => ps.getD j 0) vs) (I.ok.hd hcalm) ⟨plain, ?_, fun j k v e => ?_⟩ ⟨by rw [hl, v1], fun i k v e => ?_⟩ (by rw [v1]; exact hz) ?_
  · rw [List.size_toArray, List.length_map, v1]
  · obtain ⟨b, e1, e2⟩ := v3 j k v e
    have eg : (fun j => ps.getD j 0) j = b := by
      show ps.getD j 0 = b
      rw [List.getD_eq_getElem?_getD, e1]
      rfl
    refine ⟨?_, .inl ?_⟩
    · rw [eg]
      show ((ps.map Value.ref).toArray)[j]? = _
      rw [List.getElem?_toArray, List.getElem?_map, e1]
      rfl
    · rw [eg]
      exact e2
  · obtain ⟨q0, e1, e2⟩ := v2 i k v e
    exact ⟨q0, e1, e2⟩
  · intro h1 tk hd1 keep
    have I2 := I.laid (t' := tk) (h' := h1) (a := s.heap.objs.size) (o := .dK (mergeK [] kvs)) (fun b o e => keep b o (fun z => nomatch z) e) (Nat.le_refl _) ⟨hlen, hm, merged [] prs, KV.merge rel .nil, hd1⟩
    exact ⟨.ref s.heap.objs.size, _, I2, rfl, q _ (I.hok.fresh (Nat.le_refl _))⟩
theorem call_dictTK (K : PySem.W.Frag) (h : X.K = K) (hcalm : X.calm = true) : CallR X (.type "dict") (rDictT K) := by subst h; exact call_dictT hcalm
end
/-- pairs with keys -/
def pairsD : List PyData → Option (List (Key × PyData))
  | [] => some []
  | .tuple [k, d] :: ds => match keyD k, pairsD ds with
    | some k, some r => some ((k, d) :: r)
    | _, _ => none
  | _ :: _ => none
def mergeE {α : Type} (es more : List (Key × α)) : List (Key × α) := more.foldl (fun acc e => putE acc e.1 e.2) es
section
variable {K : PySem.W.Frag} {L : List Addr} {H : Hp}
theorem pairsD_run : ∀ {ds : List PyData} {vs : List V} {es : List (Key × PyData)}, Dvs K L H ds vs → pairsD ds = some es → ∃ (ps : List Addr) (kvs : List (Key × V)), vs = ps.map V.ref ∧ Paired (fun p kv => SqT K H p [kV kv.1, kv.2]) ps kvs ∧ DvK K L H es kvs
  | [], _, es, h, e => by cases e; exact ⟨[], [], h, .nil, rfl⟩
  | d :: ds, _, es, ⟨v, r, e1, h1, h2⟩, e => by
    unfold pairsD at e
    split at e
    · rename_i z
      cases z
    · rename_i k x ds' z
      cases z
      split at e
      · rename_i k' r' a b
        cases e
        obtain ⟨ps, kvs, rfl, p1, p2⟩ := pairsD_run h2 b
        obtain ⟨p, xs, rfl, t, x1, r1, rfl, dk, x2, r2, rfl, dx, rfl⟩ := h1
        have ek := keyD_run dk a
        subst ek
        exact ⟨p :: ps, (k', x2) :: kvs, e1, .cons t.sq p1, x2, kvs, rfl, dx, p2⟩
      · cases e
    · cases e
theorem DvK.merge : ∀ {more : List (Key × PyData)} {kvs : List (Key × V)} {es : List (Key × PyData)} {acc : List (Key × V)}, DvK K L H more kvs → DvK K L H es acc → DvK K L H (mergeE es more) (mergeK acc kvs)
  | [], _, _, _, h, g => by cases h; exact g
  | (k, d) :: more, _, es, acc, ⟨v, r, e, h1, h2⟩, g => by
    cases e
    exact DvK.merge (es := putE es k d) (acc := putK acc k v) h2 (g.put h1)
end
section
variable {K : PySem.W.Frag} {Γ : Gm}
def pairsOf (ds : List PyData) (k : List (Key × PyData) → Prop) : Prop := match pairsD ds with
  | some es => k es
  | none => False
theorem pairsOf_of {ds : List PyData} {es : List (Key × PyData)} {k : List (Key × PyData) → Prop} (e : pairsD ds = some es) (h : k es) : pairsOf ds k := by
  unfold pairsOf; rw [e]; exact h
instance {e : TE} {fe : Dn → (Sv → Dn → Prop) → Prop} [E : DE K Γ e fe] : DE K Γ (tCB (rDictT K) (tCons e tNil)) (fun δ Φ => fe δ fun s δ1 => asD s δ1 fun x δ2 => onT x fun ds => pairsOf ds fun es => ∀ p, δ2.al p = none → Φ (.ref p) (δ2.know (oup δ2.al p (.dK (mergeE [] es))))) := ⟨fun {L δ σ S H Φ Q} I h q =>
  DE.data (T := E) I h fun x L1 δ1 v H1 J h1 => by
    cases x with
    | tuple ds =>
      have h2 : pairsOf ds fun es => ∀ p, δ1.al p = none → Φ (.ref p) (δ1.know (oup δ1.al p (.dK (mergeE [] es)))) := h1
      unfold pairsOf at h2
      split at h2
      · rename_i es e
        obtain ⟨a, xs, rfl, t, r⟩ := J.top
        obtain ⟨ps, kvs, rfl, p1, p2⟩ := pairsD_run r e
        refine ⟨a, ps, kvs, rfl, t, p1, fun p np => ?_⟩
        have dv : DvK K (p :: L1) (upd H1 p (.dK (mergeK [] kvs))) (mergeE [] es) (mergeK [] kvs) := (p2.merge (es := []) (acc := []) rfl).to fun d v z => Dv.mono (P := []) (.new np) (fun _ z => nomatch z) (Dv.sub (fun b hb => (List.mem_cons.mp hb).elim (fun e => .inr (e ▸ np)) .inl) z)
        have J2 := J.pop.newOb (u := .dK (mergeK [] kvs)) (o := .dK (mergeE [] es)) np ⟨_, upd_same, dv⟩
        exact q (.ref p) _ _ _ _ (J2.push (s := .ref p) rfl rfl fun _ z => nomatch z) (h2 p (J.fresh np).1)
      · exact h2.elim
    | _ => exact h1.elim⟩
/-! ### dict comprehensions -/
def dcD (fg : Sv → Dn → (Dn → Prop) → Prop) (ft : Dn → (Bool → Dn → Prop) → Prop) (fk fv : Dn → (Sv → Dn → Prop) → Prop) (vs : List Nat) (p : Addr) (Φ : Dn → Prop) : List PyData → Dn → Prop
  | [], δ => Φ (wipeD δ vs)
  | d :: ds, δ => fg (.dat d) (wipeD δ vs) fun δ1 => ft δ1 fun b δ2 => bif b then fk δ2 fun s δ3 => asD s δ3 fun y δ4 => fv δ4 fun t δ5 => asD t δ5 fun z δ6 => asDK δ6.al p fun es => someK y fun k => es.length < 1000000 ∧ dcD fg ft fk fv vs p Φ ds (δ6.know (oup δ6.al p (.dK (putE es k z)))) else dcD fg ft fk fv vs p Φ ds δ2
where someK (y : PyData) (k : Key → Prop) : Prop := match keyD y with
  | some κ => k κ
  | none => False
instance {wk : Bool} {wi : TI} {g : TG} {tt : TT} {tk tv : TE} {vs : List Nat} {fi : Dn → (List PyData → Dn → Prop) → Prop} {fg : Sv → Dn → (Dn → Prop) → Prop} {ws : List Nat} {ft : Dn → (Bool → Dn → Prop) → Prop} {fk fv : Dn → (Sv → Dn → Prop) → Prop}
    [Ii : DI K Γ wi wk fi] [G : DGi K Γ wk g fg ws] [Tt : DT K Γ tt ft] [Ek : DE K Γ tk fk] [Ev : DE K Γ tv fv] :
    DE K Γ (tDc wi g tt tk tv vs) (fun δ Φ => (ws.all fun i => vs.contains i) = true ∧ fi δ fun ds δ1 => ∀ p, δ1.al p = none → dcD fg ft fk fv vs p (fun δ2 => Φ (.ref p) δ2) ds (δ1.know (oup δ1.al p (.dK [])))) := ⟨fun {L δ σ S H Φ Q} I h q => by
  obtain ⟨hw, h⟩ := h
  have hws : ∀ i ∈ ws, i ∈ vs := fun i hi => by
    have := List.all_eq_true.mp hw i hi
    simpa using this
  refine Ii.run I h fun ds L1 δ1 J hz H1 I1 hno It h1 D nD => ?_
  have I2 := I1.newOb (u := .dK []) (o := .dK []) nD ⟨[], upd_same, rfl⟩
  refine ⟨fun i m H2 => m = ds.length - i ∧ i ≤ ds.length ∧ ∃ M2 δ2, Sim K Γ M2 (wipeD δ2 vs) (L2.wipe σ vs) (hz ++ S) H2 ∧ dcD fg ft fk fv vs D (fun δ2 => Φ (.ref D) δ2) (ds.drop i) δ2,
    ⟨ds.length, by simp, Nat.zero_le _, _, _, I2.wipe vs, h1 D (I1.fresh nD).1⟩, ?_⟩
  rintro i m H2 ⟨rfl, hi, M2, δ2, J2, h2⟩
  have hm : ∀ h ∈ hz, h ∈ hz ++ S := fun h hh => List.mem_append_left _ hh
  by_cases hlt : i < ds.length
  · refine .inr ⟨It.go J2 hm hlt, fun H' => i + 1 ≤ ds.length ∧ ∃ M2 δ2, Sim K Γ M2 (wipeD δ2 vs) (L2.wipe σ vs) (hz ++ S) H' ∧ dcD fg ft fk fv vs D (fun δ2 => Φ (.ref D) δ2) (ds.drop (i + 1)) δ2,
      fun H' q' => ⟨ds.length - (i + 1), by omega, rfl, q'⟩, fun x H3 y => ?_⟩
    have ed : ds.drop i = ds[i] :: ds.drop (i + 1) := List.drop_eq_getElem_cons hlt
    rw [ed] at h2
    obtain ⟨f3, dx⟩ := It.yld J2 hm (List.getElem?_eq_getElem hlt) y
    refine G.run (J2.more f3) dx h2 fun L4 δ4 σ4 H4 J4 b4 h4 => ?_
    have e4 : L2.wipe σ4 vs = L2.wipe σ vs := by
      rw [b4.wipe hws]
      exact (But.wipe (ws := vs) ⟨L2.wipe_length _ _, fun j hj => wipe_get vs j hj⟩ fun _ z => z)
    refine ⟨e4, ?_⟩
    refine Tt.run J4 h4 fun b L5 δ5 H5 J5 h5 => ?_
    cases b with
    | true =>
      refine iteT (DE.data (T := Ek) J5 h5 fun y L6 δ6 w H6 J6 h6 => DE.data (T := Ev) J6 h6 fun z L7 δ7 u H7 J7 h7 => ?_)
      unfold asDK at h7
      split at h7
      · rename_i es e7
        unfold dcD.someK at h7
        split at h7
        · rename_i k ek
          obtain ⟨⟨aL, _⟩, kvs, e8, e9⟩ := J7.obj D _ e7
          have el := e9.len
          have hs := sizeLine_eq
          have f1 : Fr [D] H7 (upd H7 D (.dK (putK kvs k u))) := .wr e8 trivial (by simp)
          have inL : ∀ b ∈ [D], b ∈ L7 := fun b hb => by cases List.mem_singleton.mp hb; exact aL
          have J8 := J7.pop.pop.wrOb (u := .dK (putK kvs k u)) (o' := .dK (putE es k z)) e7 ⟨_, upd_same, (e9.put J7.top).to fun d v => Dv.mono f1 inL⟩
          exact ⟨kvs, k, keyD_run J7.pop.top ek, e8, by omega, by omega, L7, _, J8.wiped e4, h7.2⟩
        · exact h7.elim
      · exact h7.elim
    | false => exact iteF ⟨by omega, L5, δ5, J5.wiped e4, h5⟩
  · have e : i = ds.length := by omega
    subst e
    rw [List.drop_length] at h2
    have J3 := J2.unwipe.thin (List.sublist_append_right hz S)
    exact .inl ⟨It.stop J2 hm, q (.ref D) M2 _ _ H2 (J3.push (s := .ref D) rfl rfl fun _ z => nomatch z) h2⟩⟩
end
end B

/-! The data layer: zip, enumerate. -/
namespace B
open PySem PySem.Spec PyProof.Rows L2
def zipD (ds es : List PyData) : List PyData := (ds.zip es).map fun p => .tuple [p.1, p.2]
def enumD (ds : List PyData) : List PyData := zipD (rngD 0 ds.length) ds
theorem zipD_at {ds es : List PyData} {i : Nat} {d : PyData} (h : (zipD ds es)[i]? = some d) : ∃ x y, ds[i]? = some x ∧ es[i]? = some y ∧ d = .tuple [x, y] := by
  unfold zipD at h
  rw [List.getElem?_map] at h
  cases e : (ds.zip es)[i]? with
  | none => rw [e] at h; cases h
  | some p =>
    rw [e] at h
    have e2 := List.getElem?_zip_eq_some.mp e
    exact ⟨p.1, p.2, e2.1, e2.2, (Option.some.inj h).symm⟩
theorem zipD_len (ds es : List PyData) : (zipD ds es).length = min ds.length es.length := by simp [zipD]
theorem enumD_len (ds : List PyData) : (enumD ds).length = ds.length := by simp [enumD, zipD_len, rngD]
def zipOn (x y : PyData) (k : List PyData → Prop) : Prop := match x, y with
  | .tuple ds, .tuple es => k (zipD ds es)
  | .list ds, .list es => k (zipD ds es)
  | _, _ => False
section
variable {K : PySem.W.Frag} {Γ : Gm}
theorem pair_new {L : List Addr} {H : Hp} {T : Addr} {x y : V} {d e : PyData} (n : H T = none) (h1 : Dv K L H d x) (h2 : Dv K L H e y) : Fr [] H (upd H T (.tup [x, y])) ∧ ItR K L (upd H T (.tup [x, y])) true (.tuple [d, e]) (.ref T) :=
  ⟨.new n, T, x, y, d, e, rfl, rfl, upd_same, h1.mono (P := []) (.new n) (fun _ z => nomatch z), h2.mono (P := []) (.new n) (fun _ z => nomatch z)⟩
theorem dit_zipT {a b : Addr} {ds es : List PyData} : DIt K Γ true (RZ.ItzT K a b) [(.dat (.tuple ds), .ref a), (.dat (.tuple es), .ref b)] (zipD ds es) where
  go := fun {i L δ σ S H} I h hi => by
    obtain ⟨_, xs, e, t, r⟩ := I.stk _ (h _ (List.mem_cons_self ..))
    obtain ⟨_, ys, e', t', r'⟩ := I.stk _ (h _ (List.mem_cons_of_mem _ (List.mem_cons_self ..)))
    cases e
    cases e'
    rw [zipD_len] at hi
    exact ⟨xs, ys, xs[i]'(by rw [r.len]; omega), ys[i]'(by rw [r'.len]; omega), t.sq, t'.sq, List.getElem?_eq_getElem _, List.getElem?_eq_getElem _⟩
  stop := fun I h => by
    obtain ⟨_, xs, e, t, r⟩ := I.stk _ (h _ (List.mem_cons_self ..))
    obtain ⟨_, ys, e', t', r'⟩ := I.stk _ (h _ (List.mem_cons_of_mem _ (List.mem_cons_self ..)))
    cases e
    cases e'
    refine ⟨xs, ys, t.sq, t'.sq, ?_⟩
    rw [zipD_len, r.len, r'.len]
    omega
  yld := fun I h hd y => by
    obtain ⟨_, xs, e, t, r⟩ := I.stk _ (h _ (List.mem_cons_self ..))
    obtain ⟨_, ys, e', t', r'⟩ := I.stk _ (h _ (List.mem_cons_of_mem _ (List.mem_cons_self ..)))
    cases e
    cases e'
    obtain ⟨x, y2, h1, h2, rfl⟩ := zipD_at hd
    obtain ⟨T, v, w, rfl, nT, rfl, hx, hy⟩ := y
    obtain ⟨v', e1, d1⟩ := r.get h1
    obtain ⟨w', e2, d2⟩ := r'.get h2
    have e3 := hx xs t.sq
    have e4 := hy ys t'.sq
    rw [e1] at e3
    rw [e2] at e4
    cases e3
    cases e4
    exact pair_new nT d1 d2
theorem dit_zipL {a b : Addr} {ds es : List PyData} : DIt K Γ true (Itz K a b) [(.dat (.list ds), .ref a), (.dat (.list es), .ref b)] (zipD ds es) where
  go := fun {i L δ σ S H} I h hi => by
    obtain ⟨_, xs, e, _, t, r⟩ := I.stk _ (h _ (List.mem_cons_self ..))
    obtain ⟨_, ys, e', _, t', r'⟩ := I.stk _ (h _ (List.mem_cons_of_mem _ (List.mem_cons_self ..)))
    cases e
    cases e'
    rw [zipD_len] at hi
    exact ⟨xs, ys, xs[i]'(by rw [r.len]; omega), ys[i]'(by rw [r'.len]; omega), sqL_of t, sqL_of t', List.getElem?_eq_getElem _, List.getElem?_eq_getElem _⟩
  stop := fun I h => by
    obtain ⟨_, xs, e, _, t, r⟩ := I.stk _ (h _ (List.mem_cons_self ..))
    obtain ⟨_, ys, e', _, t', r'⟩ := I.stk _ (h _ (List.mem_cons_of_mem _ (List.mem_cons_self ..)))
    cases e
    cases e'
    refine ⟨xs, ys, sqL_of t, sqL_of t', ?_⟩
    rw [zipD_len, r.len, r'.len]
    omega
  yld := fun I h hd y => by
    obtain ⟨_, xs, e, _, t, r⟩ := I.stk _ (h _ (List.mem_cons_self ..))
    obtain ⟨_, ys, e', _, t', r'⟩ := I.stk _ (h _ (List.mem_cons_of_mem _ (List.mem_cons_self ..)))
    cases e
    cases e'
    obtain ⟨x, y2, h1, h2, rfl⟩ := zipD_at hd
    obtain ⟨T, v, w, rfl, nT, rfl, hx, hy⟩ := y
    obtain ⟨v', e1, d1⟩ := r.get h1
    obtain ⟨w', e2, d2⟩ := r'.get h2
    have e3 := hx xs (sqL_of t)
    have e4 := hy ys (sqL_of t')
    rw [e1] at e3
    rw [e2] at e4
    cases e3
    cases e4
    exact pair_new nT d1 d2
theorem enumD_at {ds : List PyData} {i : Nat} {d : PyData} (h : (enumD ds)[i]? = some d) : ∃ y, ds[i]? = some y ∧ d = .tuple [.int (i : Int), y] := by
  obtain ⟨x, y, h1, h2, e⟩ := zipD_at h
  refine ⟨y, h2, ?_⟩
  rw [e]
  have hi := (List.getElem?_eq_some_iff.mp h2).1
  unfold rngD at h1
  rw [List.getElem?_map, List.getElem?_range hi] at h1
  have : x = .int (0 + (i : Int)) := (Option.some.inj h1).symm
  rw [this, Int.zero_add]
theorem dit_enT {a : Addr} {ds : List PyData} : DIt K Γ true (IteT K a) [(.dat (.tuple ds), .ref a)] (enumD ds) where
  go := fun {i L δ σ S H} I h hi => by
    obtain ⟨_, xs, e, t, r⟩ := I.stk _ (h _ (List.mem_cons_self ..))
    cases e
    rw [enumD_len] at hi
    exact ⟨xs, xs[i]'(by rw [r.len]; omega), t.sq, List.getElem?_eq_getElem _⟩
  stop := fun I h => by
    obtain ⟨_, xs, e, t, r⟩ := I.stk _ (h _ (List.mem_cons_self ..))
    cases e
    refine ⟨xs, t.sq, ?_⟩
    rw [enumD_len, r.len]
    omega
  yld := fun I h hd y => by
    obtain ⟨_, xs, e, t, r⟩ := I.stk _ (h _ (List.mem_cons_self ..))
    cases e
    obtain ⟨y2, h2, rfl⟩ := enumD_at hd
    obtain ⟨T, w, rfl, nT, rfl, hy⟩ := y
    obtain ⟨w', e2, d2⟩ := r.get h2
    have e4 := hy xs t.sq
    rw [e2] at e4
    cases e4
    exact pair_new (d := .int _) nT rfl d2
theorem dit_enL {a : Addr} {ds : List PyData} : DIt K Γ true (Ite K a) [(.dat (.list ds), .ref a)] (enumD ds) where
  go := fun {i L δ σ S H} I h hi => by
    obtain ⟨_, xs, e, _, t, r⟩ := I.stk _ (h _ (List.mem_cons_self ..))
    cases e
    rw [enumD_len] at hi
    exact ⟨xs, xs[i]'(by rw [r.len]; omega), sqL_of t, List.getElem?_eq_getElem _⟩
  stop := fun I h => by
    obtain ⟨_, xs, e, _, t, r⟩ := I.stk _ (h _ (List.mem_cons_self ..))
    cases e
    refine ⟨xs, sqL_of t, ?_⟩
    rw [enumD_len, r.len]
    omega
  yld := fun I h hd y => by
    obtain ⟨_, xs, e, _, t, r⟩ := I.stk _ (h _ (List.mem_cons_self ..))
    cases e
    obtain ⟨y2, h2, rfl⟩ := enumD_at hd
    obtain ⟨T, w, rfl, nT, rfl, hy⟩ := y
    obtain ⟨w', e2, d2⟩ := r.get h2
    have e4 := hy xs (sqL_of t)
    rw [e2] at e4
    cases e4
    exact pair_new (d := .int _) nT rfl d2
instance {a b : TE} {fa fb : Dn → (Sv → Dn → Prop) → Prop} [A : DE K Γ a fa] [B : DE K Γ b fb] : DI K Γ (RZ.iZipA K (tCons a (tCons b tNil))) true (fun δ Φ => fa δ fun s δ1 => asD s δ1 fun x δ2 => fb δ2 fun t δ3 => asD t δ3 fun y δ4 => zipOn x y fun ds => Φ ds δ4) := ⟨fun {L δ σ S H Φ R} I h q => by
  refine DE.data (T := A) I h fun x L1 δ1 v H1 J h1 => DE.data (T := B) J h1 fun y L2' δ2 w H2 J2 h2 => ?_
  have sw : ∀ {p r : Sv × V}, Sim K Γ L2' δ2 σ (p :: r :: S) H2 → isOwn p.1 = false → isOwn r.1 = false → Sim K Γ L2' δ2 σ ([r, p] ++ S) H2 := fun {p r} J n1 n2 => by
    obtain ⟨ps, pv⟩ := p
    obtain ⟨rs, rv⟩ := r
    have hp := J.stk (ps, pv) (List.mem_cons_self ..)
    have hr := J.stk (rs, rv) (List.mem_cons_of_mem _ (List.mem_cons_self ..))
    have np := J.nal (ps, pv) (List.mem_cons_self ..)
    have nr := J.nal (rs, rv) (List.mem_cons_of_mem _ (List.mem_cons_self ..))
    exact (J.pop.pop.push hp n1 np).push hr n2 nr
  have nn : ∀ {p r : Sv × V}, isOwn p.1 = false → isOwn r.1 = false → ∀ h ∈ [r, p], isOwn h.1 = false := fun n1 n2 h hh => by
    rcases List.mem_cons.mp hh with z | z
    · rw [z]; exact n2
    · rw [List.mem_singleton.mp z]; exact n1
  cases x with
  | tuple ds =>
    cases y with
    | tuple es =>
      have h2 : Φ (zipD ds es) δ2 := h2
      obtain ⟨a', xs, rfl, t, r⟩ := J2.pop.top
      obtain ⟨b', ys, rfl, t', r'⟩ := J2.top
      exact ⟨a', b', xs, ys, rfl, .inr ⟨t.sq, t'.sq, q _ L2' δ2 _ [_, _] H2 (sw J2 rfl rfl) (nn (p := (.dat (.tuple es), .ref b')) (r := (.dat (.tuple ds), .ref a')) rfl rfl) dit_zipT h2⟩⟩
    | _ => exact h2.elim
  | list ds =>
    cases y with
    | list es =>
      have h2 : Φ (zipD ds es) δ2 := h2
      obtain ⟨a', xs, rfl, _, t, r⟩ := J2.pop.top
      obtain ⟨b', ys, rfl, _, t', r'⟩ := J2.top
      exact ⟨a', b', xs, ys, rfl, .inl ⟨sqL_of t, sqL_of t', q _ L2' δ2 _ [_, _] H2 (sw J2 rfl rfl) (nn (p := (.dat (.list es), .ref b')) (r := (.dat (.list ds), .ref a')) rfl rfl) dit_zipL h2⟩⟩
    | _ => exact h2.elim
  | _ => exact h2.elim⟩
instance {a : TE} {fa : Dn → (Sv → Dn → Prop) → Prop} [A : DE K Γ a fa] : DI K Γ (iEnumT K (tCons a tNil)) true (fun δ Φ => fa δ fun s δ1 => asD s δ1 fun x δ2 => onT x fun ds => Φ (enumD ds) δ2) := ⟨fun {L δ σ S H Φ R} I h q => by
  refine DE.data (T := A) I h fun x L1 δ1 v H1 J h1 => ?_
  cases x with
  | tuple ds =>
    obtain ⟨a', xs, rfl, t, r⟩ := J.top
    exact ⟨a', xs, rfl, t.sq, q _ L1 δ1 _ [_] H1 J (one_own rfl) dit_enT h1⟩
  | _ => exact h1.elim⟩
instance {a : TE} {fa : Dn → (Sv → Dn → Prop) → Prop} [A : DE K Γ a fa] : DI K Γ (iEnum K (tCons a tNil)) true (fun δ Φ => fa δ fun s δ1 => asD s δ1 fun x δ2 => onL x fun ds => Φ (enumD ds) δ2) := ⟨fun {L δ σ S H Φ R} I h q => by
  refine DE.data (T := A) I h fun x L1 δ1 v H1 J h1 => ?_
  cases x with
  | list ds =>
    obtain ⟨a', xs, rfl, _, t, r⟩ := J.top
    exact ⟨a', xs, rfl, sqL_of t, q _ L1 δ1 _ [_] H1 J (one_own rfl) dit_enL h1⟩
  | _ => exact h1.elim⟩
end
end B

/-! dict(zip(t, u)), t and u tuples. -/
namespace B
open PySem PySem.Spec PyProof.Rows L2
section
variable {prog : Program} {w : World} {A : Around} {E : Value → Shared → Prop} {s : Shared} {z ti to gone ia ib la lb : Addr} {flag : Bool} {og : Obj} {i j : Nat} {xs ys : Array Value}
/-- where the zip stands while the pair that it gave out last is held -/
structure ZHeld (h : Heap) (z ti to gone ia ib la lb : Addr) (flag : Bool) (og : Obj) (i j : Nat) (xs ys : Array Value) : Prop where
  at_ : IsZipHeld h z ti to gone flag
  out : h.get? gone = some og
  its : IsPair h ti (.ref ia) (.ref ib)
  fst : h.IsTupleIter ia la i
  snd : h.IsTupleIter ib lb j
  src : h.IsTuple la xs
  src2 : h.IsTuple lb ys
theorem zh_item {x y : Value} {Q : Option Value → Shared → Prop} (D : ZipApart z ti to ia ib la lb) (Z : ZHeld s.heap z ti to gone ia ib la lb flag og i j xs ys) (ex : xs[i]? = some x) (ey : ys[j]? = some y)
    (hQ : ∀ h', IsZipHeld h' z ti to gone true → h'.IsTupleIter ia la (i + 1) → h'.IsTupleIter ib lb (j + 1) → IsPair h' s.heap.objs.size x y →
      (∀ c o, c ≠ z → c ≠ ia → c ≠ ib → s.heap.get? c = some o → h'.get? c = some o) → Q (some (.ref s.heap.objs.size)) { s with heap := h' }) : wpAny (model prog w) A (pyNext (.ref z)) Q E s := by
  have ty : s.TypeIs (.ref z) "zip" := ⟨_, Z.at_, rfl⟩
  unfold pyNext
  refine wpAny_bind (wpAny_attempt (wpAny_callSpecial?_slot (name := Str.ofString "__next__") ty F.slot_zip_next
    (wpAny_call_entry F.slot_zip_next ty F.entry_zip_next ?_ (F.args_zip_next_1 _))))
  show wpAny _ _ (field (.ref z) 2 >>= _) _ _ _
  apply wpAny_bind
  apply wpAny_field Z.at_ rfl (x := .bool false) rfl
  show wpAny _ _ (field (.ref z) 3 >>= _) _ _ _
  apply wpAny_bind
  apply wpAny_field Z.at_ rfl (x := .ref ti) rfl
  apply wpAny_bind
  apply wpAny_seqItems Z.its rfl
  show wpAny _ _ (Builtin.SmallTypes.ownedTupleIsFree (.ref z) >>= _) _ _ _
  apply wpAny_bind
  apply wpAny_tupleHeld_zip Z.at_ Z.out
  intro h1 a1 b1
  simp only [Bool.false_eq_true, if_false]
  apply wpAny_bind
  rw [← Array.forIn_toList]
  simp only [List.forIn_cons, List.forIn_nil]
  apply wpAny_bind
  apply wpAny_bind
  apply wpAny_holding
  show wpAny _ _ (Builtin.SmallTypes.nextOf (.ref ia) >>= _) _ _ _
  apply wpAny_bind
  apply RZ.nextOf_tuple_item (s := { s with heap := h1 }) (Z.fst.extBut b1.extBut D.i1z) (Z.src.extBut b1.extBut D.l1z) ex
  intro h2 a2 b2
  apply wpAny_pure
  apply wpAny_pure
  apply wpAny_bind
  apply wpAny_bind
  apply wpAny_holding
  show wpAny _ _ (Builtin.SmallTypes.nextOf (.ref ib) >>= _) _ _ _
  apply wpAny_bind
  apply RZ.nextOf_tuple_item (s := { s with heap := h2 }) ((Z.snd.extBut b1.extBut D.i2z).extBut b2.extBut D.i12.symm) ((Z.src2.extBut b1.extBut D.l2z).extBut b2.extBut D.l2i1) ey
  intro h3 a3 b3
  apply wpAny_pure
  apply wpAny_pure
  apply wpAny_pure
  show wpAny _ _ (newTuple [x, y] >>= _) _ _ _
  apply wpAny_bind
  refine wpAny_newTuple ?_ (by show 2 ≤ sizeLine; decide)
  have size : h3.objs.size = s.heap.objs.size := by rw [b3.1, b2.1, b1.1]
  have zz : IsZipHeld h3 z ti to gone true := b3.extBut _ _ D.i2z.symm (b2.extBut _ _ D.i1z.symm a1)
  have stay : ∀ c o, c ≠ z → c ≠ ia → c ≠ ib → s.heap.get? c = some o → h3.get? c = some o := fun c o n1 n2 n3 e => b3.extBut _ _ n3 (b2.extBut _ _ n2 (b1.extBut _ _ n1 e))
  have one : h3.IsTupleIter ia la (i + 1) := a2.extBut b3.extBut D.i12
  have pr : IsPair (h3.push { cls := .type "tuple", data := .seq #[x, y] }) h3.objs.size x y := Heap.get?_push_size _ rfl
  refine wpAny_pure ⟨_, rfl, wpAny_pure ?_⟩
  show Q (some (.ref h3.objs.size)) _
  rw [size] at pr ⊢
  exact hQ _ (Heap.get?_push_of_some _ zz) (one.at fun o e => Heap.get?_push_of_some _ e) (a3.at fun o e => Heap.get?_push_of_some _ e) pr fun c o n1 n2 n3 e => Heap.get?_push_of_some _ (stay c o n1 n2 n3 e)
theorem zh_end {Q : Option Value → Shared → Prop} (hh : A.handled = none) (D : ZipApart z ti to ia ib la lb) (Z : ZHeld s.heap z ti to gone ia ib la lb flag og i j xs ys) (stop : xs[i]? = none ∨ ys[j]? = none)
    (hQ : ∀ h', (∀ c o, c ≠ z → c ≠ ia → c ≠ ib → s.heap.get? c = some o → h'.get? c = some o) → Q none { s with heap := h' }) : wpAny (model prog w) A (pyNext (.ref z)) Q E s := by
  have ty : s.TypeIs (.ref z) "zip" := ⟨_, Z.at_, rfl⟩
  unfold pyNext
  have raised : wpAny (model prog w) A.in1 (Builtin.«zip.__next__» ⟨[.ref z], []⟩) (fun _ _ => False) (fun e s' => ∃ h' b, e = .ref b ∧ s' = { s with heap := h' } ∧ (∀ c o, c ≠ z → c ≠ ia → c ≠ ib → s.heap.get? c = some o → h'.get? c = some o) ∧ ∃ o, h'.get? b = some o ∧ o.cls = .type "StopIteration") s := by
    show wpAny _ _ (field (.ref z) 2 >>= _) _ _ _
    apply wpAny_bind
    apply wpAny_field Z.at_ rfl (x := .bool false) rfl
    show wpAny _ _ (field (.ref z) 3 >>= _) _ _ _
    apply wpAny_bind
    apply wpAny_field Z.at_ rfl (x := .ref ti) rfl
    apply wpAny_bind
    apply wpAny_seqItems Z.its rfl
    show wpAny _ _ (Builtin.SmallTypes.ownedTupleIsFree (.ref z) >>= _) _ _ _
    apply wpAny_bind
    apply wpAny_tupleHeld_zip Z.at_ Z.out
    intro h1 a1 b1
    simp only [Bool.false_eq_true, if_false]
    apply wpAny_bind
    rw [← Array.forIn_toList]
    simp only [List.forIn_cons, List.forIn_nil]
    apply wpAny_bind
    apply wpAny_bind
    apply wpAny_holding
    show wpAny _ _ (Builtin.SmallTypes.nextOf (.ref ia) >>= _) _ _ _
    cases ex : xs[i]? with
    | none =>
      apply wpAny_bind
      apply RZ.nextOf_tuple_end (s := { s with heap := h1 }) (show A.in1.handled = none from hh) (Z.fst.extBut b1.extBut D.i1z) (Z.src.extBut b1.extBut D.l1z) ex
      intro h2 b b2 eb
      exact ⟨h2, b, rfl, rfl, fun c o n1 n2 _ e => b2 _ _ n2 (b1.extBut _ _ n1 e), eb⟩
    | some x =>
      have ey : ys[j]? = none := by
        rcases stop with h | h
        · rw [ex] at h; cases h
        · exact h
      apply wpAny_bind
      apply RZ.nextOf_tuple_item (s := { s with heap := h1 }) (Z.fst.extBut b1.extBut D.i1z) (Z.src.extBut b1.extBut D.l1z) ex
      intro h2 a2 b2
      apply wpAny_pure
      apply wpAny_pure
      apply wpAny_bind
      apply wpAny_bind
      apply wpAny_holding
      show wpAny _ _ (Builtin.SmallTypes.nextOf (.ref ib) >>= _) _ _ _
      apply wpAny_bind
      apply RZ.nextOf_tuple_end (s := { s with heap := h2 }) (show A.in1.handled = none from hh) ((Z.snd.extBut b1.extBut D.i2z).extBut b2.extBut D.i12.symm) ((Z.src2.extBut b1.extBut D.l2z).extBut b2.extBut D.l2i1) ey
      intro h3 b b3 eb
      exact ⟨h3, b, rfl, rfl, fun c o n1 n2 n3 e => b3 _ _ n3 (b2.extBut _ _ n2 (b1.extBut _ _ n1 e)), eb⟩
  refine wpAny_bind (wpAny_attempt (wpAny_callSpecial?_slot (name := Str.ofString "__next__") ty F.slot_zip_next
    (wpAny_call_entry F.slot_zip_next ty F.entry_zip_next (wpAny_mono raised (fun _ _ h => False.elim h) ?_) (F.args_zip_next_1 _))))
  rintro e s' ⟨h', b, rfl, rfl, keep, o, ho, hc⟩
  refine wpAny_bind (wpAny_isInstance (T := "StopIteration") (b := true) ⟨o, ho, hc⟩ isSubtype_stop ?_)
  exact wpAny_pure (hQ _ keep)
end
/-- what zip(t, u) made gives pairs to dict() -/
theorem pairs_zipT {prog : Program} {w : World} (z ti to ia ib la lb : Addr) (D : ZipApart z ti to ia ib la lb) (xs ys : Array Value) :
    PairArg prog w "zip" z [z, ti, to, ia, ib, la, lb] [z, to, ia, ib] (min xs.size ys.size) (fun i k v => xs[i]? = some k ∧ ys[i]? = some v)
      (fun h => IsZip h z ti to .none ∧ IsPair h ti (.ref ia) (.ref ib) ∧ (∃ a b, IsPair h to a b) ∧ h.IsTupleIter ia la 0 ∧ h.IsTupleIter ib lb 0 ∧ h.IsTuple la xs ∧ h.IsTuple lb ys) where
  type := fun s ok => ⟨_, ok.1, rfl⟩
  notDict := by decide
  keep := fun h h' ⟨q1, q2, ⟨a, b, q3⟩, q4, q5, q6, q7⟩ k =>
    ⟨k _ _ q1, k _ _ q2, ⟨a, b, k _ _ q3⟩, q4.at fun o e => k _ o e, q5.at fun o e => k _ o e, let ⟨o, e, r⟩ := q6; ⟨o, k _ o e, r⟩, let ⟨o, e, r⟩ := q7; ⟨o, k _ o e, r⟩⟩
  there := fun h ⟨q1, q2, ⟨a, c, q3⟩, ⟨o4, q4, _⟩, ⟨o5, q5, _⟩, ⟨o6, q6, _⟩, ⟨o7, q7, _⟩⟩ b hb => by
    simp only [List.mem_cons, List.not_mem_nil, or_false] at hb
    rcases hb with rfl | rfl | rfl | rfl | rfl | rfl | rfl
    · exact ⟨_, q1⟩
    · exact ⟨_, q2⟩
    · exact ⟨_, q3⟩
    · exact ⟨_, q4⟩
    · exact ⟨_, q5⟩
    · exact ⟨_, q6⟩
    · exact ⟨_, q7⟩
  sub := fun b hb => by
    simp only [List.mem_cons, List.not_mem_nil, or_false] at hb ⊢
    rcases hb with rfl | rfl | rfl | rfl <;> simp
  noKeys := fun A s Q E hA ok h => getAttrOr_miss_zip ok.1 rfl rfl rfl zip_no_keys (by decide +kernel) hA h
  iter := fun A s d Q E hA ok hd hdf h => by
    obtain ⟨q1, q2, ⟨a, b, q3⟩, q4, q5, q6, q7⟩ := ok
    simp only [List.mem_cons, List.not_mem_nil, or_false, not_or] at hdf
    obtain ⟨dz, dti, dto, dia, dib, dla, dlb⟩ := hdf
    have tup : ∀ {h h' : Heap} {l : Addr} {us : Array Value}, h.IsTuple l us → (∀ o, h.get? l = some o → h'.get? l = some o) → h'.IsTuple l us := fun ⟨o, e, r⟩ k => ⟨o, k o e, r⟩
    refine wpAny_pyIter_zip q1 (h z [z, to, ia, ib] (fun i h => (IsPair h ti (.ref ia) (.ref ib) ∧ h.IsTupleIter ia la i ∧ h.IsTupleIter ib lb i ∧ h.IsTuple la xs ∧ h.IsTuple lb ys) ∧
      ((IsZip h z ti to .none ∧ ∃ a b, IsPair h to a b) ∨ ∃ T f oT, IsZipHeld h z ti to T f ∧ h.get? T = some oT ∧ T ≠ z ∧ T ≠ ia ∧ T ≠ ib ∧ T ≠ d)) s.heap s.toks ?_
      ⟨⟨q2, q4, q5, q6, q7⟩, .inl ⟨q1, a, b, q3⟩⟩ (fun _ _ e => e) fun b hb => .inl hb)
    exact {
      off := fun hm => by
        simp only [List.mem_cons, List.not_mem_nil, or_false] at hm
        rcases hm with e | e | e | e
        · exact dz e
        · exact dto e
        · exact dia e
        · exact dib e
      frame := fun i h1 h2 ⟨⟨p2, p4, p5, p6, p7⟩, pz⟩ k => by
        refine ⟨⟨k _ _ (Ne.symm dti) p2, p4.at fun o e => k _ o (Ne.symm dia) e, p5.at fun o e => k _ o (Ne.symm dib) e, tup p6 fun o e => k _ o (Ne.symm dla) e, tup p7 fun o e => k _ o (Ne.symm dlb) e⟩, ?_⟩
        rcases pz with ⟨p1, a, b, p3⟩ | ⟨T, f, oT, p1, pT, n1, n2, n3, n4⟩
        · exact .inl ⟨k _ _ (Ne.symm dz) p1, a, b, k _ _ (Ne.symm dto) p3⟩
        · exact .inr ⟨T, f, oT, k _ _ (Ne.symm dz) p1, k _ _ n4 pT, n1, n2, n3, n4⟩
      item := fun i s1 Q1 E1 hi ⟨⟨p2, p4, p5, p6, p7⟩, pz⟩ hds hQ => by
        have ex := Array.getElem?_eq_getElem (xs := xs) (i := i) (Nat.lt_of_lt_of_le hi (Nat.min_le_left ..))
        have ey := Array.getElem?_eq_getElem (xs := ys) (i := i) (Nat.lt_of_lt_of_le hi (Nat.min_le_right ..))
        have lt : ∀ {c o}, s1.heap.get? c = some o → s1.heap.objs.size ≠ c := fun e => Nat.ne_of_gt (Heap.lt_size e)
        have na : s1.heap.objs.size ≠ ia := let ⟨_, e, _⟩ := p4; lt e
        have nb : s1.heap.objs.size ≠ ib := let ⟨_, e, _⟩ := p5; lt e
        rcases pz with ⟨p1, a, b, p3⟩ | ⟨T, f, oT, p1, pT, n1, n2, n3, n4⟩
        · refine RZ.pyNext_zipT_item D p1 p2 p3 p4 p5 p6 p7 ex ey ?_
          intro h' a1 a2 a3 a4 a5 a6 keep
          refine hQ s1.heap.objs.size _ _ h' s1.toks ⟨ex, ey⟩ (.inl ⟨_, a5, rfl, _, rfl⟩) ⟨⟨keep _ _ D.TIz D.TITO D.TIi1 D.TIi2 p2, a3, a4, tup p6 fun o e => keep _ o D.l1z D.l1TO D.l1i1 D.l1i2 e, tup p7 fun o e => keep _ o D.l2z D.l2TO D.l2i1 D.l2i2 e⟩, .inr ⟨s1.heap.objs.size, false, _, a1, a5, lt p1, na, nb, Nat.ne_of_gt hds⟩⟩ ?_
          intro c o hc e
          simp only [List.mem_cons, List.not_mem_nil, or_false, not_or] at hc
          exact keep c o hc.1 hc.2.1 hc.2.2.1 hc.2.2.2 e
        · refine zh_item D ⟨p1, pT, p2, p4, p5, p6, p7⟩ ex ey ?_
          intro h' a1 a3 a4 a5 keep
          refine hQ s1.heap.objs.size _ _ h' s1.toks ⟨ex, ey⟩ (.inl ⟨_, a5, rfl, _, rfl⟩) ⟨⟨keep _ _ D.TIz D.TIi1 D.TIi2 p2, a3, a4, tup p6 fun o e => keep _ o D.l1z D.l1i1 D.l1i2 e, tup p7 fun o e => keep _ o D.l2z D.l2i1 D.l2i2 e⟩, .inr ⟨T, true, oT, a1, keep _ _ n1 n2 n3 pT, n1, n2, n3, n4⟩⟩ ?_
          intro c o hc e
          simp only [List.mem_cons, List.not_mem_nil, or_false, not_or] at hc
          exact keep c o hc.1 hc.2.2.1 hc.2.2.2 e
      done := fun s1 Q1 E1 ⟨⟨p2, p4, p5, p6, p7⟩, pz⟩ hQ => by
        have over : xs[min xs.size ys.size]? = none ∨ ys[min xs.size ys.size]? = none := by
          rcases Nat.le_total xs.size ys.size with h | h
          · left; rw [Nat.min_eq_left h]; exact Array.getElem?_eq_none (Nat.le_refl _)
          · right; rw [Nat.min_eq_right h]; exact Array.getElem?_eq_none (Nat.le_refl _)
        rcases pz with ⟨p1, a, b, p3⟩ | ⟨T, f, oT, p1, pT, n1, n2, n3, n4⟩
        · refine RZ.pyNext_zipT_end hA D p1 p2 p3 p4 p5 p6 p7 over ?_
          intro h' keep
          refine hQ h' s1.toks ?_
          intro c o hc e
          simp only [List.mem_cons, List.not_mem_nil, or_false, not_or] at hc
          exact keep c o hc.1 hc.2.1 hc.2.2.1 hc.2.2.2 e
        · refine zh_end hA D ⟨p1, pT, p2, p4, p5, p6, p7⟩ over ?_
          intro h' keep
          refine hQ h' s1.toks ?_
          intro c o hc e
          simp only [List.mem_cons, List.not_mem_nil, or_false, not_or] at hc
          exact keep c o hc.1 hc.2.2.1 hc.2.2.2 e }
/-! ### the rule -/
/-- dict(zip(t, u)), t of texts -/
def tDictZip (K : PySem.W.Frag) (ta : TA) : TE := fun σ H Q => ta σ H fun vs H1 => ∃ (a b : Addr) (ks : List Key) (ys : List V), vs = [.ref a, .ref b] ∧ SqT K H1 a (ks.map kV) ∧ SqT K H1 b ys ∧ ∀ p, H1 p = none → Q (.ref p) (upd H1 p (.dK (mergeK [] (ks.zip ys))))
section
variable {X : Cx}
theorem pe_dictZip {e e2 : Expr} {ta : TA} {p p2 pos pos2 : Pos} (hc : X.calm = true) (hg : Gl X "dict") (hm : X.mg "dict" = none) (hg2 : Gl X "zip") (hm2 : X.mg "zip" = none) (ha : PA X [e, e2] ta)
    (hs : starEach [e, e2] X.env = (false, eval e X.env) :: starEach [e2] X.env) (hpl : (backTo pos2 (starEach [e2] X.env)).any (·.1) = false)
    (hs2 : starEach [.Call (.Name "zip" p2) [e, e2] [] pos2] X.env = (false, eval (.Call (.Name "zip" p2) [e, e2] [] pos2) X.env) :: starEach [] X.env) :
    PE X (.Call (.Name "dict" p) [.Call (.Name "zip" p2) [e, e2] [] pos2] [] pos) (tDictZip X.K ta) := by
  constructor
  intro pins s σ H Q I h
  refine Call_ ?_
  apply ld_blt I hg hm boot_dict
  refine PyProof.Rows.callWith_type1 (PyProof.Rows.args_cons ?_ hs2) hs2 rfl
  refine Call_ ?_
  apply ld_blt I hg2 hm2 PyProof.Rows.boot_zip
  refine PyProof.Rows.callWith_type1 (thn (ha.run pos2 pins s σ H _ I h) ?_) hs hpl
  rintro us s1 ⟨vs, H1, I1, r1, a, b, ks, ys, rfl, hx, hy, q⟩
  cases r1 with
  | cons ra rr =>
    cases rr with
    | cons rb rr =>
      cases rr
      cases ra
      cases rb
      obtain ⟨its, v1, t1, z1⟩ := I1.tuple hx
      obtain ⟨its2, v2, t2, z2⟩ := I1.tuple hy
      obtain ⟨o1, g1, _⟩ := id t1
      obtain ⟨o2, g2, _⟩ := id t2
      refine RZ.call_zipT t1 t2 ?_
      intro h' hz hti hto hi1 hi2 hsz hk
      apply PyProof.Rows.args_nil
      have I2 : Inv X pins σ H1 { s1 with heap := h' } := I1.kept (t' := s1.toks) hk
      have ap := PySem.W.ktu_apart s1.heap.objs.size a b (Heap.lt_size g1) (Heap.lt_size g2)
      have tt1 : h'.IsTuple a its.toArray := let ⟨o, e, r⟩ := t1; ⟨o, hk _ o e, r⟩
      have tt2 : h'.IsTuple b its2.toArray := let ⟨o, e, r⟩ := t2; ⟨o, hk _ o e, r⟩
      have hm' : (h'.objs.size == sysModules) = false := beq_eq_false_iff_ne.mpr (Nat.ne_of_gt I2.big)
      have el1 := v1.length
      have el2 := v2.length
      rw [List.length_map] at el1
      have kv : ∀ {ks : List Key} {ys : List V} {us ws : List Value}, Vals (ks.map kV) us → Vals ys ws → KV (ks.zip ys) (ks.zip ws) ∧ ∀ (i : Nat) (k v : Value), us[i]? = some k → ws[i]? = some v → ∃ k0, (ks.zip ws)[i]? = some (k0, v) ∧ (mixKind X.prog X.w).is k0 k = true := by
        intro ks
        induction ks with
        | nil =>
          intro ys us ws r1 r2
          cases r1
          exact ⟨.nil, fun i k v e => by simp at e⟩
        | cons k0 ks ih =>
          intro ys us ws r1 r2
          rw [List.map_cons] at r1
          cases r1 with
          | cons rk r1 =>
            cases r2 with
            | nil => exact ⟨.nil, fun i k v _ e => by simp at e⟩
            | cons rv r2 =>
              obtain ⟨q1, q2⟩ := ih r1 r2
              refine ⟨.cons ⟨rfl, rv⟩ q1, fun i k v e1 e2 => ?_⟩
              cases i with
              | zero =>
                have e1' := Option.some.inj e1
                have e2' := Option.some.inj e2
                subst e1'
                subst e2'
                exact ⟨k0, rfl, kV_is rk⟩
              | succ i => exact q2 i k v (by simpa using e1) (by simpa using e2)
      obtain ⟨kv1, kv2⟩ := kv v1 v2
      refine PySem.call_dict_pairs (s := { s1 with heap := h' }) (knd := mixKind X.prog X.w) (kvs := ks.zip its2) (pairs_zipT _ _ _ _ _ a b ap its.toArray its2.toArray) (I2.ok.hd hc) ⟨hz, hti, ⟨_, _, hto⟩, hi1, hi2, tt1, tt2⟩ ⟨?_, fun i k v e => kv2 i k v (by simpa using e.1) (by simpa using e.2)⟩ ?_ ?_
      · rw [List.length_zip, List.size_toArray, List.size_toArray, el1]
      · rw [List.size_toArray, List.size_toArray]
        rw [List.length_map] at z1
        omega
      · intro h2 tk hd2 keep
        have fr : ∀ b o, s1.heap.get? b = some o → h2.get? b = some o := fun c o e => by
          have lt := Heap.lt_size e
          refine keep c o ?_ (hk c o e)
          simp only [List.mem_cons, List.not_mem_nil, or_false, not_or]
          have nx : ∀ k : Nat, c ≠ s1.heap.objs.size + k := fun k z => absurd lt (by rw [z]; exact Nat.not_lt.mpr (Nat.le_add_right _ _))
          exact ⟨nx 4, nx 3, nx 0, nx 1⟩
        have hlen : (mergeK [] (ks.zip ys)).length ≤ sizeLine := by
          have := length_mergeK (ks.zip ys) []
          rw [List.length_zip] at this
          rw [List.length_map] at z1
          simp only [List.length_nil] at this
          omega
        have le : s1.heap.objs.size ≤ h'.objs.size := by omega
        have I3 := I1.laid (t' := tk) (h' := h2) (a := h'.objs.size) (o := .dK (mergeK [] (ks.zip ys))) fr le ⟨hlen, hm', merged [] (ks.zip its2), KV.merge kv1 .nil, hd2⟩
        have fin : EP X pins σ Q (.ref h'.objs.size) { s1 with heap := h2, toks := tk } := ⟨.ref h'.objs.size, _, I3, rfl, q _ (I1.hok.fresh le)⟩
        exact fin
theorem pe_dictZipK (K : PySem.W.Frag) {e e2 : Expr} {ta : TA} {p p2 pos pos2 : Pos} (hK : X.K = K) (hc : X.calm = true) (hg : Gl X "dict") (hm : X.mg "dict" = none) (hg2 : Gl X "zip") (hm2 : X.mg "zip" = none) (ha : PA X [e, e2] ta)
    (hs : starEach [e, e2] X.env = (false, eval e X.env) :: starEach [e2] X.env) (hpl : (backTo pos2 (starEach [e2] X.env)).any (·.1) = false)
    (hs2 : starEach [.Call (.Name "zip" p2) [e, e2] [] pos2] X.env = (false, eval (.Call (.Name "zip" p2) [e, e2] [] pos2) X.env) :: starEach [] X.env) :
    PE X (.Call (.Name "dict" p) [.Call (.Name "zip" p2) [e, e2] [] pos2] [] pos) (tDictZip K ta) := by
  subst hK
  exact pe_dictZip hc hg hm hg2 hm2 ha hs hpl hs2
end
section
variable {K : PySem.W.Frag} {Γ : Gm}
def keysOn (ds : List PyData) (k : List Key → Prop) : Prop := match keysD ds with
  | some ks => k ks
  | none => False
theorem keysOn_of {ds : List PyData} {ks : List Key} {k : List Key → Prop} (e : keysD ds = some ks) (h : k ks) : keysOn ds k := by
  unfold keysOn; rw [e]; exact h
instance {a b : TE} {fa fb : Dn → (Sv → Dn → Prop) → Prop} [A : DE K Γ a fa] [B : DE K Γ b fb] : DE K Γ (tDictZip K (tCons a (tCons b tNil))) (fun δ Φ => fa δ fun s δ1 => asD s δ1 fun x δ2 => fb δ2 fun t δ3 => asD t δ3 fun y δ4 => onT x fun ds => onT y fun es => keysOn ds fun ks => ∀ p, δ4.al p = none → Φ (.ref p) (δ4.know (oup δ4.al p (.dK (mergeE [] (ks.zip es)))))) := ⟨fun {L δ σ S H Φ Q} I h q => by
  refine DE.data (T := A) I h fun x L1 δ1 v H1 J h1 => DE.data (T := B) J h1 fun y L2' δ2 w H2 J2 h2 => ?_
  cases x with
  | tuple ds =>
    cases y with
    | tuple es =>
      have h3 : keysOn ds fun ks => ∀ p, δ2.al p = none → Φ (.ref p) (δ2.know (oup δ2.al p (.dK (mergeE [] (ks.zip es))))) := h2
      unfold keysOn at h3
      split at h3
      · rename_i ks ek
        obtain ⟨a', xs, rfl, t, r⟩ := J2.pop.top
        obtain ⟨b', ys, rfl, t', r'⟩ := J2.top
        have ex := keysD_run r ek
        subst ex
        refine ⟨a', b', ks, ys, rfl, t.sq, t'.sq, fun p np => ?_⟩
        have zz : ∀ {ks : List Key} {es : List PyData} {ys : List V}, Dvs K L2' H2 es ys → DvK K L2' H2 (ks.zip es) (ks.zip ys) := by
          intro ks
          induction ks with
          | nil => exact fun _ => rfl
          | cons k ks ih =>
            intro es ys h
            cases es with
            | nil => cases h; exact rfl
            | cons e es =>
              obtain ⟨x, r, rfl, h1, h2⟩ := h
              exact ⟨x, _, rfl, h1, ih h2⟩
        have dv : DvK K (p :: L2') (upd H2 p (.dK (mergeK [] (ks.zip ys)))) (mergeE [] (ks.zip es)) (mergeK [] (ks.zip ys)) := ((zz r').merge (es := []) (acc := []) rfl).to fun d v z => Dv.mono (P := []) (.new np) (fun _ z => nomatch z) (Dv.sub (fun b hb => (List.mem_cons.mp hb).elim (fun e => .inr (e ▸ np)) .inl) z)
        have J3 := J2.pop.pop.newOb (u := .dK (mergeK [] (ks.zip ys))) (o := .dK (mergeE [] (ks.zip es))) np ⟨_, upd_same, dv⟩
        exact q (.ref p) _ _ _ _ (J3.push (s := .ref p) rfl rfl fun _ z => nomatch z) (h3 p (J2.fresh np).1)
      · exact h3.elim
    | _ => exact h2.elim
  | none => exact h2.elim
  | bool _ => exact h2.elim
  | int _ => exact h2.elim
  | str _ => exact h2.elim
  | list _ => exact h2.elim
  | dict _ => exact h2.elim⟩
end
end B

/-! What the transformers are where the slots are written out: for simp. -/
namespace B
open PySem PySem.Spec PyProof.Rows L2
def varS (o : Option Sv) (i : Nat) (Φ : Sv → Dn → Prop) (δ : Dn) : Prop := match o with
  | some (.dat d) => Φ (.dat d) δ
  | some (.pen p) => Φ (.pen p) δ
  | some (.own _) => Φ (.ali i) δ
  | some (.fn a) => Φ (.fn a) δ
  | some (.ref a) => Φ (.ref a) δ
  | _ => False
section
variable {l : List (Option Sv)} {al : Al} {δ : Dn} {i : Nat} {d : PyData} {ds : List PyData} {a : Addr} {Φ : Sv → Dn → Prop} {k : PyData → Dn → Prop} {kS : Sv → Dn → Prop} {kL : List PyData → Prop} {kP : PyData → Prop} {kA : Addr → Prop} {kI : Int → Prop} {kN : Nat → Prop} {kB : Bool → Prop} {kX : Str → Prop} {kQ : Sv → Prop} {kD : Dn → Prop}
theorem q_var : varD i ⟨l, al⟩ Φ = varS (l.getD i none) i Φ ⟨l, al⟩ := rfl
theorem q_vdat : varS (some (.dat d)) i Φ δ = Φ (.dat d) δ := rfl
theorem q_vpen : varS (some (.pen a)) i Φ δ = Φ (.pen a) δ := rfl
theorem q_vown : varS (some (.own ds)) i Φ δ = Φ (.ali i) δ := rfl
theorem q_vfn : varS (some (.fn a)) i Φ δ = Φ (.fn a) δ := rfl
theorem q_vref : varS (some (.ref a)) i Φ δ = Φ (.ref a) δ := rfl
def aliS (o : Option Sv) (i : Nat) (k : PyData → Dn → Prop) (δ : Dn) : Prop := match o with
  | some (.own ds) => k (.list ds) (δ.put i (some (.dat (.list ds))))
  | some (.dat d) => k d δ
  | _ => False
theorem q_asD : asD (.dat d) δ k = k d δ := rfl
theorem q_asDo : asD (.own ds) δ k = k (.list ds) δ := rfl
theorem q_asDa : asD (.ali i) ⟨l, al⟩ k = aliS (l.getD i none) i k ⟨l, al⟩ := rfl
theorem q_aown : aliS (some (.own ds)) i k δ = k (.list ds) (δ.put i (some (.dat (.list ds)))) := rfl
theorem q_adat : aliS (some (.dat d)) i k δ = k d δ := rfl
theorem q_asA : asA (.dat d) δ kS = kS (.dat d) δ := rfl
theorem q_asAp : asA (.pen a) δ kS = kS (.pen a) δ := rfl
theorem q_asAf : asA (.fn a) δ kS = kS (.fn a) δ := rfl
theorem q_asAr : asA (.ref a) δ kS = kS (.ref a) δ := rfl
theorem q_asAo : asA (.own ds) δ kS = kS (.dat (.list ds)) δ := rfl
theorem q_asAa : asA (.ali i) δ kS = asD (.ali i) δ (fun d δ' => kS (.dat d) δ') := rfl
theorem q_asS : asS (.dat d) δ kS = kS (.dat d) δ := rfl
theorem q_asSo : asS (.own ds) δ kS = kS (.own ds) δ := rfl
theorem q_asSp : asS (.pen a) δ kS = kS (.pen a) δ := rfl
theorem q_asSf : asS (.fn a) δ kS = kS (.fn a) δ := rfl
theorem q_asSr : asS (.ref a) δ kS = kS (.ref a) δ := rfl
theorem q_asSa : asS (.ali i) δ kS = asD (.ali i) δ (fun d δ' => kS (.dat d) δ') := rfl
theorem q_asR : asR (.dat d) δ kS = kS (.dat d) δ := rfl
theorem q_asRr : asR (.ref a) δ kS = kS (.ref a) δ := rfl
theorem q_asRo : asR (.own ds) δ kS = ∀ p, δ.al p = none → kS (.ref p) (δ.know (oup δ.al p (.lst (ds.map .dat)))) := rfl
theorem q_onD : onD (.dat d) kP = kP d := rfl
theorem q_onR : onR (.ref a) kA = kA a := rfl
theorem q_inOb : inOb (.dat d) kQ = kQ (.dat d) := rfl
theorem q_inObr : inOb (.ref a) kQ = kQ (.ref a) := rfl
theorem q_inObf : inOb (.fn a) kQ = kQ (.fn a) := rfl
theorem q_onT : onT (.tuple ds) kL = kL ds := rfl
theorem q_onL : onL (.list ds) kL = kL ds := rfl
theorem q_onI {n : Int} : onI (.int n) kI = kI n := rfl
theorem q_onX {z : Str} : onX (.str z) kX = kX z := rfl
theorem q_onBo {b : Bool} : onBo (.bool b) kB = kB b := rfl
theorem q_onTd : onTd (.dat (.tuple ds)) kL = kL ds := rfl
theorem q_seqL : seqD (.list ds) kL = kL ds := rfl
theorem q_seqT : seqD (.tuple ds) kL = kL ds := rfl
theorem q_intI {n : Int} : intOn (.int n) kI = kI n := rfl
theorem q_intB {b : Bool} : intOn (.bool b) kI = kI (bif b then 1 else 0) := rfl
theorem q_none : noneOn (.dat .none) kB = kB true := rfl
theorem q_noneR : noneOn (.ref a) kB = kB false := rfl
theorem q_one {r : List PyData} {k2 : PyData → List PyData → Prop} : oneD (d :: r) k2 = k2 d r := rfl
theorem q_oneS {s : Sv} {r : List Sv} {k2 : Sv → List Sv → Prop} : oneS (s :: r) k2 = k2 s r := rfl
theorem q_seeL : seeS (.dat (.list ds)) δ kL = kL ds := rfl
theorem q_seeT : seeS (.dat (.tuple ds)) δ kL = kL ds := rfl
theorem q_seeO : seeS (.own ds) δ kL = kL ds := rfl
def seeA (o : Option Sv) (k : List PyData → Prop) : Prop := match o with
  | some (.own ds) => k ds
  | some (.dat (.list ds)) => k ds
  | some (.dat (.tuple ds)) => k ds
  | _ => False
theorem q_seeA : seeS (.ali i) ⟨l, al⟩ kL = seeA (l.getD i none) kL := rfl
theorem q_seeAo : seeA (some (.own ds)) kL = kL ds := rfl
theorem q_seeAl : seeA (some (.dat (.list ds))) kL = kL ds := rfl
theorem q_seeAt : seeA (some (.dat (.tuple ds))) kL = kL ds := rfl
theorem q_srL : seeR (.dat d) δ kL = seeS (.dat d) δ kL := rfl
theorem q_srO : seeR (.own ds) δ kL = kL ds := rfl
theorem q_srA : seeR (.ali i) δ kL = seeS (.ali i) δ kL := rfl
theorem q_srR {ss : List Sv} (e : al a = some (.lst ss)) (e2 : datas ss = some ds) : seeR (.ref a) ⟨l, al⟩ kL = kL ds := by
  unfold seeR asLst; dsimp only; rw [e]; dsimp only; rw [e2]
theorem q_lenS : lenS (.dat d) δ kN = seeS (.dat d) δ (fun ds => kN ds.length) := rfl
theorem q_lenO : lenS (.own ds) δ kN = kN ds.length := rfl
theorem q_lenA : lenS (.ali i) δ kN = seeS (.ali i) δ (fun ds => kN ds.length) := rfl
theorem q_lenR : lenS (.ref a) δ kN = asLst δ.al a (fun ss => kN ss.length) := rfl
theorem q_slL : seeL (.dat (.list ds)) δ kL = kL ds := rfl
theorem q_slO : seeL (.own ds) δ kL = kL ds := rfl
def seeB (o : Option Sv) (k : List PyData → Prop) : Prop := match o with
  | some (.own ds) => k ds
  | some (.dat (.list ds)) => k ds
  | _ => False
theorem q_slA : seeL (.ali i) ⟨l, al⟩ kL = seeB (l.getD i none) kL := rfl
theorem q_slAo : seeB (some (.own ds)) kL = kL ds := rfl
theorem q_slAl : seeB (some (.dat (.list ds))) kL = kL ds := rfl
theorem q_ixR {n : Int} : ixS (.ref a) n δ kS = asLst δ.al a (fun ss => atS ss n fun t => inOb t fun t => kS t δ) := rfl
theorem q_ixL {n : Int} : ixS (.dat d) n δ kS = seeL (.dat d) δ (fun ds => atD ds n fun d => kS (.dat d) δ) := rfl
theorem q_ixO {n : Int} : ixS (.own ds) n δ kS = atD ds n (fun d => kS (.dat d) δ) := rfl
theorem q_ixA {n : Int} : ixS (.ali i) n δ kS = seeL (.ali i) δ (fun ds => atD ds n fun d => kS (.dat d) δ) := rfl
def appA (o : Option Sv) (i : Nat) (y : PyData) (k : Dn → Prop) (δ : Dn) : Prop := match o with
  | some (.own ds) => ds.length < 1000000 ∧ k (δ.put i (some (.own (ds ++ [y]))))
  | _ => False
theorem q_appA {fe : Dn → (Sv → Dn → Prop) → Prop} : appS (.ali i) fe δ kD = ((match δ.at_ i with | some (.own _) => True | _ => False) ∧ fe δ fun t δ2 => asD t δ2 fun y δ3 => appA (δ3.at_ i) i y kD δ3) := rfl
theorem q_appAo {y : PyData} : appA (some (.own ds)) i y kD δ = (ds.length < 1000000 ∧ kD (δ.put i (some (.own (ds ++ [y]))))) := rfl
theorem q_appR {fe : Dn → (Sv → Dn → Prop) → Prop} : appS (.ref a) fe δ kD = ((asLst δ.al a fun _ => True) ∧ fe δ fun t δ2 => asA t δ2 fun u δ3 => inOb u fun u => asLst δ3.al a fun ss => ss.length < 1000000 ∧ kD (δ3.know (oup δ3.al a (.lst (ss ++ [u]))))) := rfl
theorem q_emR {kB : Bool → Prop} : emptyOn (.ref a) δ kB = asLst δ.al a (fun ss => kB ss.isEmpty) := rfl
theorem q_zipT {es : List PyData} : zipOn (.tuple ds) (.tuple es) kL = kL (zipD ds es) := rfl
theorem q_zipL {es : List PyData} : zipOn (.list ds) (.list es) kL = kL (zipD ds es) := rfl
theorem q_some : someD (some d) kP = kP d := rfl
theorem q_fn1 {F : PyData → (PyData → Prop) → Prop} {x1 : PyData} : fn1 F [.dat x1] kP = F x1 kP := rfl
theorem q_fn2 {F : PyData → PyData → (PyData → Prop) → Prop} {x1 x2 : PyData} : fn2 F [.dat x1, .dat x2] kP = F x1 x2 kP := rfl
theorem q_fn3 {F : PyData → PyData → PyData → (PyData → Prop) → Prop} {x1 x2 x3 : PyData} : fn3 F [.dat x1, .dat x2, .dat x3] kP = F x1 x2 x3 kP := rfl
theorem q_fn4 {F : PyData → PyData → PyData → PyData → (PyData → Prop) → Prop} {x1 x2 x3 x4 : PyData} : fn4 F [.dat x1, .dat x2, .dat x3, .dat x4] kP = F x1 x2 x3 x4 kP := rfl
theorem q_pn0 {F : (PyData → Prop) → Prop} : pn0 F [.pen a] kP = F kP := rfl
theorem q_pn1 {F : PyData → (PyData → Prop) → Prop} {x1 : PyData} : pn1 F [.pen a, .dat x1] kP = F x1 kP := rfl
theorem q_pn2 {F : PyData → PyData → (PyData → Prop) → Prop} {x1 x2 : PyData} : pn2 F [.pen a, .dat x1, .dat x2] kP = F x1 x2 kP := rfl
theorem q_pn3 {F : PyData → PyData → PyData → (PyData → Prop) → Prop} {x1 x2 x3 : PyData} : pn3 F [.pen a, .dat x1, .dat x2, .dat x3] kP = F x1 x2 x3 kP := rfl
theorem q_scaI {n : Int} : sca (.int n) kP = kP (.int n) := rfl
theorem q_scaS {z : Str} : sca (.str z) kP = kP (.str z) := rfl
theorem q_scaB {b : Bool} : sca (.bl b) kP = kP (.bool b) := rfl
theorem q_scaN : sca .non kP = kP .none := rfl
def fnS (o : Option Sv) (G : Addr → Option (List Sv → (PyData → Prop) → Prop)) (k : (List Sv → (PyData → Prop) → Prop) → Prop) : Prop := match o with
  | some (.fn a) => match G a with
    | some g => k g
    | none => False
  | _ => False
theorem q_fnD {n : Nat} {G : Addr → Option (List Sv → (PyData → Prop) → Prop)} {k2 : (List Sv → (PyData → Prop) → Prop) → Prop} : fnD i n G ⟨l, al⟩ k2 = fnS (l.getD i none) G k2 := rfl
theorem q_fnS {G : Addr → Option (List Sv → (PyData → Prop) → Prop)} {g : List Sv → (PyData → Prop) → Prop} {k2 : (List Sv → (PyData → Prop) → Prop) → Prop} (e : G a = some g) : fnS (some (.fn a)) G k2 = k2 g := by
  unfold fnS; dsimp only; rw [e]
theorem q_allD {as : List Sv} {k2 : List PyData → Prop} (e : datas as = some ds) : allD as k2 = k2 ds := by
  unfold allD; rw [e]
theorem q_all0 {k2 : List PyData → Prop} : allD [] k2 = k2 [] := rfl
theorem q_all1 {d1 : PyData} {k2 : List PyData → Prop} : allD [.dat d1] k2 = k2 [d1] := rfl
theorem q_all2 {d1 d2 : PyData} {k2 : List PyData → Prop} : allD [.dat d1, .dat d2] k2 = k2 [d1, d2] := rfl
theorem q_all3 {d1 d2 d3 : PyData} {k2 : List PyData → Prop} : allD [.dat d1, .dat d2, .dat d3] k2 = k2 [d1, d2, d3] := rfl
theorem q_all4 {d1 d2 d3 d4 : PyData} {k2 : List PyData → Prop} : allD [.dat d1, .dat d2, .dat d3, .dat d4] k2 = k2 [d1, d2, d3, d4] := rfl
theorem q_all5 {d1 d2 d3 d4 d5 : PyData} {k2 : List PyData → Prop} : allD [.dat d1, .dat d2, .dat d3, .dat d4, .dat d5] k2 = k2 [d1, d2, d3, d4, d5] := rfl
theorem q_wipe0 : wipeD δ [] = δ := rfl
theorem q_wipe {v : Nat} {vs : List Nat} : wipeD δ (v :: vs) = (wipeD δ vs).put v none := rfl
theorem q_start {n : Nat} {as : List Sv} : startS n as = as.map some ++ List.replicate (n - as.length) none := rfl
/-- equal scalars -/
theorem q_eqI {x y : Int} : eqS (.int x) (.int y) = some (decide (x = y)) := rfl
theorem q_eqX {x y : Str} : eqS (.str x) (.str y) = some (decide (x = y)) := rfl
theorem q_eqB {x y : Bool} : eqS (.bool x) (.bool y) = some (decide (x = y)) := rfl
theorem q_onB {b : Bool} : onB (some b) kB = kB b := rfl
theorem q_onBs {bs : List Bool} {k2 : List Bool → Prop} (e : boolsD ds = some bs) : onBs ds k2 = k2 bs := by
  unfold onBs; rw [e]
theorem q_at0 {r : List PyData} : atD (d :: r) 0 kP = kP d := by
  unfold atD
  have : atI (d :: r) 0 = some d := atI_nat (j := 0) rfl
  rw [this]
theorem q_at1 {d1 : PyData} {r : List PyData} : atD (d1 :: d :: r) 1 kP = kP d := by
  unfold atD
  have : atI (d1 :: d :: r) 1 = some d := atI_nat (j := 1) rfl
  rw [this]
theorem q_at2 {d1 d2 : PyData} {r : List PyData} : atD (d1 :: d2 :: d :: r) 2 kP = kP d := by
  unfold atD
  have : atI (d1 :: d2 :: d :: r) 2 = some d := atI_nat (j := 2) rfl
  rw [this]
theorem q_at3 {d1 d2 d3 : PyData} {r : List PyData} : atD (d1 :: d2 :: d3 :: d :: r) 3 kP = kP d := by
  unfold atD
  have : atI (d1 :: d2 :: d3 :: d :: r) 3 = some d := atI_nat (j := 3) rfl
  rw [this]
theorem q_at4 {d1 d2 d3 d4 : PyData} {r : List PyData} : atD (d1 :: d2 :: d3 :: d4 :: d :: r) 4 kP = kP d := by
  unfold atD
  have : atI (d1 :: d2 :: d3 :: d4 :: d :: r) 4 = some d := atI_nat (j := 4) rfl
  rw [this]
theorem q_tup {x : List PyData} : isiTup (.tuple x) = true := rfl
theorem q_strT {x : List PyData} : isiStr (.tuple x) = false := rfl
theorem q_str {x : Str} : isiStr (.str x) = true := rfl
theorem q_int {x : Int} : isiInt (.int x) = true := rfl
theorem q_bool {x : Int} : isiBool (.int x) = false := rfl
end
theorem onBs_trues {α : Type} {ds : List α} {k2 : List Bool → Prop} (h : k2 (ds.map fun _ => true)) : onBs ([] ++ ds.map fun _ => PyData.bool true) k2 := by
  have e : ∀ ds : List α, boolsD (ds.map fun _ => PyData.bool true) = some (ds.map fun _ => true) := by
    intro ds
    induction ds with
    | nil => rfl
    | cons d ds ih => rw [List.map_cons, boolsD, ih]; rfl
  rw [List.nil_append, q_onBs (e ds)]
  exact h
theorem all_trues {α : Type} (ds : List α) : (ds.map fun _ => true).all id = true := by
  induction ds with
  | nil => rfl
  | cons d ds ih => rw [List.map_cons, List.all_cons, ih]; rfl
theorem isFrom_in {i lo hi : Int} (h1 : lo ≤ i) (h2 : i ≤ hi) : (decide (lo ≤ i) && decide (i ≤ hi)) = true := by
  rw [decide_eq_true h1, decide_eq_true h2]; rfl
/-! ### known objects, for simp -/
section
variable {al : Al} {a C dx : Addr} {fs : List (Str × Sv)} {ss : List Sv} {es : List (Key × PyData)} {et : List (List Key × PyData)} {f : Str} {s : Sv}
theorem q_ins (e : al a = some (.ins C dx fs)) {k : Addr → Addr → List (Str × Sv) → Prop} : asIns al a k = k C dx fs := by unfold asIns; rw [e]
theorem q_lst (e : al a = some (.lst ss)) {k : List Sv → Prop} : asLst al a k = k ss := by unfold asLst; rw [e]
theorem q_dK (e : al a = some (.dK es)) {k : List (Key × PyData) → Prop} : asDK al a k = k es := by unfold asDK; rw [e]
theorem q_onF (e : fs.lookup f = some s) {k : Sv → Prop} : onF fs f k = k s := by unfold onF; rw [e]
theorem q_get (e : al a = some (.dK es)) {y : PyData} {κ : Key} (ek : keyD y = some κ) {k : Option PyData → Prop} : dictAt al a y k = k (getE es κ) := by
  unfold dictAt; rw [e]; dsimp only; rw [ek]
theorem q_put (e : al a = some (.dK es)) {y d : PyData} {κ : Key} (ek : keyD y = some κ) {k : Al → Prop} : dictPut al a y d k = (es.length < 1000000 ∧ k (oup al a (.dK (putE es κ d)))) := by
  unfold dictPut; rw [e]; dsimp only; rw [ek]
theorem q_getT (e : al a = some (.dT et)) {ds : List PyData} {κ : List Key} (ek : keysD ds = some κ) {k : Option PyData → Prop} : dictAt al a (.tuple ds) k = ((ds ≠ [] ∧ ds.length < 4) ∧ k (getE et κ)) := by
  unfold dictAt; rw [e]; dsimp only; rw [ek]
theorem q_putT (e : al a = some (.dT et)) {ds : List PyData} {d : PyData} {κ : List Key} (ek : keysD ds = some κ) {k : Al → Prop} : dictPut al a (.tuple ds) d k = ((ds ≠ [] ∧ ds.length < 4) ∧ et.length < 1000000 ∧ k (oup al a (.dT (putE et κ d)))) := by
  unfold dictPut; rw [e]; dsimp only; rw [ek]
end
theorem q_same {al : Al} {a : Addr} {o : Ob} : oup al a o a = some o := oup_same
theorem q_ne {al : Al} {a b : Addr} {o : Ob} (h : b ≠ a) : oup al a o b = al b := oup_ne h
theorem al_ne {al : Al} {a b : Addr} {o u : Ob} (h : al a = some o) (h' : al b = some u) (d : o ≠ u) : a ≠ b := fun e => by
  subst e
  rw [h] at h'
  exact d (Option.some.inj h')
theorem al_new {al : Al} {a p : Addr} {o : Ob} (h : al a = some o) (h' : al p = none) : a ≠ p := fun e => by
  subst e
  rw [h] at h'
  cases h'
section
variable {κ : Type} [DecidableEq κ] {α : Type}
theorem getE_none {es : List (κ × α)} {k : κ} (h : (es.any fun e => decide (e.1 = k)) = false) : getE es k = none := by
  unfold getE
  rw [List.find?_eq_none.mpr ?_]
  · rfl
  · intro e he z
    have := List.any_eq_false.mp h e he
    exact this z
theorem getE_isSome {es : List (κ × α)} {k : κ} (h : (es.any fun e => decide (e.1 = k)) = true) : ∃ x, getE es k = some x := by
  obtain ⟨e, he, z⟩ := List.any_eq_true.mp h
  unfold getE
  cases e2 : es.find? fun e => decide (e.1 = k) with
  | none => exact absurd z (List.find?_eq_none.mp e2 e he)
  | some y => exact ⟨_, rfl⟩
theorem getE_put (es : List (κ × α)) (k j : κ) (x : α) : getE (putE es k x) j = if j = k then some x else getE es j := by
  unfold putE
  split
  · rename_i h
    have key : ∀ es : List (κ × α), getE (es.map fun e => if e.1 = k then (e.1, x) else e) j = (getE es j).map fun y => if j = k then x else y := by
      intro es
      induction es with
      | nil => rfl
      | cons e es ih =>
        unfold getE at ih ⊢
        rw [List.map_cons, List.find?_cons, List.find?_cons]
        by_cases h1 : e.1 = k
        · rw [if_pos h1]
          by_cases h2 : e.1 = j
          · have h3 : j = k := by rw [← h2, h1]
            simp [h2, h3]
          · simp only [h2, decide_false]
            exact ih
        · rw [if_neg h1]
          by_cases h2 : e.1 = j
          · have h3 : ¬ j = k := by rw [← h2]; exact h1
            simp [h2, h3]
          · simp only [h2, decide_false]
            exact ih
    rw [key]
    by_cases z : j = k
    · subst z
      obtain ⟨y, e⟩ := getE_isSome h
      rw [e, if_pos rfl]
      simp
    · rw [if_neg z]
      simp [z]
  · rename_i h
    have h' : (es.any fun e => decide (e.1 = k)) = false := by cases z : (es.any fun e => decide (e.1 = k)) with | true => exact absurd z h | false => rfl
    have hn := getE_none h'
    by_cases z : j = k
    · subst z
      unfold getE at hn ⊢
      have e2 : es.find? (fun e => decide (e.1 = j)) = none := by
        cases e3 : es.find? (fun e => decide (e.1 = j)) with
        | none => rfl
        | some y => rw [e3] at hn; cases hn
      rw [List.find?_append, e2, if_pos rfl]
      simp
    · rw [if_neg z]
      unfold getE
      rw [List.find?_append]
      have e3 : [(k, x)].find? (fun e => decide (e.1 = j)) = none := by
        have : ¬ k = j := fun e => z e.symm
        simp [this]
      rw [e3]
      simp
theorem putE_len (es : List (κ × α)) (k : κ) (x : α) : (putE es k x).length ≤ es.length + 1 := by
  unfold putE
  split <;> simp
end
end B

/-! Programs as they are: expressions, rows, tables. -/
namespace B
open PySem PySem.Spec PyProof.Rows L2
def wordsL : List Str := ["params", "table", "view", "each", "times", "when", "else", "end", "set", "get", "put", "tell", "hand", "of", "from", "step"]
def lettersS : Str := "abcdefghijklmnopqrstuvwxyz"
def isName (z : Str) : Bool := (decide (1 ≤ z.length) && decide (z.length ≤ 6)) && !decide (z ∈ wordsL) && z.cps.toList.all fun c => decide (c ∈ lettersS.cps.toList)
def opsL : List Str := ["add", "sub", "mul", "rest", "less", "same"]
inductive Ex
  | num (n : Int)
  | var (x : Str)
  | op (w : Str) (a b : Ex)
namespace Ex
def data : Ex → PyData
  | num n => .tuple [.str "num", .int n]
  | var x => .tuple [.str "var", .str x]
  | op w a b => .tuple [.str w, a.data, b.data]
def ok : Ex → Prop
  | num n => 0 ≤ n ∧ n ≤ 255
  | var x => isName x = true
  | op w a b => w ∈ opsL ∧ a.ok ∧ b.ok
def dep : Ex → Nat
  | op _ a b => max a.dep b.dep + 1
  | _ => 0
end Ex
def reck (w : Str) (x y : Int) : Int :=
  if w = "less" then (if x < y then 1 else 0)
  else if w = "same" then (if x = y then 1 else 0)
  else if w = "rest" then (if y = 0 then x else x % y)
  else if w = "mul" then x * y % 256
  else if w = "add" then (x + y) % 256 else (x - y) % 256
theorem reck_val {w : Str} {x y : Int} (hx : 0 ≤ x ∧ x ≤ 255) (hy : 0 ≤ y ∧ y ≤ 255) : 0 ≤ reck w x y ∧ reck w x y ≤ 255 := by
  unfold reck
  split
  · split <;> omega
  split
  · split <;> omega
  split
  · split
    · omega
    · have h0 : y ≠ 0 := by assumption
      have h1 := Int.emod_nonneg x h0
      have h2 := Int.emod_lt_of_pos x (show 0 < y by omega)
      omega
  split
  · omega
  split <;> omega
/-- the value of an expression by what vars hold -/
def Ex.val (env : Str → Int) : Ex → Int
  | .num n => n
  | .var x => env x
  | .op w a b => reck w (a.val env) (b.val env)
theorem Ex.val_ok {env : Str → Int} (he : ∀ x, 0 ≤ env x ∧ env x ≤ 255) : ∀ {e : Ex}, e.ok → 0 ≤ e.val env ∧ e.val env ≤ 255
  | .num n, h => h
  | .var x, _ => he x
  | .op w a b, h => reck_val (Ex.val_ok he h.2.1) (Ex.val_ok he h.2.2)
inductive Row
  | set (x : Str) (e : Ex)
  | tell (e : Ex)
  | get (x o : Str) (e : Ex) (f : Str)
  | put (o : Str) (e : Ex) (f : Str) (v : Ex)
  | hand (o : Str) (e : Ex)
  | each (x o : Str) (rs : List Row)
  | times (x : Str) (n : Int) (rs : List Row)
  | cond (e : Ex) (rs us : List Row)
mutual
def Row.data : Row → PyData
  | .set x e => .tuple [.str "set", .str x, e.data]
  | .tell e => .tuple [.str "tell", e.data]
  | .get x o e f => .tuple [.str "get", .str x, .str o, e.data, .str f]
  | .put o e f v => .tuple [.str "put", .str o, e.data, .str f, v.data]
  | .hand o e => .tuple [.str "hand", .str o, e.data]
  | .each x o rs => .tuple [.str "each", .str x, .str o, .tuple (Row.datas rs)]
  | .times x n rs => .tuple [.str "times", .str x, .int n, .tuple (Row.datas rs)]
  | .cond e rs us => .tuple [.str "when", e.data, .tuple (Row.datas rs), .tuple (Row.datas us)]
def Row.datas : List Row → List PyData
  | [] => []
  | r :: rs => r.data :: Row.datas rs
end
def Row.plain : Row → Bool
  | .each _ _ _ => false
  | .times _ _ _ => false
  | .cond _ _ _ => false
  | _ => true
theorem Row.datas_map : ∀ rs : List Row, Row.datas rs = rs.map Row.data
  | [] => rfl
  | r :: rs => by rw [Row.datas, Row.datas_map rs]; rfl
mutual
def Row.dep : Row → Nat
  | .each _ _ rs => Row.deps rs + 1
  | .times _ _ rs => Row.deps rs + 1
  | .cond _ rs us => max (Row.deps rs) (Row.deps us) + 1
  | _ => 0
def Row.deps : List Row → Nat
  | [] => 0
  | r :: rs => max r.dep (Row.deps rs)
end
structure Tab where
  name : Str
  many : Int
  fields : List (Str × Int)
def Tab.fdata (f : Str × Int) : PyData := .tuple [.str f.1, .int f.2]
def Tab.data (t : Tab) : PyData := .tuple [.str t.name, .int t.many, .tuple (t.fields.map Tab.fdata)]
structure Tab.ok (t : Tab) : Prop where
  name : isName t.name = true
  many : 1 ≤ t.many ∧ t.many ≤ 6
  few : 1 ≤ t.fields.length ∧ t.fields.length ≤ 5
  names : ∀ f ∈ t.fields, isName f.1 = true ∧ 1 ≤ f.2 ∧ f.2 ≤ 8
  unlike : (t.fields.map (·.1)).Nodup
/-- what rows may name: for each name its fields; which are tables -/
structure Sco where
  seen : List (Str × List Str)
  tabs : List Str
def Sco.fieldsOf (S : Sco) (o : Str) : Option (List Str) := S.seen.lookup o
mutual
def Row.ok (S : Sco) : Row → Prop
  | .set x e => isName x = true ∧ e.ok ∧ e.dep ≤ 3
  | .tell e => e.ok ∧ e.dep ≤ 3
  | .get x o e f => isName x = true ∧ (e.ok ∧ e.dep ≤ 3) ∧ isName o = true ∧ isName f = true ∧ ∃ fs, S.fieldsOf o = some fs ∧ f ∈ fs
  | .put o e f v => (isName o = true ∧ isName f = true ∧ ∃ fs, S.fieldsOf o = some fs ∧ f ∈ fs) ∧ (e.ok ∧ e.dep ≤ 3) ∧ (v.ok ∧ v.dep ≤ 3)
  | .hand o e => (isName o = true ∧ ∃ fs, S.fieldsOf o = some fs) ∧ o ∈ S.tabs ∧ (e.ok ∧ e.dep ≤ 3)
  | .each x o rs => isName x = true ∧ (isName o = true ∧ ∃ fs, S.fieldsOf o = some fs) ∧ Row.oks S rs ∧ rs.length ≤ 1000
  | .times x n rs => isName x = true ∧ (1 ≤ n ∧ n ≤ 6) ∧ Row.oks S rs ∧ rs.length ≤ 1000
  | .cond e rs us => (e.ok ∧ e.dep ≤ 3) ∧ (Row.oks S rs ∧ rs.length ≤ 1000) ∧ Row.oks S us ∧ us.length ≤ 1000
def Row.oks (S : Sco) : List Row → Prop
  | [] => True
  | r :: rs => r.ok S ∧ Row.oks S rs
end
theorem Row.oks_mem {S : Sco} : ∀ {rs : List Row}, Row.oks S rs ↔ ∀ r ∈ rs, r.ok S
  | [] => by simp [Row.oks]
  | r :: rs => by simp [Row.oks, Row.oks_mem (rs := rs)]
/-- a program without views -/
structure Prg where
  params : List Str
  tabs : List Tab
  rows : List Row
def Prg.data (p : Prg) : PyData := .tuple [.tuple (p.params.map .str), .tuple (p.tabs.map Tab.data), .tuple [], .tuple (Row.datas p.rows)]
def Prg.sco (p : Prg) : Sco := ⟨p.tabs.map fun t => (t.name, t.fields.map (·.1)), p.tabs.map (·.name)⟩
structure Prg.ok (p : Prg) : Prop where
  params : p.params.length ≤ 3 ∧ (∀ x ∈ p.params, isName x = true) ∧ p.params.Nodup
  tabs : 1 ≤ p.tabs.length ∧ p.tabs.length ≤ 3
  each : ∀ t ∈ p.tabs, t.ok
  unlike : (p.tabs.map (·.name)).Nodup
  rows : Row.oks p.sco p.rows
  deep : Row.deps p.rows ≤ 6
  short : p.rows.length ≤ 1000
end B

namespace B
open PySem PySem.Spec PyProof.Rows L2
def topS (i : Nat) : Stmt := PySem.Challenge.pw_nearlay_k01_expressions_reckoned.main.body.getD i (.Pass ⟨0, 0, 0, 0⟩)
end B


namespace B
open PySem PySem.Spec PyProof.Rows L2
abbrev s__law_cell : Stmt := (topS 48)
theorem sc__law_cell : FnScope ["_law_script", "_law_k"] ["_law_script", "_law_k"] (defScope s__law_cell) := ⟨rfl, rfl, rfl, by decide +kernel, rfl, by decide +kernel, by decide +kernel⟩
abbrev s__law_pen : Stmt := (topS 49)
theorem sc__law_pen : FnScope ["_law_cell_here"] ["_law_cell_here"] (defScope s__law_pen) := ⟨rfl, rfl, rfl, by decide +kernel, rfl, by decide +kernel, by decide +kernel⟩
abbrev s__law_draw : Stmt := (topS 50)
theorem sc__law_draw : FnScope ["_law_pen_here", "_law_many", "_law_digit"] ["_law_pen_here", "_law_many"] (defScope s__law_draw) := ⟨rfl, rfl, rfl, by decide +kernel, rfl, by decide +kernel, by decide +kernel⟩
structure PTxt (K : PySem.W.Frag) (mg : Str → Option Value) : Prop where
  d__law_cell : DefAt K mg "_law_cell" s__law_cell ["_law_script", "_law_k"]
  d__law_pen : DefAt K mg "_law_pen" s__law_pen ["_law_cell_here"]
  d__law_draw : DefAt K mg "_law_draw" s__law_draw ["_law_pen_here", "_law_many"]
  z_len : mg "len" = none
  z_int : mg "int" = none
section
variable {P : Program} {w : World} {K : PySem.W.Frag} {mg : Str → Option Value} {base : Heap}
/-! ### the law's own small defs -/
def spCell' (K : PySem.W.Frag) : Sp := fun vs H Q _ => ∃ (a : Addr) (ns : List Int) (k : Nat), vs = [.ref a, .int (k : Int)] ∧ SqL K H a (ns.map V.int) ∧ ∀ z, Q (.int z) H
theorem cal_cell (T : PTxt K mg) : Cal P w K mg base 1 "_law_cell" (spCell' K) := by
  refine T.d__law_cell.cal sc__law_cell (fun vs H Q E h => ?_) (fun f cdv A outer s H vs Q E hr h => ?_)
  · obtain ⟨a, ns, k, rfl, _⟩ := h
    rfl
  · obtain ⟨a, ns, k, rfl, ha, q⟩ := h
    refine ⟨_, (pss_cons (ps_if (pt_cmpR op_lt (pv 1) (pe_callB (call_lenK K (by rfl)) (by rfl) T.z_len bt_len (pa_cons (pv 0) pa_nil)) (nomark _))
  (pss_one (ps_ret (pe_ix (ix_listK K (by rfl)) (pv 0) (pv 1) (fun _ _ => rfl))))
  pss_nil)
  (pss_one (ps_ret pe_int))), ?_⟩
    refine ⟨_, rfl, _, rfl, a, _, rfl, .inl ha, _, _, rfl, rfl, _, rfl, ite_b (fun c => ?_) (fun c => ?_)⟩
    · have c' : k < ns.length := by
        have h := of_decide_eq_true c
        rw [List.length_map] at h
        omega
      refine ⟨_, rfl, _, rfl, a, _, _, .int ns[k], rfl, rfl, ha, atI_nat (by rw [List.getElem?_map, List.getElem?_eq_getElem c']; rfl), q _⟩
    · exact q _
def spPen : Sp := fun vs H Q _ => ∃ (x : Int), vs = [.int x] ∧ ∀ p H', H p = none → Fr [] H H' → Pen H' p → Q (.ref p) H'
theorem cal_pen (T : PTxt K mg) : Cal P w K mg base 1 "_law_pen" spPen := by
  refine T.d__law_pen.cal sc__law_pen (fun vs H Q E h => ?_) (fun f cdv A outer s H vs Q E hr h => ?_)
  · obtain ⟨x, rfl, _⟩ := h
    rfl
  · obtain ⟨x, rfl, q⟩ := h
    refine ⟨_, (pss_one (ps_ret (pe_lst (pa_cons (pv 0) (pa_cons (pe_callTy call_int1 (by rfl) T.z_int bt_int (pa_cons (pe_cmpR op_ge (pv 0) (pe_op op_pow pe_int pe_int) (nomark _)) pa_nil)) pa_nil))))), ?_⟩
    refine ⟨_, rfl, _, rfl, _, _, rfl, rfl, ⟨by decide, by decide, by decide⟩, _, _, rfl, rfl, .inr ⟨_, rfl, (by show 2 ≤ sizeLine; decide), fun p np => ?_⟩⟩
    exact q p _ np (.new np) ⟨_, _, upd_same⟩
def spDraw : Sp := fun vs H Q _ => ∃ (p : Addr) (m : Int), vs = [.ref p, .int m] ∧ Pen H p ∧ 1 ≤ m ∧ m ≤ 1000000 ∧ ∀ d H', 0 ≤ d → d < m → Fr [p] H H' → Pen H' p → Q (.int d) H'
theorem cal_draw (T : PTxt K mg) : Cal P w K mg base 1 "_law_draw" spDraw := by
  refine T.d__law_draw.cal sc__law_draw (fun vs H Q E h => ?_) (fun f cdv A outer s H vs Q E hr h => ?_)
  · obtain ⟨p, m, rfl, _⟩ := h
    rfl
  · obtain ⟨p, m, rfl, ⟨x, fl, hp⟩, m1, m2, q⟩ := h
    refine ⟨_, (pss_cons (ps_if (pt_cmpR op_eq (pe_ix (ix_listK K (by rfl)) (pv 0) pe_int (fun _ _ => rfl)) pe_int (nomark _))
  (pss_cons (ps_set (i := 2) sc__law_draw.nd rfl (by first | exact .inl rfl | exact .inr rfl) (pe_op op_mod (pe_ix (ix_listK K (by rfl)) (pv 0) pe_int (fun _ _ => rfl)) (pv 1)))
  (pss_cons (ps_asg (pe_op op_fdiv (pe_ix (ix_listK K (by rfl)) (pv 0) pe_int (fun _ _ => rfl)) (pv 1)) (pg_sub (pv 0) pe_int set_list))
  (pss_one (ps_ret (pv 2)))))
  pss_nil)
  (pss_cons (ps_asg (pe_op op_mod (pe_op op_add (pe_op op_mul (pe_op op_mod (pe_ix (ix_listK K (by rfl)) (pv 0) pe_int (fun _ _ => rfl)) pe_int) pe_int) pe_int) pe_int) (pg_sub (pv 0) pe_int set_list))
  (pss_one (ps_ret (pe_op op_mod (pe_op op_fdiv (pe_op op_mod (pe_op op_add (pe_op op_mul (pe_ix (ix_listK K (by rfl)) (pv 0) pe_int (fun _ _ => rfl)) (pe_ix (ix_listK K (by rfl)) (pv 0) pe_int (fun _ _ => rfl))) (pe_op op_mul pe_int (pe_ix (ix_listK K (by rfl)) (pv 0) pe_int (fun _ _ => rfl)))) pe_int) pe_int) (pv 1)))))), ?_⟩
    have g0 : ∀ (u v : V), atI [u, v] 0 = some u := fun _ _ => rfl
    have g1 : ∀ (u v : V), atI [u, v] 1 = some v := fun _ _ => rfl
    refine ⟨_, rfl, p, _, _, _, rfl, rfl, sqL_of hp, g1 _ _, rfl, _, rfl, ite_b (fun c => ?_) (fun c => ?_)⟩
    · refine ⟨_, rfl, p, _, _, _, rfl, rfl, sqL_of hp, g0 _ _, _, rfl, _, _, rfl, rfl, by omega, ?_⟩
      refine ⟨_, rfl, p, _, _, _, rfl, rfl, sqL_of hp, g0 _ _, _, rfl, _, _, rfl, rfl, ⟨by omega, by omega⟩, _, rfl, p, _, _, 0, rfl, rfl, hp, rfl, ?_⟩
      refine ⟨_, rfl, ?_⟩
      exact q _ _ (Int.emod_nonneg _ (by omega)) (Int.emod_lt_of_pos _ (by omega)) (.wr hp trivial (by simp)) ⟨_, _, upd_same⟩
    · have b1 := Int.emod_nonneg x (show (2147483629 : Int) ≠ 0 by decide)
      have b2 := Int.emod_lt_of_pos x (show (0 : Int) < 2147483629 by decide)
      refine ⟨_, rfl, p, _, _, _, rfl, rfl, sqL_of hp, g0 _ _, _, _, rfl, rfl, (by show (0 : Int) < 2147483629; decide), _, _, rfl, rfl, .inl ⟨by omega, by omega⟩, _, _, rfl, rfl, _, _, rfl, rfl, (by show (0 : Int) < 2147483629; decide), ?_⟩
      refine ⟨_, rfl, p, _, _, 0, rfl, rfl, hp, rfl, ?_⟩
      have b3 := Int.emod_nonneg (x % 2147483629 * 48271 + 11) (show (2147483629 : Int) ≠ 0 by decide)
      have b4 := Int.emod_lt_of_pos (x % 2147483629 * 48271 + 11) (show (0 : Int) < 2147483629 by decide)
      have fr : Fr [p] H (upd H p (.lst [.int ((x % 2147483629 * 48271 + 11) % 2147483629), .int fl])) := .wr hp trivial (by simp)
      have hp' : (upd H p (.lst [.int ((x % 2147483629 * 48271 + 11) % 2147483629), .int fl])) p = some (.lst [.int ((x % 2147483629 * 48271 + 11) % 2147483629), .int fl]) := upd_same
      refine ⟨_, rfl, p, _, _, _, rfl, rfl, sqL_of hp', g0 _ _, _, rfl, p, _, _, _, rfl, rfl, sqL_of hp', g0 _ _, _, _, rfl, rfl, .inl ⟨by omega, by omega⟩, ?_⟩
      refine ⟨_, rfl, p, _, _, _, rfl, rfl, sqL_of hp', g0 _ _, _, _, rfl, rfl, .inl ⟨by decide, by decide⟩, _, _, rfl, rfl, _, _, rfl, rfl, (by show (0 : Int) < 2147483647; decide), _, _, rfl, rfl, ⟨by decide, by decide⟩, _, rfl, _, _, rfl, rfl, by omega, ?_⟩
      exact q _ _ (Int.emod_nonneg _ (by omega)) (Int.emod_lt_of_pos _ (by omega)) fr ⟨_, _, hp'⟩
end
end B


/-! The data layer: isinstance, draws. -/
namespace B
open PySem PySem.Spec PyProof.Rows L2
section
variable {K : PySem.W.Frag} {Γ : Gm}
instance {e : TE} {fe : Dn → (Sv → Dn → Prop) → Prop} [E : DE K Γ e fe] : DE K Γ (tCB (rIsi K) (tCons e (tCons (tC (.ty "int")) tNil))) (fun δ Φ => fe δ fun s δ1 => asD s δ1 fun d δ2 => Φ (.dat (.bool (isiInt d))) δ2) := isi_run (kit_int K) (.ty _)
instance {e : TE} {fe : Dn → (Sv → Dn → Prop) → Prop} [E : DE K Γ e fe] : DE K Γ (tCB (rIsi K) (tCons e (tCons (tC (.ty "bool")) tNil))) (fun δ Φ => fe δ fun s δ1 => asD s δ1 fun d δ2 => Φ (.dat (.bool (isiBool d))) δ2) := isi_run (kit_bool K) (.ty _)
instance {e : TE} {fe : Dn → (Sv → Dn → Prop) → Prop} [E : DE K Γ e fe] : DE K Γ (tCB (rIsi K) (tCons e (tCons (tC (.ty "tuple")) tNil))) (fun δ Φ => fe δ fun s δ1 => asD s δ1 fun d δ2 => Φ (.dat (.bool (isiTup d))) δ2) := isi_run (kit_tup K) (.ty _)
instance {e : TE} {fe : Dn → (Sv → Dn → Prop) → Prop} [E : DE K Γ e fe] : DE K Γ (tCB (rIsi K) (tCons e (tCons (tC (.ty "str")) tNil))) (fun δ Φ => fe δ fun s δ1 => asD s δ1 fun d δ2 => Φ (.dat (.bool (isiStr d))) δ2) := isi_run (kit_str K) (.ty _)
/-- a draw -/
def drawD (as : List Sv) (Φ : Int → Prop) : Prop := match as with
  | [.pen _, .dat (.int m)] => (1 ≤ m ∧ m ≤ 1000000) ∧ ∀ d, 0 ≤ d → d < m → Φ d
  | _ => False
instance {t : TA} {f : Dn → (List Sv → Dn → Prop) → Prop} [A : DA K Γ t f] : DE K Γ (tCall spDraw [] E0 t) (fun δ Φ => f δ fun as δ1 => drawD as fun d => Φ (.dat (.int d)) δ1) := ⟨fun {L δ σ S H Φ Q} I h q => by
  refine A.run I h fun as L1 δ1 vs H1 J ar h1 => ?_
  unfold drawD at h1
  split at h1
  · rename_i p m
    obtain ⟨v, r, rfl, ⟨rfl, hp⟩, _, _, v2, r2, rfl, e2, _, _, rfl⟩ := ar
    cases (show v2 = .int m from e2)
    refine ⟨p, m, rfl, J.pens p hp, h1.1.1, h1.1.2, fun d H' d0 d1 f1 p1 => q (.dat (.int d)) L1 δ1 _ H' ((J.keep (f1.mono fun l hl => by cases List.mem_singleton.mp hl; exact .inl hp) fun r hr => ?_).dat rfl) (h1.2 d d0 d1)⟩
    by_cases e : r = p
    · rw [e]; exact p1
    · exact (J.pens r hr).fr f1 fun z => e (List.mem_singleton.mp z)
  · exact h1.elim⟩
end
end B


set_option synthInstance.maxHeartbeats 0
set_option synthInstance.maxSize 100000
/-! programs.py: names, pairs, tables, expressions. -/
namespace B
open PySem PySem.Spec PyProof.Rows L2
abbrev s_is_number : Stmt := (topS 9)
theorem sc_is_number : FnScope ["thing"] ["thing"] (defScope s_is_number) := ⟨rfl, rfl, rfl, by decide +kernel, rfl, by decide +kernel, by decide +kernel⟩
abbrev s_is_from : Stmt := (topS 10)
theorem sc_is_from : FnScope ["thing", "least", "most"] ["thing", "least", "most"] (defScope s_is_from) := ⟨rfl, rfl, rfl, by decide +kernel, rfl, by decide +kernel, by decide +kernel⟩
abbrev s_is_shaped : Stmt := (topS 25)
theorem sc_is_shaped : FnScope ["thing", "many"] ["thing", "many"] (defScope s_is_shaped) := ⟨rfl, rfl, rfl, by decide +kernel, rfl, by decide +kernel, by decide +kernel⟩
abbrev s_is_headed : Stmt := (topS 26)
theorem sc_is_headed : FnScope ["thing", "word", "many"] ["thing", "word", "many"] (defScope s_is_headed) := ⟨rfl, rfl, rfl, by decide +kernel, rfl, by decide +kernel, by decide +kernel⟩
abbrev s_is_name : Stmt := (topS 23)
theorem sc_is_name : FnScope ["thing", "sign"] ["thing"] (defScope s_is_name) := ⟨rfl, rfl, rfl, by decide +kernel, rfl, by decide +kernel, by decide +kernel⟩
abbrev s_are_unlike : Stmt := (topS 24)
theorem sc_are_unlike : FnScope ["things"] ["things"] (defScope s_are_unlike) := ⟨rfl, rfl, rfl, by decide +kernel, rfl, by decide +kernel, by decide +kernel⟩
abbrev s_are_bits : Stmt := (topS 28)
theorem sc_are_bits : FnScope ["thing"] ["thing"] (defScope s_are_bits) := ⟨rfl, rfl, rfl, by decide +kernel, rfl, by decide +kernel, by decide +kernel⟩
abbrev s_are_pairs : Stmt := (topS 27)
theorem sc_are_pairs : FnScope ["thing", "is_second", "one", "name", "second"] ["thing", "is_second"] (defScope s_are_pairs) := ⟨rfl, rfl, rfl, by decide +kernel, rfl, by decide +kernel, by decide +kernel⟩
abbrev s_is_table : Stmt := (topS 29)
theorem sc_is_table : FnScope ["thing"] ["thing"] (defScope s_is_table) := ⟨rfl, rfl, rfl, by decide +kernel, rfl, by decide +kernel, by decide +kernel⟩
abbrev s_is_expression : Stmt := (topS 31)
theorem sc_is_expression : FnScope ["thing"] ["thing"] (defScope s_is_expression) := ⟨rfl, rfl, rfl, by decide +kernel, rfl, by decide +kernel, by decide +kernel⟩
abbrev s_are_params : Stmt := (topS 33)
theorem sc_are_params : FnScope ["thing", "one"] ["thing"] (defScope s_are_params) := ⟨rfl, rfl, rfl, by decide +kernel, rfl, by decide +kernel, by decide +kernel⟩
structure UTxt (K : PySem.W.Frag) (mg : Str → Option Value) (fb : Addr) : Prop where
  z_isinstance : mg "isinstance" = none
  z_int : mg "int" = none
  z_bool : mg "bool" = none
  z_tuple : mg "tuple" = none
  z_len : mg "len" = none
  d_is_number : DefAt K mg "is_number" s_is_number ["thing"]
  d_is_from : DefAt K mg "is_from" s_is_from ["thing", "least", "most"]
  d_is_shaped : DefAt K mg "is_shaped" s_is_shaped ["thing", "many"]
  d_is_headed : DefAt K mg "is_headed" s_is_headed ["thing", "word", "many"]
  d_is_name : DefAt K mg "is_name" s_is_name ["thing"]
  d_are_unlike : DefAt K mg "are_unlike" s_are_unlike ["things"]
  d_are_bits : DefAt K mg "are_bits" s_are_bits ["thing"]
  g_are_bits : mg "are_bits" = some (.ref fb)
  d_are_pairs : DefAt K mg "are_pairs" s_are_pairs ["thing", "is_second"]
  d_is_table : DefAt K mg "is_table" s_is_table ["thing"]
  d_is_expression : DefAt K mg "is_expression" s_is_expression ["thing"]
  d_are_params : DefAt K mg "are_params" s_are_params ["thing"]
  g_MOST_VALUE : ∃ t, mg "MOST_VALUE" = some (.int 255 t)
  g_MOST_FIELDS : ∃ t, mg "MOST_FIELDS" = some (.int 5 t)
  g_MOST_MANY : ∃ t, mg "MOST_MANY" = some (.int 6 t)
  g_MOST_THINGS : ∃ t, mg "MOST_THINGS" = some (.int 3 t)
  g_OPERATIONS : GlT K mg "OPERATIONS" ["add", "sub", "mul", "rest", "less", "same"]
  z_str : mg "str" = none
  z_all : mg "all" = none
  z_set : mg "set" = none
  g_MOST_SIGNS : ∃ t, mg "MOST_SIGNS" = some (.int 6 t)
  g_MOST_BITS : ∃ t, mg "MOST_BITS" = some (.int 8 t)
  g_LETTERS : ∃ t, mg "LETTERS" = some (.str "abcdefghijklmnopqrstuvwxyz" t)
  g_WORDS : GlT K mg "WORDS" ["params", "table", "view", "each", "times", "when", "else", "end", "set", "get", "put", "tell", "hand", "of", "from", "step"]
section
variable {P : Program} {w : World} {K : PySem.W.Frag} {mg : Str → Option Value} {base : Heap} {fb : Addr}
def isNum (d : PyData) : Bool := isiInt d && !isiBool d
theorem cal_is_number' (T : UTxt K mg fb) : Cal P w K mg base 1 "is_number" (spD K 1 (fn1 fun d Φ => Φ (.bool (isNum d)))) := by
  refine T.d_is_number.cal sc_is_number (fun vs H Q E h => h.1) (fun f cdv A outer s H vs Q E hr h => ?_)
  refine ⟨_, (pss_one (ps_ret (pe_and (pe_callB (call_isiK' K (by rfl)) (by rfl) T.z_isinstance bt_isinstance (pa_cons (pv 0) (pa_cons (pe_bltn (v := .ty "int") rfl T.z_int bt_int rfl) pa_nil))) (pe_one (pe_not (pe_callB (call_isiK' K (by rfl)) (by rfl) T.z_isinstance bt_isinstance (pa_cons (pv 0) (pa_cons (pe_bltn (v := .ty "bool") rfl T.z_bool bt_bool rfl) pa_nil)))))))), ?_⟩
  refine run_D h fun Γ as Φ hg => ?_
  obtain ⟨d, rfl, q⟩ := of_fn1 hg
  unfold isNum at q
  simp only [at_mk, put_mk, know_mk, q_var, q_vdat, q_vpen, q_vown, q_vfn, q_vref, q_asD, q_asDo, q_asDa, q_aown, q_adat, q_asA, q_asAp, q_asAf, q_asAr, q_asAo, q_asAa, q_asS, q_asSo, q_asSp, q_asSf, q_asSr, q_asSa, q_asR, q_asRr, q_asRo, q_onD, q_onR, q_inOb, q_inObr, q_inObf, q_onT, q_onL, q_onI, q_onX, q_onBo, q_onTd, q_seqL, q_seqT, q_intI, q_intB, q_none, q_noneR, q_one, q_oneS, q_seeL, q_seeT, q_seeO, q_seeA, q_seeAo, q_seeAl, q_seeAt, q_srL, q_srO, q_srA, q_lenS, q_lenO, q_lenA, q_lenR, q_slL, q_slO, q_slA, q_slAo, q_slAl, q_ixR, q_ixL, q_ixO, q_ixA, q_appA, q_appAo, q_appR, q_emR, q_zipT, q_zipL, q_some, q_fn1, q_fn2, q_fn3, q_fn4, q_pn0, q_pn1, q_pn2, q_pn3, q_scaI, q_scaS, q_scaB, q_scaN, q_fnD, q_all0, q_all1, q_all2, q_all3, q_all4, q_all5, q_wipe0, q_wipe, q_start, q_eqI, q_eqX, q_eqB, q_onB, q_at0, q_at1, q_at2, q_at3, q_at4, q_tup, q_strT, q_str, q_int, q_bool, List.length_cons, List.length_nil, List.map_cons, List.map_nil, List.replicate, List.cons_append, List.nil_append, List.getD_cons_zero, List.getD_cons_succ, List.getD_nil, List.set_cons_zero, List.set_cons_succ, List.set_nil, cond_true, cond_false, Nat.reduceAdd, Nat.reduceSub, Nat.sub_self, Nat.add_one_sub_one, Bool.not_true, Bool.not_false, true_and, and_true, Bool.false_eq_true, if_false, reduceIte]
  cases hi : isiInt d <;> rw [hi] at q <;> simp only [at_mk, put_mk, know_mk, q_var, q_vdat, q_vpen, q_vown, q_vfn, q_vref, q_asD, q_asDo, q_asDa, q_aown, q_adat, q_asA, q_asAp, q_asAf, q_asAr, q_asAo, q_asAa, q_asS, q_asSo, q_asSp, q_asSf, q_asSr, q_asSa, q_asR, q_asRr, q_asRo, q_onD, q_onR, q_inOb, q_inObr, q_inObf, q_onT, q_onL, q_onI, q_onX, q_onBo, q_onTd, q_seqL, q_seqT, q_intI, q_intB, q_none, q_noneR, q_one, q_oneS, q_seeL, q_seeT, q_seeO, q_seeA, q_seeAo, q_seeAl, q_seeAt, q_srL, q_srO, q_srA, q_lenS, q_lenO, q_lenA, q_lenR, q_slL, q_slO, q_slA, q_slAo, q_slAl, q_ixR, q_ixL, q_ixO, q_ixA, q_appA, q_appAo, q_appR, q_emR, q_zipT, q_zipL, q_some, q_fn1, q_fn2, q_fn3, q_fn4, q_pn0, q_pn1, q_pn2, q_pn3, q_scaI, q_scaS, q_scaB, q_scaN, q_fnD, q_all0, q_all1, q_all2, q_all3, q_all4, q_all5, q_wipe0, q_wipe, q_start, q_eqI, q_eqX, q_eqB, q_onB, q_at0, q_at1, q_at2, q_at3, q_at4, q_tup, q_strT, q_str, q_int, q_bool, List.length_cons, List.length_nil, List.map_cons, List.map_nil, List.replicate, List.cons_append, List.nil_append, List.getD_cons_zero, List.getD_cons_succ, List.getD_nil, List.set_cons_zero, List.set_cons_succ, List.set_nil, cond_true, cond_false, Nat.reduceAdd, Nat.reduceSub, Nat.sub_self, Nat.add_one_sub_one, Bool.not_true, Bool.not_false, true_and, and_true, Bool.false_eq_true, if_false, reduceIte] <;> exact q
def isFrom (d : PyData) (lo hi : Int) : Bool := match d with
  | .int i => decide (lo ≤ i) && decide (i ≤ hi)
  | _ => false
theorem cal_is_from' (T : UTxt K mg fb) : Cal P w K mg base 2 "is_from" (spD K 3 (fn3 fun d lo hi Φ => onI lo fun lo => onI hi fun hi => Φ (.bool (isFrom d lo hi)))) := by
  have c_is_number := cal_is_number' (P := P) (w := w) (base := base) T
  refine T.d_is_from.cal sc_is_from (fun vs H Q E h => h.1) (fun f cdv A outer s H vs Q E hr h => ?_)
  refine ⟨_, (pss_one (ps_ret (pe_and (pe_c c_is_number hr (by first | decide | omega) (by rfl) (pa_cons (pv 0) pa_nil)) (pe_one (pe_chain op_le op_le (pv 1) (pv 0) (pv 2)))))), ?_⟩
  refine run_D h fun Γ as Φ hg => ?_
  obtain ⟨d, x, y, rfl, q1⟩ := of_fn3 hg
  obtain ⟨lo, rfl, q2⟩ := of_onI q1
  obtain ⟨hi, rfl, q⟩ := of_onI q2
  simp only [at_mk, put_mk, know_mk, q_var, q_vdat, q_vpen, q_vown, q_vfn, q_vref, q_asD, q_asDo, q_asDa, q_aown, q_adat, q_asA, q_asAp, q_asAf, q_asAr, q_asAo, q_asAa, q_asS, q_asSo, q_asSp, q_asSf, q_asSr, q_asSa, q_asR, q_asRr, q_asRo, q_onD, q_onR, q_inOb, q_inObr, q_inObf, q_onT, q_onL, q_onI, q_onX, q_onBo, q_onTd, q_seqL, q_seqT, q_intI, q_intB, q_none, q_noneR, q_one, q_oneS, q_seeL, q_seeT, q_seeO, q_seeA, q_seeAo, q_seeAl, q_seeAt, q_srL, q_srO, q_srA, q_lenS, q_lenO, q_lenA, q_lenR, q_slL, q_slO, q_slA, q_slAo, q_slAl, q_ixR, q_ixL, q_ixO, q_ixA, q_appA, q_appAo, q_appR, q_emR, q_zipT, q_zipL, q_some, q_fn1, q_fn2, q_fn3, q_fn4, q_pn0, q_pn1, q_pn2, q_pn3, q_scaI, q_scaS, q_scaB, q_scaN, q_fnD, q_all0, q_all1, q_all2, q_all3, q_all4, q_all5, q_wipe0, q_wipe, q_start, q_eqI, q_eqX, q_eqB, q_onB, q_at0, q_at1, q_at2, q_at3, q_at4, q_tup, q_strT, q_str, q_int, q_bool, List.length_cons, List.length_nil, List.map_cons, List.map_nil, List.replicate, List.cons_append, List.nil_append, List.getD_cons_zero, List.getD_cons_succ, List.getD_nil, List.set_cons_zero, List.set_cons_succ, List.set_nil, cond_true, cond_false, Nat.reduceAdd, Nat.reduceSub, Nat.sub_self, Nat.add_one_sub_one, Bool.not_true, Bool.not_false, true_and, and_true, Bool.false_eq_true, if_false, reduceIte]
  cases d with
  | int i =>
    have q3 : Φ (.bool (decide (lo ≤ i) && decide (i ≤ hi))) := q
    show bif decide (lo ≤ i) then Φ (.bool (decide (i ≤ hi))) else Φ (.bool false)
    cases h1 : decide (lo ≤ i) <;> rw [h1] at q3 <;> exact q3
  | _ => exact q
def isShaped (d : PyData) (n : Int) : Bool := match d with
  | .tuple ds => decide ((ds.length : Int) = n)
  | _ => false
theorem cal_is_shaped' (T : UTxt K mg fb) : Cal P w K mg base 1 "is_shaped" (spD K 2 (fn2 fun d n Φ => onI n fun n => Φ (.bool (isShaped d n)))) := by
  refine T.d_is_shaped.cal sc_is_shaped (fun vs H Q E h => h.1) (fun f cdv A outer s H vs Q E hr h => ?_)
  refine ⟨_, (pss_one (ps_ret (pe_and (pe_callB (call_isiK' K (by rfl)) (by rfl) T.z_isinstance bt_isinstance (pa_cons (pv 0) (pa_cons (pe_bltn (v := .ty "tuple") rfl T.z_tuple bt_tuple rfl) pa_nil))) (pe_one (pe_cmpR op_eq (pe_callB (call_lenK K (by rfl)) (by rfl) T.z_len bt_len (pa_cons (pv 0) pa_nil)) (pv 1) (nomark _)))))), ?_⟩
  refine run_D h fun Γ as Φ hg => ?_
  obtain ⟨d, x, rfl, q1⟩ := of_fn2 hg
  obtain ⟨n, rfl, q⟩ := of_onI q1
  simp only [at_mk, put_mk, know_mk, q_var, q_vdat, q_vpen, q_vown, q_vfn, q_vref, q_asD, q_asDo, q_asDa, q_aown, q_adat, q_asA, q_asAp, q_asAf, q_asAr, q_asAo, q_asAa, q_asS, q_asSo, q_asSp, q_asSf, q_asSr, q_asSa, q_asR, q_asRr, q_asRo, q_onD, q_onR, q_inOb, q_inObr, q_inObf, q_onT, q_onL, q_onI, q_onX, q_onBo, q_onTd, q_seqL, q_seqT, q_intI, q_intB, q_none, q_noneR, q_one, q_oneS, q_seeL, q_seeT, q_seeO, q_seeA, q_seeAo, q_seeAl, q_seeAt, q_srL, q_srO, q_srA, q_lenS, q_lenO, q_lenA, q_lenR, q_slL, q_slO, q_slA, q_slAo, q_slAl, q_ixR, q_ixL, q_ixO, q_ixA, q_appA, q_appAo, q_appR, q_emR, q_zipT, q_zipL, q_some, q_fn1, q_fn2, q_fn3, q_fn4, q_pn0, q_pn1, q_pn2, q_pn3, q_scaI, q_scaS, q_scaB, q_scaN, q_fnD, q_all0, q_all1, q_all2, q_all3, q_all4, q_all5, q_wipe0, q_wipe, q_start, q_eqI, q_eqX, q_eqB, q_onB, q_at0, q_at1, q_at2, q_at3, q_at4, q_tup, q_strT, q_str, q_int, q_bool, List.length_cons, List.length_nil, List.map_cons, List.map_nil, List.replicate, List.cons_append, List.nil_append, List.getD_cons_zero, List.getD_cons_succ, List.getD_nil, List.set_cons_zero, List.set_cons_succ, List.set_nil, cond_true, cond_false, Nat.reduceAdd, Nat.reduceSub, Nat.sub_self, Nat.add_one_sub_one, Bool.not_true, Bool.not_false, true_and, and_true, Bool.false_eq_true, if_false, reduceIte]
  cases d <;> exact q
def isHeaded (d : PyData) (x : Str) (n : Int) : Bool := match d with
  | .tuple (.str y :: ds) => decide (((ds.length + 1 : Nat) : Int) = n) && decide (y = x)
  | _ => false
theorem cal_is_headed' (T : UTxt K mg fb) : Cal P w K mg base 2 "is_headed" (spD K 3 (fn3 fun d x n Φ => onX x fun x => onI n fun n => 1 ≤ n ∧ Φ (.bool (isHeaded d x n)))) := by
  have c_is_shaped := cal_is_shaped' (P := P) (w := w) (base := base) T
  refine T.d_is_headed.cal sc_is_headed (fun vs H Q E h => h.1) (fun f cdv A outer s H vs Q E hr h => ?_)
  refine ⟨_, (pss_one (ps_ret (pe_and (pe_c c_is_shaped hr (by first | decide | omega) (by rfl) (pa_cons (pv 0) (pa_cons (pv 2) pa_nil))) (pe_and (pe_callB (call_isiK' K (by rfl)) (by rfl) T.z_isinstance bt_isinstance (pa_cons (pe_ix (ix_tupK K (by rfl)) (pv 0) pe_int (fun _ _ => rfl)) (pa_cons (pe_bltn (v := .ty "str") rfl T.z_str bt_str rfl) pa_nil))) (pe_one (pe_cmpR op_eq (pe_ix (ix_tupK K (by rfl)) (pv 0) pe_int (fun _ _ => rfl)) (pv 1) (nomark _))))))), ?_⟩
  refine run_D h fun Γ as Φ hg => ?_
  obtain ⟨d, x, y, rfl, q1⟩ := of_fn3 hg
  obtain ⟨x, rfl, q2⟩ := of_onX q1
  obtain ⟨n, rfl, hn, q⟩ := of_onI q2
  simp only [at_mk, put_mk, know_mk, q_var, q_vdat, q_vpen, q_vown, q_vfn, q_vref, q_asD, q_asDo, q_asDa, q_aown, q_adat, q_asA, q_asAp, q_asAf, q_asAr, q_asAo, q_asAa, q_asS, q_asSo, q_asSp, q_asSf, q_asSr, q_asSa, q_asR, q_asRr, q_asRo, q_onD, q_onR, q_inOb, q_inObr, q_inObf, q_onT, q_onL, q_onI, q_onX, q_onBo, q_onTd, q_seqL, q_seqT, q_intI, q_intB, q_none, q_noneR, q_one, q_oneS, q_seeL, q_seeT, q_seeO, q_seeA, q_seeAo, q_seeAl, q_seeAt, q_srL, q_srO, q_srA, q_lenS, q_lenO, q_lenA, q_lenR, q_slL, q_slO, q_slA, q_slAo, q_slAl, q_ixR, q_ixL, q_ixO, q_ixA, q_appA, q_appAo, q_appR, q_emR, q_zipT, q_zipL, q_some, q_fn1, q_fn2, q_fn3, q_fn4, q_pn0, q_pn1, q_pn2, q_pn3, q_scaI, q_scaS, q_scaB, q_scaN, q_fnD, q_all0, q_all1, q_all2, q_all3, q_all4, q_all5, q_wipe0, q_wipe, q_start, q_eqI, q_eqX, q_eqB, q_onB, q_at0, q_at1, q_at2, q_at3, q_at4, q_tup, q_strT, q_str, q_int, q_bool, List.length_cons, List.length_nil, List.map_cons, List.map_nil, List.replicate, List.cons_append, List.nil_append, List.getD_cons_zero, List.getD_cons_succ, List.getD_nil, List.set_cons_zero, List.set_cons_succ, List.set_nil, cond_true, cond_false, Nat.reduceAdd, Nat.reduceSub, Nat.sub_self, Nat.add_one_sub_one, Bool.not_true, Bool.not_false, true_and, and_true, Bool.false_eq_true, if_false, reduceIte]
  cases d with
  | tuple ds =>
    cases ds with
    | nil =>
      have e : isShaped (.tuple []) n = false := decide_eq_false (by show ¬ ((0 : Nat) : Int) = n; omega)
      rw [e]
      exact q
    | cons y ds =>
      have es : isShaped (.tuple (y :: ds)) n = decide (((ds.length + 1 : Nat) : Int) = n) := rfl
      rw [es]
      cases hc : decide (((ds.length + 1 : Nat) : Int) = n) with
      | false =>
        cases y <;> first | exact q | (unfold isHeaded at q; dsimp only at q; rw [hc] at q; exact q)
      | true =>
        refine atD_at (j := 0) rfl rfl ?_
        cases y with
        | str y =>
          refine atD_at (j := 0) rfl rfl ?_
          unfold isHeaded at q
          dsimp only at q
          rw [hc] at q
          exact q
        | _ => exact q
  | _ => exact q
def nameD (d : PyData) : Bool := match d with
  | .str z => isName z
  | _ => false
theorem bools_map {α : Type} (f : α → Bool) : ∀ xs : List α, boolsD (xs.map fun x => .bool (f x)) = some (xs.map f)
  | [] => rfl
  | x :: xs => by rw [List.map_cons, boolsD, bools_map f xs]; rfl
theorem cal_is_name' (T : UTxt K mg fb) : Cal P w K mg base 1 "is_name" (spD K 1 (fn1 fun d Φ => (∀ z, d = .str z → z.length ≤ sizeLine) ∧ Φ (.bool (nameD d)))) := by
  refine T.d_is_name.cal sc_is_name (fun vs H Q E h => h.1) (fun f cdv A outer s H vs Q E hr h => ?_)
  refine ⟨_, (pss_cons (ps_if (PW.pt (pw_or (pt_not (pt_val (pe_callB (call_isiK' K (by rfl)) (by rfl) T.z_isinstance bt_isinstance (pa_cons (pv 0) (pa_cons (pe_bltn (v := .ty "str") rfl T.z_str bt_str rfl) pa_nil))))) (pw_or (pt_not (pt_chain op_le op_le pe_int (pe_callB call_lenTx (by rfl) T.z_len bt_len (pa_cons (pv 0) pa_nil)) (pe_gint rfl T.g_MOST_SIGNS))) (pw_or1 (pt_cmpR (op_in_seqK K (by rfl)) (pv 0) (pe_gtup K rfl T.g_WORDS) (by rfl))))))
  (pss_one (ps_ret pe_bl))
  pss_nil)
  (pss_one (ps_ret (pe_callB (cr_allK K (by rfl) (by rfl)) (by rfl) T.z_all bt_all (by exact (pa_cons (pe_lcX [("sign", 1)] (by rfl) sc_is_name.nd (pi_str (pv 0)) (blkOk_by (N := ["thing", "sign"]) (sc := defScope s_is_name) (by decide +kernel)) (fun _ _ _ _ _ => by exact (pg_nameX 1 sc_is_name.nd rfl (by first | exact .inl rfl | exact .inr rfl) (by first | exact .inr rfl | exact .inl rfl))) (fun _ _ _ _ _ => by exact pts_nil) (fun _ _ _ _ _ => by exact (pe_cmpR op_signIn (pv 1) (pe_gstr rfl T.g_LETTERS) (by rfl))) (fun _ => rfl)) pa_nil)))))), ?_⟩
  refine run_D h fun Γ as Φ hg => ?_
  obtain ⟨d, rfl, hz, q⟩ := of_fn1 hg
  simp only [at_mk, put_mk, know_mk, q_var, q_vdat, q_vpen, q_vown, q_vfn, q_vref, q_asD, q_asDo, q_asDa, q_aown, q_adat, q_asA, q_asAp, q_asAf, q_asAr, q_asAo, q_asAa, q_asS, q_asSo, q_asSp, q_asSf, q_asSr, q_asSa, q_asR, q_asRr, q_asRo, q_onD, q_onR, q_inOb, q_inObr, q_inObf, q_onT, q_onL, q_onI, q_onX, q_onBo, q_onTd, q_seqL, q_seqT, q_intI, q_intB, q_none, q_noneR, q_one, q_oneS, q_seeL, q_seeT, q_seeO, q_seeA, q_seeAo, q_seeAl, q_seeAt, q_srL, q_srO, q_srA, q_lenS, q_lenO, q_lenA, q_lenR, q_slL, q_slO, q_slA, q_slAo, q_slAl, q_ixR, q_ixL, q_ixO, q_ixA, q_appA, q_appAo, q_appR, q_emR, q_zipT, q_zipL, q_some, q_fn1, q_fn2, q_fn3, q_fn4, q_pn0, q_pn1, q_pn2, q_pn3, q_scaI, q_scaS, q_scaB, q_scaN, q_fnD, q_all0, q_all1, q_all2, q_all3, q_all4, q_all5, q_wipe0, q_wipe, q_start, q_eqI, q_eqX, q_eqB, q_onB, q_at0, q_at1, q_at2, q_at3, q_at4, q_tup, q_strT, q_str, q_int, q_bool, List.length_cons, List.length_nil, List.map_cons, List.map_nil, List.replicate, List.cons_append, List.nil_append, List.getD_cons_zero, List.getD_cons_succ, List.getD_nil, List.set_cons_zero, List.set_cons_succ, List.set_nil, cond_true, cond_false, Nat.reduceAdd, Nat.reduceSub, Nat.sub_self, Nat.add_one_sub_one, Bool.not_true, Bool.not_false, true_and, and_true, Bool.false_eq_true, if_false, reduceIte]
  cases d with
  | str z =>
    refine ⟨hz z rfl, ?_⟩
    have q1 : Φ (.bool (isName z)) := q
    unfold isName at q1
    have e1 : decide ((1 : Int) ≤ (z.length : Int)) = decide (1 ≤ z.length) := by rw [decide_eq_decide]; omega
    have e2 : decide ((z.length : Int) ≤ 6) = decide (z.length ≤ 6) := by rw [decide_eq_decide]; omega
    rw [e1, e2]
    cases h1 : decide (1 ≤ z.length) with
    | false => rw [h1] at q1; exact q1
    | true =>
      cases h2 : decide (z.length ≤ 6) with
      | false => rw [h1, h2] at q1; exact q1
      | true =>
        rw [h1, h2] at q1
        simp only [cond_true, Bool.not_true, cond_false, seqD]
        refine ⟨rfl, inD_texts (xs := wordsL) ?_⟩
        cases h3 : decide (z ∈ wordsL) with
        | true => rw [h3] at q1; exact q1
        | false =>
          rw [h3] at q1
          have hl : z.cps.toList.length ≤ 6 := by
            have h4 : z.cps.size ≤ 6 := of_decide_eq_true h2
            simpa using h4
          refine ⟨rfl, ?_⟩
          refine lcD_map (δ0 := ⟨[some (.dat (.str z)), none], fun _ => none⟩) (fun d => .bool (match d with | .str a => a.cps.toList.all fun c => decide (c ∈ lettersS.cps.toList) | _ => false)) rfl (by show 0 + (signsD z).length ≤ _; unfold signsD; rw [List.length_map]; omega) ?_ ?_
          · intro d hd k hk
            obtain ⟨c, hc, rfl⟩ := List.mem_map.mp hd
            have := hk ⟨[some (.dat (.str z)), some (.dat (.str ⟨#[c]⟩))], fun _ => none⟩ rfl
            show k (.bool (decide (c ∈ lettersS.cps.toList))) ⟨[some (.dat (.str z)), some (.dat (.str ⟨#[c]⟩))], fun _ => none⟩
            simpa using this
          · show match boolsD ([] ++ (signsD z).map _) with | some bs => Φ (.bool (bs.all id)) | none => False
            unfold signsD
            rw [List.nil_append, List.map_map]
            have eb := bools_map (fun c : Nat => decide (c ∈ lettersS.cps.toList)) z.cps.toList
            have em : (z.cps.toList.map ((fun d : PyData => PyData.bool (match d with | .str a => a.cps.toList.all fun c => decide (c ∈ lettersS.cps.toList) | _ => false)) ∘ fun c => PyData.str ⟨#[c]⟩)) = z.cps.toList.map fun c => PyData.bool (decide (c ∈ lettersS.cps.toList)) := by
              apply List.map_congr_left
              intro c _
              simp
            rw [em, eb]
            have ea : (z.cps.toList.map fun c => decide (c ∈ lettersS.cps.toList)).all id = z.cps.toList.all fun c => decide (c ∈ lettersS.cps.toList) := by
              rw [List.all_map]
              rfl
            show Φ (.bool ((z.cps.toList.map fun c => decide (c ∈ lettersS.cps.toList)).all id))
            rw [ea]
            exact q1
  | _ => exact q
theorem cal_are_unlike' (T : UTxt K mg fb) : Cal P w K mg base 1 "are_unlike" (spD K 1 (fn1 fun d Φ => seqD d fun ds => onXs ds fun xs => xs.length ≤ 1000 ∧ Φ (.bool (decide (unl xs xs.length = xs.length))))) := by
  refine T.d_are_unlike.cal sc_are_unlike (fun vs H Q E h => h.1) (fun f cdv A outer s H vs Q E hr h => ?_)
  refine ⟨_, (pss_one (ps_ret (pe_cmpR op_eq (pe_lenSetSK K (by rfl) (by rfl) T.z_len (by rfl) T.z_set (pv 0) (by rfl) (by rfl)) (pe_callB (call_lenK K (by rfl)) (by rfl) T.z_len bt_len (pa_cons (pv 0) pa_nil)) (nomark _)))), ?_⟩
  refine run_D h fun Γ as Φ hg => ?_
  obtain ⟨d, rfl, q⟩ := of_fn1 hg
  simp only [at_mk, put_mk, know_mk, q_var, q_vdat, q_vpen, q_vown, q_vfn, q_vref, q_asD, q_asDo, q_asDa, q_aown, q_adat, q_asA, q_asAp, q_asAf, q_asAr, q_asAo, q_asAa, q_asS, q_asSo, q_asSp, q_asSf, q_asSr, q_asSa, q_asR, q_asRr, q_asRo, q_onD, q_onR, q_inOb, q_inObr, q_inObf, q_onT, q_onL, q_onI, q_onX, q_onBo, q_onTd, q_seqL, q_seqT, q_intI, q_intB, q_none, q_noneR, q_one, q_oneS, q_seeL, q_seeT, q_seeO, q_seeA, q_seeAo, q_seeAl, q_seeAt, q_srL, q_srO, q_srA, q_lenS, q_lenO, q_lenA, q_lenR, q_slL, q_slO, q_slA, q_slAo, q_slAl, q_ixR, q_ixL, q_ixO, q_ixA, q_appA, q_appAo, q_appR, q_emR, q_zipT, q_zipL, q_some, q_fn1, q_fn2, q_fn3, q_fn4, q_pn0, q_pn1, q_pn2, q_pn3, q_scaI, q_scaS, q_scaB, q_scaN, q_fnD, q_all0, q_all1, q_all2, q_all3, q_all4, q_all5, q_wipe0, q_wipe, q_start, q_eqI, q_eqX, q_eqB, q_onB, q_at0, q_at1, q_at2, q_at3, q_at4, q_tup, q_strT, q_str, q_int, q_bool, List.length_cons, List.length_nil, List.map_cons, List.map_nil, List.replicate, List.cons_append, List.nil_append, List.getD_cons_zero, List.getD_cons_succ, List.getD_nil, List.set_cons_zero, List.set_cons_succ, List.set_nil, cond_true, cond_false, Nat.reduceAdd, Nat.reduceSub, Nat.sub_self, Nat.add_one_sub_one, Bool.not_true, Bool.not_false, true_and, and_true, Bool.false_eq_true, if_false, reduceIte]
  have tl : ∀ {ds : List PyData} {xs : List Str}, textsD ds = some xs → ds.length = xs.length := by
    intro ds
    induction ds with
    | nil => intro xs e; cases e; rfl
    | cons d ds ih =>
      intro xs e
      cases d <;> first | (cases e; done) | skip
      rename_i x
      unfold textsD at e
      cases e3 : textsD ds with
      | none => rw [e3] at e; cases e
      | some cs =>
        rw [e3] at e
        cases e
        rw [List.length_cons, List.length_cons, ih e3]
  have key : ∀ {ds : List PyData}, (onXs ds fun xs => xs.length ≤ 1000 ∧ Φ (.bool (decide (unl xs xs.length = xs.length)))) → onXs ds fun xs => xs.length ≤ 1000 ∧ Φ (.bool (decide ((unl xs xs.length : Int) = (ds.length : Int)))) := by
    intro ds q
    unfold onXs at q ⊢
    cases e : textsD ds with
    | none => rw [e] at q; exact q.elim
    | some xs =>
      rw [e] at q
      refine ⟨q.1, ?_⟩
      have e2 : decide ((unl xs xs.length : Int) = (ds.length : Int)) = decide (unl xs xs.length = xs.length) := by
        rw [decide_eq_decide, tl e]
        omega
      rw [e2]
      exact q.2
  cases d with
  | list ds => exact key q
  | tuple ds => exact key q
  | _ => exact q.elim
theorem cal_are_bits' (T : UTxt K mg fb) : Cal P w K mg base 3 "are_bits" (spD K 1 (fn1 fun d Φ => Φ (.bool (isFrom d 1 8)))) := by
  have c_is_from := cal_is_from' (P := P) (w := w) (base := base) T
  refine T.d_are_bits.cal sc_are_bits (fun vs H Q E h => h.1) (fun f cdv A outer s H vs Q E hr h => ?_)
  refine ⟨_, (pss_one (ps_ret (pe_c c_is_from hr (by first | decide | omega) (by rfl) (pa_cons (pv 0) (pa_cons pe_int (pa_cons (pe_gint rfl T.g_MOST_BITS) pa_nil)))))), ?_⟩
  refine run_D h fun Γ as Φ hg => ?_
  obtain ⟨d, rfl, q⟩ := of_fn1 hg
  simp only [at_mk, put_mk, know_mk, q_var, q_vdat, q_vpen, q_vown, q_vfn, q_vref, q_asD, q_asDo, q_asDa, q_aown, q_adat, q_asA, q_asAp, q_asAf, q_asAr, q_asAo, q_asAa, q_asS, q_asSo, q_asSp, q_asSf, q_asSr, q_asSa, q_asR, q_asRr, q_asRo, q_onD, q_onR, q_inOb, q_inObr, q_inObf, q_onT, q_onL, q_onI, q_onX, q_onBo, q_onTd, q_seqL, q_seqT, q_intI, q_intB, q_none, q_noneR, q_one, q_oneS, q_seeL, q_seeT, q_seeO, q_seeA, q_seeAo, q_seeAl, q_seeAt, q_srL, q_srO, q_srA, q_lenS, q_lenO, q_lenA, q_lenR, q_slL, q_slO, q_slA, q_slAo, q_slAl, q_ixR, q_ixL, q_ixO, q_ixA, q_appA, q_appAo, q_appR, q_emR, q_zipT, q_zipL, q_some, q_fn1, q_fn2, q_fn3, q_fn4, q_pn0, q_pn1, q_pn2, q_pn3, q_scaI, q_scaS, q_scaB, q_scaN, q_fnD, q_all0, q_all1, q_all2, q_all3, q_all4, q_all5, q_wipe0, q_wipe, q_start, q_eqI, q_eqX, q_eqB, q_onB, q_at0, q_at1, q_at2, q_at3, q_at4, q_tup, q_strT, q_str, q_int, q_bool, List.length_cons, List.length_nil, List.map_cons, List.map_nil, List.replicate, List.cons_append, List.nil_append, List.getD_cons_zero, List.getD_cons_succ, List.getD_nil, List.set_cons_zero, List.set_cons_succ, List.set_nil, cond_true, cond_false, Nat.reduceAdd, Nat.reduceSub, Nat.sub_self, Nat.add_one_sub_one, Bool.not_true, Bool.not_false, true_and, and_true, Bool.false_eq_true, if_false, reduceIte]
  exact q
theorem isName_len {z : Str} (h : isName z = true) : z.length ≤ 6 := by
  unfold isName at h
  simp only [Bool.and_eq_true] at h
  exact of_decide_eq_true h.1.1.2
theorem textsD_strs : ∀ xs : List Str, textsD (xs.map PyData.str) = some xs
  | [] => rfl
  | x :: xs => by rw [List.map_cons, textsD, textsD_strs xs]; rfl
theorem onXs_strs {xs : List Str} {k : List Str → Prop} (h : k xs) : onXs (xs.map PyData.str) k := by
  unfold onXs
  rw [textsD_strs]
  exact h
theorem cal_are_pairs' (T : UTxt K mg fb) : Cal P w K mg base 4 "are_pairs" (spD K 2 fun as Φ => match as with
    | [.dat d, .fn a] => a = fb ∧ ∃ fs : List (Str × Int), ((1 ≤ fs.length ∧ fs.length ≤ 5) ∧ (∀ f ∈ fs, isName f.1 = true ∧ 1 ≤ f.2 ∧ f.2 ≤ 8) ∧ (fs.map (·.1)).Nodup) ∧ d = .tuple (fs.map Tab.fdata) ∧ Φ (.bool true)
    | _ => False) := by
  have c_is_shaped := cal_is_shaped' (P := P) (w := w) (base := base) T
  have c_is_name := cal_is_name' (P := P) (w := w) (base := base) T
  have c_are_unlike := cal_are_unlike' (P := P) (w := w) (base := base) T
  have c_are_bits := cal_are_bits' (P := P) (w := w) (base := base) T
  refine T.d_are_pairs.cal sc_are_pairs (fun vs H Q E h => h.1) (fun f cdv A outer s H vs Q E hr h => ?_)
  let G : Addr → Option (List Sv → (PyData → Prop) → Prop) := fun a => if a = fb then some (fn1 fun d Φ => Φ (.bool (isFrom d 1 8))) else none
  have hS : ∀ f sp, (G f).map (spD K 1) = some sp → Held P w K mg base 3 f sp := by
    intro f sp e
    show Held P w K mg base 3 f sp
    by_cases z : f = fb
    · obtain ⟨f', fd, ps, F, hm, kp, b⟩ := c_are_bits.ex
      rw [T.g_are_bits] at hm
      cases hm
      have eg : G f = some (fn1 fun d Φ => Φ (.bool (isFrom d 1 8))) := if_pos z
      rw [eg] at e
      cases e
      subst z
      exact ⟨fd, ps, F, kp, b⟩
    · have eg : G f = none := if_neg z
      rw [eg] at e
      cases e
  refine ⟨_, (pss_cons (ps_if (PW.pt (pw_or (pt_not (pt_val (pe_callB (call_isiK' K (by rfl)) (by rfl) T.z_isinstance bt_isinstance (pa_cons (pv 0) (pa_cons (pe_bltn (v := .ty "tuple") rfl T.z_tuple bt_tuple rfl) pa_nil))))) (pw_or1 (pt_not (pt_chain op_le op_le pe_int (pe_callB (call_lenK K (by rfl)) (by rfl) T.z_len bt_len (pa_cons (pv 0) pa_nil)) (pe_gint rfl T.g_MOST_FIELDS))))))
  (pss_one (ps_ret pe_bl))
  pss_nil)
  (pss_cons (ps_if (pt_not (pt_val (pe_callB (cr_allK K (by rfl) (by rfl)) (by rfl) T.z_all bt_all (by exact (pa_cons (pe_lcX [("one", 2)] (by rfl) sc_are_pairs.nd (pi_tupK K (by rfl) (pv 0)) (blkOk_by (N := ["thing", "is_second", "one", "name", "second"]) (sc := defScope s_are_pairs) (by decide +kernel)) (fun _ _ _ _ _ => by exact (pg_nameX 2 sc_are_pairs.nd rfl (by first | exact .inl rfl | exact .inr rfl) (by first | exact .inr rfl | exact .inl rfl))) (fun _ _ _ _ _ => by exact pts_nil) (fun _ _ _ _ _ => by exact (pe_and (pe_c c_is_shaped hr (by first | decide | omega) (by rfl) (pa_cons (pv 2) (pa_cons pe_int pa_nil))) (pe_and (pe_c c_is_name hr (by first | decide | omega) (by rfl) (pa_cons (pe_ix (ix_tupK K (by rfl)) (pv 2) pe_int (fun _ _ => rfl)) pa_nil)) (pe_one (pe_callA (i := 1) (S := fun a => (G a).map (spD K 1)) hS hr rfl (by first | exact .inl rfl | exact .inr (.inl rfl) | exact .inr (.inr rfl)) (pa_cons (pe_ix (ix_tupK K (by rfl)) (pv 2) pe_int (fun _ _ => rfl)) pa_nil)))))) (fun _ => rfl)) pa_nil)))))
  (pss_one (ps_ret pe_bl))
  pss_nil)
  (pss_one (ps_ret (pe_c c_are_unlike hr (by first | decide | omega) (by rfl) (by exact (pa_cons (pe_lcX [("name", 3), ("second", 4)] (by rfl) sc_are_pairs.nd (pi_tupK K (by rfl) (pv 0)) (blkOk_by (N := ["thing", "is_second", "one", "name", "second"]) (sc := defScope s_are_pairs) (by decide +kernel)) (fun _ _ _ _ _ => by exact (pg_tupK K (n := 2) (by rfl) (by rfl) (by rfl) (by rfl) (pgs_consX (by rfl) (pg_nameX 3 sc_are_pairs.nd rfl (by first | exact .inl rfl | exact .inr rfl) (by first | exact .inr rfl | exact .inl rfl)) (pgs_consX (by rfl) (pg_nameX 4 sc_are_pairs.nd rfl (by first | exact .inl rfl | exact .inr rfl) (by first | exact .inr rfl | exact .inl rfl)) pgs_nil)))) (fun _ _ _ _ _ => by exact pts_nil) (fun _ _ _ _ _ => by exact (pv 3)) (fun _ => rfl)) pa_nil))))))), ?_⟩
  refine run_D h fun Γ as Φ hg => ?_
  split at hg
  · rename_i d a
    obtain ⟨rfl, fs, ⟨⟨l1, l2⟩, hn, nd⟩, rfl, q⟩ := hg
    have e1 : decide ((1 : Int) ≤ (fs.length : Int)) = true := decide_eq_true (by omega)
    have e2 : decide ((fs.length : Int) ≤ 5) = true := decide_eq_true (by omega)
    have eG : G a = some (fn1 fun d Φ => Φ (.bool (isFrom d 1 8))) := if_pos rfl
    simp only [at_mk, put_mk, know_mk, q_var, q_vdat, q_vpen, q_vown, q_vfn, q_vref, q_asD, q_asDo, q_asDa, q_aown, q_adat, q_asA, q_asAp, q_asAf, q_asAr, q_asAo, q_asAa, q_asS, q_asSo, q_asSp, q_asSf, q_asSr, q_asSa, q_asR, q_asRr, q_asRo, q_onD, q_onR, q_inOb, q_inObr, q_inObf, q_onT, q_onL, q_onI, q_onX, q_onBo, q_onTd, q_seqL, q_seqT, q_intI, q_intB, q_none, q_noneR, q_one, q_oneS, q_seeL, q_seeT, q_seeO, q_seeA, q_seeAo, q_seeAl, q_seeAt, q_srL, q_srO, q_srA, q_lenS, q_lenO, q_lenA, q_lenR, q_slL, q_slO, q_slA, q_slAo, q_slAl, q_ixR, q_ixL, q_ixO, q_ixA, q_appA, q_appAo, q_appR, q_emR, q_zipT, q_zipL, q_some, q_fn1, q_fn2, q_fn3, q_fn4, q_pn0, q_pn1, q_pn2, q_pn3, q_scaI, q_scaS, q_scaB, q_scaN, q_fnD, q_all0, q_all1, q_all2, q_all3, q_all4, q_all5, q_wipe0, q_wipe, q_start, q_eqI, q_eqX, q_eqB, q_onB, q_at0, q_at1, q_at2, q_at3, q_at4, q_tup, q_strT, q_str, q_int, q_bool, List.length_cons, List.length_nil, List.map_cons, List.map_nil, List.replicate, List.cons_append, List.nil_append, List.getD_cons_zero, List.getD_cons_succ, List.getD_nil, List.set_cons_zero, List.set_cons_succ, List.set_nil, cond_true, cond_false, Nat.reduceAdd, Nat.reduceSub, Nat.sub_self, Nat.add_one_sub_one, Bool.not_true, Bool.not_false, true_and, and_true, Bool.false_eq_true, if_false, reduceIte, List.length_map, e1, e2]
    refine ⟨rfl, lcD_map (δ0 := ⟨[some (.dat (.tuple (fs.map Tab.fdata))), some (.fn a), none, none, none], fun _ => none⟩) (fun _ => .bool true) rfl (by rw [List.length_map]; show 0 + _ ≤ _; omega) ?_ ?_⟩
    · intro d hd k hk
      obtain ⟨f, hf, rfl⟩ := List.mem_map.mp hd
      obtain ⟨n1, n2, n3⟩ := hn f hf
      have e3 : isShaped (.tuple [.str f.1, .int f.2]) 2 = true := rfl
      have e4 : nameD (.str f.1) = true := n1
      have e5 : isFrom (.int f.2) 1 8 = true := isFrom_in n2 n3
      have e6 : f.1.length ≤ sizeLine := Nat.le_trans (isName_len n1) (by decide)
      simp only [at_mk, put_mk, know_mk, q_var, q_vdat, q_vpen, q_vown, q_vfn, q_vref, q_asD, q_asDo, q_asDa, q_aown, q_adat, q_asA, q_asAp, q_asAf, q_asAr, q_asAo, q_asAa, q_asS, q_asSo, q_asSp, q_asSf, q_asSr, q_asSa, q_asR, q_asRr, q_asRo, q_onD, q_onR, q_inOb, q_inObr, q_inObf, q_onT, q_onL, q_onI, q_onX, q_onBo, q_onTd, q_seqL, q_seqT, q_intI, q_intB, q_none, q_noneR, q_one, q_oneS, q_seeL, q_seeT, q_seeO, q_seeA, q_seeAo, q_seeAl, q_seeAt, q_srL, q_srO, q_srA, q_lenS, q_lenO, q_lenA, q_lenR, q_slL, q_slO, q_slA, q_slAo, q_slAl, q_ixR, q_ixL, q_ixO, q_ixA, q_appA, q_appAo, q_appR, q_emR, q_zipT, q_zipL, q_some, q_fn1, q_fn2, q_fn3, q_fn4, q_pn0, q_pn1, q_pn2, q_pn3, q_scaI, q_scaS, q_scaB, q_scaN, q_fnD, q_all0, q_all1, q_all2, q_all3, q_all4, q_all5, q_wipe0, q_wipe, q_start, q_eqI, q_eqX, q_eqB, q_onB, q_at0, q_at1, q_at2, q_at3, q_at4, q_tup, q_strT, q_str, q_int, q_bool, List.length_cons, List.length_nil, List.map_cons, List.map_nil, List.replicate, List.cons_append, List.nil_append, List.getD_cons_zero, List.getD_cons_succ, List.getD_nil, List.set_cons_zero, List.set_cons_succ, List.set_nil, cond_true, cond_false, Nat.reduceAdd, Nat.reduceSub, Nat.sub_self, Nat.add_one_sub_one, Bool.not_true, Bool.not_false, true_and, and_true, Bool.false_eq_true, if_false, reduceIte, Tab.fdata, e3, e4, e5, q_fnS eG]
      exact ⟨fun z hz => by cases hz; exact e6, hk _ rfl⟩
    · refine onBs_trues ?_
      simp only [at_mk, put_mk, know_mk, q_var, q_vdat, q_vpen, q_vown, q_vfn, q_vref, q_asD, q_asDo, q_asDa, q_aown, q_adat, q_asA, q_asAp, q_asAf, q_asAr, q_asAo, q_asAa, q_asS, q_asSo, q_asSp, q_asSf, q_asSr, q_asSa, q_asR, q_asRr, q_asRo, q_onD, q_onR, q_inOb, q_inObr, q_inObf, q_onT, q_onL, q_onI, q_onX, q_onBo, q_onTd, q_seqL, q_seqT, q_intI, q_intB, q_none, q_noneR, q_one, q_oneS, q_seeL, q_seeT, q_seeO, q_seeA, q_seeAo, q_seeAl, q_seeAt, q_srL, q_srO, q_srA, q_lenS, q_lenO, q_lenA, q_lenR, q_slL, q_slO, q_slA, q_slAo, q_slAl, q_ixR, q_ixL, q_ixO, q_ixA, q_appA, q_appAo, q_appR, q_emR, q_zipT, q_zipL, q_some, q_fn1, q_fn2, q_fn3, q_fn4, q_pn0, q_pn1, q_pn2, q_pn3, q_scaI, q_scaS, q_scaB, q_scaN, q_fnD, q_all0, q_all1, q_all2, q_all3, q_all4, q_all5, q_wipe0, q_wipe, q_start, q_eqI, q_eqX, q_eqB, q_onB, q_at0, q_at1, q_at2, q_at3, q_at4, q_tup, q_strT, q_str, q_int, q_bool, List.length_cons, List.length_nil, List.map_cons, List.map_nil, List.replicate, List.cons_append, List.nil_append, List.getD_cons_zero, List.getD_cons_succ, List.getD_nil, List.set_cons_zero, List.set_cons_succ, List.set_nil, cond_true, cond_false, Nat.reduceAdd, Nat.reduceSub, Nat.sub_self, Nat.add_one_sub_one, Bool.not_true, Bool.not_false, true_and, and_true, Bool.false_eq_true, if_false, reduceIte, all_trues]
      refine ⟨rfl, lcD_map (δ0 := ⟨[some (.dat (.tuple (fs.map Tab.fdata))), some (.fn a), none, none, none], fun _ => none⟩) (fun d => match d with | .tuple (x :: _) => x | _ => d) rfl (by rw [List.length_map]; show 0 + _ ≤ _; omega) ?_ ?_⟩
      · intro d hd k hk
        obtain ⟨f, hf, rfl⟩ := List.mem_map.mp hd
        have := hk ⟨[some (.dat (.tuple (fs.map Tab.fdata))), some (.fn a), none, some (.dat (.str f.1)), some (.dat (.int f.2))], fun _ => none⟩ rfl
        simp only [at_mk, put_mk, know_mk, q_var, q_vdat, q_vpen, q_vown, q_vfn, q_vref, q_asD, q_asDo, q_asDa, q_aown, q_adat, q_asA, q_asAp, q_asAf, q_asAr, q_asAo, q_asAa, q_asS, q_asSo, q_asSp, q_asSf, q_asSr, q_asSa, q_asR, q_asRr, q_asRo, q_onD, q_onR, q_inOb, q_inObr, q_inObf, q_onT, q_onL, q_onI, q_onX, q_onBo, q_onTd, q_seqL, q_seqT, q_intI, q_intB, q_none, q_noneR, q_one, q_oneS, q_seeL, q_seeT, q_seeO, q_seeA, q_seeAo, q_seeAl, q_seeAt, q_srL, q_srO, q_srA, q_lenS, q_lenO, q_lenA, q_lenR, q_slL, q_slO, q_slA, q_slAo, q_slAl, q_ixR, q_ixL, q_ixO, q_ixA, q_appA, q_appAo, q_appR, q_emR, q_zipT, q_zipL, q_some, q_fn1, q_fn2, q_fn3, q_fn4, q_pn0, q_pn1, q_pn2, q_pn3, q_scaI, q_scaS, q_scaB, q_scaN, q_fnD, q_all0, q_all1, q_all2, q_all3, q_all4, q_all5, q_wipe0, q_wipe, q_start, q_eqI, q_eqX, q_eqB, q_onB, q_at0, q_at1, q_at2, q_at3, q_at4, q_tup, q_strT, q_str, q_int, q_bool, List.length_cons, List.length_nil, List.map_cons, List.map_nil, List.replicate, List.cons_append, List.nil_append, List.getD_cons_zero, List.getD_cons_succ, List.getD_nil, List.set_cons_zero, List.set_cons_succ, List.set_nil, cond_true, cond_false, Nat.reduceAdd, Nat.reduceSub, Nat.sub_self, Nat.add_one_sub_one, Bool.not_true, Bool.not_false, true_and, and_true, Bool.false_eq_true, if_false, reduceIte, Tab.fdata]
        exact this
      · rw [List.nil_append, List.map_map]
        have em : fs.map ((fun d : PyData => match d with | .tuple (x :: _) => x | _ => d) ∘ Tab.fdata) = (fs.map (·.1)).map PyData.str := by
          rw [List.map_map]
          rfl
        rw [em]
        refine onXs_strs ⟨by rw [List.length_map]; omega, ?_⟩
        rw [unl_nodup nd _ (Nat.le_refl _), decide_eq_true rfl]
        exact q
  · exact hg.elim
theorem cal_is_table' (T : UTxt K mg fb) : Cal P w K mg base 5 "is_table" (spD K 1 (fn1 fun d Φ => ∃ t : Tab, t.ok ∧ d = t.data ∧ Φ (.bool true))) := by
  have c_is_shaped := cal_is_shaped' (P := P) (w := w) (base := base) T
  have c_is_name := cal_is_name' (P := P) (w := w) (base := base) T
  have c_is_from := cal_is_from' (P := P) (w := w) (base := base) T
  have c_are_pairs := cal_are_pairs' (P := P) (w := w) (base := base) T
  refine T.d_is_table.cal sc_is_table (fun vs H Q E h => h.1) (fun f cdv A outer s H vs Q E hr h => ?_)
  refine ⟨_, (pss_cons (ps_if (PW.pt (pw_or (pt_not (pt_val (pe_c c_is_shaped hr (by first | decide | omega) (by rfl) (pa_cons (pv 0) (pa_cons pe_int pa_nil))))) (pw_or (pt_not (pt_val (pe_c c_is_name hr (by first | decide | omega) (by rfl) (pa_cons (pe_ix (ix_tupK K (by rfl)) (pv 0) pe_int (fun _ _ => rfl)) pa_nil)))) (pw_or1 (pt_not (pt_val (pe_c c_is_from hr (by first | decide | omega) (by rfl) (pa_cons (pe_ix (ix_tupK K (by rfl)) (pv 0) pe_int (fun _ _ => rfl)) (pa_cons pe_int (pa_cons (pe_gint rfl T.g_MOST_MANY) pa_nil))))))))))
  (pss_one (ps_ret pe_bl))
  pss_nil)
  (pss_one (ps_ret (pe_c c_are_pairs hr (by first | decide | omega) (by rfl) (pa_cons (pe_ix (ix_tupK K (by rfl)) (pv 0) pe_int (fun _ _ => rfl)) (pa_cons (pe_globF rfl T.g_are_bits) pa_nil)))))), ?_⟩
  refine run_D h fun Γ as Φ hg => ?_
  obtain ⟨d, rfl, t, ok, rfl, q⟩ := of_fn1 hg
  have e1 : isShaped t.data 3 = true := rfl
  have e2 : nameD (.str t.name) = true := ok.name
  have e3 : isFrom (.int t.many) 1 6 = true := isFrom_in ok.many.1 ok.many.2
  have e4 : t.name.length ≤ sizeLine := Nat.le_trans (isName_len ok.name) (by decide)
  have e5 : isShaped (.tuple [.str t.name, .int t.many, .tuple (t.fields.map Tab.fdata)]) 3 = true := rfl
  simp only [at_mk, put_mk, know_mk, q_var, q_vdat, q_vpen, q_vown, q_vfn, q_vref, q_asD, q_asDo, q_asDa, q_aown, q_adat, q_asA, q_asAp, q_asAf, q_asAr, q_asAo, q_asAa, q_asS, q_asSo, q_asSp, q_asSf, q_asSr, q_asSa, q_asR, q_asRr, q_asRo, q_onD, q_onR, q_inOb, q_inObr, q_inObf, q_onT, q_onL, q_onI, q_onX, q_onBo, q_onTd, q_seqL, q_seqT, q_intI, q_intB, q_none, q_noneR, q_one, q_oneS, q_seeL, q_seeT, q_seeO, q_seeA, q_seeAo, q_seeAl, q_seeAt, q_srL, q_srO, q_srA, q_lenS, q_lenO, q_lenA, q_lenR, q_slL, q_slO, q_slA, q_slAo, q_slAl, q_ixR, q_ixL, q_ixO, q_ixA, q_appA, q_appAo, q_appR, q_emR, q_zipT, q_zipL, q_some, q_fn1, q_fn2, q_fn3, q_fn4, q_pn0, q_pn1, q_pn2, q_pn3, q_scaI, q_scaS, q_scaB, q_scaN, q_fnD, q_all0, q_all1, q_all2, q_all3, q_all4, q_all5, q_wipe0, q_wipe, q_start, q_eqI, q_eqX, q_eqB, q_onB, q_at0, q_at1, q_at2, q_at3, q_at4, q_tup, q_strT, q_str, q_int, q_bool, List.length_cons, List.length_nil, List.map_cons, List.map_nil, List.replicate, List.cons_append, List.nil_append, List.getD_cons_zero, List.getD_cons_succ, List.getD_nil, List.set_cons_zero, List.set_cons_succ, List.set_nil, cond_true, cond_false, Nat.reduceAdd, Nat.reduceSub, Nat.sub_self, Nat.add_one_sub_one, Bool.not_true, Bool.not_false, true_and, and_true, Bool.false_eq_true, if_false, reduceIte, Tab.data, e2, e3, e5]
  exact ⟨fun z hz => by cases hz; exact e4, t.fields, ⟨ok.few, ok.names, ok.unlike⟩, rfl, q⟩
theorem opsL_in {z : Str} (h : z ∈ opsL) {k : Bool → Prop} (hk : k true) : inD (.str z) (opsL.map PyData.str) k := by
  refine inD_texts ?_
  rw [decide_eq_true h]
  exact hk
theorem headed_op {z : Str} (h : z ∈ opsL) {x : Str} (hx : x ∉ opsL) (n : Int) (ds : List PyData) : isHeaded (.tuple (.str z :: ds)) x n = false := by
  have ne : z ≠ x := fun e => hx (by rw [← e]; exact h)
  show (_ && decide (z = x)) = false
  rw [decide_eq_false ne, Bool.and_false]
theorem cal_is_expression' (T : UTxt K mg fb) (n : Nat) : Cal P w K mg base (4 + n) "is_expression" (spD K 1 (fn1 fun d Φ => ∃ e : Ex, e.ok ∧ e.dep ≤ n ∧ d = e.data ∧ Φ (.bool true))) := by
  have c_is_shaped := cal_is_shaped' (P := P) (w := w) (base := base) T
  have c_is_headed := cal_is_headed' (P := P) (w := w) (base := base) T
  have c_is_name := cal_is_name' (P := P) (w := w) (base := base) T
  have c_is_from := cal_is_from' (P := P) (w := w) (base := base) T
  have c_is_expression : Cal P w K mg base (3 + n) "is_expression" (spD K 1 (fn1 fun d Φ => ∃ e : Ex, e.ok ∧ e.dep < n ∧ d = e.data ∧ Φ (.bool true))) := by
    cases n with
    | zero =>
      exact T.d_is_expression.cal sc_is_expression (fun vs H Q E h => h.1) (fun f cdv A outer s H vs Q E hr h => (spD_no (fun as Φ hg => by
        obtain ⟨d, rfl, e, ok, lt, _⟩ := of_fn1 hg
        exact absurd lt (Nat.not_lt_zero _)) h).elim)
    | succ n =>
      refine (cal_is_expression' T n).imp (spD_imp fun as Φ hg => ?_) (by omega)
      obtain ⟨d, rfl, e, ok, lt, r⟩ := of_fn1 hg
      exact ⟨e, ok, by omega, r⟩
  have e4 : 4 + n = 3 + n + 1 := by omega
  rw [e4]
  refine T.d_is_expression.cal sc_is_expression (fun vs H Q E h => h.1) (fun f cdv A outer s H vs Q E hr h => ?_)
  refine ⟨_, (pss_cons (ps_if (pt_val (pe_c c_is_headed hr (by first | decide | omega) (by rfl) (pa_cons (pv 0) (pa_cons pe_str (pa_cons pe_int pa_nil)))))
  (pss_one (ps_ret (pe_c c_is_from hr (by first | decide | omega) (by rfl) (pa_cons (pe_ix (ix_tupK K (by rfl)) (pv 0) pe_int (fun _ _ => rfl)) (pa_cons pe_int (pa_cons (pe_gint rfl T.g_MOST_VALUE) pa_nil))))))
  pss_nil)
  (pss_cons (ps_if (pt_val (pe_c c_is_headed hr (by first | decide | omega) (by rfl) (pa_cons (pv 0) (pa_cons pe_str (pa_cons pe_int pa_nil)))))
  (pss_one (ps_ret (pe_c c_is_name hr (by first | decide | omega) (by rfl) (pa_cons (pe_ix (ix_tupK K (by rfl)) (pv 0) pe_int (fun _ _ => rfl)) pa_nil))))
  pss_nil)
  (pss_cons (ps_if (PW.pt (pw_or (pt_not (pt_val (pe_c c_is_shaped hr (by first | decide | omega) (by rfl) (pa_cons (pv 0) (pa_cons pe_int pa_nil))))) (pw_or (pt_not (pt_val (pe_callB (call_isiK' K (by rfl)) (by rfl) T.z_isinstance bt_isinstance (pa_cons (pe_ix (ix_tupK K (by rfl)) (pv 0) pe_int (fun _ _ => rfl)) (pa_cons (pe_bltn (v := .ty "str") rfl T.z_str bt_str rfl) pa_nil))))) (pw_or1 (pt_cmpR (op_notIn_seqK K (by rfl)) (pe_ix (ix_tupK K (by rfl)) (pv 0) pe_int (fun _ _ => rfl)) (pe_gtup K rfl T.g_OPERATIONS) (by rfl))))))
  (pss_one (ps_ret pe_bl))
  pss_nil)
  (pss_one (ps_ret (pe_and (pe_c c_is_expression hr (by first | decide | omega) (by rfl) (pa_cons (pe_ix (ix_tupK K (by rfl)) (pv 0) pe_int (fun _ _ => rfl)) pa_nil)) (pe_one (pe_c c_is_expression hr (by first | decide | omega) (by rfl) (pa_cons (pe_ix (ix_tupK K (by rfl)) (pv 0) pe_int (fun _ _ => rfl)) pa_nil))))))))), ?_⟩
  refine run_D h fun Γ as Φ hg => ?_
  obtain ⟨d, rfl, e, ok, hd, rfl, q⟩ := of_fn1 hg
  cases e with
  | num m =>
    have e1 : isHeaded (.tuple [.str "num", .int m]) "num" 2 = true := rfl
    have e2 : isFrom (.int m) 0 255 = true := isFrom_in ok.1 ok.2
    simp only [at_mk, put_mk, know_mk, q_var, q_vdat, q_vpen, q_vown, q_vfn, q_vref, q_asD, q_asDo, q_asDa, q_aown, q_adat, q_asA, q_asAp, q_asAf, q_asAr, q_asAo, q_asAa, q_asS, q_asSo, q_asSp, q_asSf, q_asSr, q_asSa, q_asR, q_asRr, q_asRo, q_onD, q_onR, q_inOb, q_inObr, q_inObf, q_onT, q_onL, q_onI, q_onX, q_onBo, q_onTd, q_seqL, q_seqT, q_intI, q_intB, q_none, q_noneR, q_one, q_oneS, q_seeL, q_seeT, q_seeO, q_seeA, q_seeAo, q_seeAl, q_seeAt, q_srL, q_srO, q_srA, q_lenS, q_lenO, q_lenA, q_lenR, q_slL, q_slO, q_slA, q_slAo, q_slAl, q_ixR, q_ixL, q_ixO, q_ixA, q_appA, q_appAo, q_appR, q_emR, q_zipT, q_zipL, q_some, q_fn1, q_fn2, q_fn3, q_fn4, q_pn0, q_pn1, q_pn2, q_pn3, q_scaI, q_scaS, q_scaB, q_scaN, q_fnD, q_all0, q_all1, q_all2, q_all3, q_all4, q_all5, q_wipe0, q_wipe, q_start, q_eqI, q_eqX, q_eqB, q_onB, q_at0, q_at1, q_at2, q_at3, q_at4, q_tup, q_strT, q_str, q_int, q_bool, List.length_cons, List.length_nil, List.map_cons, List.map_nil, List.replicate, List.cons_append, List.nil_append, List.getD_cons_zero, List.getD_cons_succ, List.getD_nil, List.set_cons_zero, List.set_cons_succ, List.set_nil, cond_true, cond_false, Nat.reduceAdd, Nat.reduceSub, Nat.sub_self, Nat.add_one_sub_one, Bool.not_true, Bool.not_false, true_and, and_true, Bool.false_eq_true, if_false, reduceIte, Ex.data, e1, e2]
    exact ⟨by decide, q⟩
  | var x =>
    have e1 : isHeaded (.tuple [.str "var", .str x]) "num" 2 = false := rfl
    have e2 : isHeaded (.tuple [.str "var", .str x]) "var" 2 = true := rfl
    have e3 : nameD (.str x) = true := ok
    have e4 : x.length ≤ sizeLine := Nat.le_trans (isName_len ok) (by decide)
    simp only [at_mk, put_mk, know_mk, q_var, q_vdat, q_vpen, q_vown, q_vfn, q_vref, q_asD, q_asDo, q_asDa, q_aown, q_adat, q_asA, q_asAp, q_asAf, q_asAr, q_asAo, q_asAa, q_asS, q_asSo, q_asSp, q_asSf, q_asSr, q_asSa, q_asR, q_asRr, q_asRo, q_onD, q_onR, q_inOb, q_inObr, q_inObf, q_onT, q_onL, q_onI, q_onX, q_onBo, q_onTd, q_seqL, q_seqT, q_intI, q_intB, q_none, q_noneR, q_one, q_oneS, q_seeL, q_seeT, q_seeO, q_seeA, q_seeAo, q_seeAl, q_seeAt, q_srL, q_srO, q_srA, q_lenS, q_lenO, q_lenA, q_lenR, q_slL, q_slO, q_slA, q_slAo, q_slAl, q_ixR, q_ixL, q_ixO, q_ixA, q_appA, q_appAo, q_appR, q_emR, q_zipT, q_zipL, q_some, q_fn1, q_fn2, q_fn3, q_fn4, q_pn0, q_pn1, q_pn2, q_pn3, q_scaI, q_scaS, q_scaB, q_scaN, q_fnD, q_all0, q_all1, q_all2, q_all3, q_all4, q_all5, q_wipe0, q_wipe, q_start, q_eqI, q_eqX, q_eqB, q_onB, q_at0, q_at1, q_at2, q_at3, q_at4, q_tup, q_strT, q_str, q_int, q_bool, List.length_cons, List.length_nil, List.map_cons, List.map_nil, List.replicate, List.cons_append, List.nil_append, List.getD_cons_zero, List.getD_cons_succ, List.getD_nil, List.set_cons_zero, List.set_cons_succ, List.set_nil, cond_true, cond_false, Nat.reduceAdd, Nat.reduceSub, Nat.sub_self, Nat.add_one_sub_one, Bool.not_true, Bool.not_false, true_and, and_true, Bool.false_eq_true, if_false, reduceIte, Ex.data, e1, e2, e3]
    exact ⟨by decide, by decide, fun z hz => by cases hz; exact e4, q⟩
  | op w a b =>
    have e1 := headed_op ok.1 (x := "num") (by decide) 2 [a.data, b.data]
    have e2 := headed_op ok.1 (x := "var") (by decide) 2 [a.data, b.data]
    have e3 : isShaped (.tuple [.str w, a.data, b.data]) 3 = true := rfl
    have hd' : max a.dep b.dep + 1 ≤ n := hd
    simp only [at_mk, put_mk, know_mk, q_var, q_vdat, q_vpen, q_vown, q_vfn, q_vref, q_asD, q_asDo, q_asDa, q_aown, q_adat, q_asA, q_asAp, q_asAf, q_asAr, q_asAo, q_asAa, q_asS, q_asSo, q_asSp, q_asSf, q_asSr, q_asSa, q_asR, q_asRr, q_asRo, q_onD, q_onR, q_inOb, q_inObr, q_inObf, q_onT, q_onL, q_onI, q_onX, q_onBo, q_onTd, q_seqL, q_seqT, q_intI, q_intB, q_none, q_noneR, q_one, q_oneS, q_seeL, q_seeT, q_seeO, q_seeA, q_seeAo, q_seeAl, q_seeAt, q_srL, q_srO, q_srA, q_lenS, q_lenO, q_lenA, q_lenR, q_slL, q_slO, q_slA, q_slAo, q_slAl, q_ixR, q_ixL, q_ixO, q_ixA, q_appA, q_appAo, q_appR, q_emR, q_zipT, q_zipL, q_some, q_fn1, q_fn2, q_fn3, q_fn4, q_pn0, q_pn1, q_pn2, q_pn3, q_scaI, q_scaS, q_scaB, q_scaN, q_fnD, q_all0, q_all1, q_all2, q_all3, q_all4, q_all5, q_wipe0, q_wipe, q_start, q_eqI, q_eqX, q_eqB, q_onB, q_at0, q_at1, q_at2, q_at3, q_at4, q_tup, q_strT, q_str, q_int, q_bool, List.length_cons, List.length_nil, List.map_cons, List.map_nil, List.replicate, List.cons_append, List.nil_append, List.getD_cons_zero, List.getD_cons_succ, List.getD_nil, List.set_cons_zero, List.set_cons_succ, List.set_nil, cond_true, cond_false, Nat.reduceAdd, Nat.reduceSub, Nat.sub_self, Nat.add_one_sub_one, Bool.not_true, Bool.not_false, true_and, and_true, Bool.false_eq_true, if_false, reduceIte, Ex.data, e1, e2, e3]
    refine ⟨by decide, by decide, rfl, opsL_in ok.1 ?_⟩
    simp only [at_mk, put_mk, know_mk, q_var, q_vdat, q_vpen, q_vown, q_vfn, q_vref, q_asD, q_asDo, q_asDa, q_aown, q_adat, q_asA, q_asAp, q_asAf, q_asAr, q_asAo, q_asAa, q_asS, q_asSo, q_asSp, q_asSf, q_asSr, q_asSa, q_asR, q_asRr, q_asRo, q_onD, q_onR, q_inOb, q_inObr, q_inObf, q_onT, q_onL, q_onI, q_onX, q_onBo, q_onTd, q_seqL, q_seqT, q_intI, q_intB, q_none, q_noneR, q_one, q_oneS, q_seeL, q_seeT, q_seeO, q_seeA, q_seeAo, q_seeAl, q_seeAt, q_srL, q_srO, q_srA, q_lenS, q_lenO, q_lenA, q_lenR, q_slL, q_slO, q_slA, q_slAo, q_slAl, q_ixR, q_ixL, q_ixO, q_ixA, q_appA, q_appAo, q_appR, q_emR, q_zipT, q_zipL, q_some, q_fn1, q_fn2, q_fn3, q_fn4, q_pn0, q_pn1, q_pn2, q_pn3, q_scaI, q_scaS, q_scaB, q_scaN, q_fnD, q_all0, q_all1, q_all2, q_all3, q_all4, q_all5, q_wipe0, q_wipe, q_start, q_eqI, q_eqX, q_eqB, q_onB, q_at0, q_at1, q_at2, q_at3, q_at4, q_tup, q_strT, q_str, q_int, q_bool, List.length_cons, List.length_nil, List.map_cons, List.map_nil, List.replicate, List.cons_append, List.nil_append, List.getD_cons_zero, List.getD_cons_succ, List.getD_nil, List.set_cons_zero, List.set_cons_succ, List.set_nil, cond_true, cond_false, Nat.reduceAdd, Nat.reduceSub, Nat.sub_self, Nat.add_one_sub_one, Bool.not_true, Bool.not_false, true_and, and_true, Bool.false_eq_true, if_false, reduceIte]
    exact ⟨a, ok.2.1, by omega, rfl, b, ok.2.2, by omega, rfl, q⟩
theorem cal_are_params' (T : UTxt K mg fb) : Cal P w K mg base 2 "are_params" (spD K 1 (fn1 fun d Φ => ∃ xs : List Str, (xs.length ≤ 3 ∧ (∀ x ∈ xs, isName x = true) ∧ xs.Nodup) ∧ d = .tuple (xs.map .str) ∧ Φ (.bool true))) := by
  have c_is_name := cal_is_name' (P := P) (w := w) (base := base) T
  have c_are_unlike := cal_are_unlike' (P := P) (w := w) (base := base) T
  refine T.d_are_params.cal sc_are_params (fun vs H Q E h => h.1) (fun f cdv A outer s H vs Q E hr h => ?_)
  refine ⟨_, (pss_cons (ps_if (PW.pt (pw_or (pt_not (pt_val (pe_callB (call_isiK' K (by rfl)) (by rfl) T.z_isinstance bt_isinstance (pa_cons (pv 0) (pa_cons (pe_bltn (v := .ty "tuple") rfl T.z_tuple bt_tuple rfl) pa_nil))))) (pw_or (pt_cmpR op_gt (pe_callB (call_lenK K (by rfl)) (by rfl) T.z_len bt_len (pa_cons (pv 0) pa_nil)) (pe_gint rfl T.g_MOST_THINGS) (nomark _)) (pw_or1 (pt_not (pt_val (pe_callB (cr_allK K (by rfl) (by rfl)) (by rfl) T.z_all bt_all (by exact (pa_cons (pe_lcX [("one", 1)] (by rfl) sc_are_params.nd (pi_tupK K (by rfl) (pv 0)) (blkOk_by (N := ["thing", "one"]) (sc := defScope s_are_params) (by decide +kernel)) (fun _ _ _ _ _ => by exact (pg_nameX 1 sc_are_params.nd rfl (by first | exact .inl rfl | exact .inr rfl) (by first | exact .inr rfl | exact .inl rfl))) (fun _ _ _ _ _ => by exact pts_nil) (fun _ _ _ _ _ => by exact (pe_c c_is_name hr (by first | decide | omega) (by rfl) (pa_cons (pv 1) pa_nil))) (fun _ => rfl)) pa_nil)))))))))
  (pss_one (ps_ret pe_bl))
  pss_nil)
  (pss_one (ps_ret (pe_c c_are_unlike hr (by first | decide | omega) (by rfl) (pa_cons (pv 0) pa_nil))))), ?_⟩
  refine run_D h fun Γ as Φ hg => ?_
  obtain ⟨d, rfl, xs, ⟨l3, hn, nd⟩, rfl, q⟩ := of_fn1 hg
  have e1 : decide ((3 : Int) < (xs.length : Int)) = false := decide_eq_false (by omega)
  simp only [at_mk, put_mk, know_mk, q_var, q_vdat, q_vpen, q_vown, q_vfn, q_vref, q_asD, q_asDo, q_asDa, q_aown, q_adat, q_asA, q_asAp, q_asAf, q_asAr, q_asAo, q_asAa, q_asS, q_asSo, q_asSp, q_asSf, q_asSr, q_asSa, q_asR, q_asRr, q_asRo, q_onD, q_onR, q_inOb, q_inObr, q_inObf, q_onT, q_onL, q_onI, q_onX, q_onBo, q_onTd, q_seqL, q_seqT, q_intI, q_intB, q_none, q_noneR, q_one, q_oneS, q_seeL, q_seeT, q_seeO, q_seeA, q_seeAo, q_seeAl, q_seeAt, q_srL, q_srO, q_srA, q_lenS, q_lenO, q_lenA, q_lenR, q_slL, q_slO, q_slA, q_slAo, q_slAl, q_ixR, q_ixL, q_ixO, q_ixA, q_appA, q_appAo, q_appR, q_emR, q_zipT, q_zipL, q_some, q_fn1, q_fn2, q_fn3, q_fn4, q_pn0, q_pn1, q_pn2, q_pn3, q_scaI, q_scaS, q_scaB, q_scaN, q_fnD, q_all0, q_all1, q_all2, q_all3, q_all4, q_all5, q_wipe0, q_wipe, q_start, q_eqI, q_eqX, q_eqB, q_onB, q_at0, q_at1, q_at2, q_at3, q_at4, q_tup, q_strT, q_str, q_int, q_bool, List.length_cons, List.length_nil, List.map_cons, List.map_nil, List.replicate, List.cons_append, List.nil_append, List.getD_cons_zero, List.getD_cons_succ, List.getD_nil, List.set_cons_zero, List.set_cons_succ, List.set_nil, cond_true, cond_false, Nat.reduceAdd, Nat.reduceSub, Nat.sub_self, Nat.add_one_sub_one, Bool.not_true, Bool.not_false, true_and, and_true, Bool.false_eq_true, if_false, reduceIte, List.length_map, e1]
  refine ⟨rfl, lcD_map (δ0 := ⟨[some (.dat (.tuple (xs.map .str))), none], fun _ => none⟩) (fun _ => .bool true) rfl (by rw [List.length_map]; show 0 + _ ≤ _; omega) ?_ ?_⟩
  · intro d hd k hk
    obtain ⟨x, hx, rfl⟩ := List.mem_map.mp hd
    have e4 : nameD (.str x) = true := hn x hx
    have e6 : x.length ≤ sizeLine := Nat.le_trans (isName_len (hn x hx)) (by decide)
    simp only [at_mk, put_mk, know_mk, q_var, q_vdat, q_vpen, q_vown, q_vfn, q_vref, q_asD, q_asDo, q_asDa, q_aown, q_adat, q_asA, q_asAp, q_asAf, q_asAr, q_asAo, q_asAa, q_asS, q_asSo, q_asSp, q_asSf, q_asSr, q_asSa, q_asR, q_asRr, q_asRo, q_onD, q_onR, q_inOb, q_inObr, q_inObf, q_onT, q_onL, q_onI, q_onX, q_onBo, q_onTd, q_seqL, q_seqT, q_intI, q_intB, q_none, q_noneR, q_one, q_oneS, q_seeL, q_seeT, q_seeO, q_seeA, q_seeAo, q_seeAl, q_seeAt, q_srL, q_srO, q_srA, q_lenS, q_lenO, q_lenA, q_lenR, q_slL, q_slO, q_slA, q_slAo, q_slAl, q_ixR, q_ixL, q_ixO, q_ixA, q_appA, q_appAo, q_appR, q_emR, q_zipT, q_zipL, q_some, q_fn1, q_fn2, q_fn3, q_fn4, q_pn0, q_pn1, q_pn2, q_pn3, q_scaI, q_scaS, q_scaB, q_scaN, q_fnD, q_all0, q_all1, q_all2, q_all3, q_all4, q_all5, q_wipe0, q_wipe, q_start, q_eqI, q_eqX, q_eqB, q_onB, q_at0, q_at1, q_at2, q_at3, q_at4, q_tup, q_strT, q_str, q_int, q_bool, List.length_cons, List.length_nil, List.map_cons, List.map_nil, List.replicate, List.cons_append, List.nil_append, List.getD_cons_zero, List.getD_cons_succ, List.getD_nil, List.set_cons_zero, List.set_cons_succ, List.set_nil, cond_true, cond_false, Nat.reduceAdd, Nat.reduceSub, Nat.sub_self, Nat.add_one_sub_one, Bool.not_true, Bool.not_false, true_and, and_true, Bool.false_eq_true, if_false, reduceIte, e4]
    exact ⟨fun z hz => by cases hz; exact e6, hk _ rfl⟩
  · refine onBs_trues ?_
    simp only [at_mk, put_mk, know_mk, q_var, q_vdat, q_vpen, q_vown, q_vfn, q_vref, q_asD, q_asDo, q_asDa, q_aown, q_adat, q_asA, q_asAp, q_asAf, q_asAr, q_asAo, q_asAa, q_asS, q_asSo, q_asSp, q_asSf, q_asSr, q_asSa, q_asR, q_asRr, q_asRo, q_onD, q_onR, q_inOb, q_inObr, q_inObf, q_onT, q_onL, q_onI, q_onX, q_onBo, q_onTd, q_seqL, q_seqT, q_intI, q_intB, q_none, q_noneR, q_one, q_oneS, q_seeL, q_seeT, q_seeO, q_seeA, q_seeAo, q_seeAl, q_seeAt, q_srL, q_srO, q_srA, q_lenS, q_lenO, q_lenA, q_lenR, q_slL, q_slO, q_slA, q_slAo, q_slAl, q_ixR, q_ixL, q_ixO, q_ixA, q_appA, q_appAo, q_appR, q_emR, q_zipT, q_zipL, q_some, q_fn1, q_fn2, q_fn3, q_fn4, q_pn0, q_pn1, q_pn2, q_pn3, q_scaI, q_scaS, q_scaB, q_scaN, q_fnD, q_all0, q_all1, q_all2, q_all3, q_all4, q_all5, q_wipe0, q_wipe, q_start, q_eqI, q_eqX, q_eqB, q_onB, q_at0, q_at1, q_at2, q_at3, q_at4, q_tup, q_strT, q_str, q_int, q_bool, List.length_cons, List.length_nil, List.map_cons, List.map_nil, List.replicate, List.cons_append, List.nil_append, List.getD_cons_zero, List.getD_cons_succ, List.getD_nil, List.set_cons_zero, List.set_cons_succ, List.set_nil, cond_true, cond_false, Nat.reduceAdd, Nat.reduceSub, Nat.sub_self, Nat.add_one_sub_one, Bool.not_true, Bool.not_false, true_and, and_true, Bool.false_eq_true, if_false, reduceIte, all_trues]
    refine onXs_strs ⟨by omega, ?_⟩
    rw [unl_nodup nd _ (Nat.le_refl _), decide_eq_true rfl]
    exact q
end
end B


set_option synthInstance.maxHeartbeats 0
set_option synthInstance.maxSize 100000
/-! programs.py: Scope, is_program. -/
namespace B
open PySem PySem.Spec PyProof.Rows L2
abbrev s_Scope_init : Stmt := (inClass (topS 32) 0)
theorem sc_Scope_init : FnScope ["self"] ["self"] (defScope s_Scope_init) := ⟨rfl, rfl, rfl, by decide +kernel, rfl, by decide +kernel, by decide +kernel⟩
abbrev s_Scope_takes_table : Stmt := (inClass (topS 32) 1)
theorem sc_Scope_takes_table : FnScope ["self", "thing", "name", "bits"] ["self", "thing"] (defScope s_Scope_takes_table) := ⟨rfl, rfl, rfl, by decide +kernel, rfl, by decide +kernel, by decide +kernel⟩
abbrev s_Scope_takes_view : Stmt := (inClass (topS 32) 2)
theorem sc_Scope_takes_view : FnScope ["self", "thing", "name", "old"] ["self", "thing"] (defScope s_Scope_takes_view) := ⟨rfl, rfl, rfl, by decide +kernel, rfl, by decide +kernel, by decide +kernel⟩
abbrev s_Scope_is_over : Stmt := (inClass (topS 32) 3)
theorem sc_Scope_is_over : FnScope ["self", "thing"] ["self", "thing"] (defScope s_Scope_is_over) := ⟨rfl, rfl, rfl, by decide +kernel, rfl, by decide +kernel, by decide +kernel⟩
abbrev s_Scope_is_field : Stmt := (inClass (topS 32) 4)
theorem sc_Scope_is_field : FnScope ["self", "over", "thing"] ["self", "over", "thing"] (defScope s_Scope_is_field) := ⟨rfl, rfl, rfl, by decide +kernel, rfl, by decide +kernel, by decide +kernel⟩
abbrev s_Scope_is_plain : Stmt := (inClass (topS 32) 5)
theorem sc_Scope_is_plain : FnScope ["self", "thing"] ["self", "thing"] (defScope s_Scope_is_plain) := ⟨rfl, rfl, rfl, by decide +kernel, rfl, by decide +kernel, by decide +kernel⟩
abbrev s_Scope_is_row : Stmt := (inClass (topS 32) 6)
theorem sc_Scope_is_row : FnScope ["self", "thing"] ["self", "thing"] (defScope s_Scope_is_row) := ⟨rfl, rfl, rfl, by decide +kernel, rfl, by decide +kernel, by decide +kernel⟩
abbrev s_Scope_are_rows : Stmt := (inClass (topS 32) 7)
theorem sc_Scope_are_rows : FnScope ["self", "thing", "one"] ["self", "thing"] (defScope s_Scope_are_rows) := ⟨rfl, rfl, rfl, by decide +kernel, rfl, by decide +kernel, by decide +kernel⟩
abbrev s_is_program : Stmt := (topS 34)
theorem sc_is_program : FnScope ["thing", "scope", "one"] ["thing"] (defScope s_is_program) := ⟨rfl, rfl, rfl, by decide +kernel, rfl, by decide +kernel, by decide +kernel⟩
abbrev s_need_program : Stmt := (topS 35)
theorem sc_need_program : FnScope ["thing"] ["thing"] (defScope s_need_program) := ⟨rfl, rfl, rfl, by decide +kernel, rfl, by decide +kernel, by decide +kernel⟩
structure STxt (K : PySem.W.Frag) (mg : Str → Option Value) (fb CSc : Addr) : Prop extends UTxt K mg fb where
  i_Scope : IniAt K mg "Scope" CSc "Scope.__init__" s_Scope_init ["self"]
  m_takes_table : MetAt K CSc "takes_table" "Scope.takes_table" s_Scope_takes_table ["self", "thing"]
  m_takes_view : MetAt K CSc "takes_view" "Scope.takes_view" s_Scope_takes_view ["self", "thing"]
  m_is_over : MetAt K CSc "is_over" "Scope.is_over" s_Scope_is_over ["self", "thing"]
  m_is_field : MetAt K CSc "is_field" "Scope.is_field" s_Scope_is_field ["self", "over", "thing"]
  m_is_plain : MetAt K CSc "is_plain" "Scope.is_plain" s_Scope_is_plain ["self", "thing"]
  m_is_row : MetAt K CSc "is_row" "Scope.is_row" s_Scope_is_row ["self", "thing"]
  m_are_rows : MetAt K CSc "are_rows" "Scope.are_rows" s_Scope_are_rows ["self", "thing"]
  cSc : Cls K CSc
  nSc_seen : NoAttr K CSc "seen"
  nSc_tables : NoAttr K CSc "tables"
  d_is_program : DefAt K mg "is_program" s_is_program ["thing"]
  d_need_program : DefAt K mg "need_program" s_need_program ["thing"]
theorem hd_set_set {x1 x2 : PyData} : isHeaded (.tuple [.str "set", x1, x2]) "set" 3 = true := rfl
theorem hd_set_tell {x1 x2 : PyData} : isHeaded (.tuple [.str "set", x1, x2]) "tell" 2 = false := rfl
theorem hd_set_get {x1 x2 : PyData} : isHeaded (.tuple [.str "set", x1, x2]) "get" 5 = false := rfl
theorem hd_set_put {x1 x2 : PyData} : isHeaded (.tuple [.str "set", x1, x2]) "put" 5 = false := rfl
theorem hd_set_hand {x1 x2 : PyData} : isHeaded (.tuple [.str "set", x1, x2]) "hand" 3 = false := rfl
theorem hd_set_each {x1 x2 : PyData} : isHeaded (.tuple [.str "set", x1, x2]) "each" 4 = false := rfl
theorem hd_set_times {x1 x2 : PyData} : isHeaded (.tuple [.str "set", x1, x2]) "times" 4 = false := rfl
theorem hd_set_when {x1 x2 : PyData} : isHeaded (.tuple [.str "set", x1, x2]) "when" 4 = false := rfl
theorem hd_tell_set {x1 : PyData} : isHeaded (.tuple [.str "tell", x1]) "set" 3 = false := rfl
theorem hd_tell_tell {x1 : PyData} : isHeaded (.tuple [.str "tell", x1]) "tell" 2 = true := rfl
theorem hd_tell_get {x1 : PyData} : isHeaded (.tuple [.str "tell", x1]) "get" 5 = false := rfl
theorem hd_tell_put {x1 : PyData} : isHeaded (.tuple [.str "tell", x1]) "put" 5 = false := rfl
theorem hd_tell_hand {x1 : PyData} : isHeaded (.tuple [.str "tell", x1]) "hand" 3 = false := rfl
theorem hd_tell_each {x1 : PyData} : isHeaded (.tuple [.str "tell", x1]) "each" 4 = false := rfl
theorem hd_tell_times {x1 : PyData} : isHeaded (.tuple [.str "tell", x1]) "times" 4 = false := rfl
theorem hd_tell_when {x1 : PyData} : isHeaded (.tuple [.str "tell", x1]) "when" 4 = false := rfl
theorem hd_get_set {x1 x2 x3 x4 : PyData} : isHeaded (.tuple [.str "get", x1, x2, x3, x4]) "set" 3 = false := rfl
theorem hd_get_tell {x1 x2 x3 x4 : PyData} : isHeaded (.tuple [.str "get", x1, x2, x3, x4]) "tell" 2 = false := rfl
theorem hd_get_get {x1 x2 x3 x4 : PyData} : isHeaded (.tuple [.str "get", x1, x2, x3, x4]) "get" 5 = true := rfl
theorem hd_get_put {x1 x2 x3 x4 : PyData} : isHeaded (.tuple [.str "get", x1, x2, x3, x4]) "put" 5 = false := rfl
theorem hd_get_hand {x1 x2 x3 x4 : PyData} : isHeaded (.tuple [.str "get", x1, x2, x3, x4]) "hand" 3 = false := rfl
theorem hd_get_each {x1 x2 x3 x4 : PyData} : isHeaded (.tuple [.str "get", x1, x2, x3, x4]) "each" 4 = false := rfl
theorem hd_get_times {x1 x2 x3 x4 : PyData} : isHeaded (.tuple [.str "get", x1, x2, x3, x4]) "times" 4 = false := rfl
theorem hd_get_when {x1 x2 x3 x4 : PyData} : isHeaded (.tuple [.str "get", x1, x2, x3, x4]) "when" 4 = false := rfl
theorem hd_put_set {x1 x2 x3 x4 : PyData} : isHeaded (.tuple [.str "put", x1, x2, x3, x4]) "set" 3 = false := rfl
theorem hd_put_tell {x1 x2 x3 x4 : PyData} : isHeaded (.tuple [.str "put", x1, x2, x3, x4]) "tell" 2 = false := rfl
theorem hd_put_get {x1 x2 x3 x4 : PyData} : isHeaded (.tuple [.str "put", x1, x2, x3, x4]) "get" 5 = false := rfl
theorem hd_put_put {x1 x2 x3 x4 : PyData} : isHeaded (.tuple [.str "put", x1, x2, x3, x4]) "put" 5 = true := rfl
theorem hd_put_hand {x1 x2 x3 x4 : PyData} : isHeaded (.tuple [.str "put", x1, x2, x3, x4]) "hand" 3 = false := rfl
theorem hd_put_each {x1 x2 x3 x4 : PyData} : isHeaded (.tuple [.str "put", x1, x2, x3, x4]) "each" 4 = false := rfl
theorem hd_put_times {x1 x2 x3 x4 : PyData} : isHeaded (.tuple [.str "put", x1, x2, x3, x4]) "times" 4 = false := rfl
theorem hd_put_when {x1 x2 x3 x4 : PyData} : isHeaded (.tuple [.str "put", x1, x2, x3, x4]) "when" 4 = false := rfl
theorem hd_hand_set {x1 x2 : PyData} : isHeaded (.tuple [.str "hand", x1, x2]) "set" 3 = false := rfl
theorem hd_hand_tell {x1 x2 : PyData} : isHeaded (.tuple [.str "hand", x1, x2]) "tell" 2 = false := rfl
theorem hd_hand_get {x1 x2 : PyData} : isHeaded (.tuple [.str "hand", x1, x2]) "get" 5 = false := rfl
theorem hd_hand_put {x1 x2 : PyData} : isHeaded (.tuple [.str "hand", x1, x2]) "put" 5 = false := rfl
theorem hd_hand_hand {x1 x2 : PyData} : isHeaded (.tuple [.str "hand", x1, x2]) "hand" 3 = true := rfl
theorem hd_hand_each {x1 x2 : PyData} : isHeaded (.tuple [.str "hand", x1, x2]) "each" 4 = false := rfl
theorem hd_hand_times {x1 x2 : PyData} : isHeaded (.tuple [.str "hand", x1, x2]) "times" 4 = false := rfl
theorem hd_hand_when {x1 x2 : PyData} : isHeaded (.tuple [.str "hand", x1, x2]) "when" 4 = false := rfl
theorem hd_each_set {x1 x2 x3 : PyData} : isHeaded (.tuple [.str "each", x1, x2, x3]) "set" 3 = false := rfl
theorem hd_each_tell {x1 x2 x3 : PyData} : isHeaded (.tuple [.str "each", x1, x2, x3]) "tell" 2 = false := rfl
theorem hd_each_get {x1 x2 x3 : PyData} : isHeaded (.tuple [.str "each", x1, x2, x3]) "get" 5 = false := rfl
theorem hd_each_put {x1 x2 x3 : PyData} : isHeaded (.tuple [.str "each", x1, x2, x3]) "put" 5 = false := rfl
theorem hd_each_hand {x1 x2 x3 : PyData} : isHeaded (.tuple [.str "each", x1, x2, x3]) "hand" 3 = false := rfl
theorem hd_each_each {x1 x2 x3 : PyData} : isHeaded (.tuple [.str "each", x1, x2, x3]) "each" 4 = true := rfl
theorem hd_each_times {x1 x2 x3 : PyData} : isHeaded (.tuple [.str "each", x1, x2, x3]) "times" 4 = false := rfl
theorem hd_each_when {x1 x2 x3 : PyData} : isHeaded (.tuple [.str "each", x1, x2, x3]) "when" 4 = false := rfl
theorem hd_times_set {x1 x2 x3 : PyData} : isHeaded (.tuple [.str "times", x1, x2, x3]) "set" 3 = false := rfl
theorem hd_times_tell {x1 x2 x3 : PyData} : isHeaded (.tuple [.str "times", x1, x2, x3]) "tell" 2 = false := rfl
theorem hd_times_get {x1 x2 x3 : PyData} : isHeaded (.tuple [.str "times", x1, x2, x3]) "get" 5 = false := rfl
theorem hd_times_put {x1 x2 x3 : PyData} : isHeaded (.tuple [.str "times", x1, x2, x3]) "put" 5 = false := rfl
theorem hd_times_hand {x1 x2 x3 : PyData} : isHeaded (.tuple [.str "times", x1, x2, x3]) "hand" 3 = false := rfl
theorem hd_times_each {x1 x2 x3 : PyData} : isHeaded (.tuple [.str "times", x1, x2, x3]) "each" 4 = false := rfl
theorem hd_times_times {x1 x2 x3 : PyData} : isHeaded (.tuple [.str "times", x1, x2, x3]) "times" 4 = true := rfl
theorem hd_times_when {x1 x2 x3 : PyData} : isHeaded (.tuple [.str "times", x1, x2, x3]) "when" 4 = false := rfl
theorem hd_when_set {x1 x2 x3 : PyData} : isHeaded (.tuple [.str "when", x1, x2, x3]) "set" 3 = false := rfl
theorem hd_when_tell {x1 x2 x3 : PyData} : isHeaded (.tuple [.str "when", x1, x2, x3]) "tell" 2 = false := rfl
theorem hd_when_get {x1 x2 x3 : PyData} : isHeaded (.tuple [.str "when", x1, x2, x3]) "get" 5 = false := rfl
theorem hd_when_put {x1 x2 x3 : PyData} : isHeaded (.tuple [.str "when", x1, x2, x3]) "put" 5 = false := rfl
theorem hd_when_hand {x1 x2 x3 : PyData} : isHeaded (.tuple [.str "when", x1, x2, x3]) "hand" 3 = false := rfl
theorem hd_when_each {x1 x2 x3 : PyData} : isHeaded (.tuple [.str "when", x1, x2, x3]) "each" 4 = false := rfl
theorem hd_when_times {x1 x2 x3 : PyData} : isHeaded (.tuple [.str "when", x1, x2, x3]) "times" 4 = false := rfl
theorem hd_when_when {x1 x2 x3 : PyData} : isHeaded (.tuple [.str "when", x1, x2, x3]) "when" 4 = true := rfl
/-! ### the scope as it stands -/
def scF (sn tb : Addr) : List (Str × Sv) := [("seen", .ref sn), ("tables", .ref tb)]
theorem scF_seen {sn tb : Addr} {k : Sv → Prop} : onF (scF sn tb) "seen" k = k (.ref sn) := rfl
theorem scF_tables {sn tb : Addr} {k : Sv → Prop} : onF (scF sn tb) "tables" k = k (.ref tb) := rfl
def seenE (S : Sco) : List (Key × PyData) := S.seen.map fun p => (.inr p.1, .list (p.2.map .str))
def tabsE (S : Sco) : List Sv := S.tabs.map fun x => .dat (.str x)
structure ScAt (CSc : Addr) (al : Al) (a : Addr) (S : Sco) : Prop where
  ex : ∃ dx sn tb, al a = some (.ins CSc dx (scF sn tb)) ∧ al sn = some (.dK (seenE S)) ∧ al tb = some (.lst (tabsE S))
  few : S.seen.length ≤ 10 ∧ S.tabs.length ≤ 10
def Sco.add (S : Sco) (t : Tab) : Sco := ⟨S.seen ++ [(t.name, t.fields.map (·.1))], S.tabs ++ [t.name]⟩
theorem getE_seen {S : Sco} {o : Str} : getE (seenE S) (.inr o) = (S.fieldsOf o).map fun fs => .list (fs.map .str) := by
  unfold seenE Sco.fieldsOf
  induction S.seen with
  | nil => rfl
  | cons p ps ih =>
    unfold getE at ih ⊢
    rw [List.map_cons, List.find?_cons]
    by_cases z : p.1 = o
    · have e1 : (o == p.1) = true := by rw [z]; exact beq_self_eq_true o
      simp [List.lookup, e1, z]
    · have e1 : (o == p.1) = false := beq_eq_false_iff_ne.mpr fun e => z e.symm
      have e2 : decide ((Sum.inr p.1 : Key) = Sum.inr o) = false := decide_eq_false fun e => z (Sum.inr.inj e)
      simp only [e2, List.lookup, e1]
      exact ih
theorem putE_seen {S : Sco} {t : Tab} (h : S.fieldsOf t.name = none) : putE (seenE S) (.inr t.name) (.list ((t.fields.map (·.1)).map .str)) = seenE (S.add t) := by
  have hn : getE (seenE S) (.inr t.name) = none := by rw [getE_seen, h]; rfl
  unfold putE
  have e : ((seenE S).any fun e => decide (e.1 = Sum.inr t.name)) = false := by
    cases z : (seenE S).any fun e => decide (e.1 = Sum.inr t.name) with
    | false => rfl
    | true =>
      obtain ⟨x, e⟩ := getE_isSome z
      rw [hn] at e
      cases e
  rw [e]
  unfold seenE Sco.add
  simp
section
variable {P : Program} {w : World} {K : PySem.W.Frag} {mg : Str → Option Value} {base : Heap} {fb CSc : Addr}
theorem mak_Scope (T : STxt K mg fb CSc) : Mak P w K mg base 1 "Scope" CSc (spH K 1 fun al as Φ => ∃ a dx, as = [.ref a] ∧ al a = some (.ins CSc dx []) ∧ ∀ al', ScAt CSc al' a ⟨[], []⟩ → Φ al' (.dat .none)) := by
  refine T.i_Scope.mak sc_Scope_init (fun vs H Q E h => h.1) (fun f cdv A outer s H vs Q E hr h => ?_)
  refine ⟨_, (pss_cons (ps_fldK K (by rfl) (pv 0) pe_dnewK rfl)
  (pss_one (ps_fldK K (by rfl) (pv 0) (pe_ref (pe_lst pa_nil)) rfl))), ?_⟩
  refine run_H h fun Γ al as Φ hg => ?_
  obtain ⟨a, dx, rfl, e, q⟩ := hg
  simp only [at_mk, put_mk, know_mk, q_var, q_vdat, q_vpen, q_vown, q_vfn, q_vref, q_asD, q_asDo, q_asDa, q_aown, q_adat, q_asA, q_asAp, q_asAf, q_asAr, q_asAo, q_asAa, q_asS, q_asSo, q_asSp, q_asSf, q_asSr, q_asSa, q_asR, q_asRr, q_asRo, q_onD, q_onR, q_inOb, q_inObr, q_inObf, q_onT, q_onL, q_onI, q_onX, q_onBo, q_onTd, q_seqL, q_seqT, q_intI, q_intB, q_none, q_noneR, q_one, q_oneS, q_seeL, q_seeT, q_seeO, q_seeA, q_seeAo, q_seeAl, q_seeAt, q_srL, q_srO, q_srA, q_lenS, q_lenO, q_lenA, q_lenR, q_slL, q_slO, q_slA, q_slAo, q_slAl, q_ixR, q_ixL, q_ixO, q_ixA, q_appA, q_appAo, q_appR, q_emR, q_zipT, q_zipL, q_some, q_fn1, q_fn2, q_fn3, q_fn4, q_pn0, q_pn1, q_pn2, q_pn3, q_scaI, q_scaS, q_scaB, q_scaN, q_fnD, q_all0, q_all1, q_all2, q_all3, q_all4, q_all5, q_wipe0, q_wipe, q_start, q_eqI, q_eqX, q_eqB, q_onB, q_at0, q_at1, q_at2, q_at3, q_at4, q_tup, q_strT, q_str, q_int, q_bool, List.length_cons, List.length_nil, List.map_cons, List.map_nil, List.replicate, List.cons_append, List.nil_append, List.getD_cons_zero, List.getD_cons_succ, List.getD_nil, List.set_cons_zero, List.set_cons_succ, List.set_nil, cond_true, cond_false, Nat.reduceAdd, Nat.reduceSub, Nat.sub_self, Nat.add_one_sub_one, Bool.not_true, Bool.not_false, true_and, and_true, Bool.false_eq_true, if_false, reduceIte]
  intro p hp
  have np : a ≠ p := al_new e hp
  have e2 : oup al p (.dK []) a = some (.ins CSc dx []) := (oup_ne np).trans e
  simp only [at_mk, put_mk, know_mk, q_var, q_vdat, q_vpen, q_vown, q_vfn, q_vref, q_asD, q_asDo, q_asDa, q_aown, q_adat, q_asA, q_asAp, q_asAf, q_asAr, q_asAo, q_asAa, q_asS, q_asSo, q_asSp, q_asSf, q_asSr, q_asSa, q_asR, q_asRr, q_asRo, q_onD, q_onR, q_inOb, q_inObr, q_inObf, q_onT, q_onL, q_onI, q_onX, q_onBo, q_onTd, q_seqL, q_seqT, q_intI, q_intB, q_none, q_noneR, q_one, q_oneS, q_seeL, q_seeT, q_seeO, q_seeA, q_seeAo, q_seeAl, q_seeAt, q_srL, q_srO, q_srA, q_lenS, q_lenO, q_lenA, q_lenR, q_slL, q_slO, q_slA, q_slAo, q_slAl, q_ixR, q_ixL, q_ixO, q_ixA, q_appA, q_appAo, q_appR, q_emR, q_zipT, q_zipL, q_some, q_fn1, q_fn2, q_fn3, q_fn4, q_pn0, q_pn1, q_pn2, q_pn3, q_scaI, q_scaS, q_scaB, q_scaN, q_fnD, q_all0, q_all1, q_all2, q_all3, q_all4, q_all5, q_wipe0, q_wipe, q_start, q_eqI, q_eqX, q_eqB, q_onB, q_at0, q_at1, q_at2, q_at3, q_at4, q_tup, q_strT, q_str, q_int, q_bool, List.length_cons, List.length_nil, List.map_cons, List.map_nil, List.replicate, List.cons_append, List.nil_append, List.getD_cons_zero, List.getD_cons_succ, List.getD_nil, List.set_cons_zero, List.set_cons_succ, List.set_nil, cond_true, cond_false, Nat.reduceAdd, Nat.reduceSub, Nat.sub_self, Nat.add_one_sub_one, Bool.not_true, Bool.not_false, true_and, and_true, Bool.false_eq_true, if_false, reduceIte, q_ins e2, T.cSc, T.nSc_seen, putS]
  refine ⟨by decide, by decide, fun r hr2 => ?_⟩
  have np2 : r ≠ a := fun z => by rw [z, oup_same] at hr2; cases hr2
  have nr : r ≠ p := fun z => by rw [z, oup_ne np.symm, oup_same] at hr2; cases hr2
  have e3 : oup (oup (oup al p (.dK [])) a (.ins CSc dx [("seen", .ref p)])) r (.lst []) a = some (.ins CSc dx [("seen", .ref p)]) := (oup_ne np2.symm).trans oup_same
  simp only [at_mk, put_mk, know_mk, q_var, q_vdat, q_vpen, q_vown, q_vfn, q_vref, q_asD, q_asDo, q_asDa, q_aown, q_adat, q_asA, q_asAp, q_asAf, q_asAr, q_asAo, q_asAa, q_asS, q_asSo, q_asSp, q_asSf, q_asSr, q_asSa, q_asR, q_asRr, q_asRo, q_onD, q_onR, q_inOb, q_inObr, q_inObf, q_onT, q_onL, q_onI, q_onX, q_onBo, q_onTd, q_seqL, q_seqT, q_intI, q_intB, q_none, q_noneR, q_one, q_oneS, q_seeL, q_seeT, q_seeO, q_seeA, q_seeAo, q_seeAl, q_seeAt, q_srL, q_srO, q_srA, q_lenS, q_lenO, q_lenA, q_lenR, q_slL, q_slO, q_slA, q_slAo, q_slAl, q_ixR, q_ixL, q_ixO, q_ixA, q_appA, q_appAo, q_appR, q_emR, q_zipT, q_zipL, q_some, q_fn1, q_fn2, q_fn3, q_fn4, q_pn0, q_pn1, q_pn2, q_pn3, q_scaI, q_scaS, q_scaB, q_scaN, q_fnD, q_all0, q_all1, q_all2, q_all3, q_all4, q_all5, q_wipe0, q_wipe, q_start, q_eqI, q_eqX, q_eqB, q_onB, q_at0, q_at1, q_at2, q_at3, q_at4, q_tup, q_strT, q_str, q_int, q_bool, List.length_cons, List.length_nil, List.map_cons, List.map_nil, List.replicate, List.cons_append, List.nil_append, List.getD_cons_zero, List.getD_cons_succ, List.getD_nil, List.set_cons_zero, List.set_cons_succ, List.set_nil, cond_true, cond_false, Nat.reduceAdd, Nat.reduceSub, Nat.sub_self, Nat.add_one_sub_one, Bool.not_true, Bool.not_false, true_and, and_true, Bool.false_eq_true, if_false, reduceIte, q_ins e3, T.cSc, T.nSc_tables, putS]
  refine ⟨by decide, _, Sub.rfl, q _ ⟨⟨dx, p, r, ?_, ?_, ?_⟩, by decide⟩⟩
  · exact oup_same
  · rw [oup_ne np.symm, oup_ne nr.symm, oup_ne np.symm, oup_same]
    rfl
  · rw [oup_ne np2, oup_same]
    rfl
theorem met_takes_table (T : STxt K mg fb CSc) : Met P w K mg base 6 CSc "takes_table" (spH K 2 fun al as Φ => ∃ a S t, as = [.ref a, .dat (Tab.data t)] ∧ ScAt CSc al a S ∧ t.ok ∧ S.fieldsOf t.name = none ∧ (S.tabs.length < 3 ∧ S.seen.length < 6) ∧ ∀ al', ScAt CSc al' a (S.add t) → Φ al' (.dat (.bool true))) := by
  have c_is_table := cal_is_table' (P := P) (w := w) (base := base) T.toUTxt
  have g3 := T.g_MOST_THINGS
  refine T.m_takes_table.met sc_Scope_takes_table (fun vs H Q E h => h.1) (fun f cdv A outer s H vs Q E hr h => ?_)
  have hu := hu_of hr
  refine ⟨_, (pss_cons (ps_if (PW.pt (pw_or (pt_not (pt_val (pe_c c_is_table hr (by first | decide | omega) (by rfl) (pa_cons (pv 1) pa_nil)))) (pw_or (pt_cmp (pc_din hu (pe_ix (ix_tupK K (by rfl)) (pv 1) pe_int (fun _ _ => rfl)) (pe_fldK K (by rfl) (by rfl) (pv 0)))) (pw_or1 (pt_cmpR op_eq (pe_callB (call_lenK K (by rfl)) (by rfl) T.z_len bt_len (pa_cons (pe_fldK K (by rfl) (by rfl) (pv 0)) pa_nil)) (pe_gint rfl T.g_MOST_THINGS) (nomark _))))))
  (pss_one (ps_ret pe_bl))
  pss_nil)
  (pss_cons (ps_dput hu (pe_fldK K (by rfl) (by rfl) (pv 0)) (pe_ix (ix_tupK K (by rfl)) (pv 1) pe_int (fun _ _ => rfl)) (pe_lcX [("name", 2), ("bits", 3)] (by rfl) sc_Scope_takes_table.nd (pi_tupK K (by rfl) (pe_ix (ix_tupK K (by rfl)) (pv 1) pe_int (fun _ _ => rfl))) (blkOk_by (N := ["self", "thing", "name", "bits"]) (sc := defScope s_Scope_takes_table) (by decide +kernel)) (fun _ _ _ _ _ => by exact (pg_tupK K (n := 2) (by rfl) (by rfl) (by rfl) (by rfl) (pgs_consX (by rfl) (pg_nameX 2 sc_Scope_takes_table.nd rfl (by first | exact .inl rfl | exact .inr rfl) (by first | exact .inr rfl | exact .inl rfl)) (pgs_consX (by rfl) (pg_nameX 3 sc_Scope_takes_table.nd rfl (by first | exact .inl rfl | exact .inr rfl) (by first | exact .inr rfl | exact .inl rfl)) pgs_nil)))) (fun _ _ _ _ _ => by exact pts_nil) (fun _ _ _ _ _ => by exact (pv 2)) (fun _ => rfl)) rfl)
  (pss_cons (ps_expr (pe_bmK K (by rfl) PySem.F.plainAttrs_list PySem.F.slot_list_append PySem.F.type_list_append mt_append (pe_fldK K (by rfl) (by rfl) (pv 0)) (pa_cons (pe_ix (ix_tupK K (by rfl)) (pv 1) pe_int (fun _ _ => rfl)) pa_nil)))
  (pss_one (ps_ret pe_bl))))), ?_⟩
  refine run_H h fun Γ al as Φ hg => ?_
  obtain ⟨a, S, t, rfl, sc, ok, hn, ⟨l1, l2⟩, q⟩ := hg
  obtain ⟨dx, sn, tb, e1, e2, e3⟩ := sc.ex
  have n1 : sn ≠ tb := al_ne e2 e3 (fun z => nomatch z)
  have n2 : a ≠ sn := al_ne e1 e2 (fun z => nomatch z)
  have n3 : a ≠ tb := al_ne e1 e3 (fun z => nomatch z)
  have e4 : getE (seenE S) (.inr t.name) = none := by rw [getE_seen, hn]; rfl
  have e5 : decide (((tabsE S).length : Int) = 3) = false := decide_eq_false (by unfold tabsE; rw [List.length_map]; omega)
  have e6 : oup al sn (.dK (putE (seenE S) (.inr t.name) (.list ((t.fields.map (·.1)).map .str)))) a = some (.ins CSc dx (scF sn tb)) := (oup_ne n2).trans e1
  have e7 : oup al sn (.dK (putE (seenE S) (.inr t.name) (.list ((t.fields.map (·.1)).map .str)))) tb = some (.lst (tabsE S)) := (oup_ne n1.symm).trans e3
  simp only [at_mk, put_mk, know_mk, q_var, q_vdat, q_vpen, q_vown, q_vfn, q_vref, q_asD, q_asDo, q_asDa, q_aown, q_adat, q_asA, q_asAp, q_asAf, q_asAr, q_asAo, q_asAa, q_asS, q_asSo, q_asSp, q_asSf, q_asSr, q_asSa, q_asR, q_asRr, q_asRo, q_onD, q_onR, q_inOb, q_inObr, q_inObf, q_onT, q_onL, q_onI, q_onX, q_onBo, q_onTd, q_seqL, q_seqT, q_intI, q_intB, q_none, q_noneR, q_one, q_oneS, q_seeL, q_seeT, q_seeO, q_seeA, q_seeAo, q_seeAl, q_seeAt, q_srL, q_srO, q_srA, q_lenS, q_lenO, q_lenA, q_lenR, q_slL, q_slO, q_slA, q_slAo, q_slAl, q_ixR, q_ixL, q_ixO, q_ixA, q_appA, q_appAo, q_appR, q_emR, q_zipT, q_zipL, q_some, q_fn1, q_fn2, q_fn3, q_fn4, q_pn0, q_pn1, q_pn2, q_pn3, q_scaI, q_scaS, q_scaB, q_scaN, q_fnD, q_all0, q_all1, q_all2, q_all3, q_all4, q_all5, q_wipe0, q_wipe, q_start, q_eqI, q_eqX, q_eqB, q_onB, q_at0, q_at1, q_at2, q_at3, q_at4, q_tup, q_strT, q_str, q_int, q_bool, List.length_cons, List.length_nil, List.map_cons, List.map_nil, List.replicate, List.cons_append, List.nil_append, List.getD_cons_zero, List.getD_cons_succ, List.getD_nil, List.set_cons_zero, List.set_cons_succ, List.set_nil, cond_true, cond_false, Nat.reduceAdd, Nat.reduceSub, Nat.sub_self, Nat.add_one_sub_one, Bool.not_true, Bool.not_false, true_and, and_true, Bool.false_eq_true, if_false, reduceIte, Tab.data]
  refine ⟨t, ok, rfl, ?_⟩
  simp only [at_mk, put_mk, know_mk, q_var, q_vdat, q_vpen, q_vown, q_vfn, q_vref, q_asD, q_asDo, q_asDa, q_aown, q_adat, q_asA, q_asAp, q_asAf, q_asAr, q_asAo, q_asAa, q_asS, q_asSo, q_asSp, q_asSf, q_asSr, q_asSa, q_asR, q_asRr, q_asRo, q_onD, q_onR, q_inOb, q_inObr, q_inObf, q_onT, q_onL, q_onI, q_onX, q_onBo, q_onTd, q_seqL, q_seqT, q_intI, q_intB, q_none, q_noneR, q_one, q_oneS, q_seeL, q_seeT, q_seeO, q_seeA, q_seeAo, q_seeAl, q_seeAt, q_srL, q_srO, q_srA, q_lenS, q_lenO, q_lenA, q_lenR, q_slL, q_slO, q_slA, q_slAo, q_slAl, q_ixR, q_ixL, q_ixO, q_ixA, q_appA, q_appAo, q_appR, q_emR, q_zipT, q_zipL, q_some, q_fn1, q_fn2, q_fn3, q_fn4, q_pn0, q_pn1, q_pn2, q_pn3, q_scaI, q_scaS, q_scaB, q_scaN, q_fnD, q_all0, q_all1, q_all2, q_all3, q_all4, q_all5, q_wipe0, q_wipe, q_start, q_eqI, q_eqX, q_eqB, q_onB, q_at0, q_at1, q_at2, q_at3, q_at4, q_tup, q_strT, q_str, q_int, q_bool, List.length_cons, List.length_nil, List.map_cons, List.map_nil, List.replicate, List.cons_append, List.nil_append, List.getD_cons_zero, List.getD_cons_succ, List.getD_nil, List.set_cons_zero, List.set_cons_succ, List.set_nil, cond_true, cond_false, Nat.reduceAdd, Nat.reduceSub, Nat.sub_self, Nat.add_one_sub_one, Bool.not_true, Bool.not_false, true_and, and_true, Bool.false_eq_true, if_false, reduceIte, Tab.data, q_ins e1, T.cSc, T.nSc_seen, T.nSc_tables, scF_seen, scF_tables, q_get e2 (show keyD (.str t.name) = some (.inr t.name) from rfl), e4, Option.isSome_none, q_lst e3, e5]
  refine ⟨rfl, lcD_map (δ0 := ⟨[some (.ref a), some (.dat (.tuple [.str t.name, .int t.many, .tuple (t.fields.map Tab.fdata)])), none, none], al⟩) (fun d => match d with | .tuple (x :: _) => x | _ => d) rfl (by rw [List.length_map]; have := ok.few; show 0 + _ ≤ _; omega) ?_ ?_⟩
  · intro d hd k hk
    obtain ⟨f, hf, rfl⟩ := List.mem_map.mp hd
    have := hk ⟨[some (.ref a), some (.dat (.tuple [.str t.name, .int t.many, .tuple (t.fields.map Tab.fdata)])), some (.dat (.str f.1)), some (.dat (.int f.2))], al⟩ rfl
    simp only [at_mk, put_mk, know_mk, q_var, q_vdat, q_vpen, q_vown, q_vfn, q_vref, q_asD, q_asDo, q_asDa, q_aown, q_adat, q_asA, q_asAp, q_asAf, q_asAr, q_asAo, q_asAa, q_asS, q_asSo, q_asSp, q_asSf, q_asSr, q_asSa, q_asR, q_asRr, q_asRo, q_onD, q_onR, q_inOb, q_inObr, q_inObf, q_onT, q_onL, q_onI, q_onX, q_onBo, q_onTd, q_seqL, q_seqT, q_intI, q_intB, q_none, q_noneR, q_one, q_oneS, q_seeL, q_seeT, q_seeO, q_seeA, q_seeAo, q_seeAl, q_seeAt, q_srL, q_srO, q_srA, q_lenS, q_lenO, q_lenA, q_lenR, q_slL, q_slO, q_slA, q_slAo, q_slAl, q_ixR, q_ixL, q_ixO, q_ixA, q_appA, q_appAo, q_appR, q_emR, q_zipT, q_zipL, q_some, q_fn1, q_fn2, q_fn3, q_fn4, q_pn0, q_pn1, q_pn2, q_pn3, q_scaI, q_scaS, q_scaB, q_scaN, q_fnD, q_all0, q_all1, q_all2, q_all3, q_all4, q_all5, q_wipe0, q_wipe, q_start, q_eqI, q_eqX, q_eqB, q_onB, q_at0, q_at1, q_at2, q_at3, q_at4, q_tup, q_strT, q_str, q_int, q_bool, List.length_cons, List.length_nil, List.map_cons, List.map_nil, List.replicate, List.cons_append, List.nil_append, List.getD_cons_zero, List.getD_cons_succ, List.getD_nil, List.set_cons_zero, List.set_cons_succ, List.set_nil, cond_true, cond_false, Nat.reduceAdd, Nat.reduceSub, Nat.sub_self, Nat.add_one_sub_one, Bool.not_true, Bool.not_false, true_and, and_true, Bool.false_eq_true, if_false, reduceIte, Tab.fdata]
    exact this
  · rw [List.nil_append, List.map_map]
    have em : t.fields.map ((fun d : PyData => match d with | .tuple (x :: _) => x | _ => d) ∘ Tab.fdata) = (t.fields.map (·.1)).map PyData.str := by
      rw [List.map_map]
      rfl
    rw [em]
    simp only [at_mk, put_mk, know_mk, q_var, q_vdat, q_vpen, q_vown, q_vfn, q_vref, q_asD, q_asDo, q_asDa, q_aown, q_adat, q_asA, q_asAp, q_asAf, q_asAr, q_asAo, q_asAa, q_asS, q_asSo, q_asSp, q_asSf, q_asSr, q_asSa, q_asR, q_asRr, q_asRo, q_onD, q_onR, q_inOb, q_inObr, q_inObf, q_onT, q_onL, q_onI, q_onX, q_onBo, q_onTd, q_seqL, q_seqT, q_intI, q_intB, q_none, q_noneR, q_one, q_oneS, q_seeL, q_seeT, q_seeO, q_seeA, q_seeAo, q_seeAl, q_seeAt, q_srL, q_srO, q_srA, q_lenS, q_lenO, q_lenA, q_lenR, q_slL, q_slO, q_slA, q_slAo, q_slAl, q_ixR, q_ixL, q_ixO, q_ixA, q_appA, q_appAo, q_appR, q_emR, q_zipT, q_zipL, q_some, q_fn1, q_fn2, q_fn3, q_fn4, q_pn0, q_pn1, q_pn2, q_pn3, q_scaI, q_scaS, q_scaB, q_scaN, q_fnD, q_all0, q_all1, q_all2, q_all3, q_all4, q_all5, q_wipe0, q_wipe, q_start, q_eqI, q_eqX, q_eqB, q_onB, q_at0, q_at1, q_at2, q_at3, q_at4, q_tup, q_strT, q_str, q_int, q_bool, List.length_cons, List.length_nil, List.map_cons, List.map_nil, List.replicate, List.cons_append, List.nil_append, List.getD_cons_zero, List.getD_cons_succ, List.getD_nil, List.set_cons_zero, List.set_cons_succ, List.set_nil, cond_true, cond_false, Nat.reduceAdd, Nat.reduceSub, Nat.sub_self, Nat.add_one_sub_one, Bool.not_true, Bool.not_false, true_and, and_true, Bool.false_eq_true, if_false, reduceIte, q_ins e1, T.cSc, T.nSc_seen, T.nSc_tables, scF_seen, scF_tables, q_put e2 (show keyD (.str t.name) = some (.inr t.name) from rfl), q_ins e6, q_lst e7]
    refine ⟨by unfold seenE; rw [List.length_map]; omega, by unfold tabsE; rw [List.length_map]; omega, _, Sub.rfl, q _ ⟨⟨dx, sn, tb, ?_, ?_, ?_⟩, ?_⟩⟩
    · rw [oup_ne n3]
      exact e6
    · rw [oup_ne n1, oup_same, putE_seen hn]
    · rw [oup_same]
      unfold tabsE Sco.add
      simp
    · unfold Sco.add
      simp only [List.length_append, List.length_singleton]
      omega
theorem met_is_over (T : STxt K mg fb CSc) : Met P w K mg base 2 CSc "is_over" (spH K 2 fun al as Φ => ∃ a S o fs, as = [.ref a, .dat (.str o)] ∧ ScAt CSc al a S ∧ isName o = true ∧ S.fieldsOf o = some fs ∧ Φ al (.dat (.bool true))) := by
  have c_is_name := cal_is_name' (P := P) (w := w) (base := base) T.toUTxt
  refine T.m_is_over.met sc_Scope_is_over (fun vs H Q E h => h.1) (fun f cdv A outer s H vs Q E hr h => ?_)
  have hu := hu_of hr
  refine ⟨_, (pss_one (ps_ret (pe_and (pe_c c_is_name hr (by first | decide | omega) (by rfl) (pa_cons (pv 1) pa_nil)) (pe_one (pe_cmp (pc_din hu (pv 1) (pe_fldK K (by rfl) (by rfl) (pv 0)))))))), ?_⟩
  refine run_H h fun Γ al as Φ hg => ?_
  obtain ⟨a, S, o, fs, rfl, sc, hn, hf, q⟩ := hg
  obtain ⟨dx, sn, tb, e1, e2, e3⟩ := sc.ex
  have e4 : getE (seenE S) (.inr o) = some (.list (fs.map .str)) := by rw [getE_seen, hf]; rfl
  have e5 : nameD (.str o) = true := hn
  have e6 : o.length ≤ sizeLine := Nat.le_trans (isName_len hn) (by decide)
  simp only [at_mk, put_mk, know_mk, q_var, q_vdat, q_vpen, q_vown, q_vfn, q_vref, q_asD, q_asDo, q_asDa, q_aown, q_adat, q_asA, q_asAp, q_asAf, q_asAr, q_asAo, q_asAa, q_asS, q_asSo, q_asSp, q_asSf, q_asSr, q_asSa, q_asR, q_asRr, q_asRo, q_onD, q_onR, q_inOb, q_inObr, q_inObf, q_onT, q_onL, q_onI, q_onX, q_onBo, q_onTd, q_seqL, q_seqT, q_intI, q_intB, q_none, q_noneR, q_one, q_oneS, q_seeL, q_seeT, q_seeO, q_seeA, q_seeAo, q_seeAl, q_seeAt, q_srL, q_srO, q_srA, q_lenS, q_lenO, q_lenA, q_lenR, q_slL, q_slO, q_slA, q_slAo, q_slAl, q_ixR, q_ixL, q_ixO, q_ixA, q_appA, q_appAo, q_appR, q_emR, q_zipT, q_zipL, q_some, q_fn1, q_fn2, q_fn3, q_fn4, q_pn0, q_pn1, q_pn2, q_pn3, q_scaI, q_scaS, q_scaB, q_scaN, q_fnD, q_all0, q_all1, q_all2, q_all3, q_all4, q_all5, q_wipe0, q_wipe, q_start, q_eqI, q_eqX, q_eqB, q_onB, q_at0, q_at1, q_at2, q_at3, q_at4, q_tup, q_strT, q_str, q_int, q_bool, List.length_cons, List.length_nil, List.map_cons, List.map_nil, List.replicate, List.cons_append, List.nil_append, List.getD_cons_zero, List.getD_cons_succ, List.getD_nil, List.set_cons_zero, List.set_cons_succ, List.set_nil, cond_true, cond_false, Nat.reduceAdd, Nat.reduceSub, Nat.sub_self, Nat.add_one_sub_one, Bool.not_true, Bool.not_false, true_and, and_true, Bool.false_eq_true, if_false, reduceIte, e5, q_ins e1, T.cSc, T.nSc_seen, scF_seen, q_get e2 (show keyD (.str o) = some (.inr o) from rfl), e4, Option.isSome_some]
  exact ⟨fun z hz => by cases hz; exact e6, _, Sub.rfl, q⟩
theorem met_is_field (T : STxt K mg fb CSc) : Met P w K mg base 3 CSc "is_field" (spH K 3 fun al as Φ => ∃ a S o x fs, as = [.ref a, .dat (.str o), .dat (.str x)] ∧ ScAt CSc al a S ∧ isName o = true ∧ isName x = true ∧ S.fieldsOf o = some fs ∧ x ∈ fs ∧ Φ al (.dat (.bool true))) := by
  have c_is_name := cal_is_name' (P := P) (w := w) (base := base) T.toUTxt
  have mt_Scope_is_over := met_is_over (P := P) (w := w) (base := base) T
  refine T.m_is_field.met sc_Scope_is_field (fun vs H Q E h => h.1) (fun f cdv A outer s H vs Q E hr h => ?_)
  have hu := hu_of hr
  refine ⟨_, (pss_one (ps_ret (pe_and (pe_mt mt_Scope_is_over hr (by first | decide | omega) (pv 0) (pa_cons (pv 1) pa_nil)) (pe_and (pe_c c_is_name hr (by first | decide | omega) (by rfl) (pa_cons (pv 2) pa_nil)) (pe_one (pe_cmpR (op_in_seqK K (by rfl)) (pv 2) (pe_dget hu (pe_fldK K (by rfl) (by rfl) (pv 0)) (pv 1) (fun _ _ => rfl)) (by rfl))))))), ?_⟩
  refine run_H h fun Γ al as Φ hg => ?_
  obtain ⟨a, S, o, x, fs, rfl, sc, hn, hx, hf, hm, q⟩ := hg
  obtain ⟨dx, sn, tb, e1, e2, e3⟩ := sc.ex
  have e4 : getE (seenE S) (.inr o) = some (.list (fs.map .str)) := by rw [getE_seen, hf]; rfl
  have e5 : nameD (.str x) = true := hx
  have e6 : x.length ≤ sizeLine := Nat.le_trans (isName_len hx) (by decide)
  simp only [at_mk, put_mk, know_mk, q_var, q_vdat, q_vpen, q_vown, q_vfn, q_vref, q_asD, q_asDo, q_asDa, q_aown, q_adat, q_asA, q_asAp, q_asAf, q_asAr, q_asAo, q_asAa, q_asS, q_asSo, q_asSp, q_asSf, q_asSr, q_asSa, q_asR, q_asRr, q_asRo, q_onD, q_onR, q_inOb, q_inObr, q_inObf, q_onT, q_onL, q_onI, q_onX, q_onBo, q_onTd, q_seqL, q_seqT, q_intI, q_intB, q_none, q_noneR, q_one, q_oneS, q_seeL, q_seeT, q_seeO, q_seeA, q_seeAo, q_seeAl, q_seeAt, q_srL, q_srO, q_srA, q_lenS, q_lenO, q_lenA, q_lenR, q_slL, q_slO, q_slA, q_slAo, q_slAl, q_ixR, q_ixL, q_ixO, q_ixA, q_appA, q_appAo, q_appR, q_emR, q_zipT, q_zipL, q_some, q_fn1, q_fn2, q_fn3, q_fn4, q_pn0, q_pn1, q_pn2, q_pn3, q_scaI, q_scaS, q_scaB, q_scaN, q_fnD, q_all0, q_all1, q_all2, q_all3, q_all4, q_all5, q_wipe0, q_wipe, q_start, q_eqI, q_eqX, q_eqB, q_onB, q_at0, q_at1, q_at2, q_at3, q_at4, q_tup, q_strT, q_str, q_int, q_bool, List.length_cons, List.length_nil, List.map_cons, List.map_nil, List.replicate, List.cons_append, List.nil_append, List.getD_cons_zero, List.getD_cons_succ, List.getD_nil, List.set_cons_zero, List.set_cons_succ, List.set_nil, cond_true, cond_false, Nat.reduceAdd, Nat.reduceSub, Nat.sub_self, Nat.add_one_sub_one, Bool.not_true, Bool.not_false, true_and, and_true, Bool.false_eq_true, if_false, reduceIte, q_ins e1]
  refine ⟨rfl, a, S, o, fs, rfl, sc, hn, hf, ?_⟩
  simp only [at_mk, put_mk, know_mk, q_var, q_vdat, q_vpen, q_vown, q_vfn, q_vref, q_asD, q_asDo, q_asDa, q_aown, q_adat, q_asA, q_asAp, q_asAf, q_asAr, q_asAo, q_asAa, q_asS, q_asSo, q_asSp, q_asSf, q_asSr, q_asSa, q_asR, q_asRr, q_asRo, q_onD, q_onR, q_inOb, q_inObr, q_inObf, q_onT, q_onL, q_onI, q_onX, q_onBo, q_onTd, q_seqL, q_seqT, q_intI, q_intB, q_none, q_noneR, q_one, q_oneS, q_seeL, q_seeT, q_seeO, q_seeA, q_seeAo, q_seeAl, q_seeAt, q_srL, q_srO, q_srA, q_lenS, q_lenO, q_lenA, q_lenR, q_slL, q_slO, q_slA, q_slAo, q_slAl, q_ixR, q_ixL, q_ixO, q_ixA, q_appA, q_appAo, q_appR, q_emR, q_zipT, q_zipL, q_some, q_fn1, q_fn2, q_fn3, q_fn4, q_pn0, q_pn1, q_pn2, q_pn3, q_scaI, q_scaS, q_scaB, q_scaN, q_fnD, q_all0, q_all1, q_all2, q_all3, q_all4, q_all5, q_wipe0, q_wipe, q_start, q_eqI, q_eqX, q_eqB, q_onB, q_at0, q_at1, q_at2, q_at3, q_at4, q_tup, q_strT, q_str, q_int, q_bool, List.length_cons, List.length_nil, List.map_cons, List.map_nil, List.replicate, List.cons_append, List.nil_append, List.getD_cons_zero, List.getD_cons_succ, List.getD_nil, List.set_cons_zero, List.set_cons_succ, List.set_nil, cond_true, cond_false, Nat.reduceAdd, Nat.reduceSub, Nat.sub_self, Nat.add_one_sub_one, Bool.not_true, Bool.not_false, true_and, and_true, Bool.false_eq_true, if_false, reduceIte, e5, q_ins e1, T.cSc, T.nSc_seen, scF_seen, q_get e2 (show keyD (.str o) = some (.inr o) from rfl), e4]
  refine ⟨fun z hz => by cases hz; exact e6, inD_texts ?_⟩
  rw [decide_eq_true hm]
  exact ⟨_, Sub.rfl, q⟩
theorem met_is_plain (T : STxt K mg fb CSc) : Met P w K mg base 8 CSc "is_plain" (spH K 2 fun al as Φ => ∃ a S r, as = [.ref a, .dat (Row.data r)] ∧ ScAt CSc al a S ∧ r.ok S ∧ r.plain = true ∧ Φ al (.dat (.bool true))) := by
  have c_is_headed := cal_is_headed' (P := P) (w := w) (base := base) T.toUTxt
  have c_is_name := cal_is_name' (P := P) (w := w) (base := base) T.toUTxt
  have c_is_expression := cal_is_expression' (P := P) (w := w) (base := base) T.toUTxt 3
  have mt_Scope_is_over := met_is_over (P := P) (w := w) (base := base) T
  have mt_Scope_is_field := met_is_field (P := P) (w := w) (base := base) T
  refine T.m_is_plain.met sc_Scope_is_plain (fun vs H Q E h => h.1) (fun f cdv A outer s H vs Q E hr h => ?_)
  have hu := hu_of hr
  refine ⟨_, (pss_cons (ps_if (pt_val (pe_c c_is_headed hr (by first | decide | omega) (by rfl) (pa_cons (pv 1) (pa_cons pe_str (pa_cons pe_int pa_nil)))))
  (pss_one (ps_ret (pe_and (pe_c c_is_name hr (by first | decide | omega) (by rfl) (pa_cons (pe_ix (ix_tupK K (by rfl)) (pv 1) pe_int (fun _ _ => rfl)) pa_nil)) (pe_one (pe_c c_is_expression hr (by first | decide | omega) (by rfl) (pa_cons (pe_ix (ix_tupK K (by rfl)) (pv 1) pe_int (fun _ _ => rfl)) pa_nil))))))
  pss_nil)
  (pss_cons (ps_if (pt_val (pe_c c_is_headed hr (by first | decide | omega) (by rfl) (pa_cons (pv 1) (pa_cons pe_str (pa_cons pe_int pa_nil)))))
  (pss_one (ps_ret (pe_c c_is_expression hr (by first | decide | omega) (by rfl) (pa_cons (pe_ix (ix_tupK K (by rfl)) (pv 1) pe_int (fun _ _ => rfl)) pa_nil))))
  pss_nil)
  (pss_cons (ps_if (pt_val (pe_c c_is_headed hr (by first | decide | omega) (by rfl) (pa_cons (pv 1) (pa_cons pe_str (pa_cons pe_int pa_nil)))))
  (pss_one (ps_ret (pe_and (pe_c c_is_name hr (by first | decide | omega) (by rfl) (pa_cons (pe_ix (ix_tupK K (by rfl)) (pv 1) pe_int (fun _ _ => rfl)) pa_nil)) (pe_and (pe_c c_is_expression hr (by first | decide | omega) (by rfl) (pa_cons (pe_ix (ix_tupK K (by rfl)) (pv 1) pe_int (fun _ _ => rfl)) pa_nil)) (pe_one (pe_mt mt_Scope_is_field hr (by first | decide | omega) (pv 0) (pa_cons (pe_ix (ix_tupK K (by rfl)) (pv 1) pe_int (fun _ _ => rfl)) (pa_cons (pe_ix (ix_tupK K (by rfl)) (pv 1) pe_int (fun _ _ => rfl)) pa_nil))))))))
  pss_nil)
  (pss_cons (ps_if (pt_val (pe_c c_is_headed hr (by first | decide | omega) (by rfl) (pa_cons (pv 1) (pa_cons pe_str (pa_cons pe_int pa_nil)))))
  (pss_one (ps_ret (pe_and (pe_mt mt_Scope_is_field hr (by first | decide | omega) (pv 0) (pa_cons (pe_ix (ix_tupK K (by rfl)) (pv 1) pe_int (fun _ _ => rfl)) (pa_cons (pe_ix (ix_tupK K (by rfl)) (pv 1) pe_int (fun _ _ => rfl)) pa_nil))) (pe_and (pe_c c_is_expression hr (by first | decide | omega) (by rfl) (pa_cons (pe_ix (ix_tupK K (by rfl)) (pv 1) pe_int (fun _ _ => rfl)) pa_nil)) (pe_one (pe_c c_is_expression hr (by first | decide | omega) (by rfl) (pa_cons (pe_ix (ix_tupK K (by rfl)) (pv 1) pe_int (fun _ _ => rfl)) pa_nil)))))))
  pss_nil)
  (pss_cons (ps_if (pt_val (pe_c c_is_headed hr (by first | decide | omega) (by rfl) (pa_cons (pv 1) (pa_cons pe_str (pa_cons pe_int pa_nil)))))
  (pss_one (ps_ret (pe_and (pe_mt mt_Scope_is_over hr (by first | decide | omega) (pv 0) (pa_cons (pe_ix (ix_tupK K (by rfl)) (pv 1) pe_int (fun _ _ => rfl)) pa_nil)) (pe_and (pe_cmpR (op_in_seqK K (by rfl)) (pe_ix (ix_tupK K (by rfl)) (pv 1) pe_int (fun _ _ => rfl)) (pe_fldK K (by rfl) (by rfl) (pv 0)) (by rfl)) (pe_one (pe_c c_is_expression hr (by first | decide | omega) (by rfl) (pa_cons (pe_ix (ix_tupK K (by rfl)) (pv 1) pe_int (fun _ _ => rfl)) pa_nil)))))))
  pss_nil)
  (pss_one (ps_ret pe_bl))))))), ?_⟩
  refine run_H h fun Γ al as Φ hg => ?_
  obtain ⟨a, S, r, rfl, sc, ok, pl, q⟩ := hg
  obtain ⟨dx, sn, tb, e1, e2, e3⟩ := sc.ex
  have nl : ∀ {x : Str}, isName x = true → ∀ z, PyData.str x = .str z → z.length ≤ sizeLine := fun h z hz => by cases hz; exact Nat.le_trans (isName_len h) (by decide)
  have nd : ∀ {x : Str}, isName x = true → nameD (.str x) = true := fun h => h
  cases r with
  | set x e =>
    obtain ⟨h1, h2, h3⟩ := ok
    simp only [at_mk, put_mk, know_mk, q_var, q_vdat, q_vpen, q_vown, q_vfn, q_vref, q_asD, q_asDo, q_asDa, q_aown, q_adat, q_asA, q_asAp, q_asAf, q_asAr, q_asAo, q_asAa, q_asS, q_asSo, q_asSp, q_asSf, q_asSr, q_asSa, q_asR, q_asRr, q_asRo, q_onD, q_onR, q_inOb, q_inObr, q_inObf, q_onT, q_onL, q_onI, q_onX, q_onBo, q_onTd, q_seqL, q_seqT, q_intI, q_intB, q_none, q_noneR, q_one, q_oneS, q_seeL, q_seeT, q_seeO, q_seeA, q_seeAo, q_seeAl, q_seeAt, q_srL, q_srO, q_srA, q_lenS, q_lenO, q_lenA, q_lenR, q_slL, q_slO, q_slA, q_slAo, q_slAl, q_ixR, q_ixL, q_ixO, q_ixA, q_appA, q_appAo, q_appR, q_emR, q_zipT, q_zipL, q_some, q_fn1, q_fn2, q_fn3, q_fn4, q_pn0, q_pn1, q_pn2, q_pn3, q_scaI, q_scaS, q_scaB, q_scaN, q_fnD, q_all0, q_all1, q_all2, q_all3, q_all4, q_all5, q_wipe0, q_wipe, q_start, q_eqI, q_eqX, q_eqB, q_onB, q_at0, q_at1, q_at2, q_at3, q_at4, q_tup, q_strT, q_str, q_int, q_bool, List.length_cons, List.length_nil, List.map_cons, List.map_nil, List.replicate, List.cons_append, List.nil_append, List.getD_cons_zero, List.getD_cons_succ, List.getD_nil, List.set_cons_zero, List.set_cons_succ, List.set_nil, cond_true, cond_false, Nat.reduceAdd, Nat.reduceSub, Nat.sub_self, Nat.add_one_sub_one, Bool.not_true, Bool.not_false, true_and, and_true, Bool.false_eq_true, if_false, reduceIte, Row.data, hd_set_set, hd_set_tell, hd_set_get, hd_set_put, hd_set_hand, hd_set_each, hd_set_times, hd_set_when, nd h1]
    exact ⟨by decide, nl h1, e, h2, h3, rfl, _, Sub.rfl, q⟩
  | tell e =>
    obtain ⟨h2, h3⟩ := ok
    simp only [at_mk, put_mk, know_mk, q_var, q_vdat, q_vpen, q_vown, q_vfn, q_vref, q_asD, q_asDo, q_asDa, q_aown, q_adat, q_asA, q_asAp, q_asAf, q_asAr, q_asAo, q_asAa, q_asS, q_asSo, q_asSp, q_asSf, q_asSr, q_asSa, q_asR, q_asRr, q_asRo, q_onD, q_onR, q_inOb, q_inObr, q_inObf, q_onT, q_onL, q_onI, q_onX, q_onBo, q_onTd, q_seqL, q_seqT, q_intI, q_intB, q_none, q_noneR, q_one, q_oneS, q_seeL, q_seeT, q_seeO, q_seeA, q_seeAo, q_seeAl, q_seeAt, q_srL, q_srO, q_srA, q_lenS, q_lenO, q_lenA, q_lenR, q_slL, q_slO, q_slA, q_slAo, q_slAl, q_ixR, q_ixL, q_ixO, q_ixA, q_appA, q_appAo, q_appR, q_emR, q_zipT, q_zipL, q_some, q_fn1, q_fn2, q_fn3, q_fn4, q_pn0, q_pn1, q_pn2, q_pn3, q_scaI, q_scaS, q_scaB, q_scaN, q_fnD, q_all0, q_all1, q_all2, q_all3, q_all4, q_all5, q_wipe0, q_wipe, q_start, q_eqI, q_eqX, q_eqB, q_onB, q_at0, q_at1, q_at2, q_at3, q_at4, q_tup, q_strT, q_str, q_int, q_bool, List.length_cons, List.length_nil, List.map_cons, List.map_nil, List.replicate, List.cons_append, List.nil_append, List.getD_cons_zero, List.getD_cons_succ, List.getD_nil, List.set_cons_zero, List.set_cons_succ, List.set_nil, cond_true, cond_false, Nat.reduceAdd, Nat.reduceSub, Nat.sub_self, Nat.add_one_sub_one, Bool.not_true, Bool.not_false, true_and, and_true, Bool.false_eq_true, if_false, reduceIte, Row.data, hd_tell_set, hd_tell_tell, hd_tell_get, hd_tell_put, hd_tell_hand, hd_tell_each, hd_tell_times, hd_tell_when]
    exact ⟨by decide, by decide, e, h2, h3, rfl, _, Sub.rfl, q⟩
  | get x o e f =>
    obtain ⟨h1, ⟨h2, h3⟩, h4, h5, fs, h6, h7⟩ := ok
    simp only [at_mk, put_mk, know_mk, q_var, q_vdat, q_vpen, q_vown, q_vfn, q_vref, q_asD, q_asDo, q_asDa, q_aown, q_adat, q_asA, q_asAp, q_asAf, q_asAr, q_asAo, q_asAa, q_asS, q_asSo, q_asSp, q_asSf, q_asSr, q_asSa, q_asR, q_asRr, q_asRo, q_onD, q_onR, q_inOb, q_inObr, q_inObf, q_onT, q_onL, q_onI, q_onX, q_onBo, q_onTd, q_seqL, q_seqT, q_intI, q_intB, q_none, q_noneR, q_one, q_oneS, q_seeL, q_seeT, q_seeO, q_seeA, q_seeAo, q_seeAl, q_seeAt, q_srL, q_srO, q_srA, q_lenS, q_lenO, q_lenA, q_lenR, q_slL, q_slO, q_slA, q_slAo, q_slAl, q_ixR, q_ixL, q_ixO, q_ixA, q_appA, q_appAo, q_appR, q_emR, q_zipT, q_zipL, q_some, q_fn1, q_fn2, q_fn3, q_fn4, q_pn0, q_pn1, q_pn2, q_pn3, q_scaI, q_scaS, q_scaB, q_scaN, q_fnD, q_all0, q_all1, q_all2, q_all3, q_all4, q_all5, q_wipe0, q_wipe, q_start, q_eqI, q_eqX, q_eqB, q_onB, q_at0, q_at1, q_at2, q_at3, q_at4, q_tup, q_strT, q_str, q_int, q_bool, List.length_cons, List.length_nil, List.map_cons, List.map_nil, List.replicate, List.cons_append, List.nil_append, List.getD_cons_zero, List.getD_cons_succ, List.getD_nil, List.set_cons_zero, List.set_cons_succ, List.set_nil, cond_true, cond_false, Nat.reduceAdd, Nat.reduceSub, Nat.sub_self, Nat.add_one_sub_one, Bool.not_true, Bool.not_false, true_and, and_true, Bool.false_eq_true, if_false, reduceIte, Row.data, hd_get_set, hd_get_tell, hd_get_get, hd_get_put, hd_get_hand, hd_get_each, hd_get_times, hd_get_when, nd h1]
    refine ⟨by decide, by decide, by decide, nl h1, e, h2, h3, rfl, ?_⟩
    simp only [at_mk, put_mk, know_mk, q_var, q_vdat, q_vpen, q_vown, q_vfn, q_vref, q_asD, q_asDo, q_asDa, q_aown, q_adat, q_asA, q_asAp, q_asAf, q_asAr, q_asAo, q_asAa, q_asS, q_asSo, q_asSp, q_asSf, q_asSr, q_asSa, q_asR, q_asRr, q_asRo, q_onD, q_onR, q_inOb, q_inObr, q_inObf, q_onT, q_onL, q_onI, q_onX, q_onBo, q_onTd, q_seqL, q_seqT, q_intI, q_intB, q_none, q_noneR, q_one, q_oneS, q_seeL, q_seeT, q_seeO, q_seeA, q_seeAo, q_seeAl, q_seeAt, q_srL, q_srO, q_srA, q_lenS, q_lenO, q_lenA, q_lenR, q_slL, q_slO, q_slA, q_slAo, q_slAl, q_ixR, q_ixL, q_ixO, q_ixA, q_appA, q_appAo, q_appR, q_emR, q_zipT, q_zipL, q_some, q_fn1, q_fn2, q_fn3, q_fn4, q_pn0, q_pn1, q_pn2, q_pn3, q_scaI, q_scaS, q_scaB, q_scaN, q_fnD, q_all0, q_all1, q_all2, q_all3, q_all4, q_all5, q_wipe0, q_wipe, q_start, q_eqI, q_eqX, q_eqB, q_onB, q_at0, q_at1, q_at2, q_at3, q_at4, q_tup, q_strT, q_str, q_int, q_bool, List.length_cons, List.length_nil, List.map_cons, List.map_nil, List.replicate, List.cons_append, List.nil_append, List.getD_cons_zero, List.getD_cons_succ, List.getD_nil, List.set_cons_zero, List.set_cons_succ, List.set_nil, cond_true, cond_false, Nat.reduceAdd, Nat.reduceSub, Nat.sub_self, Nat.add_one_sub_one, Bool.not_true, Bool.not_false, true_and, and_true, Bool.false_eq_true, if_false, reduceIte, q_ins e1]
    exact ⟨rfl, a, S, o, f, fs, rfl, sc, h4, h5, h6, h7, _, Sub.rfl, q⟩
  | put o e f v =>
    obtain ⟨⟨h4, h5, fs, h6, h7⟩, ⟨h2, h3⟩, h8, h9⟩ := ok
    simp only [at_mk, put_mk, know_mk, q_var, q_vdat, q_vpen, q_vown, q_vfn, q_vref, q_asD, q_asDo, q_asDa, q_aown, q_adat, q_asA, q_asAp, q_asAf, q_asAr, q_asAo, q_asAa, q_asS, q_asSo, q_asSp, q_asSf, q_asSr, q_asSa, q_asR, q_asRr, q_asRo, q_onD, q_onR, q_inOb, q_inObr, q_inObf, q_onT, q_onL, q_onI, q_onX, q_onBo, q_onTd, q_seqL, q_seqT, q_intI, q_intB, q_none, q_noneR, q_one, q_oneS, q_seeL, q_seeT, q_seeO, q_seeA, q_seeAo, q_seeAl, q_seeAt, q_srL, q_srO, q_srA, q_lenS, q_lenO, q_lenA, q_lenR, q_slL, q_slO, q_slA, q_slAo, q_slAl, q_ixR, q_ixL, q_ixO, q_ixA, q_appA, q_appAo, q_appR, q_emR, q_zipT, q_zipL, q_some, q_fn1, q_fn2, q_fn3, q_fn4, q_pn0, q_pn1, q_pn2, q_pn3, q_scaI, q_scaS, q_scaB, q_scaN, q_fnD, q_all0, q_all1, q_all2, q_all3, q_all4, q_all5, q_wipe0, q_wipe, q_start, q_eqI, q_eqX, q_eqB, q_onB, q_at0, q_at1, q_at2, q_at3, q_at4, q_tup, q_strT, q_str, q_int, q_bool, List.length_cons, List.length_nil, List.map_cons, List.map_nil, List.replicate, List.cons_append, List.nil_append, List.getD_cons_zero, List.getD_cons_succ, List.getD_nil, List.set_cons_zero, List.set_cons_succ, List.set_nil, cond_true, cond_false, Nat.reduceAdd, Nat.reduceSub, Nat.sub_self, Nat.add_one_sub_one, Bool.not_true, Bool.not_false, true_and, and_true, Bool.false_eq_true, if_false, reduceIte, Row.data, hd_put_set, hd_put_tell, hd_put_get, hd_put_put, hd_put_hand, hd_put_each, hd_put_times, hd_put_when]
    refine ⟨by decide, by decide, by decide, by decide, ?_⟩
    simp only [at_mk, put_mk, know_mk, q_var, q_vdat, q_vpen, q_vown, q_vfn, q_vref, q_asD, q_asDo, q_asDa, q_aown, q_adat, q_asA, q_asAp, q_asAf, q_asAr, q_asAo, q_asAa, q_asS, q_asSo, q_asSp, q_asSf, q_asSr, q_asSa, q_asR, q_asRr, q_asRo, q_onD, q_onR, q_inOb, q_inObr, q_inObf, q_onT, q_onL, q_onI, q_onX, q_onBo, q_onTd, q_seqL, q_seqT, q_intI, q_intB, q_none, q_noneR, q_one, q_oneS, q_seeL, q_seeT, q_seeO, q_seeA, q_seeAo, q_seeAl, q_seeAt, q_srL, q_srO, q_srA, q_lenS, q_lenO, q_lenA, q_lenR, q_slL, q_slO, q_slA, q_slAo, q_slAl, q_ixR, q_ixL, q_ixO, q_ixA, q_appA, q_appAo, q_appR, q_emR, q_zipT, q_zipL, q_some, q_fn1, q_fn2, q_fn3, q_fn4, q_pn0, q_pn1, q_pn2, q_pn3, q_scaI, q_scaS, q_scaB, q_scaN, q_fnD, q_all0, q_all1, q_all2, q_all3, q_all4, q_all5, q_wipe0, q_wipe, q_start, q_eqI, q_eqX, q_eqB, q_onB, q_at0, q_at1, q_at2, q_at3, q_at4, q_tup, q_strT, q_str, q_int, q_bool, List.length_cons, List.length_nil, List.map_cons, List.map_nil, List.replicate, List.cons_append, List.nil_append, List.getD_cons_zero, List.getD_cons_succ, List.getD_nil, List.set_cons_zero, List.set_cons_succ, List.set_nil, cond_true, cond_false, Nat.reduceAdd, Nat.reduceSub, Nat.sub_self, Nat.add_one_sub_one, Bool.not_true, Bool.not_false, true_and, and_true, Bool.false_eq_true, if_false, reduceIte, q_ins e1]
    refine ⟨rfl, a, S, o, f, fs, rfl, sc, h4, h5, h6, h7, ?_⟩
    refine ⟨e, h2, h3, rfl, ?_⟩
    exact ⟨v, h8, h9, rfl, _, Sub.rfl, q⟩
  | hand o e =>
    obtain ⟨⟨h4, fs, h6⟩, h7, h2, h3⟩ := ok
    simp only [at_mk, put_mk, know_mk, q_var, q_vdat, q_vpen, q_vown, q_vfn, q_vref, q_asD, q_asDo, q_asDa, q_aown, q_adat, q_asA, q_asAp, q_asAf, q_asAr, q_asAo, q_asAa, q_asS, q_asSo, q_asSp, q_asSf, q_asSr, q_asSa, q_asR, q_asRr, q_asRo, q_onD, q_onR, q_inOb, q_inObr, q_inObf, q_onT, q_onL, q_onI, q_onX, q_onBo, q_onTd, q_seqL, q_seqT, q_intI, q_intB, q_none, q_noneR, q_one, q_oneS, q_seeL, q_seeT, q_seeO, q_seeA, q_seeAo, q_seeAl, q_seeAt, q_srL, q_srO, q_srA, q_lenS, q_lenO, q_lenA, q_lenR, q_slL, q_slO, q_slA, q_slAo, q_slAl, q_ixR, q_ixL, q_ixO, q_ixA, q_appA, q_appAo, q_appR, q_emR, q_zipT, q_zipL, q_some, q_fn1, q_fn2, q_fn3, q_fn4, q_pn0, q_pn1, q_pn2, q_pn3, q_scaI, q_scaS, q_scaB, q_scaN, q_fnD, q_all0, q_all1, q_all2, q_all3, q_all4, q_all5, q_wipe0, q_wipe, q_start, q_eqI, q_eqX, q_eqB, q_onB, q_at0, q_at1, q_at2, q_at3, q_at4, q_tup, q_strT, q_str, q_int, q_bool, List.length_cons, List.length_nil, List.map_cons, List.map_nil, List.replicate, List.cons_append, List.nil_append, List.getD_cons_zero, List.getD_cons_succ, List.getD_nil, List.set_cons_zero, List.set_cons_succ, List.set_nil, cond_true, cond_false, Nat.reduceAdd, Nat.reduceSub, Nat.sub_self, Nat.add_one_sub_one, Bool.not_true, Bool.not_false, true_and, and_true, Bool.false_eq_true, if_false, reduceIte, Row.data, hd_hand_set, hd_hand_tell, hd_hand_get, hd_hand_put, hd_hand_hand, hd_hand_each, hd_hand_times, hd_hand_when]
    refine ⟨by decide, by decide, by decide, by decide, by decide, ?_⟩
    simp only [at_mk, put_mk, know_mk, q_var, q_vdat, q_vpen, q_vown, q_vfn, q_vref, q_asD, q_asDo, q_asDa, q_aown, q_adat, q_asA, q_asAp, q_asAf, q_asAr, q_asAo, q_asAa, q_asS, q_asSo, q_asSp, q_asSf, q_asSr, q_asSa, q_asR, q_asRr, q_asRo, q_onD, q_onR, q_inOb, q_inObr, q_inObf, q_onT, q_onL, q_onI, q_onX, q_onBo, q_onTd, q_seqL, q_seqT, q_intI, q_intB, q_none, q_noneR, q_one, q_oneS, q_seeL, q_seeT, q_seeO, q_seeA, q_seeAo, q_seeAl, q_seeAt, q_srL, q_srO, q_srA, q_lenS, q_lenO, q_lenA, q_lenR, q_slL, q_slO, q_slA, q_slAo, q_slAl, q_ixR, q_ixL, q_ixO, q_ixA, q_appA, q_appAo, q_appR, q_emR, q_zipT, q_zipL, q_some, q_fn1, q_fn2, q_fn3, q_fn4, q_pn0, q_pn1, q_pn2, q_pn3, q_scaI, q_scaS, q_scaB, q_scaN, q_fnD, q_all0, q_all1, q_all2, q_all3, q_all4, q_all5, q_wipe0, q_wipe, q_start, q_eqI, q_eqX, q_eqB, q_onB, q_at0, q_at1, q_at2, q_at3, q_at4, q_tup, q_strT, q_str, q_int, q_bool, List.length_cons, List.length_nil, List.map_cons, List.map_nil, List.replicate, List.cons_append, List.nil_append, List.getD_cons_zero, List.getD_cons_succ, List.getD_nil, List.set_cons_zero, List.set_cons_succ, List.set_nil, cond_true, cond_false, Nat.reduceAdd, Nat.reduceSub, Nat.sub_self, Nat.add_one_sub_one, Bool.not_true, Bool.not_false, true_and, and_true, Bool.false_eq_true, if_false, reduceIte, q_ins e1]
    refine ⟨rfl, a, S, o, fs, rfl, sc, h4, h6, ?_⟩
    have ed : datas (tabsE S) = some (S.tabs.map .str) := by
      unfold tabsE
      induction S.tabs with
      | nil => rfl
      | cons x xs ih => rw [List.map_cons, datas, ih]; rfl
    simp only [at_mk, put_mk, know_mk, q_var, q_vdat, q_vpen, q_vown, q_vfn, q_vref, q_asD, q_asDo, q_asDa, q_aown, q_adat, q_asA, q_asAp, q_asAf, q_asAr, q_asAo, q_asAa, q_asS, q_asSo, q_asSp, q_asSf, q_asSr, q_asSa, q_asR, q_asRr, q_asRo, q_onD, q_onR, q_inOb, q_inObr, q_inObf, q_onT, q_onL, q_onI, q_onX, q_onBo, q_onTd, q_seqL, q_seqT, q_intI, q_intB, q_none, q_noneR, q_one, q_oneS, q_seeL, q_seeT, q_seeO, q_seeA, q_seeAo, q_seeAl, q_seeAt, q_srL, q_srO, q_srA, q_lenS, q_lenO, q_lenA, q_lenR, q_slL, q_slO, q_slA, q_slAo, q_slAl, q_ixR, q_ixL, q_ixO, q_ixA, q_appA, q_appAo, q_appR, q_emR, q_zipT, q_zipL, q_some, q_fn1, q_fn2, q_fn3, q_fn4, q_pn0, q_pn1, q_pn2, q_pn3, q_scaI, q_scaS, q_scaB, q_scaN, q_fnD, q_all0, q_all1, q_all2, q_all3, q_all4, q_all5, q_wipe0, q_wipe, q_start, q_eqI, q_eqX, q_eqB, q_onB, q_at0, q_at1, q_at2, q_at3, q_at4, q_tup, q_strT, q_str, q_int, q_bool, List.length_cons, List.length_nil, List.map_cons, List.map_nil, List.replicate, List.cons_append, List.nil_append, List.getD_cons_zero, List.getD_cons_succ, List.getD_nil, List.set_cons_zero, List.set_cons_succ, List.set_nil, cond_true, cond_false, Nat.reduceAdd, Nat.reduceSub, Nat.sub_self, Nat.add_one_sub_one, Bool.not_true, Bool.not_false, true_and, and_true, Bool.false_eq_true, if_false, reduceIte, q_ins e1, T.cSc, T.nSc_tables, scF_tables, q_srR e3 ed]
    refine inD_texts ?_
    rw [decide_eq_true h7]
    exact ⟨e, h2, h3, rfl, _, Sub.rfl, q⟩
  | each x o rs => cases pl
  | times x n rs => cases pl
  | cond e rs us => cases pl
theorem Row.deps_mem {rs : List Row} {n : Nat} (h : Row.deps rs ≤ n) : ∀ r ∈ rs, r.dep ≤ n := by
  induction rs with
  | nil => exact fun _ z => nomatch z
  | cons r rs ih =>
    intro x hx
    rw [Row.deps] at h
    rcases List.mem_cons.mp hx with e | e
    · rw [e]; omega
    · exact ih (by omega) x e
/-- the rows of a program are short -/
def Row.short : Row → Prop := fun _ => True
theorem met_are_rows (T : STxt K mg fb CSc) (n : Nat) (mt_Scope_is_row : Met P w K mg base (9 + 2 * n) CSc "is_row" (spH K 2 fun al as Φ => ∃ a S r, as = [.ref a, .dat (Row.data r)] ∧ ScAt CSc al a S ∧ r.ok S ∧ r.dep ≤ n ∧ Φ al (.dat (.bool true)))) : Met P w K mg base (10 + 2 * n) CSc "are_rows" (spH K 2 fun al as Φ => ∃ a S rs, as = [.ref a, .dat (.tuple (Row.datas rs))] ∧ ScAt CSc al a S ∧ Row.oks S rs ∧ Row.deps rs ≤ n ∧ rs.length ≤ 1000 ∧ Φ al (.dat (.bool true))) := by
  have e10 : 10 + 2 * n = 9 + 2 * n + 1 := by omega
  rw [e10]
  refine T.m_are_rows.met sc_Scope_are_rows (fun vs H Q E h => h.1) (fun f cdv A outer s H vs Q E hr h => ?_)
  have hu := hu_of hr
  refine ⟨_, (pss_one (ps_ret (pe_and (pe_callB (call_isiK' K (by rfl)) (by rfl) T.z_isinstance bt_isinstance (pa_cons (pv 1) (pa_cons (pe_bltn (v := .ty "tuple") rfl T.z_tuple bt_tuple rfl) pa_nil))) (pe_one (pe_callB (cr_allK K (by rfl) (by rfl)) (by rfl) T.z_all bt_all (by exact (pa_cons (pe_lcX [("one", 2)] (by rfl) sc_Scope_are_rows.nd (pi_tupK K (by rfl) (pv 1)) (blkOk_by (N := ["self", "thing", "one"]) (sc := defScope s_Scope_are_rows) (by decide +kernel)) (fun _ _ _ _ _ => by exact (pg_nameX 2 sc_Scope_are_rows.nd rfl (by first | exact .inl rfl | exact .inr rfl) (by first | exact .inr rfl | exact .inl rfl))) (fun _ _ _ _ _ => by exact pts_nil) (fun _ _ _ _ _ => by exact (pe_mt mt_Scope_is_row hr (by first | decide | omega) (pv 0) (pa_cons (pv 2) pa_nil))) (fun _ => rfl)) pa_nil))))))), ?_⟩
  refine run_H h fun Γ al as Φ hg => ?_
  obtain ⟨a, S, rs, rfl, sc, ok, hd, hl, q⟩ := hg
  obtain ⟨dx, sn, tb, e1, e2, e3⟩ := sc.ex
  rw [Row.datas_map]
  simp only [at_mk, put_mk, know_mk, q_var, q_vdat, q_vpen, q_vown, q_vfn, q_vref, q_asD, q_asDo, q_asDa, q_aown, q_adat, q_asA, q_asAp, q_asAf, q_asAr, q_asAo, q_asAa, q_asS, q_asSo, q_asSp, q_asSf, q_asSr, q_asSa, q_asR, q_asRr, q_asRo, q_onD, q_onR, q_inOb, q_inObr, q_inObf, q_onT, q_onL, q_onI, q_onX, q_onBo, q_onTd, q_seqL, q_seqT, q_intI, q_intB, q_none, q_noneR, q_one, q_oneS, q_seeL, q_seeT, q_seeO, q_seeA, q_seeAo, q_seeAl, q_seeAt, q_srL, q_srO, q_srA, q_lenS, q_lenO, q_lenA, q_lenR, q_slL, q_slO, q_slA, q_slAo, q_slAl, q_ixR, q_ixL, q_ixO, q_ixA, q_appA, q_appAo, q_appR, q_emR, q_zipT, q_zipL, q_some, q_fn1, q_fn2, q_fn3, q_fn4, q_pn0, q_pn1, q_pn2, q_pn3, q_scaI, q_scaS, q_scaB, q_scaN, q_fnD, q_all0, q_all1, q_all2, q_all3, q_all4, q_all5, q_wipe0, q_wipe, q_start, q_eqI, q_eqX, q_eqB, q_onB, q_at0, q_at1, q_at2, q_at3, q_at4, q_tup, q_strT, q_str, q_int, q_bool, List.length_cons, List.length_nil, List.map_cons, List.map_nil, List.replicate, List.cons_append, List.nil_append, List.getD_cons_zero, List.getD_cons_succ, List.getD_nil, List.set_cons_zero, List.set_cons_succ, List.set_nil, cond_true, cond_false, Nat.reduceAdd, Nat.reduceSub, Nat.sub_self, Nat.add_one_sub_one, Bool.not_true, Bool.not_false, true_and, and_true, Bool.false_eq_true, if_false, reduceIte]
  refine ⟨rfl, lcD_map (δ0 := ⟨[some (.ref a), some (.dat (.tuple (rs.map Row.data))), none], al⟩) (fun _ => .bool true) rfl (by rw [List.length_map]; show 0 + _ ≤ _; omega) ?_ ?_⟩
  · intro d hd' k hk
    obtain ⟨r, hr', rfl⟩ := List.mem_map.mp hd'
    simp only [at_mk, put_mk, know_mk, q_var, q_vdat, q_vpen, q_vown, q_vfn, q_vref, q_asD, q_asDo, q_asDa, q_aown, q_adat, q_asA, q_asAp, q_asAf, q_asAr, q_asAo, q_asAa, q_asS, q_asSo, q_asSp, q_asSf, q_asSr, q_asSa, q_asR, q_asRr, q_asRo, q_onD, q_onR, q_inOb, q_inObr, q_inObf, q_onT, q_onL, q_onI, q_onX, q_onBo, q_onTd, q_seqL, q_seqT, q_intI, q_intB, q_none, q_noneR, q_one, q_oneS, q_seeL, q_seeT, q_seeO, q_seeA, q_seeAo, q_seeAl, q_seeAt, q_srL, q_srO, q_srA, q_lenS, q_lenO, q_lenA, q_lenR, q_slL, q_slO, q_slA, q_slAo, q_slAl, q_ixR, q_ixL, q_ixO, q_ixA, q_appA, q_appAo, q_appR, q_emR, q_zipT, q_zipL, q_some, q_fn1, q_fn2, q_fn3, q_fn4, q_pn0, q_pn1, q_pn2, q_pn3, q_scaI, q_scaS, q_scaB, q_scaN, q_fnD, q_all0, q_all1, q_all2, q_all3, q_all4, q_all5, q_wipe0, q_wipe, q_start, q_eqI, q_eqX, q_eqB, q_onB, q_at0, q_at1, q_at2, q_at3, q_at4, q_tup, q_strT, q_str, q_int, q_bool, List.length_cons, List.length_nil, List.map_cons, List.map_nil, List.replicate, List.cons_append, List.nil_append, List.getD_cons_zero, List.getD_cons_succ, List.getD_nil, List.set_cons_zero, List.set_cons_succ, List.set_nil, cond_true, cond_false, Nat.reduceAdd, Nat.reduceSub, Nat.sub_self, Nat.add_one_sub_one, Bool.not_true, Bool.not_false, true_and, and_true, Bool.false_eq_true, if_false, reduceIte, q_ins e1]
    exact ⟨rfl, a, S, r, rfl, sc, Row.oks_mem.mp ok r hr', Row.deps_mem hd r hr', hk _ rfl⟩
  · refine onBs_trues ?_
    rw [all_trues]
    exact ⟨_, Sub.rfl, q⟩
theorem met_is_row (T : STxt K mg fb CSc) (n : Nat) : Met P w K mg base (9 + 2 * n) CSc "is_row" (spH K 2 fun al as Φ => ∃ a S r, as = [.ref a, .dat (Row.data r)] ∧ ScAt CSc al a S ∧ r.ok S ∧ r.dep ≤ n ∧ Φ al (.dat (.bool true))) := by
  have c_is_headed := cal_is_headed' (P := P) (w := w) (base := base) T.toUTxt
  have c_is_name := cal_is_name' (P := P) (w := w) (base := base) T.toUTxt
  have c_is_from := cal_is_from' (P := P) (w := w) (base := base) T.toUTxt
  have c_is_expression := cal_is_expression' (P := P) (w := w) (base := base) T.toUTxt 3
  have mt_Scope_is_over := met_is_over (P := P) (w := w) (base := base) T
  have mt_Scope_is_plain := met_is_plain (P := P) (w := w) (base := base) T
  have mt_Scope_are_rows : Met P w K mg base (8 + 2 * n) CSc "are_rows" (spH K 2 fun al as Φ => ∃ a S rs, as = [.ref a, .dat (.tuple (Row.datas rs))] ∧ ScAt CSc al a S ∧ Row.oks S rs ∧ Row.deps rs < n ∧ rs.length ≤ 1000 ∧ Φ al (.dat (.bool true))) := by
    cases n with
    | zero =>
      exact T.m_are_rows.met sc_Scope_are_rows (fun vs H Q E h => h.1) (fun f cdv A outer s H vs Q E hr h => (spH_no (fun al as Φ hg => by
        obtain ⟨a, S, rs, rfl, _, _, lt, _⟩ := hg
        exact absurd lt (Nat.not_lt_zero _)) h).elim)
    | succ n =>
      refine (met_are_rows T n (met_is_row T n)).imp (spH_imp fun al as Φ hg => ?_) (by omega)
      obtain ⟨a, S, rs, h1, h2, h3, h4, h5, h6⟩ := hg
      exact ⟨a, S, rs, h1, h2, h3, by omega, h5, h6⟩
  have e9 : 9 + 2 * n = 8 + 2 * n + 1 := by omega
  rw [e9]
  refine T.m_is_row.met sc_Scope_is_row (fun vs H Q E h => h.1) (fun f cdv A outer s H vs Q E hr h => ?_)
  have hu := hu_of hr
  refine ⟨_, (pss_cons (ps_if (pt_val (pe_c c_is_headed hr (by first | decide | omega) (by rfl) (pa_cons (pv 1) (pa_cons pe_str (pa_cons pe_int pa_nil)))))
  (pss_one (ps_ret (pe_and (pe_c c_is_name hr (by first | decide | omega) (by rfl) (pa_cons (pe_ix (ix_tupK K (by rfl)) (pv 1) pe_int (fun _ _ => rfl)) pa_nil)) (pe_and (pe_mt mt_Scope_is_over hr (by first | decide | omega) (pv 0) (pa_cons (pe_ix (ix_tupK K (by rfl)) (pv 1) pe_int (fun _ _ => rfl)) pa_nil)) (pe_one (pe_mt mt_Scope_are_rows hr (by first | decide | omega) (pv 0) (pa_cons (pe_ix (ix_tupK K (by rfl)) (pv 1) pe_int (fun _ _ => rfl)) pa_nil)))))))
  pss_nil)
  (pss_cons (ps_if (pt_val (pe_c c_is_headed hr (by first | decide | omega) (by rfl) (pa_cons (pv 1) (pa_cons pe_str (pa_cons pe_int pa_nil)))))
  (pss_one (ps_ret (pe_and (pe_c c_is_name hr (by first | decide | omega) (by rfl) (pa_cons (pe_ix (ix_tupK K (by rfl)) (pv 1) pe_int (fun _ _ => rfl)) pa_nil)) (pe_and (pe_c c_is_from hr (by first | decide | omega) (by rfl) (pa_cons (pe_ix (ix_tupK K (by rfl)) (pv 1) pe_int (fun _ _ => rfl)) (pa_cons pe_int (pa_cons (pe_gint rfl T.g_MOST_MANY) pa_nil)))) (pe_one (pe_mt mt_Scope_are_rows hr (by first | decide | omega) (pv 0) (pa_cons (pe_ix (ix_tupK K (by rfl)) (pv 1) pe_int (fun _ _ => rfl)) pa_nil)))))))
  pss_nil)
  (pss_cons (ps_if (pt_val (pe_c c_is_headed hr (by first | decide | omega) (by rfl) (pa_cons (pv 1) (pa_cons pe_str (pa_cons pe_int pa_nil)))))
  (pss_one (ps_ret (pe_and (pe_c c_is_expression hr (by first | decide | omega) (by rfl) (pa_cons (pe_ix (ix_tupK K (by rfl)) (pv 1) pe_int (fun _ _ => rfl)) pa_nil)) (pe_and (pe_mt mt_Scope_are_rows hr (by first | decide | omega) (pv 0) (pa_cons (pe_ix (ix_tupK K (by rfl)) (pv 1) pe_int (fun _ _ => rfl)) pa_nil)) (pe_one (pe_mt mt_Scope_are_rows hr (by first | decide | omega) (pv 0) (pa_cons (pe_ix (ix_tupK K (by rfl)) (pv 1) pe_int (fun _ _ => rfl)) pa_nil)))))))
  pss_nil)
  (pss_one (ps_ret (pe_mt mt_Scope_is_plain hr (by first | decide | omega) (pv 0) (pa_cons (pv 1) pa_nil))))))), ?_⟩
  refine run_H h fun Γ al as Φ hg => ?_
  obtain ⟨a, S, r, rfl, sc, ok, hd, q⟩ := hg
  obtain ⟨dx, sn, tb, e1, e2, e3⟩ := sc.ex
  have nl : ∀ {x : Str}, isName x = true → ∀ z, PyData.str x = .str z → z.length ≤ sizeLine := fun h z hz => by cases hz; exact Nat.le_trans (isName_len h) (by decide)
  have nd : ∀ {x : Str}, isName x = true → nameD (.str x) = true := fun h => h
  cases r with
  | set x e =>
    simp only [at_mk, put_mk, know_mk, q_var, q_vdat, q_vpen, q_vown, q_vfn, q_vref, q_asD, q_asDo, q_asDa, q_aown, q_adat, q_asA, q_asAp, q_asAf, q_asAr, q_asAo, q_asAa, q_asS, q_asSo, q_asSp, q_asSf, q_asSr, q_asSa, q_asR, q_asRr, q_asRo, q_onD, q_onR, q_inOb, q_inObr, q_inObf, q_onT, q_onL, q_onI, q_onX, q_onBo, q_onTd, q_seqL, q_seqT, q_intI, q_intB, q_none, q_noneR, q_one, q_oneS, q_seeL, q_seeT, q_seeO, q_seeA, q_seeAo, q_seeAl, q_seeAt, q_srL, q_srO, q_srA, q_lenS, q_lenO, q_lenA, q_lenR, q_slL, q_slO, q_slA, q_slAo, q_slAl, q_ixR, q_ixL, q_ixO, q_ixA, q_appA, q_appAo, q_appR, q_emR, q_zipT, q_zipL, q_some, q_fn1, q_fn2, q_fn3, q_fn4, q_pn0, q_pn1, q_pn2, q_pn3, q_scaI, q_scaS, q_scaB, q_scaN, q_fnD, q_all0, q_all1, q_all2, q_all3, q_all4, q_all5, q_wipe0, q_wipe, q_start, q_eqI, q_eqX, q_eqB, q_onB, q_at0, q_at1, q_at2, q_at3, q_at4, q_tup, q_strT, q_str, q_int, q_bool, List.length_cons, List.length_nil, List.map_cons, List.map_nil, List.replicate, List.cons_append, List.nil_append, List.getD_cons_zero, List.getD_cons_succ, List.getD_nil, List.set_cons_zero, List.set_cons_succ, List.set_nil, cond_true, cond_false, Nat.reduceAdd, Nat.reduceSub, Nat.sub_self, Nat.add_one_sub_one, Bool.not_true, Bool.not_false, true_and, and_true, Bool.false_eq_true, if_false, reduceIte, Row.data, hd_set_each, hd_set_times, hd_set_when, q_ins e1]
    exact ⟨by decide, by decide, by decide, rfl, a, S, .set x e, rfl, sc, ok, rfl, _, Sub.rfl, q⟩
  | tell e =>
    simp only [at_mk, put_mk, know_mk, q_var, q_vdat, q_vpen, q_vown, q_vfn, q_vref, q_asD, q_asDo, q_asDa, q_aown, q_adat, q_asA, q_asAp, q_asAf, q_asAr, q_asAo, q_asAa, q_asS, q_asSo, q_asSp, q_asSf, q_asSr, q_asSa, q_asR, q_asRr, q_asRo, q_onD, q_onR, q_inOb, q_inObr, q_inObf, q_onT, q_onL, q_onI, q_onX, q_onBo, q_onTd, q_seqL, q_seqT, q_intI, q_intB, q_none, q_noneR, q_one, q_oneS, q_seeL, q_seeT, q_seeO, q_seeA, q_seeAo, q_seeAl, q_seeAt, q_srL, q_srO, q_srA, q_lenS, q_lenO, q_lenA, q_lenR, q_slL, q_slO, q_slA, q_slAo, q_slAl, q_ixR, q_ixL, q_ixO, q_ixA, q_appA, q_appAo, q_appR, q_emR, q_zipT, q_zipL, q_some, q_fn1, q_fn2, q_fn3, q_fn4, q_pn0, q_pn1, q_pn2, q_pn3, q_scaI, q_scaS, q_scaB, q_scaN, q_fnD, q_all0, q_all1, q_all2, q_all3, q_all4, q_all5, q_wipe0, q_wipe, q_start, q_eqI, q_eqX, q_eqB, q_onB, q_at0, q_at1, q_at2, q_at3, q_at4, q_tup, q_strT, q_str, q_int, q_bool, List.length_cons, List.length_nil, List.map_cons, List.map_nil, List.replicate, List.cons_append, List.nil_append, List.getD_cons_zero, List.getD_cons_succ, List.getD_nil, List.set_cons_zero, List.set_cons_succ, List.set_nil, cond_true, cond_false, Nat.reduceAdd, Nat.reduceSub, Nat.sub_self, Nat.add_one_sub_one, Bool.not_true, Bool.not_false, true_and, and_true, Bool.false_eq_true, if_false, reduceIte, Row.data, hd_tell_each, hd_tell_times, hd_tell_when, q_ins e1]
    exact ⟨by decide, by decide, by decide, rfl, a, S, .tell e, rfl, sc, ok, rfl, _, Sub.rfl, q⟩
  | get x o e f =>
    simp only [at_mk, put_mk, know_mk, q_var, q_vdat, q_vpen, q_vown, q_vfn, q_vref, q_asD, q_asDo, q_asDa, q_aown, q_adat, q_asA, q_asAp, q_asAf, q_asAr, q_asAo, q_asAa, q_asS, q_asSo, q_asSp, q_asSf, q_asSr, q_asSa, q_asR, q_asRr, q_asRo, q_onD, q_onR, q_inOb, q_inObr, q_inObf, q_onT, q_onL, q_onI, q_onX, q_onBo, q_onTd, q_seqL, q_seqT, q_intI, q_intB, q_none, q_noneR, q_one, q_oneS, q_seeL, q_seeT, q_seeO, q_seeA, q_seeAo, q_seeAl, q_seeAt, q_srL, q_srO, q_srA, q_lenS, q_lenO, q_lenA, q_lenR, q_slL, q_slO, q_slA, q_slAo, q_slAl, q_ixR, q_ixL, q_ixO, q_ixA, q_appA, q_appAo, q_appR, q_emR, q_zipT, q_zipL, q_some, q_fn1, q_fn2, q_fn3, q_fn4, q_pn0, q_pn1, q_pn2, q_pn3, q_scaI, q_scaS, q_scaB, q_scaN, q_fnD, q_all0, q_all1, q_all2, q_all3, q_all4, q_all5, q_wipe0, q_wipe, q_start, q_eqI, q_eqX, q_eqB, q_onB, q_at0, q_at1, q_at2, q_at3, q_at4, q_tup, q_strT, q_str, q_int, q_bool, List.length_cons, List.length_nil, List.map_cons, List.map_nil, List.replicate, List.cons_append, List.nil_append, List.getD_cons_zero, List.getD_cons_succ, List.getD_nil, List.set_cons_zero, List.set_cons_succ, List.set_nil, cond_true, cond_false, Nat.reduceAdd, Nat.reduceSub, Nat.sub_self, Nat.add_one_sub_one, Bool.not_true, Bool.not_false, true_and, and_true, Bool.false_eq_true, if_false, reduceIte, Row.data, hd_get_each, hd_get_times, hd_get_when, q_ins e1]
    exact ⟨by decide, by decide, by decide, rfl, a, S, .get x o e f, rfl, sc, ok, rfl, _, Sub.rfl, q⟩
  | put o e f v =>
    simp only [at_mk, put_mk, know_mk, q_var, q_vdat, q_vpen, q_vown, q_vfn, q_vref, q_asD, q_asDo, q_asDa, q_aown, q_adat, q_asA, q_asAp, q_asAf, q_asAr, q_asAo, q_asAa, q_asS, q_asSo, q_asSp, q_asSf, q_asSr, q_asSa, q_asR, q_asRr, q_asRo, q_onD, q_onR, q_inOb, q_inObr, q_inObf, q_onT, q_onL, q_onI, q_onX, q_onBo, q_onTd, q_seqL, q_seqT, q_intI, q_intB, q_none, q_noneR, q_one, q_oneS, q_seeL, q_seeT, q_seeO, q_seeA, q_seeAo, q_seeAl, q_seeAt, q_srL, q_srO, q_srA, q_lenS, q_lenO, q_lenA, q_lenR, q_slL, q_slO, q_slA, q_slAo, q_slAl, q_ixR, q_ixL, q_ixO, q_ixA, q_appA, q_appAo, q_appR, q_emR, q_zipT, q_zipL, q_some, q_fn1, q_fn2, q_fn3, q_fn4, q_pn0, q_pn1, q_pn2, q_pn3, q_scaI, q_scaS, q_scaB, q_scaN, q_fnD, q_all0, q_all1, q_all2, q_all3, q_all4, q_all5, q_wipe0, q_wipe, q_start, q_eqI, q_eqX, q_eqB, q_onB, q_at0, q_at1, q_at2, q_at3, q_at4, q_tup, q_strT, q_str, q_int, q_bool, List.length_cons, List.length_nil, List.map_cons, List.map_nil, List.replicate, List.cons_append, List.nil_append, List.getD_cons_zero, List.getD_cons_succ, List.getD_nil, List.set_cons_zero, List.set_cons_succ, List.set_nil, cond_true, cond_false, Nat.reduceAdd, Nat.reduceSub, Nat.sub_self, Nat.add_one_sub_one, Bool.not_true, Bool.not_false, true_and, and_true, Bool.false_eq_true, if_false, reduceIte, Row.data, hd_put_each, hd_put_times, hd_put_when, q_ins e1]
    exact ⟨by decide, by decide, by decide, rfl, a, S, .put o e f v, rfl, sc, ok, rfl, _, Sub.rfl, q⟩
  | hand o e =>
    simp only [at_mk, put_mk, know_mk, q_var, q_vdat, q_vpen, q_vown, q_vfn, q_vref, q_asD, q_asDo, q_asDa, q_aown, q_adat, q_asA, q_asAp, q_asAf, q_asAr, q_asAo, q_asAa, q_asS, q_asSo, q_asSp, q_asSf, q_asSr, q_asSa, q_asR, q_asRr, q_asRo, q_onD, q_onR, q_inOb, q_inObr, q_inObf, q_onT, q_onL, q_onI, q_onX, q_onBo, q_onTd, q_seqL, q_seqT, q_intI, q_intB, q_none, q_noneR, q_one, q_oneS, q_seeL, q_seeT, q_seeO, q_seeA, q_seeAo, q_seeAl, q_seeAt, q_srL, q_srO, q_srA, q_lenS, q_lenO, q_lenA, q_lenR, q_slL, q_slO, q_slA, q_slAo, q_slAl, q_ixR, q_ixL, q_ixO, q_ixA, q_appA, q_appAo, q_appR, q_emR, q_zipT, q_zipL, q_some, q_fn1, q_fn2, q_fn3, q_fn4, q_pn0, q_pn1, q_pn2, q_pn3, q_scaI, q_scaS, q_scaB, q_scaN, q_fnD, q_all0, q_all1, q_all2, q_all3, q_all4, q_all5, q_wipe0, q_wipe, q_start, q_eqI, q_eqX, q_eqB, q_onB, q_at0, q_at1, q_at2, q_at3, q_at4, q_tup, q_strT, q_str, q_int, q_bool, List.length_cons, List.length_nil, List.map_cons, List.map_nil, List.replicate, List.cons_append, List.nil_append, List.getD_cons_zero, List.getD_cons_succ, List.getD_nil, List.set_cons_zero, List.set_cons_succ, List.set_nil, cond_true, cond_false, Nat.reduceAdd, Nat.reduceSub, Nat.sub_self, Nat.add_one_sub_one, Bool.not_true, Bool.not_false, true_and, and_true, Bool.false_eq_true, if_false, reduceIte, Row.data, hd_hand_each, hd_hand_times, hd_hand_when, q_ins e1]
    exact ⟨by decide, by decide, by decide, rfl, a, S, .hand o e, rfl, sc, ok, rfl, _, Sub.rfl, q⟩
  | each x o rs =>
    obtain ⟨h1, ⟨h2, fs, h3⟩, h4, h5⟩ := ok
    have hd' : Row.deps rs + 1 ≤ n := hd
    simp only [at_mk, put_mk, know_mk, q_var, q_vdat, q_vpen, q_vown, q_vfn, q_vref, q_asD, q_asDo, q_asDa, q_aown, q_adat, q_asA, q_asAp, q_asAf, q_asAr, q_asAo, q_asAa, q_asS, q_asSo, q_asSp, q_asSf, q_asSr, q_asSa, q_asR, q_asRr, q_asRo, q_onD, q_onR, q_inOb, q_inObr, q_inObf, q_onT, q_onL, q_onI, q_onX, q_onBo, q_onTd, q_seqL, q_seqT, q_intI, q_intB, q_none, q_noneR, q_one, q_oneS, q_seeL, q_seeT, q_seeO, q_seeA, q_seeAo, q_seeAl, q_seeAt, q_srL, q_srO, q_srA, q_lenS, q_lenO, q_lenA, q_lenR, q_slL, q_slO, q_slA, q_slAo, q_slAl, q_ixR, q_ixL, q_ixO, q_ixA, q_appA, q_appAo, q_appR, q_emR, q_zipT, q_zipL, q_some, q_fn1, q_fn2, q_fn3, q_fn4, q_pn0, q_pn1, q_pn2, q_pn3, q_scaI, q_scaS, q_scaB, q_scaN, q_fnD, q_all0, q_all1, q_all2, q_all3, q_all4, q_all5, q_wipe0, q_wipe, q_start, q_eqI, q_eqX, q_eqB, q_onB, q_at0, q_at1, q_at2, q_at3, q_at4, q_tup, q_strT, q_str, q_int, q_bool, List.length_cons, List.length_nil, List.map_cons, List.map_nil, List.replicate, List.cons_append, List.nil_append, List.getD_cons_zero, List.getD_cons_succ, List.getD_nil, List.set_cons_zero, List.set_cons_succ, List.set_nil, cond_true, cond_false, Nat.reduceAdd, Nat.reduceSub, Nat.sub_self, Nat.add_one_sub_one, Bool.not_true, Bool.not_false, true_and, and_true, Bool.false_eq_true, if_false, reduceIte, Row.data, hd_each_each, hd_each_times, hd_each_when, nd h1]
    refine ⟨by decide, nl h1, ?_⟩
    simp only [at_mk, put_mk, know_mk, q_var, q_vdat, q_vpen, q_vown, q_vfn, q_vref, q_asD, q_asDo, q_asDa, q_aown, q_adat, q_asA, q_asAp, q_asAf, q_asAr, q_asAo, q_asAa, q_asS, q_asSo, q_asSp, q_asSf, q_asSr, q_asSa, q_asR, q_asRr, q_asRo, q_onD, q_onR, q_inOb, q_inObr, q_inObf, q_onT, q_onL, q_onI, q_onX, q_onBo, q_onTd, q_seqL, q_seqT, q_intI, q_intB, q_none, q_noneR, q_one, q_oneS, q_seeL, q_seeT, q_seeO, q_seeA, q_seeAo, q_seeAl, q_seeAt, q_srL, q_srO, q_srA, q_lenS, q_lenO, q_lenA, q_lenR, q_slL, q_slO, q_slA, q_slAo, q_slAl, q_ixR, q_ixL, q_ixO, q_ixA, q_appA, q_appAo, q_appR, q_emR, q_zipT, q_zipL, q_some, q_fn1, q_fn2, q_fn3, q_fn4, q_pn0, q_pn1, q_pn2, q_pn3, q_scaI, q_scaS, q_scaB, q_scaN, q_fnD, q_all0, q_all1, q_all2, q_all3, q_all4, q_all5, q_wipe0, q_wipe, q_start, q_eqI, q_eqX, q_eqB, q_onB, q_at0, q_at1, q_at2, q_at3, q_at4, q_tup, q_strT, q_str, q_int, q_bool, List.length_cons, List.length_nil, List.map_cons, List.map_nil, List.replicate, List.cons_append, List.nil_append, List.getD_cons_zero, List.getD_cons_succ, List.getD_nil, List.set_cons_zero, List.set_cons_succ, List.set_nil, cond_true, cond_false, Nat.reduceAdd, Nat.reduceSub, Nat.sub_self, Nat.add_one_sub_one, Bool.not_true, Bool.not_false, true_and, and_true, Bool.false_eq_true, if_false, reduceIte, q_ins e1]
    refine ⟨rfl, a, S, o, fs, rfl, sc, h2, h3, ?_⟩
    exact ⟨rfl, a, S, rs, rfl, sc, h4, by omega, h5, _, Sub.rfl, q⟩
  | times x m rs =>
    obtain ⟨h1, h2, h4, h5⟩ := ok
    have hd' : Row.deps rs + 1 ≤ n := hd
    have hf : isFrom (.int m) 1 6 = true := isFrom_in h2.1 h2.2
    simp only [at_mk, put_mk, know_mk, q_var, q_vdat, q_vpen, q_vown, q_vfn, q_vref, q_asD, q_asDo, q_asDa, q_aown, q_adat, q_asA, q_asAp, q_asAf, q_asAr, q_asAo, q_asAa, q_asS, q_asSo, q_asSp, q_asSf, q_asSr, q_asSa, q_asR, q_asRr, q_asRo, q_onD, q_onR, q_inOb, q_inObr, q_inObf, q_onT, q_onL, q_onI, q_onX, q_onBo, q_onTd, q_seqL, q_seqT, q_intI, q_intB, q_none, q_noneR, q_one, q_oneS, q_seeL, q_seeT, q_seeO, q_seeA, q_seeAo, q_seeAl, q_seeAt, q_srL, q_srO, q_srA, q_lenS, q_lenO, q_lenA, q_lenR, q_slL, q_slO, q_slA, q_slAo, q_slAl, q_ixR, q_ixL, q_ixO, q_ixA, q_appA, q_appAo, q_appR, q_emR, q_zipT, q_zipL, q_some, q_fn1, q_fn2, q_fn3, q_fn4, q_pn0, q_pn1, q_pn2, q_pn3, q_scaI, q_scaS, q_scaB, q_scaN, q_fnD, q_all0, q_all1, q_all2, q_all3, q_all4, q_all5, q_wipe0, q_wipe, q_start, q_eqI, q_eqX, q_eqB, q_onB, q_at0, q_at1, q_at2, q_at3, q_at4, q_tup, q_strT, q_str, q_int, q_bool, List.length_cons, List.length_nil, List.map_cons, List.map_nil, List.replicate, List.cons_append, List.nil_append, List.getD_cons_zero, List.getD_cons_succ, List.getD_nil, List.set_cons_zero, List.set_cons_succ, List.set_nil, cond_true, cond_false, Nat.reduceAdd, Nat.reduceSub, Nat.sub_self, Nat.add_one_sub_one, Bool.not_true, Bool.not_false, true_and, and_true, Bool.false_eq_true, if_false, reduceIte, Row.data, hd_times_each, hd_times_times, hd_times_when, nd h1, hf]
    refine ⟨by decide, by decide, nl h1, ?_⟩
    simp only [at_mk, put_mk, know_mk, q_var, q_vdat, q_vpen, q_vown, q_vfn, q_vref, q_asD, q_asDo, q_asDa, q_aown, q_adat, q_asA, q_asAp, q_asAf, q_asAr, q_asAo, q_asAa, q_asS, q_asSo, q_asSp, q_asSf, q_asSr, q_asSa, q_asR, q_asRr, q_asRo, q_onD, q_onR, q_inOb, q_inObr, q_inObf, q_onT, q_onL, q_onI, q_onX, q_onBo, q_onTd, q_seqL, q_seqT, q_intI, q_intB, q_none, q_noneR, q_one, q_oneS, q_seeL, q_seeT, q_seeO, q_seeA, q_seeAo, q_seeAl, q_seeAt, q_srL, q_srO, q_srA, q_lenS, q_lenO, q_lenA, q_lenR, q_slL, q_slO, q_slA, q_slAo, q_slAl, q_ixR, q_ixL, q_ixO, q_ixA, q_appA, q_appAo, q_appR, q_emR, q_zipT, q_zipL, q_some, q_fn1, q_fn2, q_fn3, q_fn4, q_pn0, q_pn1, q_pn2, q_pn3, q_scaI, q_scaS, q_scaB, q_scaN, q_fnD, q_all0, q_all1, q_all2, q_all3, q_all4, q_all5, q_wipe0, q_wipe, q_start, q_eqI, q_eqX, q_eqB, q_onB, q_at0, q_at1, q_at2, q_at3, q_at4, q_tup, q_strT, q_str, q_int, q_bool, List.length_cons, List.length_nil, List.map_cons, List.map_nil, List.replicate, List.cons_append, List.nil_append, List.getD_cons_zero, List.getD_cons_succ, List.getD_nil, List.set_cons_zero, List.set_cons_succ, List.set_nil, cond_true, cond_false, Nat.reduceAdd, Nat.reduceSub, Nat.sub_self, Nat.add_one_sub_one, Bool.not_true, Bool.not_false, true_and, and_true, Bool.false_eq_true, if_false, reduceIte, q_ins e1]
    exact ⟨rfl, a, S, rs, rfl, sc, h4, by omega, h5, _, Sub.rfl, q⟩
  | cond e rs us =>
    obtain ⟨⟨h1, h2⟩, ⟨h4, h5⟩, h6, h7⟩ := ok
    have hd' : max (Row.deps rs) (Row.deps us) + 1 ≤ n := hd
    simp only [at_mk, put_mk, know_mk, q_var, q_vdat, q_vpen, q_vown, q_vfn, q_vref, q_asD, q_asDo, q_asDa, q_aown, q_adat, q_asA, q_asAp, q_asAf, q_asAr, q_asAo, q_asAa, q_asS, q_asSo, q_asSp, q_asSf, q_asSr, q_asSa, q_asR, q_asRr, q_asRo, q_onD, q_onR, q_inOb, q_inObr, q_inObf, q_onT, q_onL, q_onI, q_onX, q_onBo, q_onTd, q_seqL, q_seqT, q_intI, q_intB, q_none, q_noneR, q_one, q_oneS, q_seeL, q_seeT, q_seeO, q_seeA, q_seeAo, q_seeAl, q_seeAt, q_srL, q_srO, q_srA, q_lenS, q_lenO, q_lenA, q_lenR, q_slL, q_slO, q_slA, q_slAo, q_slAl, q_ixR, q_ixL, q_ixO, q_ixA, q_appA, q_appAo, q_appR, q_emR, q_zipT, q_zipL, q_some, q_fn1, q_fn2, q_fn3, q_fn4, q_pn0, q_pn1, q_pn2, q_pn3, q_scaI, q_scaS, q_scaB, q_scaN, q_fnD, q_all0, q_all1, q_all2, q_all3, q_all4, q_all5, q_wipe0, q_wipe, q_start, q_eqI, q_eqX, q_eqB, q_onB, q_at0, q_at1, q_at2, q_at3, q_at4, q_tup, q_strT, q_str, q_int, q_bool, List.length_cons, List.length_nil, List.map_cons, List.map_nil, List.replicate, List.cons_append, List.nil_append, List.getD_cons_zero, List.getD_cons_succ, List.getD_nil, List.set_cons_zero, List.set_cons_succ, List.set_nil, cond_true, cond_false, Nat.reduceAdd, Nat.reduceSub, Nat.sub_self, Nat.add_one_sub_one, Bool.not_true, Bool.not_false, true_and, and_true, Bool.false_eq_true, if_false, reduceIte, Row.data, hd_when_each, hd_when_times, hd_when_when]
    refine ⟨by decide, by decide, by decide, e, h1, h2, rfl, ?_⟩
    simp only [at_mk, put_mk, know_mk, q_var, q_vdat, q_vpen, q_vown, q_vfn, q_vref, q_asD, q_asDo, q_asDa, q_aown, q_adat, q_asA, q_asAp, q_asAf, q_asAr, q_asAo, q_asAa, q_asS, q_asSo, q_asSp, q_asSf, q_asSr, q_asSa, q_asR, q_asRr, q_asRo, q_onD, q_onR, q_inOb, q_inObr, q_inObf, q_onT, q_onL, q_onI, q_onX, q_onBo, q_onTd, q_seqL, q_seqT, q_intI, q_intB, q_none, q_noneR, q_one, q_oneS, q_seeL, q_seeT, q_seeO, q_seeA, q_seeAo, q_seeAl, q_seeAt, q_srL, q_srO, q_srA, q_lenS, q_lenO, q_lenA, q_lenR, q_slL, q_slO, q_slA, q_slAo, q_slAl, q_ixR, q_ixL, q_ixO, q_ixA, q_appA, q_appAo, q_appR, q_emR, q_zipT, q_zipL, q_some, q_fn1, q_fn2, q_fn3, q_fn4, q_pn0, q_pn1, q_pn2, q_pn3, q_scaI, q_scaS, q_scaB, q_scaN, q_fnD, q_all0, q_all1, q_all2, q_all3, q_all4, q_all5, q_wipe0, q_wipe, q_start, q_eqI, q_eqX, q_eqB, q_onB, q_at0, q_at1, q_at2, q_at3, q_at4, q_tup, q_strT, q_str, q_int, q_bool, List.length_cons, List.length_nil, List.map_cons, List.map_nil, List.replicate, List.cons_append, List.nil_append, List.getD_cons_zero, List.getD_cons_succ, List.getD_nil, List.set_cons_zero, List.set_cons_succ, List.set_nil, cond_true, cond_false, Nat.reduceAdd, Nat.reduceSub, Nat.sub_self, Nat.add_one_sub_one, Bool.not_true, Bool.not_false, true_and, and_true, Bool.false_eq_true, if_false, reduceIte, q_ins e1]
    refine ⟨rfl, a, S, rs, rfl, sc, h4, by omega, h5, ?_⟩
    exact ⟨rfl, a, S, us, rfl, sc, h6, by omega, h7, _, Sub.rfl, q⟩
end
end B


set_option synthInstance.maxHeartbeats 0
set_option synthInstance.maxSize 100000
/-! programs.py: is_program. -/
namespace B
open PySem PySem.Spec PyProof.Rows L2
section
variable {P : Program} {w : World} {K : PySem.W.Frag} {mg : Str → Option Value} {base : Heap} {fb CSc : Addr}
theorem met_takes_view0 (T : STxt K mg fb CSc) : Met P w K mg base 1 CSc "takes_view" (spH K 2 fun al as Φ => False) :=
  T.m_takes_view.met sc_Scope_takes_view (fun vs H Q E h => h.1) (fun f cdv A outer s H vs Q E hr h => (spH_no (fun al as Φ hg => hg) h).elim)
/-- the tables taken one by one -/
def Sco.adds (S : Sco) : List Tab → Sco
  | [] => S
  | t :: ts => (S.add t).adds ts
theorem Sco.adds_eq : ∀ (ts : List Tab) (S : Sco), S.adds ts = ⟨S.seen ++ ts.map fun t => (t.name, t.fields.map (·.1)), S.tabs ++ ts.map (·.name)⟩
  | [], S => by simp [Sco.adds]
  | t :: ts, S => by
    rw [Sco.adds, Sco.adds_eq ts]
    unfold Sco.add
    simp
theorem lookup_none_of {o : Str} {xs : List (Str × List Str)} (h : o ∉ xs.map (·.1)) : xs.lookup o = none := by
  induction xs with
  | nil => rfl
  | cons p ps ih =>
    rw [List.map_cons, List.mem_cons, not_or] at h
    have e1 : (o == p.1) = false := beq_eq_false_iff_ne.mpr h.1
    simp only [List.lookup, e1]
    exact ih h.2
theorem lcD_tabs {CSc a : Addr} {fg : Sv → Dn → (Dn → Prop) → Prop} {fe : Dn → (Sv → Dn → Prop) → Prop} {sl : List (Option Sv)} {vs : List Nat} {Φ : List PyData → Dn → Prop}
    (hs : ∀ (t : Tab) (al : Al) (S : Sco) (k : PyData → Dn → Prop), ScAt CSc al a S → t.ok → S.fieldsOf t.name = none → (S.tabs.length < 3 ∧ S.seen.length < 6) → (∀ al' δ, ScAt CSc al' a (S.add t) → wipeD δ vs = ⟨sl, al'⟩ → k (.bool true) δ) → fg (.dat t.data) ⟨sl, al⟩ fun δ1 => fe δ1 fun s δ3 => asD s δ3 k) :
    ∀ (ts : List Tab) (acc : List PyData) (S : Sco) (al : Al) (δ : Dn), wipeD δ vs = ⟨sl, al⟩ → ScAt CSc al a S → (∀ t ∈ ts, t.ok) → (ts.map (·.name)).Nodup → (∀ t ∈ ts, t.name ∉ S.seen.map (·.1)) → S.tabs.length + ts.length ≤ 3 → S.seen.length + ts.length ≤ 6 → acc.length + ts.length ≤ 100 →
      (∀ al', ScAt CSc al' a (S.adds ts) → Φ (acc ++ ts.map fun _ => .bool true) ⟨sl, al'⟩) → lcD fg (fun δ Φ => Φ true δ) fe vs Φ (ts.map Tab.data) acc δ
  | [], acc, S, al, δ, e, sc, _, _, _, _, _, _, h => by
    show Φ acc (wipeD δ vs)
    rw [e]
    simpa using h al sc
  | t :: ts, acc, S, al, δ, e, sc, ok, nd, fr, l1, l2, l3, h => by
    show fg (.dat t.data) (wipeD δ vs) fun δ1 => fe δ1 fun s δ3 => asD s δ3 fun y δ4 => acc.length < 1000000 ∧ lcD fg (fun δ Φ => Φ true δ) fe vs Φ (ts.map Tab.data) (acc ++ [y]) δ4
    rw [e]
    rw [List.map_cons, List.nodup_cons] at nd
    simp only [List.length_cons] at l1 l2 l3
    refine hs t al S _ sc (ok t (List.mem_cons_self ..)) (lookup_none_of (fr t (List.mem_cons_self ..))) ⟨by omega, by omega⟩ fun al' δ' sc' e' => ⟨by omega, ?_⟩
    refine lcD_tabs hs ts (acc ++ [.bool true]) (S.add t) al' δ' e' sc' (fun x hx => ok x (List.mem_cons_of_mem _ hx)) nd.2 (fun x hx => ?_) (by simp only [Sco.add, List.length_append, List.length_singleton]; omega) (by simp only [Sco.add, List.length_append, List.length_singleton]; omega) (by simp only [List.length_append, List.length_singleton]; omega) fun al2 sc2 => ?_
    · unfold Sco.add
      rw [List.map_append, List.mem_append, not_or]
      refine ⟨fr x (List.mem_cons_of_mem _ hx), ?_⟩
      intro z
      have z' : x.name = t.name := by simpa using z
      exact nd.1 (List.mem_map.mpr ⟨x, hx, z'⟩)
    · have := h al2 sc2
      simpa using this
theorem cal_is_program (T : STxt K mg fb CSc) : Cal P w K mg base 23 "is_program" (spD K 1 (fn1 fun d Φ => ∃ p : Prg, p.ok ∧ d = p.data ∧ Φ (.bool true))) := by
  have c_is_shaped := cal_is_shaped' (P := P) (w := w) (base := base) T.toUTxt
  have c_are_params := cal_are_params' (P := P) (w := w) (base := base) T.toUTxt
  have m_Scope := mak_Scope (P := P) (w := w) (base := base) T
  have mt_Scope_takes_table := met_takes_table (P := P) (w := w) (base := base) T
  have mt_Scope_takes_view := met_takes_view0 (P := P) (w := w) (base := base) T
  have mt_Scope_are_rows := met_are_rows T 6 (met_is_row (P := P) (w := w) (base := base) T 6)
  refine T.d_is_program.cal sc_is_program (fun vs H Q E h => h.1) (fun f cdv A outer s H vs Q E hr h => ?_)
  have hu := hu_of hr
  refine ⟨_, (pss_cons (ps_if (PW.pt (pw_or (pt_not (pt_val (pe_c c_is_shaped hr (by first | decide | omega) (by rfl) (pa_cons (pv 0) (pa_cons pe_int pa_nil))))) (pw_or1 (pt_not (pt_val (pe_c c_are_params hr (by first | decide | omega) (by rfl) (pa_cons (pe_ix (ix_tupK K (by rfl)) (pv 0) pe_int (fun _ _ => rfl)) pa_nil)))))))
  (pss_one (ps_ret pe_bl))
  pss_nil)
  (pss_cons (ps_if (PW.pt (pw_or (pt_not (pt_val (pe_callB (call_isiK' K (by rfl)) (by rfl) T.z_isinstance bt_isinstance (pa_cons (pe_ix (ix_tupK K (by rfl)) (pv 0) pe_int (fun _ _ => rfl)) (pa_cons (pe_bltn (v := .ty "tuple") rfl T.z_tuple bt_tuple rfl) pa_nil))))) (pw_or (pt_cmpR (op_eqT0K K (by rfl) hr.units0) (pe_ix (ix_tupK K (by rfl)) (pv 0) pe_int (fun _ _ => rfl)) (pe_tupZ pa_nil) (nomark _)) (pw_or1 (pt_not (pt_val (pe_callB (call_isiK' K (by rfl)) (by rfl) T.z_isinstance bt_isinstance (pa_cons (pe_ix (ix_tupK K (by rfl)) (pv 0) pe_int (fun _ _ => rfl)) (pa_cons (pe_bltn (v := .ty "tuple") rfl T.z_tuple bt_tuple rfl) pa_nil)))))))))
  (pss_one (ps_ret pe_bl))
  pss_nil)
  (pss_cons (ps_set (i := 1) sc_is_program.nd rfl (by first | exact .inl rfl | exact .inr rfl) (pe_mk0 m_Scope hr (by first | decide | omega) (by rfl)))
  (pss_cons (ps_if (PW.pt (pw_or (pt_not (pt_val (pe_callB (cr_allK K (by rfl) (by rfl)) (by rfl) T.z_all bt_all (by exact (pa_cons (pe_lcX [("one", 2)] (by rfl) sc_is_program.nd (pi_tupK K (by rfl) (pe_ix (ix_tupK K (by rfl)) (pv 0) pe_int (fun _ _ => rfl))) (blkOk_by (N := ["thing", "scope", "one"]) (sc := defScope s_is_program) (by decide +kernel)) (fun _ _ _ _ _ => by exact (pg_nameX 2 sc_is_program.nd rfl (by first | exact .inl rfl | exact .inr rfl) (by first | exact .inr rfl | exact .inl rfl))) (fun _ _ _ _ _ => by exact pts_nil) (fun _ _ _ _ _ => by exact (pe_mt mt_Scope_takes_table hr (by first | decide | omega) (pv 1) (pa_cons (pv 2) pa_nil))) (fun _ => rfl)) pa_nil))))) (pw_or1 (pt_not (pt_val (pe_callB (cr_allK K (by rfl) (by rfl)) (by rfl) T.z_all bt_all (by exact (pa_cons (pe_lcX [("one", 2)] (by rfl) sc_is_program.nd (pi_tupK K (by rfl) (pe_ix (ix_tupK K (by rfl)) (pv 0) pe_int (fun _ _ => rfl))) (blkOk_by (N := ["thing", "scope", "one"]) (sc := defScope s_is_program) (by decide +kernel)) (fun _ _ _ _ _ => by exact (pg_nameX 2 sc_is_program.nd rfl (by first | exact .inl rfl | exact .inr rfl) (by first | exact .inr rfl | exact .inl rfl))) (fun _ _ _ _ _ => by exact pts_nil) (fun _ _ _ _ _ => by exact (pe_mt mt_Scope_takes_view hr (by first | decide | omega) (pv 1) (pa_cons (pv 2) pa_nil))) (fun _ => rfl)) pa_nil))))))))
  (pss_one (ps_ret pe_bl))
  pss_nil)
  (pss_one (ps_ret (pe_mt mt_Scope_are_rows hr (by first | decide | omega) (pv 1) (pa_cons (pe_ix (ix_tupK K (by rfl)) (pv 0) pe_int (fun _ _ => rfl)) pa_nil)))))))), ?_⟩
  refine run_D h fun Γ as Φ hg => ?_
  obtain ⟨d, rfl, p, ok, rfl, q⟩ := of_fn1 hg
  have e2 : (p.tabs.map Tab.data).isEmpty = false := by
    cases e : p.tabs with
    | nil => have := ok.tabs.1; rw [e] at this; cases this
    | cons t ts => rfl
  have e3 : isShaped (.tuple [.tuple (p.params.map .str), .tuple (p.tabs.map Tab.data), .tuple [], .tuple (Row.datas p.rows)]) 4 = true := rfl
  simp only [at_mk, put_mk, know_mk, q_var, q_vdat, q_vpen, q_vown, q_vfn, q_vref, q_asD, q_asDo, q_asDa, q_aown, q_adat, q_asA, q_asAp, q_asAf, q_asAr, q_asAo, q_asAa, q_asS, q_asSo, q_asSp, q_asSf, q_asSr, q_asSa, q_asR, q_asRr, q_asRo, q_onD, q_onR, q_inOb, q_inObr, q_inObf, q_onT, q_onL, q_onI, q_onX, q_onBo, q_onTd, q_seqL, q_seqT, q_intI, q_intB, q_none, q_noneR, q_one, q_oneS, q_seeL, q_seeT, q_seeO, q_seeA, q_seeAo, q_seeAl, q_seeAt, q_srL, q_srO, q_srA, q_lenS, q_lenO, q_lenA, q_lenR, q_slL, q_slO, q_slA, q_slAo, q_slAl, q_ixR, q_ixL, q_ixO, q_ixA, q_appA, q_appAo, q_appR, q_emR, q_zipT, q_zipL, q_some, q_fn1, q_fn2, q_fn3, q_fn4, q_pn0, q_pn1, q_pn2, q_pn3, q_scaI, q_scaS, q_scaB, q_scaN, q_fnD, q_all0, q_all1, q_all2, q_all3, q_all4, q_all5, q_wipe0, q_wipe, q_start, q_eqI, q_eqX, q_eqB, q_onB, q_at0, q_at1, q_at2, q_at3, q_at4, q_tup, q_strT, q_str, q_int, q_bool, List.length_cons, List.length_nil, List.map_cons, List.map_nil, List.replicate, List.cons_append, List.nil_append, List.getD_cons_zero, List.getD_cons_succ, List.getD_nil, List.set_cons_zero, List.set_cons_succ, List.set_nil, cond_true, cond_false, Nat.reduceAdd, Nat.reduceSub, Nat.sub_self, Nat.add_one_sub_one, Bool.not_true, Bool.not_false, true_and, and_true, Bool.false_eq_true, if_false, reduceIte, Prg.data, e3]
  refine ⟨p.params, ok.params, rfl, ?_⟩
  simp only [at_mk, put_mk, know_mk, q_var, q_vdat, q_vpen, q_vown, q_vfn, q_vref, q_asD, q_asDo, q_asDa, q_aown, q_adat, q_asA, q_asAp, q_asAf, q_asAr, q_asAo, q_asAa, q_asS, q_asSo, q_asSp, q_asSf, q_asSr, q_asSa, q_asR, q_asRr, q_asRo, q_onD, q_onR, q_inOb, q_inObr, q_inObf, q_onT, q_onL, q_onI, q_onX, q_onBo, q_onTd, q_seqL, q_seqT, q_intI, q_intB, q_none, q_noneR, q_one, q_oneS, q_seeL, q_seeT, q_seeO, q_seeA, q_seeAo, q_seeAl, q_seeAt, q_srL, q_srO, q_srA, q_lenS, q_lenO, q_lenA, q_lenR, q_slL, q_slO, q_slA, q_slAo, q_slAl, q_ixR, q_ixL, q_ixO, q_ixA, q_appA, q_appAo, q_appR, q_emR, q_zipT, q_zipL, q_some, q_fn1, q_fn2, q_fn3, q_fn4, q_pn0, q_pn1, q_pn2, q_pn3, q_scaI, q_scaS, q_scaB, q_scaN, q_fnD, q_all0, q_all1, q_all2, q_all3, q_all4, q_all5, q_wipe0, q_wipe, q_start, q_eqI, q_eqX, q_eqB, q_onB, q_at0, q_at1, q_at2, q_at3, q_at4, q_tup, q_strT, q_str, q_int, q_bool, List.length_cons, List.length_nil, List.map_cons, List.map_nil, List.replicate, List.cons_append, List.nil_append, List.getD_cons_zero, List.getD_cons_succ, List.getD_nil, List.set_cons_zero, List.set_cons_succ, List.set_nil, cond_true, cond_false, Nat.reduceAdd, Nat.reduceSub, Nat.sub_self, Nat.add_one_sub_one, Bool.not_true, Bool.not_false, true_and, and_true, Bool.false_eq_true, if_false, reduceIte, e2]
  refine ⟨by decide, fun x dx _ => ⟨x, dx, rfl, oup_same, fun al0 sc0 => ⟨rfl, ?_⟩⟩⟩
  refine lcD_tabs (CSc := CSc) (a := x) (sl := [some (.dat (.tuple [.tuple (p.params.map .str), .tuple (p.tabs.map Tab.data), .tuple [], .tuple (Row.datas p.rows)])), some (.ref x), none]) ?_ p.tabs [] ⟨[], []⟩ al0 _ rfl sc0 ok.each ok.unlike (fun _ _ z => nomatch z) (by have := ok.tabs.2; simp only [List.length_nil]; omega) (by have := ok.tabs.2; simp only [List.length_nil]; omega) (by have := ok.tabs.2; simp only [List.length_nil]; omega) ?_
  · intro t al S k sc okt hn hl hk
    obtain ⟨dx', sn, tb, e1, e4, e5⟩ := sc.ex
    simp only [at_mk, put_mk, know_mk, q_var, q_vdat, q_vpen, q_vown, q_vfn, q_vref, q_asD, q_asDo, q_asDa, q_aown, q_adat, q_asA, q_asAp, q_asAf, q_asAr, q_asAo, q_asAa, q_asS, q_asSo, q_asSp, q_asSf, q_asSr, q_asSa, q_asR, q_asRr, q_asRo, q_onD, q_onR, q_inOb, q_inObr, q_inObf, q_onT, q_onL, q_onI, q_onX, q_onBo, q_onTd, q_seqL, q_seqT, q_intI, q_intB, q_none, q_noneR, q_one, q_oneS, q_seeL, q_seeT, q_seeO, q_seeA, q_seeAo, q_seeAl, q_seeAt, q_srL, q_srO, q_srA, q_lenS, q_lenO, q_lenA, q_lenR, q_slL, q_slO, q_slA, q_slAo, q_slAl, q_ixR, q_ixL, q_ixO, q_ixA, q_appA, q_appAo, q_appR, q_emR, q_zipT, q_zipL, q_some, q_fn1, q_fn2, q_fn3, q_fn4, q_pn0, q_pn1, q_pn2, q_pn3, q_scaI, q_scaS, q_scaB, q_scaN, q_fnD, q_all0, q_all1, q_all2, q_all3, q_all4, q_all5, q_wipe0, q_wipe, q_start, q_eqI, q_eqX, q_eqB, q_onB, q_at0, q_at1, q_at2, q_at3, q_at4, q_tup, q_strT, q_str, q_int, q_bool, List.length_cons, List.length_nil, List.map_cons, List.map_nil, List.replicate, List.cons_append, List.nil_append, List.getD_cons_zero, List.getD_cons_succ, List.getD_nil, List.set_cons_zero, List.set_cons_succ, List.set_nil, cond_true, cond_false, Nat.reduceAdd, Nat.reduceSub, Nat.sub_self, Nat.add_one_sub_one, Bool.not_true, Bool.not_false, true_and, and_true, Bool.false_eq_true, if_false, reduceIte, q_ins e1]
    exact ⟨rfl, x, S, t, rfl, sc, okt, hn, hl, fun al' sc' => hk al' _ sc' rfl⟩
  · intro al1 sc1
    refine onBs_trues ?_
    have es : (⟨[], []⟩ : Sco).adds p.tabs = p.sco := by
      rw [Sco.adds_eq]
      simp [Prg.sco]
    rw [es] at sc1
    obtain ⟨dx', sn, tb, e1, e4, e5⟩ := sc1.ex
    simp only [at_mk, put_mk, know_mk, q_var, q_vdat, q_vpen, q_vown, q_vfn, q_vref, q_asD, q_asDo, q_asDa, q_aown, q_adat, q_asA, q_asAp, q_asAf, q_asAr, q_asAo, q_asAa, q_asS, q_asSo, q_asSp, q_asSf, q_asSr, q_asSa, q_asR, q_asRr, q_asRo, q_onD, q_onR, q_inOb, q_inObr, q_inObf, q_onT, q_onL, q_onI, q_onX, q_onBo, q_onTd, q_seqL, q_seqT, q_intI, q_intB, q_none, q_noneR, q_one, q_oneS, q_seeL, q_seeT, q_seeO, q_seeA, q_seeAo, q_seeAl, q_seeAt, q_srL, q_srO, q_srA, q_lenS, q_lenO, q_lenA, q_lenR, q_slL, q_slO, q_slA, q_slAo, q_slAl, q_ixR, q_ixL, q_ixO, q_ixA, q_appA, q_appAo, q_appR, q_emR, q_zipT, q_zipL, q_some, q_fn1, q_fn2, q_fn3, q_fn4, q_pn0, q_pn1, q_pn2, q_pn3, q_scaI, q_scaS, q_scaB, q_scaN, q_fnD, q_all0, q_all1, q_all2, q_all3, q_all4, q_all5, q_wipe0, q_wipe, q_start, q_eqI, q_eqX, q_eqB, q_onB, q_at0, q_at1, q_at2, q_at3, q_at4, q_tup, q_strT, q_str, q_int, q_bool, List.length_cons, List.length_nil, List.map_cons, List.map_nil, List.replicate, List.cons_append, List.nil_append, List.getD_cons_zero, List.getD_cons_succ, List.getD_nil, List.set_cons_zero, List.set_cons_succ, List.set_nil, cond_true, cond_false, Nat.reduceAdd, Nat.reduceSub, Nat.sub_self, Nat.add_one_sub_one, Bool.not_true, Bool.not_false, true_and, and_true, Bool.false_eq_true, if_false, reduceIte, all_trues]
    refine ⟨rfl, ?_⟩
    unfold lcD
    have e6 : boolsD [] = some [] := rfl
    simp only [at_mk, put_mk, know_mk, q_var, q_vdat, q_vpen, q_vown, q_vfn, q_vref, q_asD, q_asDo, q_asDa, q_aown, q_adat, q_asA, q_asAp, q_asAf, q_asAr, q_asAo, q_asAa, q_asS, q_asSo, q_asSp, q_asSf, q_asSr, q_asSa, q_asR, q_asRr, q_asRo, q_onD, q_onR, q_inOb, q_inObr, q_inObf, q_onT, q_onL, q_onI, q_onX, q_onBo, q_onTd, q_seqL, q_seqT, q_intI, q_intB, q_none, q_noneR, q_one, q_oneS, q_seeL, q_seeT, q_seeO, q_seeA, q_seeAo, q_seeAl, q_seeAt, q_srL, q_srO, q_srA, q_lenS, q_lenO, q_lenA, q_lenR, q_slL, q_slO, q_slA, q_slAo, q_slAl, q_ixR, q_ixL, q_ixO, q_ixA, q_appA, q_appAo, q_appR, q_emR, q_zipT, q_zipL, q_some, q_fn1, q_fn2, q_fn3, q_fn4, q_pn0, q_pn1, q_pn2, q_pn3, q_scaI, q_scaS, q_scaB, q_scaN, q_fnD, q_all0, q_all1, q_all2, q_all3, q_all4, q_all5, q_wipe0, q_wipe, q_start, q_eqI, q_eqX, q_eqB, q_onB, q_at0, q_at1, q_at2, q_at3, q_at4, q_tup, q_strT, q_str, q_int, q_bool, List.length_cons, List.length_nil, List.map_cons, List.map_nil, List.replicate, List.cons_append, List.nil_append, List.getD_cons_zero, List.getD_cons_succ, List.getD_nil, List.set_cons_zero, List.set_cons_succ, List.set_nil, cond_true, cond_false, Nat.reduceAdd, Nat.reduceSub, Nat.sub_self, Nat.add_one_sub_one, Bool.not_true, Bool.not_false, true_and, and_true, Bool.false_eq_true, if_false, reduceIte, q_onBs e6, List.all_nil, q_ins e1]
    exact ⟨rfl, x, p.sco, p.rows, rfl, sc1, ok.rows, ok.deep, ok.short, q⟩
theorem cal_need_program (T : STxt K mg fb CSc) : Cal P w K mg base 24 "need_program" (spD K 1 (fn1 fun d Φ => ∃ p : Prg, p.ok ∧ d = p.data ∧ Φ .none)) := by
  have c_is_program := cal_is_program (P := P) (w := w) (base := base) T
  refine T.d_need_program.cal sc_need_program (fun vs H Q E h => h.1) (fun f cdv A outer s H vs Q E hr h => ?_)
  refine ⟨_, (pss_one (ps_if (pt_not (pt_val (pe_c c_is_program hr (by first | decide | omega) (by rfl) (pa_cons (pv 0) pa_nil))))
  (pss_one ps_never)
  pss_nil)), ?_⟩
  refine run_D h fun Γ as Φ hg => ?_
  obtain ⟨d, rfl, p, ok, rfl, q⟩ := of_fn1 hg
  simp only [at_mk, put_mk, know_mk, q_var, q_vdat, q_vpen, q_vown, q_vfn, q_vref, q_asD, q_asDo, q_asDa, q_aown, q_adat, q_asA, q_asAp, q_asAf, q_asAr, q_asAo, q_asAa, q_asS, q_asSo, q_asSp, q_asSf, q_asSr, q_asSa, q_asR, q_asRr, q_asRo, q_onD, q_onR, q_inOb, q_inObr, q_inObf, q_onT, q_onL, q_onI, q_onX, q_onBo, q_onTd, q_seqL, q_seqT, q_intI, q_intB, q_none, q_noneR, q_one, q_oneS, q_seeL, q_seeT, q_seeO, q_seeA, q_seeAo, q_seeAl, q_seeAt, q_srL, q_srO, q_srA, q_lenS, q_lenO, q_lenA, q_lenR, q_slL, q_slO, q_slA, q_slAo, q_slAl, q_ixR, q_ixL, q_ixO, q_ixA, q_appA, q_appAo, q_appR, q_emR, q_zipT, q_zipL, q_some, q_fn1, q_fn2, q_fn3, q_fn4, q_pn0, q_pn1, q_pn2, q_pn3, q_scaI, q_scaS, q_scaB, q_scaN, q_fnD, q_all0, q_all1, q_all2, q_all3, q_all4, q_all5, q_wipe0, q_wipe, q_start, q_eqI, q_eqX, q_eqB, q_onB, q_at0, q_at1, q_at2, q_at3, q_at4, q_tup, q_strT, q_str, q_int, q_bool, List.length_cons, List.length_nil, List.map_cons, List.map_nil, List.replicate, List.cons_append, List.nil_append, List.getD_cons_zero, List.getD_cons_succ, List.getD_nil, List.set_cons_zero, List.set_cons_succ, List.set_nil, cond_true, cond_false, Nat.reduceAdd, Nat.reduceSub, Nat.sub_self, Nat.add_one_sub_one, Bool.not_true, Bool.not_false, true_and, and_true, Bool.false_eq_true, if_false, reduceIte]
  exact ⟨p, ok, rfl, q⟩
end
end B


set_option synthInstance.maxHeartbeats 0
set_option synthInstance.maxSize 100000
/-! views.py, for programs without views. -/
namespace B
open PySem PySem.Spec PyProof.Rows L2
abbrev s_Seen_init : Stmt := (inClass (topS 37) 0)
theorem sc_Seen_init : FnScope ["self", "program", "name", "many", "fields", "view"] ["self", "program"] (defScope s_Seen_init) := ⟨rfl, rfl, rfl, by decide +kernel, rfl, by decide +kernel, by decide +kernel⟩
abbrev s_Seen_led_to : Stmt := (inClass (topS 37) 1)
theorem sc_Seen_led_to : FnScope ["self", "name", "expression", "field", "own", "first", "step", "many", "fields", "rest"] ["self", "name", "expression", "field"] (defScope s_Seen_led_to) := ⟨rfl, rfl, rfl, by decide +kernel, rfl, by decide +kernel, by decide +kernel⟩
abbrev s_Seen_row : Stmt := (inClass (topS 37) 2)
theorem sc_Seen_row : FnScope ["self", "row"] ["self", "row"] (defScope s_Seen_row) := ⟨rfl, rfl, rfl, by decide +kernel, rfl, by decide +kernel, by decide +kernel⟩
abbrev s_Seen_rows : Stmt := (inClass (topS 37) 3)
theorem sc_Seen_rows : FnScope ["self", "rows", "row"] ["self", "rows"] (defScope s_Seen_rows) := ⟨rfl, rfl, rfl, by decide +kernel, rfl, by decide +kernel, by decide +kernel⟩
abbrev s_led_by : Stmt := (topS 38)
theorem sc_led_by : FnScope ["program"] ["program"] (defScope s_led_by) := ⟨rfl, rfl, rfl, by decide +kernel, rfl, by decide +kernel, by decide +kernel⟩
structure VTxt (K : PySem.W.Frag) (mg : Str → Option Value) (CSe : Addr) : Prop where
  i_Seen : IniAt K mg "Seen" CSe "Seen.__init__" s_Seen_init ["self", "program"]
  m_led_to : MetAt K CSe "led_to" "Seen.led_to" s_Seen_led_to ["self", "name", "expression", "field"]
  m_row : MetAt K CSe "row" "Seen.row" s_Seen_row ["self", "row"]
  m_rows : MetAt K CSe "rows" "Seen.rows" s_Seen_rows ["self", "rows"]
  cSe : Cls K CSe
  nSe_many : NoAttr K CSe "many"
  nSe_views : NoAttr K CSe "views"
  d_led_by : DefAt K mg "led_by" s_led_by ["program"]
  z_dict : mg "dict" = none
  z_tuple : mg "tuple" = none
def seF (mn vw : Addr) : List (Str × Sv) := [("many", .ref mn), ("views", .ref vw)]
theorem seF_many {mn vw : Addr} {k : Sv → Prop} : onF (seF mn vw) "many" k = k (.ref mn) := rfl
theorem seF_views {mn vw : Addr} {k : Sv → Prop} : onF (seF mn vw) "views" k = k (.ref vw) := rfl
/-- no views -/
structure SeAt (CSe : Addr) (al : Al) (a : Addr) : Prop where
  ex : ∃ dx mn vw, al a = some (.ins CSe dx (seF mn vw)) ∧ al vw = some (.dK [])
theorem q_cut2 {a b : PyData} {r : List PyData} (h : r.length < 100) : cutD (a :: b :: r) none (some 2) = [a, b] := by
  unfold cutD
  have e1 : HT.sIx (a :: b :: r).length 0 none = 0 := rfl
  have e2 : HT.sIx (a :: b :: r).length (a :: b :: r).length (some 2) = 2 := by
    unfold HT.sIx
    simp
  rw [e1, e2]
  rfl
theorem q_cut1 {a : PyData} {r : List PyData} (h : r.length < 100) : cutD (a :: r) none (some 1) = [a] := by
  unfold cutD
  have e1 : HT.sIx (a :: r).length 0 none = 0 := rfl
  have e2 : HT.sIx (a :: r).length (a :: r).length (some 1) = 1 := by
    unfold HT.sIx
    simp
  rw [e1, e2]
  rfl
theorem wipeD_al : ∀ {vs : List Nat} {δ : Dn}, (wipeD δ vs).al = δ.al
  | [], _ => rfl
  | _ :: vs, _ => wipeD_al (vs := vs)
theorem wipeD_know {al : Al} : ∀ {vs : List Nat} {δ : Dn}, wipeD (δ.know al) vs = (wipeD δ vs).know al
  | [], _ => rfl
  | v :: vs, δ => by
    show (wipeD (δ.know al) vs).put v none = ((wipeD δ vs).put v none).know al
    rw [wipeD_know (vs := vs)]
    rfl
theorem w_set_set : decide (Str.ofString "set" = Str.ofString "set") = true := by decide
theorem w_set_tell : decide (Str.ofString "set" = Str.ofString "tell") = false := by decide
theorem w_set_get : decide (Str.ofString "set" = Str.ofString "get") = false := by decide
theorem w_set_put : decide (Str.ofString "set" = Str.ofString "put") = false := by decide
theorem w_set_hand : decide (Str.ofString "set" = Str.ofString "hand") = false := by decide
theorem w_set_each : decide (Str.ofString "set" = Str.ofString "each") = false := by decide
theorem w_set_times : decide (Str.ofString "set" = Str.ofString "times") = false := by decide
theorem w_set_when : decide (Str.ofString "set" = Str.ofString "when") = false := by decide
theorem w_tell_set : decide (Str.ofString "tell" = Str.ofString "set") = false := by decide
theorem w_tell_tell : decide (Str.ofString "tell" = Str.ofString "tell") = true := by decide
theorem w_tell_get : decide (Str.ofString "tell" = Str.ofString "get") = false := by decide
theorem w_tell_put : decide (Str.ofString "tell" = Str.ofString "put") = false := by decide
theorem w_tell_hand : decide (Str.ofString "tell" = Str.ofString "hand") = false := by decide
theorem w_tell_each : decide (Str.ofString "tell" = Str.ofString "each") = false := by decide
theorem w_tell_times : decide (Str.ofString "tell" = Str.ofString "times") = false := by decide
theorem w_tell_when : decide (Str.ofString "tell" = Str.ofString "when") = false := by decide
theorem w_get_set : decide (Str.ofString "get" = Str.ofString "set") = false := by decide
theorem w_get_tell : decide (Str.ofString "get" = Str.ofString "tell") = false := by decide
theorem w_get_get : decide (Str.ofString "get" = Str.ofString "get") = true := by decide
theorem w_get_put : decide (Str.ofString "get" = Str.ofString "put") = false := by decide
theorem w_get_hand : decide (Str.ofString "get" = Str.ofString "hand") = false := by decide
theorem w_get_each : decide (Str.ofString "get" = Str.ofString "each") = false := by decide
theorem w_get_times : decide (Str.ofString "get" = Str.ofString "times") = false := by decide
theorem w_get_when : decide (Str.ofString "get" = Str.ofString "when") = false := by decide
theorem w_put_set : decide (Str.ofString "put" = Str.ofString "set") = false := by decide
theorem w_put_tell : decide (Str.ofString "put" = Str.ofString "tell") = false := by decide
theorem w_put_get : decide (Str.ofString "put" = Str.ofString "get") = false := by decide
theorem w_put_put : decide (Str.ofString "put" = Str.ofString "put") = true := by decide
theorem w_put_hand : decide (Str.ofString "put" = Str.ofString "hand") = false := by decide
theorem w_put_each : decide (Str.ofString "put" = Str.ofString "each") = false := by decide
theorem w_put_times : decide (Str.ofString "put" = Str.ofString "times") = false := by decide
theorem w_put_when : decide (Str.ofString "put" = Str.ofString "when") = false := by decide
theorem w_hand_set : decide (Str.ofString "hand" = Str.ofString "set") = false := by decide
theorem w_hand_tell : decide (Str.ofString "hand" = Str.ofString "tell") = false := by decide
theorem w_hand_get : decide (Str.ofString "hand" = Str.ofString "get") = false := by decide
theorem w_hand_put : decide (Str.ofString "hand" = Str.ofString "put") = false := by decide
theorem w_hand_hand : decide (Str.ofString "hand" = Str.ofString "hand") = true := by decide
theorem w_hand_each : decide (Str.ofString "hand" = Str.ofString "each") = false := by decide
theorem w_hand_times : decide (Str.ofString "hand" = Str.ofString "times") = false := by decide
theorem w_hand_when : decide (Str.ofString "hand" = Str.ofString "when") = false := by decide
theorem w_each_set : decide (Str.ofString "each" = Str.ofString "set") = false := by decide
theorem w_each_tell : decide (Str.ofString "each" = Str.ofString "tell") = false := by decide
theorem w_each_get : decide (Str.ofString "each" = Str.ofString "get") = false := by decide
theorem w_each_put : decide (Str.ofString "each" = Str.ofString "put") = false := by decide
theorem w_each_hand : decide (Str.ofString "each" = Str.ofString "hand") = false := by decide
theorem w_each_each : decide (Str.ofString "each" = Str.ofString "each") = true := by decide
theorem w_each_times : decide (Str.ofString "each" = Str.ofString "times") = false := by decide
theorem w_each_when : decide (Str.ofString "each" = Str.ofString "when") = false := by decide
theorem w_times_set : decide (Str.ofString "times" = Str.ofString "set") = false := by decide
theorem w_times_tell : decide (Str.ofString "times" = Str.ofString "tell") = false := by decide
theorem w_times_get : decide (Str.ofString "times" = Str.ofString "get") = false := by decide
theorem w_times_put : decide (Str.ofString "times" = Str.ofString "put") = false := by decide
theorem w_times_hand : decide (Str.ofString "times" = Str.ofString "hand") = false := by decide
theorem w_times_each : decide (Str.ofString "times" = Str.ofString "each") = false := by decide
theorem w_times_times : decide (Str.ofString "times" = Str.ofString "times") = true := by decide
theorem w_times_when : decide (Str.ofString "times" = Str.ofString "when") = false := by decide
theorem w_when_set : decide (Str.ofString "when" = Str.ofString "set") = false := by decide
theorem w_when_tell : decide (Str.ofString "when" = Str.ofString "tell") = false := by decide
theorem w_when_get : decide (Str.ofString "when" = Str.ofString "get") = false := by decide
theorem w_when_put : decide (Str.ofString "when" = Str.ofString "put") = false := by decide
theorem w_when_hand : decide (Str.ofString "when" = Str.ofString "hand") = false := by decide
theorem w_when_each : decide (Str.ofString "when" = Str.ofString "each") = false := by decide
theorem w_when_times : decide (Str.ofString "when" = Str.ofString "times") = false := by decide
theorem w_when_when : decide (Str.ofString "when" = Str.ofString "when") = true := by decide
/-- a dict from items, one by one -/
theorem dcD_map {fg : Sv → Dn → (Dn → Prop) → Prop} {fk fv : Dn → (Sv → Dn → Prop) → Prop} {vs : List Nat} {p : Addr} {Φ : Dn → Prop} {sl : List (Option Sv)} {al : Al} (kf : PyData → Key) (vf : PyData → PyData) :
    ∀ {ds : List PyData} {es : List (Key × PyData)} {δ : Dn}, wipeD δ vs = ⟨sl, oup al p (.dK es)⟩ → es.length + ds.length < 1000000 →
    (∀ d ∈ ds, ∀ (es' : List (Key × PyData)) (k : PyData → PyData → Dn → Prop), (∀ y δ', keyD y = some (kf d) → wipeD δ' vs = ⟨sl, oup al p (.dK es')⟩ → k y (vf d) δ') → fg (.dat d) ⟨sl, oup al p (.dK es')⟩ fun δ1 => fk δ1 fun s δ3 => asD s δ3 fun y δ4 => fv δ4 fun t δ5 => asD t δ5 fun z δ6 => k y z δ6) →
    Φ ⟨sl, oup al p (.dK (mergeE es (ds.map fun d => (kf d, vf d))))⟩ → dcD fg (fun δ Φ => Φ true δ) fk fv vs p Φ ds δ
  | [], es, δ, e, _, _, h => by
    unfold dcD
    rw [e]
    exact h
  | d :: ds, es, δ, e, hl, hs, h => by
    unfold dcD
    rw [e]
    rw [List.length_cons] at hl
    have hp : (putE es (kf d) (vf d)).length ≤ es.length + 1 := putE_len ..
    refine hs d (List.mem_cons_self ..) es (fun y z δ6 => asDK δ6.al p fun es => dcD.someK y fun k => es.length < 1000000 ∧ dcD fg (fun δ Φ => Φ true δ) fk fv vs p Φ ds (δ6.know (oup δ6.al p (.dK (putE es k z))))) fun y δ' ek e' => ?_
    have ea : δ'.al = oup al p (.dK es) := by
      have := congrArg Dn.al e'
      rw [wipeD_al] at this
      exact this
    have e2 : δ'.al p = some (.dK es) := by rw [ea]; exact oup_same
    rw [q_dK e2]
    unfold dcD.someK
    rw [ek]
    refine ⟨by omega, ?_⟩
    refine dcD_map kf vf (es := putE es (kf d) (vf d)) (sl := sl) (al := al) ?_ (by omega) (fun x hx => hs x (List.mem_cons_of_mem _ hx)) h
    have : wipeD (δ'.know (oup δ'.al p (.dK (putE es (kf d) (vf d))))) vs = (wipeD δ' vs).know (oup δ'.al p (.dK (putE es (kf d) (vf d)))) := wipeD_know
    rw [this, e', ea, oup_oup]
    rfl
section
variable {P : Program} {w : World} {K : PySem.W.Frag} {mg : Str → Option Value} {base : Heap} {CSe : Addr}
theorem mak_Seen (T : VTxt K mg CSe) : Mak P w K mg base 1 "Seen" CSe (spH K 2 fun al as Φ => ∃ a dx p, as = [.ref a, .dat (Prg.data p)] ∧ al a = some (.ins CSe dx []) ∧ p.tabs.length ≤ 100 ∧ ∀ al', SeAt CSe al' a → Φ al' (.dat .none)) := by
  refine T.i_Seen.mak sc_Seen_init (fun vs H Q E h => h.1) (fun f cdv A outer s H vs Q E hr h => ?_)
  have hu := hu_of hr
  refine ⟨_, (pss_cons (ps_fldK K (by rfl) (pv 0) (pe_dcX [("name", 2), ("many", 3), ("fields", 4)] (by rfl) sc_Seen_init.nd (pi_tupK K (by rfl) (pe_ix (ix_tupK K (by rfl)) (pv 1) pe_int (fun _ _ => rfl))) (blkOk_by (N := ["self", "program", "name", "many", "fields", "view"]) (sc := defScope s_Seen_init) (by decide +kernel)) (fun _ _ _ _ _ => by exact (pg_tupK K (n := 3) (by rfl) (by rfl) (by rfl) (by rfl) (pgs_consX (by rfl) (pg_nameX 2 sc_Seen_init.nd rfl (by first | exact .inl rfl | exact .inr rfl) (by first | exact .inr rfl | exact .inl rfl)) (pgs_consX (by rfl) (pg_nameX 3 sc_Seen_init.nd rfl (by first | exact .inl rfl | exact .inr rfl) (by first | exact .inr rfl | exact .inl rfl)) (pgs_consX (by rfl) (pg_nameX 4 sc_Seen_init.nd rfl (by first | exact .inl rfl | exact .inr rfl) (by first | exact .inr rfl | exact .inl rfl)) pgs_nil))))) (fun _ _ _ _ _ => by exact pts_nil) (fun _ _ _ _ _ => by exact (pv 2)) (fun _ _ _ _ _ => by exact (pv 3)) (fun _ => rfl)) rfl)
  (pss_cons (ps_fldK K (by rfl) (pv 0) pe_dnewK rfl)
  (pss_one (ps_for PassesOwn.never rfl (pi_tupK K (by rfl) (pe_ix (ix_tupK K (by rfl)) (pv 1) pe_int (fun _ _ => rfl))) (pg_nameX 5 sc_Seen_init.nd rfl (by first | exact .inl rfl | exact .inr rfl) (by first | exact .inr rfl | exact .inl rfl))
  (pss_cons (ps_dput hu (pe_fldK K (by rfl) (by rfl) (pv 0)) (pe_ix (ix_tupK K (by rfl)) (pv 5) pe_int (fun _ _ => rfl)) (pv 5) rfl)
  (pss_one (ps_dput hu (pe_fldK K (by rfl) (by rfl) (pv 0)) (pe_ix (ix_tupK K (by rfl)) (pv 5) pe_int (fun _ _ => rfl)) (pe_ix (ix_tupK K (by rfl)) (pv 5) pe_int (fun _ _ => rfl)) rfl))))))), ?_⟩
  refine run_H h fun Γ al as Φ hg => ?_
  obtain ⟨a, dx, p, rfl, e, hl, q⟩ := hg
  simp only [at_mk, put_mk, know_mk, q_var, q_vdat, q_vpen, q_vown, q_vfn, q_vref, q_asD, q_asDo, q_asDa, q_aown, q_adat, q_asA, q_asAp, q_asAf, q_asAr, q_asAo, q_asAa, q_asS, q_asSo, q_asSp, q_asSf, q_asSr, q_asSa, q_asR, q_asRr, q_asRo, q_onD, q_onR, q_inOb, q_inObr, q_inObf, q_onT, q_onL, q_onI, q_onX, q_onBo, q_onTd, q_seqL, q_seqT, q_intI, q_intB, q_none, q_noneR, q_one, q_oneS, q_seeL, q_seeT, q_seeO, q_seeA, q_seeAo, q_seeAl, q_seeAt, q_srL, q_srO, q_srA, q_lenS, q_lenO, q_lenA, q_lenR, q_slL, q_slO, q_slA, q_slAo, q_slAl, q_ixR, q_ixL, q_ixO, q_ixA, q_appA, q_appAo, q_appR, q_emR, q_zipT, q_zipL, q_some, q_fn1, q_fn2, q_fn3, q_fn4, q_pn0, q_pn1, q_pn2, q_pn3, q_scaI, q_scaS, q_scaB, q_scaN, q_fnD, q_all0, q_all1, q_all2, q_all3, q_all4, q_all5, q_wipe0, q_wipe, q_start, q_eqI, q_eqX, q_eqB, q_onB, q_at0, q_at1, q_at2, q_at3, q_at4, q_tup, q_strT, q_str, q_int, q_bool, List.length_cons, List.length_nil, List.map_cons, List.map_nil, List.replicate, List.cons_append, List.nil_append, List.getD_cons_zero, List.getD_cons_succ, List.getD_nil, List.set_cons_zero, List.set_cons_succ, List.set_nil, cond_true, cond_false, Nat.reduceAdd, Nat.reduceSub, Nat.sub_self, Nat.add_one_sub_one, Bool.not_true, Bool.not_false, true_and, and_true, Bool.false_eq_true, if_false, reduceIte, Prg.data]
  refine ⟨rfl, fun m hm => ?_⟩
  have nm : a ≠ m := al_new e hm
  refine dcD_map (sl := [some (.ref a), some (.dat (.tuple [.tuple (p.params.map .str), .tuple (p.tabs.map Tab.data), .tuple [], .tuple (Row.datas p.rows)])), none, none, none, none]) (al := al) (fun d => match d with | .tuple (.str x :: _) => .inr x | _ => .inl 0) (fun d => match d with | .tuple (_ :: x :: _) => x | _ => d) rfl (by rw [List.length_map]; show 0 + _ < _; omega) ?_ ?_
  · intro d hd es' k hk
    obtain ⟨t, ht, rfl⟩ := List.mem_map.mp hd
    have := hk (.str t.name) ⟨[some (.ref a), some (.dat (.tuple [.tuple (p.params.map .str), .tuple (p.tabs.map Tab.data), .tuple [], .tuple (Row.datas p.rows)])), some (.dat (.str t.name)), some (.dat (.int t.many)), some (.dat (.tuple (t.fields.map Tab.fdata))), none], oup al m (.dK es')⟩ rfl rfl
    simp only [at_mk, put_mk, know_mk, q_var, q_vdat, q_vpen, q_vown, q_vfn, q_vref, q_asD, q_asDo, q_asDa, q_aown, q_adat, q_asA, q_asAp, q_asAf, q_asAr, q_asAo, q_asAa, q_asS, q_asSo, q_asSp, q_asSf, q_asSr, q_asSa, q_asR, q_asRr, q_asRo, q_onD, q_onR, q_inOb, q_inObr, q_inObf, q_onT, q_onL, q_onI, q_onX, q_onBo, q_onTd, q_seqL, q_seqT, q_intI, q_intB, q_none, q_noneR, q_one, q_oneS, q_seeL, q_seeT, q_seeO, q_seeA, q_seeAo, q_seeAl, q_seeAt, q_srL, q_srO, q_srA, q_lenS, q_lenO, q_lenA, q_lenR, q_slL, q_slO, q_slA, q_slAo, q_slAl, q_ixR, q_ixL, q_ixO, q_ixA, q_appA, q_appAo, q_appR, q_emR, q_zipT, q_zipL, q_some, q_fn1, q_fn2, q_fn3, q_fn4, q_pn0, q_pn1, q_pn2, q_pn3, q_scaI, q_scaS, q_scaB, q_scaN, q_fnD, q_all0, q_all1, q_all2, q_all3, q_all4, q_all5, q_wipe0, q_wipe, q_start, q_eqI, q_eqX, q_eqB, q_onB, q_at0, q_at1, q_at2, q_at3, q_at4, q_tup, q_strT, q_str, q_int, q_bool, List.length_cons, List.length_nil, List.map_cons, List.map_nil, List.replicate, List.cons_append, List.nil_append, List.getD_cons_zero, List.getD_cons_succ, List.getD_nil, List.set_cons_zero, List.set_cons_succ, List.set_nil, cond_true, cond_false, Nat.reduceAdd, Nat.reduceSub, Nat.sub_self, Nat.add_one_sub_one, Bool.not_true, Bool.not_false, true_and, and_true, Bool.false_eq_true, if_false, reduceIte, Tab.data]
    exact this
  · simp only [at_mk, put_mk, know_mk, q_var, q_vdat, q_vpen, q_vown, q_vfn, q_vref, q_asD, q_asDo, q_asDa, q_aown, q_adat, q_asA, q_asAp, q_asAf, q_asAr, q_asAo, q_asAa, q_asS, q_asSo, q_asSp, q_asSf, q_asSr, q_asSa, q_asR, q_asRr, q_asRo, q_onD, q_onR, q_inOb, q_inObr, q_inObf, q_onT, q_onL, q_onI, q_onX, q_onBo, q_onTd, q_seqL, q_seqT, q_intI, q_intB, q_none, q_noneR, q_one, q_oneS, q_seeL, q_seeT, q_seeO, q_seeA, q_seeAo, q_seeAl, q_seeAt, q_srL, q_srO, q_srA, q_lenS, q_lenO, q_lenA, q_lenR, q_slL, q_slO, q_slA, q_slAo, q_slAl, q_ixR, q_ixL, q_ixO, q_ixA, q_appA, q_appAo, q_appR, q_emR, q_zipT, q_zipL, q_some, q_fn1, q_fn2, q_fn3, q_fn4, q_pn0, q_pn1, q_pn2, q_pn3, q_scaI, q_scaS, q_scaB, q_scaN, q_fnD, q_all0, q_all1, q_all2, q_all3, q_all4, q_all5, q_wipe0, q_wipe, q_start, q_eqI, q_eqX, q_eqB, q_onB, q_at0, q_at1, q_at2, q_at3, q_at4, q_tup, q_strT, q_str, q_int, q_bool, List.length_cons, List.length_nil, List.map_cons, List.map_nil, List.replicate, List.cons_append, List.nil_append, List.getD_cons_zero, List.getD_cons_succ, List.getD_nil, List.set_cons_zero, List.set_cons_succ, List.set_nil, cond_true, cond_false, Nat.reduceAdd, Nat.reduceSub, Nat.sub_self, Nat.add_one_sub_one, Bool.not_true, Bool.not_false, true_and, and_true, Bool.false_eq_true, if_false, reduceIte]
    rw [q_ins ((oup_ne nm).trans e)]
    refine ⟨⟨⟨T.cSe, T.nSe_many⟩, by decide⟩, fun vw hv => ?_⟩
    have nv : a ≠ vw := fun z => by rw [← z, oup_same] at hv; cases hv
    refine asIns_of ((oup_ne nv).trans oup_same) ?_
    refine ⟨⟨⟨T.cSe, T.nSe_views⟩, Nat.lt_of_le_of_lt (Nat.le_refl 1) (by decide)⟩, ?_⟩
    unfold forD
    refine ⟨_, Sub.rfl, q _ ⟨⟨dx, m, vw, oup_same, ?_⟩⟩⟩
    exact (oup_ne nv.symm).trans oup_same
theorem met_led_to (T : VTxt K mg CSe) : Met P w K mg base 1 CSe "led_to" (spH K 4 fun al as Φ => ∃ a o e fl, as = [.ref a, .dat (.str o), .dat e, .dat (.str fl)] ∧ SeAt CSe al a ∧ Φ al (.dat (.tuple [.str o, e, .str fl]))) := by
  refine T.m_led_to.met sc_Seen_led_to (fun vs H Q E h => h.1) (fun f cdv A outer s H vs Q E hr h => ?_)
  have hu := hu_of hr
  refine ⟨_, (pss_cons (ps_while PassesOwn.never (pt_cmp (pc_din hu (pv 1) (pe_fldK K (by rfl) (by rfl) (pv 0))))
  (pss_cons (ps_asg (pe_dget hu (pe_fldK K (by rfl) (by rfl) (pv 0)) (pv 1) (fun _ _ => rfl)) (pg_tupK K (n := 6) (by rfl) (by rfl) (by rfl) (by rfl) (pgs_consX (by rfl) (pg_nameX 4 sc_Seen_led_to.nd rfl (by first | exact .inl rfl | exact .inr rfl) (by first | exact .inr rfl | exact .inl rfl)) (pgs_consX (by rfl) (pg_nameX 1 sc_Seen_led_to.nd rfl (by first | exact .inl rfl | exact .inr rfl) (by first | exact .inr rfl | exact .inl rfl)) (pgs_consX (by rfl) (pg_nameX 5 sc_Seen_led_to.nd rfl (by first | exact .inl rfl | exact .inr rfl) (by first | exact .inr rfl | exact .inl rfl)) (pgs_consX (by rfl) (pg_nameX 6 sc_Seen_led_to.nd rfl (by first | exact .inl rfl | exact .inr rfl) (by first | exact .inr rfl | exact .inl rfl)) (pgs_consX (by rfl) (pg_nameX 7 sc_Seen_led_to.nd rfl (by first | exact .inl rfl | exact .inr rfl) (by first | exact .inr rfl | exact .inl rfl)) (pgs_consX (by rfl) (pg_nameX 8 sc_Seen_led_to.nd rfl (by first | exact .inl rfl | exact .inr rfl) (by first | exact .inr rfl | exact .inl rfl)) pgs_nil))))))))
  (pss_cons (ps_set (i := 9) sc_Seen_led_to.nd rfl (by first | exact .inl rfl | exact .inr rfl) (pe_tupZ (pa_cons pe_str (pa_cons (pv 2) (pa_cons (pe_tupZ (pa_cons pe_str (pa_cons (pv 7) pa_nil))) pa_nil)))))
  (pss_cons (ps_set (i := 2) sc_Seen_led_to.nd rfl (by first | exact .inl rfl | exact .inr rfl) (pe_tupZ (pa_cons pe_str (pa_cons (pe_tupZ (pa_cons pe_str (pa_cons (pv 5) pa_nil))) (pa_cons (pe_tupZ (pa_cons pe_str (pa_cons (pe_tupZ (pa_cons pe_str (pa_cons (pv 6) pa_nil))) (pa_cons (pv 9) pa_nil)))) pa_nil)))))
  (pss_one (ps_set (i := 3) sc_Seen_led_to.nd rfl (by first | exact .inl rfl | exact .inr rfl) (pe_dget hu (pe_callTy (call_dictTK K (by rfl) (by rfl)) (by rfl) T.z_dict bt_dict (pa_cons (pv 8) pa_nil)) (pv 3) (fun _ _ => rfl))))))))
  (pss_one (ps_ret (pe_tupZ (pa_cons (pv 1) (pa_cons (pv 2) (pa_cons (pv 3) pa_nil))))))), ?_⟩
  refine run_H h fun Γ al as Φ hg => ?_
  obtain ⟨a, o, e, fl, rfl, ⟨dx, mn, vw, e1, e2⟩, q⟩ := hg
  simp only [at_mk, put_mk, know_mk, q_var, q_vdat, q_vpen, q_vown, q_vfn, q_vref, q_asD, q_asDo, q_asDa, q_aown, q_adat, q_asA, q_asAp, q_asAf, q_asAr, q_asAo, q_asAa, q_asS, q_asSo, q_asSp, q_asSf, q_asSr, q_asSa, q_asR, q_asRr, q_asRo, q_onD, q_onR, q_inOb, q_inObr, q_inObf, q_onT, q_onL, q_onI, q_onX, q_onBo, q_onTd, q_seqL, q_seqT, q_intI, q_intB, q_none, q_noneR, q_one, q_oneS, q_seeL, q_seeT, q_seeO, q_seeA, q_seeAo, q_seeAl, q_seeAt, q_srL, q_srO, q_srA, q_lenS, q_lenO, q_lenA, q_lenR, q_slL, q_slO, q_slA, q_slAo, q_slAl, q_ixR, q_ixL, q_ixO, q_ixA, q_appA, q_appAo, q_appR, q_emR, q_zipT, q_zipL, q_some, q_fn1, q_fn2, q_fn3, q_fn4, q_pn0, q_pn1, q_pn2, q_pn3, q_scaI, q_scaS, q_scaB, q_scaN, q_fnD, q_all0, q_all1, q_all2, q_all3, q_all4, q_all5, q_wipe0, q_wipe, q_start, q_eqI, q_eqX, q_eqB, q_onB, q_at0, q_at1, q_at2, q_at3, q_at4, q_tup, q_strT, q_str, q_int, q_bool, List.length_cons, List.length_nil, List.map_cons, List.map_nil, List.replicate, List.cons_append, List.nil_append, List.getD_cons_zero, List.getD_cons_succ, List.getD_nil, List.set_cons_zero, List.set_cons_succ, List.set_nil, cond_true, cond_false, Nat.reduceAdd, Nat.reduceSub, Nat.sub_self, Nat.add_one_sub_one, Bool.not_true, Bool.not_false, true_and, and_true, Bool.false_eq_true, if_false, reduceIte]
  refine ⟨fun _ δ => δ = _, ⟨0, rfl⟩, fun m δ hδ => ?_⟩
  subst hδ
  have eg : getE ([] : List (Key × PyData)) (.inr o) = none := rfl
  simp only [at_mk, put_mk, know_mk, q_var, q_vdat, q_vpen, q_vown, q_vfn, q_vref, q_asD, q_asDo, q_asDa, q_aown, q_adat, q_asA, q_asAp, q_asAf, q_asAr, q_asAo, q_asAa, q_asS, q_asSo, q_asSp, q_asSf, q_asSr, q_asSa, q_asR, q_asRr, q_asRo, q_onD, q_onR, q_inOb, q_inObr, q_inObf, q_onT, q_onL, q_onI, q_onX, q_onBo, q_onTd, q_seqL, q_seqT, q_intI, q_intB, q_none, q_noneR, q_one, q_oneS, q_seeL, q_seeT, q_seeO, q_seeA, q_seeAo, q_seeAl, q_seeAt, q_srL, q_srO, q_srA, q_lenS, q_lenO, q_lenA, q_lenR, q_slL, q_slO, q_slA, q_slAo, q_slAl, q_ixR, q_ixL, q_ixO, q_ixA, q_appA, q_appAo, q_appR, q_emR, q_zipT, q_zipL, q_some, q_fn1, q_fn2, q_fn3, q_fn4, q_pn0, q_pn1, q_pn2, q_pn3, q_scaI, q_scaS, q_scaB, q_scaN, q_fnD, q_all0, q_all1, q_all2, q_all3, q_all4, q_all5, q_wipe0, q_wipe, q_start, q_eqI, q_eqX, q_eqB, q_onB, q_at0, q_at1, q_at2, q_at3, q_at4, q_tup, q_strT, q_str, q_int, q_bool, List.length_cons, List.length_nil, List.map_cons, List.map_nil, List.replicate, List.cons_append, List.nil_append, List.getD_cons_zero, List.getD_cons_succ, List.getD_nil, List.set_cons_zero, List.set_cons_succ, List.set_nil, cond_true, cond_false, Nat.reduceAdd, Nat.reduceSub, Nat.sub_self, Nat.add_one_sub_one, Bool.not_true, Bool.not_false, true_and, and_true, Bool.false_eq_true, if_false, reduceIte, q_ins e1, T.cSe, T.nSe_views, seF_views, q_get e2 (show keyD (.str o) = some (.inr o) from rfl), eg, Option.isSome_none]
  exact ⟨by decide, _, Sub.rfl, q⟩
theorem q_cut3 {a b c : PyData} {r : List PyData} (h : r.length < 100) : cutD (a :: b :: c :: r) none (some 3) = [a, b, c] := by
  unfold cutD
  have e1 : HT.sIx (a :: b :: c :: r).length 0 none = 0 := rfl
  have e2 : HT.sIx (a :: b :: c :: r).length (a :: b :: c :: r).length (some 3) = 3 := by
    unfold HT.sIx
    simp
  rw [e1, e2]
  rfl
theorem q_cut4 {a b c d e : PyData} : cutD [a, b, c, d, e] (some 4) none = [e] := rfl
mutual
def Row.shortR : Row → Prop
  | .each _ _ rs => Row.shorts rs ∧ rs.length ≤ 1000
  | .times _ _ rs => Row.shorts rs ∧ rs.length ≤ 1000
  | .cond _ rs us => (Row.shorts rs ∧ rs.length ≤ 1000) ∧ Row.shorts us ∧ us.length ≤ 1000
  | .set _ _ => True
  | .tell _ => True
  | .get _ _ _ _ => True
  | .put _ _ _ _ => True
  | .hand _ _ => True
def Row.shorts : List Row → Prop
  | [] => True
  | r :: rs => r.shortR ∧ Row.shorts rs
end
theorem Row.shorts_mem : ∀ {rs : List Row}, Row.shorts rs → ∀ r ∈ rs, r.shortR
  | r :: rs, h, x, hx => (List.mem_cons.mp hx).elim (fun e => e ▸ h.1) fun z => Row.shorts_mem h.2 x z
mutual
theorem Row.short_of {S : Sco} : ∀ {r : Row}, r.ok S → r.shortR
  | .each _ _ rs, h => ⟨Row.shorts_of h.2.2.1, h.2.2.2⟩
  | .times _ _ rs, h => ⟨Row.shorts_of h.2.2.1, h.2.2.2⟩
  | .cond _ rs us, h => ⟨⟨Row.shorts_of h.2.1.1, h.2.1.2⟩, Row.shorts_of h.2.2.1, h.2.2.2⟩
  | .set _ _, _ => trivial
  | .tell _, _ => trivial
  | .get _ _ _ _, _ => trivial
  | .put _ _ _ _, _ => trivial
  | .hand _ _, _ => trivial
theorem Row.shorts_of {S : Sco} : ∀ {rs : List Row}, Row.oks S rs → Row.shorts rs
  | [], _ => trivial
  | r :: rs, h => ⟨Row.short_of h.1, Row.shorts_of h.2⟩
end
theorem met_rows (T : VTxt K mg CSe) (n : Nat) (mt_Seen_row : Met P w K mg base (2 + 2 * n) CSe "row" (spH K 2 fun al as Φ => ∃ a r, as = [.ref a, .dat (Row.data r)] ∧ SeAt CSe al a ∧ r.dep ≤ n ∧ r.shortR ∧ Φ al (.dat (Row.data r)))) : Met P w K mg base (3 + 2 * n) CSe "rows" (spH K 2 fun al as Φ => ∃ a rs, as = [.ref a, .dat (.tuple (Row.datas rs))] ∧ SeAt CSe al a ∧ Row.deps rs ≤ n ∧ Row.shorts rs ∧ rs.length ≤ 1000 ∧ Φ al (.dat (.tuple (Row.datas rs)))) := by
  have e10 : 3 + 2 * n = 2 + 2 * n + 1 := by omega
  rw [e10]
  refine T.m_rows.met sc_Seen_rows (fun vs H Q E h => h.1) (fun f cdv A outer s H vs Q E hr h => ?_)
  have hu := hu_of hr
  refine ⟨_, (pss_one (ps_ret (pe_callTy (call_tupleZK K (by rfl)) (by rfl) T.z_tuple bt_tuple (by exact (pa_cons (pe_lcX [("row", 2)] (by rfl) sc_Seen_rows.nd (pi_tupK K (by rfl) (pv 1)) (blkOk_by (N := ["self", "rows", "row"]) (sc := defScope s_Seen_rows) (by decide +kernel)) (fun _ _ _ _ _ => by exact (pg_nameX 2 sc_Seen_rows.nd rfl (by first | exact .inl rfl | exact .inr rfl) (by first | exact .inr rfl | exact .inl rfl))) (fun _ _ _ _ _ => by exact pts_nil) (fun _ _ _ _ _ => by exact (pe_mt mt_Seen_row hr (by first | decide | omega) (pv 0) (pa_cons (pv 2) pa_nil))) (fun _ => rfl)) pa_nil))))), ?_⟩
  refine run_H h fun Γ al as Φ hg => ?_
  obtain ⟨a, rs, rfl, sc, hd, hs, hl, q⟩ := hg
  obtain ⟨dx, mn, vw, e1, e2⟩ := sc.ex
  rw [Row.datas_map] at q ⊢
  simp only [at_mk, put_mk, know_mk, q_var, q_vdat, q_vpen, q_vown, q_vfn, q_vref, q_asD, q_asDo, q_asDa, q_aown, q_adat, q_asA, q_asAp, q_asAf, q_asAr, q_asAo, q_asAa, q_asS, q_asSo, q_asSp, q_asSf, q_asSr, q_asSa, q_asR, q_asRr, q_asRo, q_onD, q_onR, q_inOb, q_inObr, q_inObf, q_onT, q_onL, q_onI, q_onX, q_onBo, q_onTd, q_seqL, q_seqT, q_intI, q_intB, q_none, q_noneR, q_one, q_oneS, q_seeL, q_seeT, q_seeO, q_seeA, q_seeAo, q_seeAl, q_seeAt, q_srL, q_srO, q_srA, q_lenS, q_lenO, q_lenA, q_lenR, q_slL, q_slO, q_slA, q_slAo, q_slAl, q_ixR, q_ixL, q_ixO, q_ixA, q_appA, q_appAo, q_appR, q_emR, q_zipT, q_zipL, q_some, q_fn1, q_fn2, q_fn3, q_fn4, q_pn0, q_pn1, q_pn2, q_pn3, q_scaI, q_scaS, q_scaB, q_scaN, q_fnD, q_all0, q_all1, q_all2, q_all3, q_all4, q_all5, q_wipe0, q_wipe, q_start, q_eqI, q_eqX, q_eqB, q_onB, q_at0, q_at1, q_at2, q_at3, q_at4, q_tup, q_strT, q_str, q_int, q_bool, List.length_cons, List.length_nil, List.map_cons, List.map_nil, List.replicate, List.cons_append, List.nil_append, List.getD_cons_zero, List.getD_cons_succ, List.getD_nil, List.set_cons_zero, List.set_cons_succ, List.set_nil, cond_true, cond_false, Nat.reduceAdd, Nat.reduceSub, Nat.sub_self, Nat.add_one_sub_one, Bool.not_true, Bool.not_false, true_and, and_true, Bool.false_eq_true, if_false, reduceIte]
  refine ⟨rfl, lcD_map (δ0 := ⟨[some (.ref a), some (.dat (.tuple (rs.map Row.data))), none], al⟩) id rfl (by rw [List.length_map]; show 0 + _ ≤ _; omega) ?_ ?_⟩
  · intro d hd' k hk
    obtain ⟨r, hr', rfl⟩ := List.mem_map.mp hd'
    simp only [at_mk, put_mk, know_mk, q_var, q_vdat, q_vpen, q_vown, q_vfn, q_vref, q_asD, q_asDo, q_asDa, q_aown, q_adat, q_asA, q_asAp, q_asAf, q_asAr, q_asAo, q_asAa, q_asS, q_asSo, q_asSp, q_asSf, q_asSr, q_asSa, q_asR, q_asRr, q_asRo, q_onD, q_onR, q_inOb, q_inObr, q_inObf, q_onT, q_onL, q_onI, q_onX, q_onBo, q_onTd, q_seqL, q_seqT, q_intI, q_intB, q_none, q_noneR, q_one, q_oneS, q_seeL, q_seeT, q_seeO, q_seeA, q_seeAo, q_seeAl, q_seeAt, q_srL, q_srO, q_srA, q_lenS, q_lenO, q_lenA, q_lenR, q_slL, q_slO, q_slA, q_slAo, q_slAl, q_ixR, q_ixL, q_ixO, q_ixA, q_appA, q_appAo, q_appR, q_emR, q_zipT, q_zipL, q_some, q_fn1, q_fn2, q_fn3, q_fn4, q_pn0, q_pn1, q_pn2, q_pn3, q_scaI, q_scaS, q_scaB, q_scaN, q_fnD, q_all0, q_all1, q_all2, q_all3, q_all4, q_all5, q_wipe0, q_wipe, q_start, q_eqI, q_eqX, q_eqB, q_onB, q_at0, q_at1, q_at2, q_at3, q_at4, q_tup, q_strT, q_str, q_int, q_bool, List.length_cons, List.length_nil, List.map_cons, List.map_nil, List.replicate, List.cons_append, List.nil_append, List.getD_cons_zero, List.getD_cons_succ, List.getD_nil, List.set_cons_zero, List.set_cons_succ, List.set_nil, cond_true, cond_false, Nat.reduceAdd, Nat.reduceSub, Nat.sub_self, Nat.add_one_sub_one, Bool.not_true, Bool.not_false, true_and, and_true, Bool.false_eq_true, if_false, reduceIte, q_ins e1]
    exact ⟨rfl, a, r, rfl, sc, Row.deps_mem hd r hr', Row.shorts_mem hs r hr', hk _ rfl⟩
  · rw [List.map_id, List.nil_append]
    exact ⟨_, Sub.rfl, q⟩
end
end B


set_option synthInstance.maxHeartbeats 0
set_option synthInstance.maxSize 100000
/-! views.py: a row, all rows, for programs without views. -/
namespace B
open PySem PySem.Spec PyProof.Rows L2
section
variable {P : Program} {w : World} {K : PySem.W.Frag} {mg : Str → Option Value} {base : Heap} {CSe : Addr}
theorem in_set {k : Bool → Prop} : inD (.str "set") [.str "each", .str "times"] k = k false := rfl
theorem in_tell {k : Bool → Prop} : inD (.str "tell") [.str "each", .str "times"] k = k false := rfl
theorem in_get {k : Bool → Prop} : inD (.str "get") [.str "each", .str "times"] k = k false := rfl
theorem in_put {k : Bool → Prop} : inD (.str "put") [.str "each", .str "times"] k = k false := rfl
theorem in_hand {k : Bool → Prop} : inD (.str "hand") [.str "each", .str "times"] k = k false := rfl
theorem in_each {k : Bool → Prop} : inD (.str "each") [.str "each", .str "times"] k = k true := rfl
theorem in_times {k : Bool → Prop} : inD (.str "times") [.str "each", .str "times"] k = k true := rfl
theorem in_when {k : Bool → Prop} : inD (.str "when") [.str "each", .str "times"] k = k false := rfl
theorem met_row_step (T : VTxt K mg CSe) (n : Nat) (mt_Seen_rows : Met P w K mg base (1 + 2 * n) CSe "rows" (spH K 2 fun al as Φ => ∃ a rs, as = [.ref a, .dat (.tuple (Row.datas rs))] ∧ SeAt CSe al a ∧ Row.deps rs < n ∧ Row.shorts rs ∧ rs.length ≤ 1000 ∧ Φ al (.dat (.tuple (Row.datas rs))))) : Met P w K mg base (2 + 2 * n) CSe "row" (spH K 2 fun al as Φ => ∃ a r, as = [.ref a, .dat (Row.data r)] ∧ SeAt CSe al a ∧ r.dep ≤ n ∧ r.shortR ∧ Φ al (.dat (Row.data r))) := by
  have mt_Seen_led_to := met_led_to (P := P) (w := w) (base := base) T
  have e9 : 2 + 2 * n = 1 + 2 * n + 1 := by omega
  rw [e9]
  refine T.m_row.met sc_Seen_row (fun vs H Q E h => h.1) (fun f cdv A outer s H vs Q E hr h => ?_)
  have hu := hu_of hr
  refine ⟨_, (pss_cons (ps_if (pt_cmpR op_eq (pe_ix (ix_tupK K (by rfl)) (pv 1) pe_int (fun _ _ => rfl)) pe_str (nomark _))
  (pss_one (ps_ret (pe_op (op_catZK K (by rfl)) (pe_slice (sl_tupZK K (by rfl)) (pv 1) po_none (po_some pe_int)) (pe_mt mt_Seen_led_to hr (by first | decide | omega) (pv 0) (pa_cons (pe_ix (ix_tupK K (by rfl)) (pv 1) pe_int (fun _ _ => rfl)) (pa_cons (pe_ix (ix_tupK K (by rfl)) (pv 1) pe_int (fun _ _ => rfl)) (pa_cons (pe_ix (ix_tupK K (by rfl)) (pv 1) pe_int (fun _ _ => rfl)) pa_nil)))))))
  pss_nil)
  (pss_cons (ps_if (pt_cmpR op_eq (pe_ix (ix_tupK K (by rfl)) (pv 1) pe_int (fun _ _ => rfl)) pe_str (nomark _))
  (pss_one (ps_ret (pe_op (op_catZK K (by rfl)) (pe_op (op_catZK K (by rfl)) (pe_slice (sl_tupZK K (by rfl)) (pv 1) po_none (po_some pe_int)) (pe_mt mt_Seen_led_to hr (by first | decide | omega) (pv 0) (pa_cons (pe_ix (ix_tupK K (by rfl)) (pv 1) pe_int (fun _ _ => rfl)) (pa_cons (pe_ix (ix_tupK K (by rfl)) (pv 1) pe_int (fun _ _ => rfl)) (pa_cons (pe_ix (ix_tupK K (by rfl)) (pv 1) pe_int (fun _ _ => rfl)) pa_nil))))) (pe_slice (sl_tupZK K (by rfl)) (pv 1) (po_some pe_int) po_none))))
  pss_nil)
  (pss_cons (ps_if (PW.pt (pw_and (pt_cmpR op_eq (pe_ix (ix_tupK K (by rfl)) (pv 1) pe_int (fun _ _ => rfl)) pe_str (nomark _)) (pw_and1 (pt_cmp (pc_din hu (pe_ix (ix_tupK K (by rfl)) (pv 1) pe_int (fun _ _ => rfl)) (pe_fldK K (by rfl) (by rfl) (pv 0)))))))
  (pss_one (ps_ret (pe_tupZ (pa_cons pe_str (pa_cons (pe_ix (ix_tupK K (by rfl)) (pv 1) pe_int (fun _ _ => rfl)) (pa_cons (pe_dget hu (pe_fldK K (by rfl) (by rfl) (pv 0)) (pe_ix (ix_tupK K (by rfl)) (pv 1) pe_int (fun _ _ => rfl)) (fun _ _ => rfl)) (pa_cons (pe_mt mt_Seen_rows hr (by first | decide | omega) (pv 0) (pa_cons (pe_ix (ix_tupK K (by rfl)) (pv 1) pe_int (fun _ _ => rfl)) pa_nil)) pa_nil)))))))
  pss_nil)
  (pss_cons (ps_if (pt_cmpR (op_in_seqK K (by rfl)) (pe_ix (ix_tupK K (by rfl)) (pv 1) pe_int (fun _ _ => rfl)) (pe_tupZ (pa_cons pe_str (pa_cons pe_str pa_nil))) (by rfl))
  (pss_one (ps_ret (pe_op (op_catZK K (by rfl)) (pe_slice (sl_tupZK K (by rfl)) (pv 1) po_none (po_some pe_int)) (pe_tupZ (pa_cons (pe_mt mt_Seen_rows hr (by first | decide | omega) (pv 0) (pa_cons (pe_ix (ix_tupK K (by rfl)) (pv 1) pe_int (fun _ _ => rfl)) pa_nil)) pa_nil)))))
  pss_nil)
  (pss_cons (ps_if (pt_cmpR op_eq (pe_ix (ix_tupK K (by rfl)) (pv 1) pe_int (fun _ _ => rfl)) pe_str (nomark _))
  (pss_one (ps_ret (pe_op (op_catZK K (by rfl)) (pe_slice (sl_tupZK K (by rfl)) (pv 1) po_none (po_some pe_int)) (pe_tupZ (pa_cons (pe_mt mt_Seen_rows hr (by first | decide | omega) (pv 0) (pa_cons (pe_ix (ix_tupK K (by rfl)) (pv 1) pe_int (fun _ _ => rfl)) pa_nil)) (pa_cons (pe_mt mt_Seen_rows hr (by first | decide | omega) (pv 0) (pa_cons (pe_ix (ix_tupK K (by rfl)) (pv 1) pe_int (fun _ _ => rfl)) pa_nil)) pa_nil))))))
  pss_nil)
  (pss_one (ps_ret (pv 1)))))))), ?_⟩
  refine run_H h fun Γ al as Φ hg => ?_
  obtain ⟨a, r, rfl, sc, hd, hs, q⟩ := hg
  obtain ⟨dx, mn, vw, e1, e2⟩ := sc.ex
  cases r with
  | set x e =>
    simp only [at_mk, put_mk, know_mk, q_var, q_vdat, q_vpen, q_vown, q_vfn, q_vref, q_asD, q_asDo, q_asDa, q_aown, q_adat, q_asA, q_asAp, q_asAf, q_asAr, q_asAo, q_asAa, q_asS, q_asSo, q_asSp, q_asSf, q_asSr, q_asSa, q_asR, q_asRr, q_asRo, q_onD, q_onR, q_inOb, q_inObr, q_inObf, q_onT, q_onL, q_onI, q_onX, q_onBo, q_onTd, q_seqL, q_seqT, q_intI, q_intB, q_none, q_noneR, q_one, q_oneS, q_seeL, q_seeT, q_seeO, q_seeA, q_seeAo, q_seeAl, q_seeAt, q_srL, q_srO, q_srA, q_lenS, q_lenO, q_lenA, q_lenR, q_slL, q_slO, q_slA, q_slAo, q_slAl, q_ixR, q_ixL, q_ixO, q_ixA, q_appA, q_appAo, q_appR, q_emR, q_zipT, q_zipL, q_some, q_fn1, q_fn2, q_fn3, q_fn4, q_pn0, q_pn1, q_pn2, q_pn3, q_scaI, q_scaS, q_scaB, q_scaN, q_fnD, q_all0, q_all1, q_all2, q_all3, q_all4, q_all5, q_wipe0, q_wipe, q_start, q_eqI, q_eqX, q_eqB, q_onB, q_at0, q_at1, q_at2, q_at3, q_at4, q_tup, q_strT, q_str, q_int, q_bool, List.length_cons, List.length_nil, List.map_cons, List.map_nil, List.replicate, List.cons_append, List.nil_append, List.getD_cons_zero, List.getD_cons_succ, List.getD_nil, List.set_cons_zero, List.set_cons_succ, List.set_nil, cond_true, cond_false, Nat.reduceAdd, Nat.reduceSub, Nat.sub_self, Nat.add_one_sub_one, Bool.not_true, Bool.not_false, true_and, and_true, Bool.false_eq_true, if_false, reduceIte, Row.data, w_set_set, w_set_tell, w_set_get, w_set_put, w_set_hand, w_set_each, w_set_times, w_set_when, in_set]
    exact ⟨by decide, _, Sub.rfl, q⟩
  | tell e =>
    simp only [at_mk, put_mk, know_mk, q_var, q_vdat, q_vpen, q_vown, q_vfn, q_vref, q_asD, q_asDo, q_asDa, q_aown, q_adat, q_asA, q_asAp, q_asAf, q_asAr, q_asAo, q_asAa, q_asS, q_asSo, q_asSp, q_asSf, q_asSr, q_asSa, q_asR, q_asRr, q_asRo, q_onD, q_onR, q_inOb, q_inObr, q_inObf, q_onT, q_onL, q_onI, q_onX, q_onBo, q_onTd, q_seqL, q_seqT, q_intI, q_intB, q_none, q_noneR, q_one, q_oneS, q_seeL, q_seeT, q_seeO, q_seeA, q_seeAo, q_seeAl, q_seeAt, q_srL, q_srO, q_srA, q_lenS, q_lenO, q_lenA, q_lenR, q_slL, q_slO, q_slA, q_slAo, q_slAl, q_ixR, q_ixL, q_ixO, q_ixA, q_appA, q_appAo, q_appR, q_emR, q_zipT, q_zipL, q_some, q_fn1, q_fn2, q_fn3, q_fn4, q_pn0, q_pn1, q_pn2, q_pn3, q_scaI, q_scaS, q_scaB, q_scaN, q_fnD, q_all0, q_all1, q_all2, q_all3, q_all4, q_all5, q_wipe0, q_wipe, q_start, q_eqI, q_eqX, q_eqB, q_onB, q_at0, q_at1, q_at2, q_at3, q_at4, q_tup, q_strT, q_str, q_int, q_bool, List.length_cons, List.length_nil, List.map_cons, List.map_nil, List.replicate, List.cons_append, List.nil_append, List.getD_cons_zero, List.getD_cons_succ, List.getD_nil, List.set_cons_zero, List.set_cons_succ, List.set_nil, cond_true, cond_false, Nat.reduceAdd, Nat.reduceSub, Nat.sub_self, Nat.add_one_sub_one, Bool.not_true, Bool.not_false, true_and, and_true, Bool.false_eq_true, if_false, reduceIte, Row.data, w_tell_set, w_tell_tell, w_tell_get, w_tell_put, w_tell_hand, w_tell_each, w_tell_times, w_tell_when, in_tell]
    exact ⟨by decide, _, Sub.rfl, q⟩
  | hand o e =>
    simp only [at_mk, put_mk, know_mk, q_var, q_vdat, q_vpen, q_vown, q_vfn, q_vref, q_asD, q_asDo, q_asDa, q_aown, q_adat, q_asA, q_asAp, q_asAf, q_asAr, q_asAo, q_asAa, q_asS, q_asSo, q_asSp, q_asSf, q_asSr, q_asSa, q_asR, q_asRr, q_asRo, q_onD, q_onR, q_inOb, q_inObr, q_inObf, q_onT, q_onL, q_onI, q_onX, q_onBo, q_onTd, q_seqL, q_seqT, q_intI, q_intB, q_none, q_noneR, q_one, q_oneS, q_seeL, q_seeT, q_seeO, q_seeA, q_seeAo, q_seeAl, q_seeAt, q_srL, q_srO, q_srA, q_lenS, q_lenO, q_lenA, q_lenR, q_slL, q_slO, q_slA, q_slAo, q_slAl, q_ixR, q_ixL, q_ixO, q_ixA, q_appA, q_appAo, q_appR, q_emR, q_zipT, q_zipL, q_some, q_fn1, q_fn2, q_fn3, q_fn4, q_pn0, q_pn1, q_pn2, q_pn3, q_scaI, q_scaS, q_scaB, q_scaN, q_fnD, q_all0, q_all1, q_all2, q_all3, q_all4, q_all5, q_wipe0, q_wipe, q_start, q_eqI, q_eqX, q_eqB, q_onB, q_at0, q_at1, q_at2, q_at3, q_at4, q_tup, q_strT, q_str, q_int, q_bool, List.length_cons, List.length_nil, List.map_cons, List.map_nil, List.replicate, List.cons_append, List.nil_append, List.getD_cons_zero, List.getD_cons_succ, List.getD_nil, List.set_cons_zero, List.set_cons_succ, List.set_nil, cond_true, cond_false, Nat.reduceAdd, Nat.reduceSub, Nat.sub_self, Nat.add_one_sub_one, Bool.not_true, Bool.not_false, true_and, and_true, Bool.false_eq_true, if_false, reduceIte, Row.data, w_hand_set, w_hand_tell, w_hand_get, w_hand_put, w_hand_hand, w_hand_each, w_hand_times, w_hand_when, in_hand]
    exact ⟨by decide, _, Sub.rfl, q⟩
  | get x o e f =>
    simp only [at_mk, put_mk, know_mk, q_var, q_vdat, q_vpen, q_vown, q_vfn, q_vref, q_asD, q_asDo, q_asDa, q_aown, q_adat, q_asA, q_asAp, q_asAf, q_asAr, q_asAo, q_asAa, q_asS, q_asSo, q_asSp, q_asSf, q_asSr, q_asSa, q_asR, q_asRr, q_asRo, q_onD, q_onR, q_inOb, q_inObr, q_inObf, q_onT, q_onL, q_onI, q_onX, q_onBo, q_onTd, q_seqL, q_seqT, q_intI, q_intB, q_none, q_noneR, q_one, q_oneS, q_seeL, q_seeT, q_seeO, q_seeA, q_seeAo, q_seeAl, q_seeAt, q_srL, q_srO, q_srA, q_lenS, q_lenO, q_lenA, q_lenR, q_slL, q_slO, q_slA, q_slAo, q_slAl, q_ixR, q_ixL, q_ixO, q_ixA, q_appA, q_appAo, q_appR, q_emR, q_zipT, q_zipL, q_some, q_fn1, q_fn2, q_fn3, q_fn4, q_pn0, q_pn1, q_pn2, q_pn3, q_scaI, q_scaS, q_scaB, q_scaN, q_fnD, q_all0, q_all1, q_all2, q_all3, q_all4, q_all5, q_wipe0, q_wipe, q_start, q_eqI, q_eqX, q_eqB, q_onB, q_at0, q_at1, q_at2, q_at3, q_at4, q_tup, q_strT, q_str, q_int, q_bool, List.length_cons, List.length_nil, List.map_cons, List.map_nil, List.replicate, List.cons_append, List.nil_append, List.getD_cons_zero, List.getD_cons_succ, List.getD_nil, List.set_cons_zero, List.set_cons_succ, List.set_nil, cond_true, cond_false, Nat.reduceAdd, Nat.reduceSub, Nat.sub_self, Nat.add_one_sub_one, Bool.not_true, Bool.not_false, true_and, and_true, Bool.false_eq_true, if_false, reduceIte, Row.data, w_get_set, w_get_tell, w_get_get, w_get_put, w_get_hand, w_get_each, w_get_times, w_get_when, q_ins e1, decide_true]
    refine ⟨rfl, a, o, e.data, f, rfl, sc, ?_⟩
    exact ⟨(show 5 ≤ 1000000 by decide), _, Sub.rfl, q⟩
  | put o e f v =>
    simp only [at_mk, put_mk, know_mk, q_var, q_vdat, q_vpen, q_vown, q_vfn, q_vref, q_asD, q_asDo, q_asDa, q_aown, q_adat, q_asA, q_asAp, q_asAf, q_asAr, q_asAo, q_asAa, q_asS, q_asSo, q_asSp, q_asSf, q_asSr, q_asSa, q_asR, q_asRr, q_asRo, q_onD, q_onR, q_inOb, q_inObr, q_inObf, q_onT, q_onL, q_onI, q_onX, q_onBo, q_onTd, q_seqL, q_seqT, q_intI, q_intB, q_none, q_noneR, q_one, q_oneS, q_seeL, q_seeT, q_seeO, q_seeA, q_seeAo, q_seeAl, q_seeAt, q_srL, q_srO, q_srA, q_lenS, q_lenO, q_lenA, q_lenR, q_slL, q_slO, q_slA, q_slAo, q_slAl, q_ixR, q_ixL, q_ixO, q_ixA, q_appA, q_appAo, q_appR, q_emR, q_zipT, q_zipL, q_some, q_fn1, q_fn2, q_fn3, q_fn4, q_pn0, q_pn1, q_pn2, q_pn3, q_scaI, q_scaS, q_scaB, q_scaN, q_fnD, q_all0, q_all1, q_all2, q_all3, q_all4, q_all5, q_wipe0, q_wipe, q_start, q_eqI, q_eqX, q_eqB, q_onB, q_at0, q_at1, q_at2, q_at3, q_at4, q_tup, q_strT, q_str, q_int, q_bool, List.length_cons, List.length_nil, List.map_cons, List.map_nil, List.replicate, List.cons_append, List.nil_append, List.getD_cons_zero, List.getD_cons_succ, List.getD_nil, List.set_cons_zero, List.set_cons_succ, List.set_nil, cond_true, cond_false, Nat.reduceAdd, Nat.reduceSub, Nat.sub_self, Nat.add_one_sub_one, Bool.not_true, Bool.not_false, true_and, and_true, Bool.false_eq_true, if_false, reduceIte, Row.data, w_put_set, w_put_tell, w_put_get, w_put_put, w_put_hand, w_put_each, w_put_times, w_put_when, q_ins e1, decide_true]
    refine ⟨rfl, a, o, e.data, f, rfl, sc, ?_⟩
    exact ⟨(show 4 ≤ 1000000 by decide), (show 5 ≤ 1000000 by decide), _, Sub.rfl, q⟩
  | each x o rs =>
    have eg : getE ([] : List (Key × PyData)) (.inr o) = none := rfl
    have hd' : Row.deps rs + 1 ≤ n := hd
    simp only [at_mk, put_mk, know_mk, q_var, q_vdat, q_vpen, q_vown, q_vfn, q_vref, q_asD, q_asDo, q_asDa, q_aown, q_adat, q_asA, q_asAp, q_asAf, q_asAr, q_asAo, q_asAa, q_asS, q_asSo, q_asSp, q_asSf, q_asSr, q_asSa, q_asR, q_asRr, q_asRo, q_onD, q_onR, q_inOb, q_inObr, q_inObf, q_onT, q_onL, q_onI, q_onX, q_onBo, q_onTd, q_seqL, q_seqT, q_intI, q_intB, q_none, q_noneR, q_one, q_oneS, q_seeL, q_seeT, q_seeO, q_seeA, q_seeAo, q_seeAl, q_seeAt, q_srL, q_srO, q_srA, q_lenS, q_lenO, q_lenA, q_lenR, q_slL, q_slO, q_slA, q_slAo, q_slAl, q_ixR, q_ixL, q_ixO, q_ixA, q_appA, q_appAo, q_appR, q_emR, q_zipT, q_zipL, q_some, q_fn1, q_fn2, q_fn3, q_fn4, q_pn0, q_pn1, q_pn2, q_pn3, q_scaI, q_scaS, q_scaB, q_scaN, q_fnD, q_all0, q_all1, q_all2, q_all3, q_all4, q_all5, q_wipe0, q_wipe, q_start, q_eqI, q_eqX, q_eqB, q_onB, q_at0, q_at1, q_at2, q_at3, q_at4, q_tup, q_strT, q_str, q_int, q_bool, List.length_cons, List.length_nil, List.map_cons, List.map_nil, List.replicate, List.cons_append, List.nil_append, List.getD_cons_zero, List.getD_cons_succ, List.getD_nil, List.set_cons_zero, List.set_cons_succ, List.set_nil, cond_true, cond_false, Nat.reduceAdd, Nat.reduceSub, Nat.sub_self, Nat.add_one_sub_one, Bool.not_true, Bool.not_false, true_and, and_true, Bool.false_eq_true, if_false, reduceIte, Row.data, w_each_set, w_each_tell, w_each_get, w_each_put, w_each_hand, w_each_each, w_each_times, w_each_when, q_ins e1, T.cSe, T.nSe_views, seF_views, q_get e2 (show keyD (.str o) = some (.inr o) from rfl), decide_true, eg, Option.isSome_none, in_each]
    exact ⟨by decide, rfl, a, rs, rfl, sc, by omega, hs.1, hs.2, by decide, (show 4 ≤ 1000000 by decide), _, Sub.rfl, q⟩
  | times x m rs =>
    have hd' : Row.deps rs + 1 ≤ n := hd
    simp only [at_mk, put_mk, know_mk, q_var, q_vdat, q_vpen, q_vown, q_vfn, q_vref, q_asD, q_asDo, q_asDa, q_aown, q_adat, q_asA, q_asAp, q_asAf, q_asAr, q_asAo, q_asAa, q_asS, q_asSo, q_asSp, q_asSf, q_asSr, q_asSa, q_asR, q_asRr, q_asRo, q_onD, q_onR, q_inOb, q_inObr, q_inObf, q_onT, q_onL, q_onI, q_onX, q_onBo, q_onTd, q_seqL, q_seqT, q_intI, q_intB, q_none, q_noneR, q_one, q_oneS, q_seeL, q_seeT, q_seeO, q_seeA, q_seeAo, q_seeAl, q_seeAt, q_srL, q_srO, q_srA, q_lenS, q_lenO, q_lenA, q_lenR, q_slL, q_slO, q_slA, q_slAo, q_slAl, q_ixR, q_ixL, q_ixO, q_ixA, q_appA, q_appAo, q_appR, q_emR, q_zipT, q_zipL, q_some, q_fn1, q_fn2, q_fn3, q_fn4, q_pn0, q_pn1, q_pn2, q_pn3, q_scaI, q_scaS, q_scaB, q_scaN, q_fnD, q_all0, q_all1, q_all2, q_all3, q_all4, q_all5, q_wipe0, q_wipe, q_start, q_eqI, q_eqX, q_eqB, q_onB, q_at0, q_at1, q_at2, q_at3, q_at4, q_tup, q_strT, q_str, q_int, q_bool, List.length_cons, List.length_nil, List.map_cons, List.map_nil, List.replicate, List.cons_append, List.nil_append, List.getD_cons_zero, List.getD_cons_succ, List.getD_nil, List.set_cons_zero, List.set_cons_succ, List.set_nil, cond_true, cond_false, Nat.reduceAdd, Nat.reduceSub, Nat.sub_self, Nat.add_one_sub_one, Bool.not_true, Bool.not_false, true_and, and_true, Bool.false_eq_true, if_false, reduceIte, Row.data, w_times_set, w_times_tell, w_times_get, w_times_put, w_times_hand, w_times_each, w_times_times, w_times_when, q_ins e1, in_times]
    exact ⟨by decide, rfl, a, rs, rfl, sc, by omega, hs.1, hs.2, by decide, (show 4 ≤ 1000000 by decide), _, Sub.rfl, q⟩
  | cond e rs us =>
    have hd' : max (Row.deps rs) (Row.deps us) + 1 ≤ n := hd
    simp only [at_mk, put_mk, know_mk, q_var, q_vdat, q_vpen, q_vown, q_vfn, q_vref, q_asD, q_asDo, q_asDa, q_aown, q_adat, q_asA, q_asAp, q_asAf, q_asAr, q_asAo, q_asAa, q_asS, q_asSo, q_asSp, q_asSf, q_asSr, q_asSa, q_asR, q_asRr, q_asRo, q_onD, q_onR, q_inOb, q_inObr, q_inObf, q_onT, q_onL, q_onI, q_onX, q_onBo, q_onTd, q_seqL, q_seqT, q_intI, q_intB, q_none, q_noneR, q_one, q_oneS, q_seeL, q_seeT, q_seeO, q_seeA, q_seeAo, q_seeAl, q_seeAt, q_srL, q_srO, q_srA, q_lenS, q_lenO, q_lenA, q_lenR, q_slL, q_slO, q_slA, q_slAo, q_slAl, q_ixR, q_ixL, q_ixO, q_ixA, q_appA, q_appAo, q_appR, q_emR, q_zipT, q_zipL, q_some, q_fn1, q_fn2, q_fn3, q_fn4, q_pn0, q_pn1, q_pn2, q_pn3, q_scaI, q_scaS, q_scaB, q_scaN, q_fnD, q_all0, q_all1, q_all2, q_all3, q_all4, q_all5, q_wipe0, q_wipe, q_start, q_eqI, q_eqX, q_eqB, q_onB, q_at0, q_at1, q_at2, q_at3, q_at4, q_tup, q_strT, q_str, q_int, q_bool, List.length_cons, List.length_nil, List.map_cons, List.map_nil, List.replicate, List.cons_append, List.nil_append, List.getD_cons_zero, List.getD_cons_succ, List.getD_nil, List.set_cons_zero, List.set_cons_succ, List.set_nil, cond_true, cond_false, Nat.reduceAdd, Nat.reduceSub, Nat.sub_self, Nat.add_one_sub_one, Bool.not_true, Bool.not_false, true_and, and_true, Bool.false_eq_true, if_false, reduceIte, Row.data, w_when_set, w_when_tell, w_when_get, w_when_put, w_when_hand, w_when_each, w_when_times, w_when_when, q_ins e1, in_when, decide_true]
    exact ⟨by decide, rfl, a, rs, rfl, sc, by omega, hs.1.1, hs.1.2, rfl, a, us, rfl, sc, by omega, hs.2.1, hs.2.2, by decide, (show 4 ≤ 1000000 by decide), _, Sub.rfl, q⟩
theorem met_row (T : VTxt K mg CSe) : ∀ n : Nat, Met P w K mg base (2 + 2 * n) CSe "row" (spH K 2 fun al as Φ => ∃ a r, as = [.ref a, .dat (Row.data r)] ∧ SeAt CSe al a ∧ r.dep ≤ n ∧ r.shortR ∧ Φ al (.dat (Row.data r)))
  | 0 => met_row_step T 0 (T.m_rows.met sc_Seen_rows (fun vs H Q E h => h.1) (fun f cdv A outer s H vs Q E hr h => (spH_no (fun al as Φ hg => by
        obtain ⟨a, rs, rfl, _, lt, _⟩ := hg
        exact absurd lt (Nat.not_lt_zero _)) h).elim))
  | n + 1 => met_row_step T (n + 1) ((met_rows T n (met_row T n)).imp (spH_imp fun al as Φ hg => by
      obtain ⟨a, rs, h1, h2, h3, h4, h5, h6⟩ := hg
      exact ⟨a, rs, h1, h2, by omega, h4, h5, h6⟩) (by omega))
theorem cal_led_by (T : VTxt K mg CSe) : Cal P w K mg base 16 "led_by" (spD K 1 (fn1 fun d Φ => ∃ p : Prg, p.tabs.length ≤ 100 ∧ Row.deps p.rows ≤ 6 ∧ Row.shorts p.rows ∧ p.rows.length ≤ 1000 ∧ d = p.data ∧ Φ p.data)) := by
  have m_Seen := mak_Seen (P := P) (w := w) (base := base) T
  have mt_Seen_rows := met_rows T 6 (met_row (P := P) (w := w) (base := base) T 6)
  refine T.d_led_by.cal sc_led_by (fun vs H Q E h => h.1) (fun f cdv A outer s H vs Q E hr h => ?_)
  have hu := hu_of hr
  refine ⟨_, (pss_one (ps_ret (pe_tupZ (pa_cons (pe_ix (ix_tupK K (by rfl)) (pv 0) pe_int (fun _ _ => rfl)) (pa_cons (pe_ix (ix_tupK K (by rfl)) (pv 0) pe_int (fun _ _ => rfl)) (pa_cons (pe_tupZ pa_nil) (pa_cons (pe_mt mt_Seen_rows hr (by first | decide | omega) (pe_mk m_Seen hr (by first | decide | omega) (by rfl) (pa_cons (pv 0) pa_nil)) (pa_cons (pe_ix (ix_tupK K (by rfl)) (pv 0) pe_int (fun _ _ => rfl)) pa_nil)) pa_nil))))))), ?_⟩
  refine run_D h fun Γ as Φ hg => ?_
  obtain ⟨d, rfl, p, h1, h2, h3, h4, rfl, q⟩ := of_fn1 hg
  simp only [at_mk, put_mk, know_mk, q_var, q_vdat, q_vpen, q_vown, q_vfn, q_vref, q_asD, q_asDo, q_asDa, q_aown, q_adat, q_asA, q_asAp, q_asAf, q_asAr, q_asAo, q_asAa, q_asS, q_asSo, q_asSp, q_asSf, q_asSr, q_asSa, q_asR, q_asRr, q_asRo, q_onD, q_onR, q_inOb, q_inObr, q_inObf, q_onT, q_onL, q_onI, q_onX, q_onBo, q_onTd, q_seqL, q_seqT, q_intI, q_intB, q_none, q_noneR, q_one, q_oneS, q_seeL, q_seeT, q_seeO, q_seeA, q_seeAo, q_seeAl, q_seeAt, q_srL, q_srO, q_srA, q_lenS, q_lenO, q_lenA, q_lenR, q_slL, q_slO, q_slA, q_slAo, q_slAl, q_ixR, q_ixL, q_ixO, q_ixA, q_appA, q_appAo, q_appR, q_emR, q_zipT, q_zipL, q_some, q_fn1, q_fn2, q_fn3, q_fn4, q_pn0, q_pn1, q_pn2, q_pn3, q_scaI, q_scaS, q_scaB, q_scaN, q_fnD, q_all0, q_all1, q_all2, q_all3, q_all4, q_all5, q_wipe0, q_wipe, q_start, q_eqI, q_eqX, q_eqB, q_onB, q_at0, q_at1, q_at2, q_at3, q_at4, q_tup, q_strT, q_str, q_int, q_bool, List.length_cons, List.length_nil, List.map_cons, List.map_nil, List.replicate, List.cons_append, List.nil_append, List.getD_cons_zero, List.getD_cons_succ, List.getD_nil, List.set_cons_zero, List.set_cons_succ, List.set_nil, cond_true, cond_false, Nat.reduceAdd, Nat.reduceSub, Nat.sub_self, Nat.add_one_sub_one, Bool.not_true, Bool.not_false, true_and, and_true, Bool.false_eq_true, if_false, reduceIte, Prg.data]
  refine ⟨by decide, fun x dx _ => ⟨x, dx, p, rfl, oup_same, h1, fun al' sc => ?_⟩⟩
  obtain ⟨dx', mn, vw, e1, e2⟩ := sc.ex
  refine asIns_of e1 ⟨⟨rfl, rfl⟩, x, p.rows, rfl, sc, h2, h3, h4, by decide, q⟩
end
end B


/-! Runs: row by row, and step by step. -/
namespace B
open PySem PySem.Spec PyProof.Rows L2
def Prg.tab (p : Prg) (o : Str) : Option Tab := p.tabs.find? fun t => decide (t.name = o)
def Prg.many (p : Prg) (o : Str) : Int := ((p.tab o).map (·.many)).getD 1
def Prg.bits (p : Prg) (o f : Str) : Int := ((p.tab o).bind fun t => t.fields.lookup f).getD 1
/-- what a run holds -/
structure Rs where
  env : Str → Int
  fld : Str → Int → Str → Int
  said : List Int
  uses : List PyData
def Rs.set (S : Rs) (x : Str) (v : Int) : Rs := { S with env := fun y => if y = x then v else S.env y }
def useD (w t : Str) (r : Int) (f : Str) : PyData := .tuple [.str w, .str t, .int r, .str f]
def Rs.put (S : Rs) (t : Str) (r : Int) (f : Str) (v : Int) : Rs := { S with fld := fun t' r' f' => if t' = t ∧ r' = r ∧ f' = f then v else S.fld t' r' f', uses := S.uses ++ [useD "put" t r f] }
def Rs.tell (S : Rs) (v : Int) : Rs := { S with said := S.said ++ [v] }
def Rs.use (S : Rs) (u : PyData) : Rs := { S with uses := S.uses ++ [u] }
def turns (body : Rs → Rs) (x : Str) : Nat → Int → Rs → Rs
  | 0, _, S => S
  | k + 1, num, S => turns body x k (num + 1) (body (S.set x (num + 1)))
/-- a loop from its beginning -/
def loopR (body : Rs → Rs) (x : Str) (many : Int) (S : Rs) : Rs := turns body x (many - 1).toNat 0 (body (S.set x 0))
mutual
def runRow (p : Prg) : Row → Rs → Rs
  | .set x e, S => S.set x (e.val S.env)
  | .tell e, S => S.tell (e.val S.env)
  | .get x o e f, S => (S.use (useD "get" o (e.val S.env % p.many o) f)).set x (S.fld o (e.val S.env % p.many o) f)
  | .put o e f v, S => S.put o (e.val S.env % p.many o) f (v.val S.env % 2 ^ (p.bits o f).toNat)
  | .hand _ _, S => S
  | .each x o rs, S => loopR (runRows p rs) x (p.many o) S
  | .times x n rs, S => loopR (runRows p rs) x n S
  | .cond e rs us, S => if e.val S.env ≠ 0 then runRows p rs S else runRows p us S
def runRows (p : Prg) : List Row → Rs → Rs
  | [], S => S
  | r :: rs, S => runRows p rs (runRow p r S)
end
/-- rows that are being done -/
structure Fra where
  rows : List Row
  pos : Nat
  loop : Option (Str × Int × Int)
def Fra.left (f : Fra) : Bool := decide (f.pos = f.rows.length) && (match f.loop with
  | none => true
  | some (_, num, many) => decide (num + 1 = many))
def settle : List Fra → List Fra
  | [] => []
  | f :: fs => if f.left = true then settle fs else f :: fs
structure Ms where
  S : Rs
  steps : Nat
  stack : List Fra
/-- a row is done, or begun -/
def doRow (p : Prg) (r : Row) (M : Ms) : Ms := match r with
  | .each x o rs => { M with S := M.S.set x 0, stack := ⟨rs, 0, some (x, 0, p.many o)⟩ :: M.stack }
  | .times x n rs => { M with S := M.S.set x 0, stack := ⟨rs, 0, some (x, 0, n)⟩ :: M.stack }
  | .cond e rs us => { M with stack := ⟨if e.val M.S.env ≠ 0 then rs else us, 0, none⟩ :: M.stack }
  | r => { M with S := runRow p r M.S }
/-- a step -/
def stepM (p : Prg) (M : Ms) : Ms := match M.stack with
  | [] => M
  | f :: fs =>
    let M' := match f.rows[f.pos]? with
      | some r => doRow p r { M with stack := { f with pos := f.pos + 1 } :: fs }
      | none => match f.loop with
        | some (x, num, many) => { M with S := M.S.set x (num + 1), stack := { f with pos := 0, loop := some (x, num + 1, many) } :: fs }
        | none => M
    { M' with steps := M.steps + 1, stack := settle M'.stack }
/-- what is left to be done of some rows -/
def finFra (p : Prg) (f : Fra) (S : Rs) : Rs := match f.loop with
  | none => runRows p (f.rows.drop f.pos) S
  | some (x, num, many) => turns (runRows p f.rows) x (many - 1 - num).toNat num (runRows p (f.rows.drop f.pos) S)
def fin (p : Prg) : List Fra → Rs → Rs
  | [], S => S
  | f :: fs, S => fin p fs (finFra p f S)
theorem fin_settle (p : Prg) : ∀ (fs : List Fra) (S : Rs), fin p (settle fs) S = fin p fs S
  | [], _ => rfl
  | f :: fs, S => by
    unfold settle
    split
    · rename_i h
      unfold Fra.left at h
      simp only [Bool.and_eq_true] at h
      have h1 : f.pos = f.rows.length := of_decide_eq_true h.1
      have e : finFra p f S = S := by
        unfold finFra
        rw [h1, List.drop_length]
        cases hl : f.loop with
        | none => rfl
        | some q =>
          obtain ⟨x, num, many⟩ := q
          have h2 := h.2
          rw [hl] at h2
          have h3 : num + 1 = many := of_decide_eq_true h2
          have h4 : (many - 1 - num).toNat = 0 := by omega
          show turns _ x (many - 1 - num).toNat num (runRows p [] S) = S
          rw [h4]
          rfl
      rw [fin_settle p fs S]
      show _ = fin p fs (finFra p f S)
      rw [e]
    · rfl
theorem fin_doRow (p : Prg) (r : Row) (M : Ms) (hr : ∀ o e, r ≠ .hand o e) : fin p (doRow p r M).stack (doRow p r M).S = fin p M.stack (runRow p r M.S) := by
  cases r with
  | each x o rs =>
    show fin p M.stack (finFra p ⟨rs, 0, some (x, 0, p.many o)⟩ (M.S.set x 0)) = _
    unfold finFra
    dsimp only
    rw [List.drop_zero, Int.sub_zero]
    rfl
  | times x n rs =>
    show fin p M.stack (finFra p ⟨rs, 0, some (x, 0, n)⟩ (M.S.set x 0)) = _
    unfold finFra
    dsimp only
    rw [List.drop_zero, Int.sub_zero]
    rfl
  | cond e rs us =>
    show fin p M.stack (finFra p ⟨if e.val M.S.env ≠ 0 then rs else us, 0, none⟩ M.S) = fin p M.stack (if e.val M.S.env ≠ 0 then runRows p rs M.S else runRows p us M.S)
    unfold finFra
    dsimp only
    rw [List.drop_zero]
    split <;> rfl
  | hand o e => exact absurd rfl (hr o e)
  | _ => rfl
/-- a frame that is not left has something to do -/
structure Fra.Ok (f : Fra) : Prop where
  pos : f.pos ≤ f.rows.length
  loop : ∀ x num many, f.loop = some (x, num, many) → num < many
theorem fin_step (p : Prg) (M : Ms) (hs : ∀ f fs, M.stack = f :: fs → f.Ok ∧ f.left = false) (hr : ∀ f ∈ M.stack, ∀ r ∈ f.rows, ∀ o e, r ≠ .hand o e) : fin p (stepM p M).stack (stepM p M).S = fin p M.stack M.S := by
  unfold stepM
  cases e : M.stack with
  | nil => simp only [e]
  | cons f fs =>
    obtain ⟨ok, nl⟩ := hs f fs e
    cases er : f.rows[f.pos]? with
    | some r =>
      simp only [er]
      rw [fin_settle, fin_doRow p r _ (hr f (by rw [e]; exact List.mem_cons_self ..) r (List.mem_of_getElem? er))]
      show fin p fs (finFra p { f with pos := f.pos + 1 } (runRow p r M.S)) = fin p fs (finFra p f M.S)
      have hd : f.rows.drop f.pos = r :: f.rows.drop (f.pos + 1) := by
        have hlt := (List.getElem?_eq_some_iff.mp er).1
        rw [List.drop_eq_getElem_cons hlt, (List.getElem?_eq_some_iff.mp er).2]
      unfold finFra
      rw [hd]
      rfl
    | none =>
      have hlen := List.getElem?_eq_none_iff.mp er
      have hp : f.pos = f.rows.length := by have := ok.pos; omega
      simp only [er]
      cases hl : f.loop with
      | none =>
        unfold Fra.left at nl
        rw [hl, hp] at nl
        simp at nl
      | some q =>
        obtain ⟨x, num, many⟩ := q
        simp only
        rw [fin_settle]
        show fin p fs (finFra p { f with pos := 0, loop := some (x, num + 1, many) } (M.S.set x (num + 1))) = fin p fs (finFra p f M.S)
        have hlt := ok.loop x num many hl
        have hne : ¬ num + 1 = many := by
          intro z
          unfold Fra.left at nl
          rw [hl, hp] at nl
          simp [z] at nl
        have hk : (many - 1 - num).toNat = (many - 1 - (num + 1)).toNat + 1 := by omega
        unfold finFra
        rw [hl]
        dsimp only
        rw [hp, List.drop_length, List.drop_zero, hk]
        rfl
/-! ### how many steps are left at the most -/
mutual
def Row.cost (p : Prg) : Row → Nat
  | .each _ o rs => 1 + (p.many o).toNat * (1 + Row.costs p rs)
  | .times _ n rs => 1 + n.toNat * (1 + Row.costs p rs)
  | .cond _ rs us => 1 + (Row.costs p rs + Row.costs p us)
  | .set _ _ => 1
  | .tell _ => 1
  | .get _ _ _ _ => 1
  | .put _ _ _ _ => 1
  | .hand _ _ => 1
def Row.costs (p : Prg) : List Row → Nat
  | [] => 0
  | r :: rs => r.cost p + Row.costs p rs
end
theorem Row.costs_drop (p : Prg) {rs : List Row} {i : Nat} {r : Row} (h : rs[i]? = some r) : Row.costs p (rs.drop i) = r.cost p + Row.costs p (rs.drop (i + 1)) := by
  have hlt := (List.getElem?_eq_some_iff.mp h).1
  rw [List.drop_eq_getElem_cons hlt, (List.getElem?_eq_some_iff.mp h).2]
  rfl
def Fra.cost (p : Prg) (f : Fra) : Nat := Row.costs p (f.rows.drop f.pos) + (match f.loop with
  | none => 0
  | some (_, num, many) => (many - 1 - num).toNat * (1 + Row.costs p f.rows))
def costM (p : Prg) : List Fra → Nat
  | [] => 0
  | f :: fs => f.cost p + costM p fs
theorem cost_settle (p : Prg) : ∀ fs : List Fra, costM p (settle fs) ≤ costM p fs
  | [] => Nat.le_refl _
  | f :: fs => by
    have ih := cost_settle p fs
    unfold settle
    split
    · show _ ≤ f.cost p + costM p fs
      omega
    · exact Nat.le_refl _
theorem cost_step (p : Prg) (M : Ms) (hm : ∀ o, 1 ≤ p.many o) (hs : ∀ f fs, M.stack = f :: fs → f.Ok ∧ f.left = false) (hn : ∀ f ∈ M.stack, ∀ x n rs, .times x n rs ∈ f.rows → 1 ≤ n) (ne : M.stack ≠ []) : costM p (stepM p M).stack < costM p M.stack := by
  unfold stepM
  cases e : M.stack with
  | nil => exact absurd e ne
  | cons f fs =>
    obtain ⟨ok, nl⟩ := hs f fs e
    cases er : f.rows[f.pos]? with
    | some r =>
      simp only [er]
      refine Nat.lt_of_le_of_lt (cost_settle p _) ?_
      have hd := Row.costs_drop p er
      have hc : ({ f with pos := f.pos + 1 } : Fra).cost p + r.cost p = f.cost p := by
        unfold Fra.cost
        rw [hd]
        dsimp only
        omega
      have hmem : r ∈ f.rows := List.mem_of_getElem? er
      cases r with
      | each x o rs =>
        show (Fra.cost p ⟨rs, 0, some (x, 0, p.many o)⟩ + (({ f with pos := f.pos + 1 } : Fra).cost p + costM p fs)) < f.cost p + costM p fs
        have h1 := hm o
        have e1 : Fra.cost p ⟨rs, 0, some (x, 0, p.many o)⟩ = Row.costs p rs + (p.many o - 1 - 0).toNat * (1 + Row.costs p rs) := rfl
        have e2 : (Row.each x o rs).cost p = 1 + (p.many o).toNat * (1 + Row.costs p rs) := by rw [Row.cost]
        have e3 : (p.many o).toNat = (p.many o - 1 - 0).toNat + 1 := by omega
        rw [e3, Nat.succ_mul] at e2
        omega
      | times x n rs =>
        show (Fra.cost p ⟨rs, 0, some (x, 0, n)⟩ + (({ f with pos := f.pos + 1 } : Fra).cost p + costM p fs)) < f.cost p + costM p fs
        have h1 := hn f (by rw [e]; exact List.mem_cons_self ..) x n rs hmem
        have e1 : Fra.cost p ⟨rs, 0, some (x, 0, n)⟩ = Row.costs p rs + (n - 1 - 0).toNat * (1 + Row.costs p rs) := rfl
        have e2 : (Row.times x n rs).cost p = 1 + n.toNat * (1 + Row.costs p rs) := by rw [Row.cost]
        have e3 : n.toNat = (n - 1 - 0).toNat + 1 := by omega
        rw [e3, Nat.succ_mul] at e2
        omega
      | cond ex rs us =>
        show (Fra.cost p ⟨if ex.val M.S.env ≠ 0 then rs else us, 0, none⟩ + (({ f with pos := f.pos + 1 } : Fra).cost p + costM p fs)) < f.cost p + costM p fs
        have e2 : (Row.cond ex rs us).cost p = 1 + (Row.costs p rs + Row.costs p us) := by rw [Row.cost]
        have e1 : Fra.cost p ⟨if ex.val M.S.env ≠ 0 then rs else us, 0, none⟩ ≤ Row.costs p rs + Row.costs p us := by
          unfold Fra.cost
          dsimp only
          rw [List.drop_zero]
          split <;> omega
        omega
      | set a0 a1 =>
        have e2 : (Row.set a0 a1).cost p = 1 := rfl
        show ({ f with pos := f.pos + 1 } : Fra).cost p + costM p fs < f.cost p + costM p fs
        omega
      | tell a0 =>
        have e2 : (Row.tell a0).cost p = 1 := rfl
        show ({ f with pos := f.pos + 1 } : Fra).cost p + costM p fs < f.cost p + costM p fs
        omega
      | get a0 a1 a2 a3 =>
        have e2 : (Row.get a0 a1 a2 a3).cost p = 1 := rfl
        show ({ f with pos := f.pos + 1 } : Fra).cost p + costM p fs < f.cost p + costM p fs
        omega
      | put a0 a1 a2 a3 =>
        have e2 : (Row.put a0 a1 a2 a3).cost p = 1 := rfl
        show ({ f with pos := f.pos + 1 } : Fra).cost p + costM p fs < f.cost p + costM p fs
        omega
      | hand a0 a1 =>
        have e2 : (Row.hand a0 a1).cost p = 1 := rfl
        show ({ f with pos := f.pos + 1 } : Fra).cost p + costM p fs < f.cost p + costM p fs
        omega
    | none =>
      have hlen := List.getElem?_eq_none_iff.mp er
      have hp : f.pos = f.rows.length := by have := ok.pos; omega
      simp only [er]
      cases hl : f.loop with
      | none =>
        unfold Fra.left at nl
        rw [hl, hp] at nl
        simp at nl
      | some q =>
        obtain ⟨x, num, many⟩ := q
        simp only
        refine Nat.lt_of_le_of_lt (cost_settle p _) ?_
        show ({ f with pos := 0, loop := some (x, num + 1, many) } : Fra).cost p + costM p fs < f.cost p + costM p fs
        have hlt := ok.loop x num many hl
        have hne : ¬ num + 1 = many := by
          intro z
          unfold Fra.left at nl
          rw [hl, hp] at nl
          simp [z] at nl
        have hk : (many - 1 - num).toNat = (many - 1 - (num + 1)).toNat + 1 := by omega
        unfold Fra.cost
        rw [hl]
        dsimp only
        rw [hp, List.drop_length, List.drop_zero, hk, Nat.succ_mul]
        show _ < 0 + _ + _
        omega
end B

/-! A run's objects. -/
namespace B
open PySem PySem.Spec PyProof.Rows L2
instance {K : PySem.W.Frag} {Γ : Gm} {a : TE} {fa : Dn → (Sv → Dn → Prop) → Prop} [A : DE K Γ a fa] : DE K Γ (tUn (rU fun i => V.int (-i)) a) (fun δ Φ => fa δ fun s δ1 => asD s δ1 fun x δ2 => onI x fun i => Φ (.dat (.int (-i))) δ2) := ⟨fun {L δ σ S H Φ Q} I h q => DE.data (T := A) I h fun x L1 δ1 v H1 J h1 => by
  obtain ⟨i, rfl, rfl, h2⟩ := onI_run J.top h1
  exact ⟨i, rfl, q (.dat (.int (-i))) _ _ _ _ (J.pop.dat rfl) h2⟩⟩
theorem atS_last {ss : List Sv} {s : Sv} {k : Sv → Prop} : atS (ss ++ [s]) (-1) k = k s := by
  unfold atS
  rw [atI_last]
/-- objects that stand at unlike addresses -/
def Cells (al : Al) (cs : List (Addr × Ob)) : Prop := (cs.map (·.1)).Nodup ∧ ∀ c ∈ cs, al c.1 = some c.2
namespace Cells
variable {al : Al} {cs cs' l r : List (Addr × Ob)} {x p : Addr} {o o0 : Ob}
theorem get (h : Cells al cs) (i : Nat) (e : cs[i]? = some (x, o)) : al x = some o := h.2 (x, o) (List.mem_of_getElem? e)
theorem wr (h : Cells al (l ++ (x, o0) :: r)) : Cells (oup al x o) (l ++ (x, o) :: r) := by
  obtain ⟨nd, h⟩ := h
  rw [List.map_append, List.map_cons] at nd
  have nd2 := List.perm_middle.nodup_iff.mp nd
  rw [List.nodup_cons, List.mem_append, not_or] at nd2
  refine ⟨by rw [List.map_append, List.map_cons]; exact nd, fun c hc => ?_⟩
  rcases List.mem_append.mp hc with z | z
  · have hm := List.mem_map_of_mem (f := (·.1)) z
    rw [oup_ne (fun e => nd2.1.1 (by rw [← e]; exact hm))]
    exact h c (List.mem_append_left _ z)
  · rcases List.mem_cons.mp z with z | z
    · rw [z]
      exact oup_same
    · have hm := List.mem_map_of_mem (f := (·.1)) z
      rw [oup_ne (fun e => nd2.1.2 (by rw [← e]; exact hm))]
      exact h c (List.mem_append_right _ (List.mem_cons_of_mem _ z))
theorem new (h : Cells al (l ++ r)) (n : al p = none) : Cells (oup al p o) (l ++ (p, o) :: r) := by
  obtain ⟨nd, h⟩ := h
  have fr : ∀ c ∈ l ++ r, c.1 ≠ p := fun c hc e => by
    have := h c hc
    rw [e, n] at this
    cases this
  refine ⟨?_, fun c hc => ?_⟩
  · rw [List.map_append, List.map_cons]
    refine List.perm_middle.nodup_iff.mpr (List.nodup_cons.mpr ⟨fun z => ?_, by rw [← List.map_append]; exact nd⟩)
    rw [← List.map_append] at z
    obtain ⟨c, hc, e⟩ := List.mem_map.mp z
    exact fr c hc e
  · rcases List.mem_append.mp hc with z | z
    · rw [oup_ne (fr c (List.mem_append_left _ z))]
      exact h c (List.mem_append_left _ z)
    · rcases List.mem_cons.mp z with z | z
      · rw [z]
        exact oup_same
      · rw [oup_ne (fr c (List.mem_append_right _ z))]
        exact h c (List.mem_append_right _ z)
theorem sub (h : Cells al cs) (s : cs'.Sublist cs) : Cells al cs' := ⟨h.1.sublist (s.map _), fun c hc => h.2 c (s.subset hc)⟩
end Cells
/-- a frame with its address, and that of its loop -/
structure Fk where
  f : Fra
  b : Addr
  l : Addr
def Fk.cells (k : Fk) : List (Addr × Ob) := match k.f.loop with
  | none => [(k.b, .lst [.dat (.tuple (Row.datas k.f.rows)), .dat (.int k.f.pos), .dat .none])]
  | some (x, num, many) => [(k.b, .lst [.dat (.tuple (Row.datas k.f.rows)), .dat (.int k.f.pos), .ref k.l]), (k.l, .lst [.dat (.str x), .dat (.int num), .dat (.int many)])]
/-- a run's addresses and what they hold -/
structure Rx where
  a : Addr
  dx : Addr
  st : Addr
  dx2 : Addr
  tb : Addr
  hl : Addr
  fd : Addr
  us : Addr
  sd : Addr
  tr : Addr
  fr : Addr
  te : List (Key × PyData)
  he : List (Key × PyData)
  fe : List (List Key × PyData)
  tl : List Sv
  fa : PyData
  S : Rs
  ks : List Fk
def ruF (p : Prg) (R : Rx) : List (Str × Sv) := [("program", .dat p.data), ("tables", .ref R.tb), ("held", .ref R.hl), ("faces", .dat R.fa), ("store", .ref R.st), ("said", .ref R.sd), ("trail", .ref R.tr), ("turned", .dat (.int 0)), ("frames", .ref R.fr)]
theorem ruF_tables {p : Prg} {R : Rx} {k : Sv → Prop} : onF (ruF p R) "tables" k = k (.ref R.tb) := rfl
theorem ruF_held {p : Prg} {R : Rx} {k : Sv → Prop} : onF (ruF p R) "held" k = k (.ref R.hl) := rfl
theorem ruF_store {p : Prg} {R : Rx} {k : Sv → Prop} : onF (ruF p R) "store" k = k (.ref R.st) := rfl
theorem ruF_said {p : Prg} {R : Rx} {k : Sv → Prop} : onF (ruF p R) "said" k = k (.ref R.sd) := rfl
theorem ruF_trail {p : Prg} {R : Rx} {k : Sv → Prop} : onF (ruF p R) "trail" k = k (.ref R.tr) := rfl
theorem ruF_frames {p : Prg} {R : Rx} {k : Sv → Prop} : onF (ruF p R) "frames" k = k (.ref R.fr) := rfl
def stF (fd us : Addr) : List (Str × Sv) := [("fields", .ref fd), ("uses", .ref us)]
theorem stF_fields {fd us : Addr} {k : Sv → Prop} : onF (stF fd us) "fields" k = k (.ref fd) := rfl
theorem stF_uses {fd us : Addr} {k : Sv → Prop} : onF (stF fd us) "uses" k = k (.ref us) := rfl
def frames (ks : List Fk) : List Sv := (ks.map fun k => Sv.ref k.b).reverse
def saidS (xs : List Int) : List Sv := xs.map fun v => .dat (.int v)
def Rx.cells (CRu CPs : Addr) (p : Prg) (R : Rx) : List (Addr × Ob) :=
  (R.a, .ins CRu R.dx (ruF p R)) :: (R.st, .ins CPs R.dx2 (stF R.fd R.us)) :: (R.tb, .dK R.te) :: (R.hl, .dK R.he) :: (R.fd, .dT R.fe) :: (R.us, .lst (R.S.uses.map .dat)) :: (R.sd, .lst (saidS R.S.said)) :: (R.tr, .lst R.tl) :: (R.fr, .lst (frames R.ks)) :: R.ks.flatMap Fk.cells
def valE (o : Option PyData) : PyData := o.getD (.int 0)
/-- a run as it stands, n steps done at the most -/
structure RunAt (CRu CPs : Addr) (p : Prg) (al : Al) (R : Rx) (n : Nat) : Prop where
  cells : Cells al (R.cells CRu CPs p)
  te : ∀ o t, p.tab o = some t → getE R.te (.inr o) = some (.tuple [.int t.many, .tuple (t.fields.map Tab.fdata)])
  he : ∀ x, valE (getE R.he (.inr x)) = .int (R.S.env x)
  fe : ∀ t r f, valE (getE R.fe [.inr t, .inl r, .inr f]) = .int (R.S.fld t r f)
  env : ∀ x, 0 ≤ R.S.env x ∧ R.S.env x ≤ 255
  fld : ∀ t r f, 0 ≤ R.S.fld t r f ∧ R.S.fld t r f ≤ 255
  l1 : R.he.length ≤ n
  l2 : R.fe.length ≤ n
  l3 : R.S.uses.length ≤ n
  l4 : R.S.said.length ≤ n
  l5 : R.tl.length ≤ n
  l6 : R.ks.length ≤ n
def Rx.ms (R : Rx) : Ms := ⟨R.S, R.tl.length, R.ks.map (·.f)⟩
theorem valE_put {he : List (Key × PyData)} {x y : Str} {v : Int} : valE (getE (putE he (.inr x) (.int v)) (.inr y)) = if y = x then .int v else valE (getE he (.inr y)) := by
  rw [getE_put]
  by_cases h : y = x
  · simp [h, valE]
  · have : (Sum.inr y : Key) ≠ .inr x := fun z => h (Sum.inr.inj z)
    simp [h, this]
theorem frames_len (ks : List Fk) : (frames ks).length = ks.length := by unfold frames; simp
theorem frames_cons (k : Fk) (ks : List Fk) : frames (k :: ks) = frames ks ++ [.ref k.b] := by simp [frames]
theorem RunAt.top {CRu CPs : Addr} {p : Prg} {al : Al} {R : Rx} {n : Nat} {k : Fk} {ks : List Fk} (h : RunAt CRu CPs p al R n) (e : R.ks = k :: ks) : Cells al k.cells := by
  have c := h.cells
  unfold Rx.cells at c
  rw [e] at c
  exact c.sub (.cons _ (.cons _ (.cons _ (.cons _ (.cons _ (.cons _ (.cons _ (.cons _ (.cons _ (List.sublist_append_left ..))))))))))
theorem RunAt.pop {CRu CPs : Addr} {p : Prg} {al : Al} {R : Rx} {n : Nat} {k : Fk} {ks : List Fk} (h : RunAt CRu CPs p al R n) (e : R.ks = k :: ks) : RunAt CRu CPs p (oup al R.fr (.lst (frames ks))) { R with ks := ks } n := by
  have c := h.cells
  unfold Rx.cells at c
  rw [e] at c
  have c2 := Cells.wr (l := [_, _, _, _, _, _, _, _]) (o := .lst (frames ks)) c
  have l6 := h.l6
  rw [e, List.length_cons] at l6
  exact { h with
    cells := c2.sub (.cons_cons _ (.cons_cons _ (.cons_cons _ (.cons_cons _ (.cons_cons _ (.cons_cons _ (.cons_cons _ (.cons_cons _ (.cons_cons _ (List.sublist_append_right ..))))))))))
    l6 := by show ks.length ≤ n; omega }
theorem Sub.more {al : Al} {m : Addr} {o : Ob} (hm : al m = none) : Sub al (oup al m o) := fun b o' e => (oup_ne (fun z => by rw [z, hm] at e; cases e)).trans e
theorem getE_merge {k : Key} : ∀ {fs : List (Key × PyData)} {es : List (Key × PyData)}, (fs.map (·.1)).Nodup → getE (mergeE es fs) k = (match getE fs k with | some d => some d | none => getE es k)
  | [], _, _ => rfl
  | f :: fs, es, nd => by
    rw [List.map_cons, List.nodup_cons] at nd
    show getE (mergeE (putE es f.1 f.2) fs) k = _
    rw [getE_merge nd.2, getE_put]
    by_cases h : f.1 = k
    · have e1 : getE fs k = none := by
        unfold getE
        have : fs.find? (fun e => decide (e.1 = k)) = none := by
          rw [List.find?_eq_none]
          intro e he z
          exact nd.1 (List.mem_map.mpr ⟨e, he, (of_decide_eq_true z).trans h.symm⟩)
        rw [this]
        rfl
      have e2 : getE (f :: fs) k = some f.2 := by
        unfold getE
        rw [List.find?_cons, decide_eq_true h]
        rfl
      rw [e1, e2, if_pos h.symm]
    · have e2 : getE (f :: fs) k = getE fs k := by
        unfold getE
        rw [List.find?_cons, decide_eq_false h]
      rw [e2, if_neg (fun z => h z.symm)]
theorem getE_fields {x : Str} : ∀ {fs : List (Str × Int)}, getE (fs.map fun f => ((.inr f.1 : Key), PyData.int f.2)) (.inr x) = (fs.lookup x).map .int
  | [] => rfl
  | f :: fs => by
    unfold getE
    rw [List.map_cons, List.find?_cons]
    by_cases h : f.1 = x
    · have e1 : (x == f.1) = true := by rw [h]; exact beq_self_eq_true x
      simp [List.lookup, e1, h]
    · have e1 : (x == f.1) = false := beq_eq_false_iff_ne.mpr fun e => h e.symm
      have e2 : decide ((Sum.inr f.1 : Key) = Sum.inr x) = false := decide_eq_false fun e => h (Sum.inr.inj e)
      simp only [e2, List.lookup, e1]
      exact getE_fields (fs := fs)
end B

/-! What writing turns of a run's objects. -/
namespace B
open PySem PySem.Spec PyProof.Rows L2
theorem pe_lstQ {X : Cx} {t : TA} {e : Expr} (h : PE X e (tLst t)) : PE X e (tLstO t) := h
section
variable {CRu CPs : Addr} {p : Prg} {al : Al} {R : Rx} {n : Nat} {k : Fk} {ks : List Fk}
theorem Cells.of {al al' : Al} {cs : List (Addr × Ob)} (h : Cells al cs) (e : al = al') : Cells al' cs := e ▸ h
theorem RunAt.mono {m : Nat} (h : RunAt CRu CPs p al R n) (hm : n ≤ m) : RunAt CRu CPs p al R m :=
  { h with l1 := Nat.le_trans h.l1 hm, l2 := Nat.le_trans h.l2 hm, l3 := Nat.le_trans h.l3 hm, l4 := Nat.le_trans h.l4 hm, l5 := Nat.le_trans h.l5 hm, l6 := Nat.le_trans h.l6 hm }
theorem RunAt.held (h : RunAt CRu CPs p al R n) {x : Str} {v : Int} (hv : 0 ≤ v ∧ v ≤ 255) : RunAt CRu CPs p (oup al R.hl (.dK (putE R.he (.inr x) (.int v)))) { R with he := putE R.he (.inr x) (.int v), S := R.S.set x v } (n + 1) :=
  have g := h.mono (Nat.le_succ n)
  { g with
    cells := Cells.wr (l := [_, _, _]) h.cells
    he := fun y => by
      show valE (getE (putE R.he (.inr x) (.int v)) (.inr y)) = .int (if y = x then v else R.S.env y)
      rw [valE_put, h.he y]
      split <;> rfl
    env := fun y => by
      show 0 ≤ (if y = x then v else R.S.env y) ∧ (if y = x then v else R.S.env y) ≤ 255
      split
      · exact hv
      · exact h.env y
    l1 := Nat.le_trans (putE_len ..) (Nat.succ_le_succ h.l1) }
theorem RunAt.told (h : RunAt CRu CPs p al R n) {v : Int} : RunAt CRu CPs p (oup al R.sd (.lst (saidS R.S.said ++ [.dat (.int v)]))) { R with S := R.S.tell v } (n + 1) :=
  have g := h.mono (Nat.le_succ n)
  { g with
    cells := by
      have c := Cells.wr (l := [_, _, _, _, _, _]) (o := .lst (saidS R.S.said ++ [.dat (.int v)])) h.cells
      have e : saidS (R.S.tell v).said = saidS R.S.said ++ [.dat (.int v)] := by unfold saidS Rs.tell; simp
      unfold Rx.cells
      dsimp only
      rw [e]
      exact c
    l4 := by
      show (R.S.said ++ [v]).length ≤ n + 1
      rw [List.length_append, List.length_singleton]
      have := h.l4
      omega }
theorem RunAt.used (h : RunAt CRu CPs p al R n) {u : PyData} : RunAt CRu CPs p (oup al R.us (.lst (R.S.uses.map Sv.dat ++ [.dat u]))) { R with S := R.S.use u } (n + 1) :=
  have g := h.mono (Nat.le_succ n)
  { g with
    cells := by
      have c := Cells.wr (l := [_, _, _, _, _]) (o := .lst (R.S.uses.map Sv.dat ++ [.dat u])) h.cells
      have e : (R.S.use u).uses.map Sv.dat = R.S.uses.map Sv.dat ++ [.dat u] := by unfold Rs.use; simp
      unfold Rx.cells
      dsimp only
      rw [e]
      exact c
    l3 := by
      show (R.S.uses ++ [u]).length ≤ n + 1
      rw [List.length_append, List.length_singleton]
      have := h.l3
      omega }
theorem RunAt.putF (h : RunAt CRu CPs p al R n) {t : Str} {r : Int} {f : Str} {v : Int} (hv : 0 ≤ v ∧ v ≤ 255) : RunAt CRu CPs p (oup (oup al R.us (.lst (R.S.uses.map Sv.dat ++ [.dat (useD "put" t r f)]))) R.fd (.dT (putE R.fe [.inr t, .inl r, .inr f] (.int v)))) { R with fe := putE R.fe [.inr t, .inl r, .inr f] (.int v), S := R.S.put t r f v } (n + 1) :=
  have g := h.used (u := useD "put" t r f)
  { g with
    cells := Cells.wr (l := [_, _, _, _]) g.cells
    fe := fun t' r' f' => by
      show valE (getE (putE R.fe [.inr t, .inl r, .inr f] (.int v)) [.inr t', .inl r', .inr f']) = .int (if t' = t ∧ r' = r ∧ f' = f then v else R.S.fld t' r' f')
      rw [getE_put]
      by_cases e : t' = t ∧ r' = r ∧ f' = f
      · obtain ⟨rfl, rfl, rfl⟩ := e
        simp [valE]
      · have ne : ([.inr t', .inl r', .inr f'] : List Key) ≠ [.inr t, .inl r, .inr f] := fun z => by
          simp only [List.cons.injEq, Sum.inr.injEq, Sum.inl.injEq, and_true] at z
          exact e ⟨z.1, z.2.1, z.2.2⟩
        rw [if_neg ne, if_neg e]
        exact h.fe t' r' f'
    fld := fun t' r' f' => by
      show 0 ≤ (if t' = t ∧ r' = r ∧ f' = f then v else R.S.fld t' r' f') ∧ (if t' = t ∧ r' = r ∧ f' = f then v else R.S.fld t' r' f') ≤ 255
      split
      · exact hv
      · exact h.fld t' r' f'
    l2 := Nat.le_trans (putE_len ..) (Nat.succ_le_succ h.l2) }
theorem RunAt.trail (h : RunAt CRu CPs p al R n) {x : Sv} : RunAt CRu CPs p (oup al R.tr (.lst (R.tl ++ [x]))) { R with tl := R.tl ++ [x] } (n + 1) :=
  have g := h.mono (Nat.le_succ n)
  { g with
    cells := Cells.wr (l := [_, _, _, _, _, _, _]) h.cells
    l5 := by
      show (R.tl ++ [x]).length ≤ n + 1
      rw [List.length_append, List.length_singleton]
      have := h.l5
      omega }
/-- rows begun without a loop -/
theorem RunAt.push (h : RunAt CRu CPs p al R n) {b : Addr} {rs : List Row} (hb : al b = none) : RunAt CRu CPs p (oup (oup al b (.lst [.dat (.tuple (Row.datas rs)), .dat (.int 0), .dat .none])) R.fr (.lst (frames R.ks ++ [.ref b]))) { R with ks := ⟨⟨rs, 0, none⟩, b, b⟩ :: R.ks } (n + 1) :=
  have g := h.mono (Nat.le_succ n)
  { g with
    cells := by
      have c := Cells.new (l := [_, _, _, _, _, _, _, _, _]) (o := .lst [.dat (.tuple (Row.datas rs)), .dat (.int 0), .dat .none]) h.cells hb
      have c2 := Cells.wr (l := [_, _, _, _, _, _, _, _]) (o := .lst (frames R.ks ++ [.ref b])) c
      have e := frames_cons ⟨⟨rs, 0, none⟩, b, b⟩ R.ks
      unfold Rx.cells
      dsimp only
      rw [e]
      exact c2
    l6 := by
      show R.ks.length + 1 ≤ n + 1
      have := h.l6
      omega }
/-- rows begun in a loop -/
theorem RunAt.pushL (h : RunAt CRu CPs p al R n) {b l : Addr} {rs : List Row} {x : Str} {many : Int} (hl : al l = none) (hb : oup al l (.lst [.dat (.str x), .dat (.int 0), .dat (.int many)]) b = none) :
    RunAt CRu CPs p (oup (oup (oup al l (.lst [.dat (.str x), .dat (.int 0), .dat (.int many)])) b (.lst [.dat (.tuple (Row.datas rs)), .dat (.int 0), .ref l])) R.fr (.lst (frames R.ks ++ [.ref b]))) { R with ks := ⟨⟨rs, 0, some (x, 0, many)⟩, b, l⟩ :: R.ks } (n + 1) :=
  have g := h.mono (Nat.le_succ n)
  { g with
    cells := by
      have c0 := Cells.new (l := [_, _, _, _, _, _, _, _, _]) (o := .lst [.dat (.str x), .dat (.int 0), .dat (.int many)]) h.cells hl
      have c := Cells.new (l := [_, _, _, _, _, _, _, _, _]) (o := .lst [.dat (.tuple (Row.datas rs)), .dat (.int 0), .ref l]) c0 hb
      have c2 := Cells.wr (l := [_, _, _, _, _, _, _, _]) (o := .lst (frames R.ks ++ [.ref b])) c
      have e := frames_cons ⟨⟨rs, 0, some (x, 0, many)⟩, b, l⟩ R.ks
      unfold Rx.cells
      dsimp only
      rw [e]
      exact c2
    l6 := by
      show R.ks.length + 1 ≤ n + 1
      have := h.l6
      omega }
/-- the place of the top frame -/
theorem RunAt.at_ (h : RunAt CRu CPs p al R n) (e : R.ks = k :: ks) (j : Nat) : ∃ s, al k.b = some (.lst [.dat (.tuple (Row.datas k.f.rows)), .dat (.int k.f.pos), s]) ∧ ((k.f.loop = none ∧ s = .dat .none) ∨ (s = .ref k.l ∧ k.f.loop.isSome = true)) ∧
    RunAt CRu CPs p (oup al k.b (.lst [.dat (.tuple (Row.datas k.f.rows)), .dat (.int j), s])) { R with ks := { k with f := { k.f with pos := j } } :: ks } n := by
  have c := h.cells
  have tp := h.top e
  unfold Rx.cells at c
  rw [e, List.flatMap_cons] at c
  have fe : frames (k :: ks) = frames ({ k with f := { k.f with pos := j } } :: ks) := by simp [frames]
  have l6 := h.l6
  rw [e] at l6
  unfold Fk.cells at tp
  cases hl : k.f.loop with
  | none =>
    rw [hl] at tp
    have ec : k.cells = [(k.b, .lst [.dat (.tuple (Row.datas k.f.rows)), .dat (.int k.f.pos), .dat .none])] := by unfold Fk.cells; rw [hl]
    have ec2 : Fk.cells { k with f := { k.f with pos := j } } = [(k.b, .lst [.dat (.tuple (Row.datas k.f.rows)), .dat (.int j), .dat .none])] := by unfold Fk.cells; dsimp only; rw [hl]
    refine ⟨.dat .none, tp.get 0 rfl, .inl ⟨rfl, rfl⟩, { h with cells := ?_, l6 := l6 }⟩
    rw [ec] at c
    have c2 := Cells.wr (l := [_, _, _, _, _, _, _, _, _]) (o := .lst [.dat (.tuple (Row.datas k.f.rows)), .dat (.int j), .dat .none]) c
    unfold Rx.cells
    dsimp only
    rw [List.flatMap_cons, ec2, ← fe]
    exact c2
  | some o =>
    obtain ⟨x, num, many⟩ := o
    rw [hl] at tp
    have ec : k.cells = [(k.b, .lst [.dat (.tuple (Row.datas k.f.rows)), .dat (.int k.f.pos), .ref k.l]), (k.l, .lst [.dat (.str x), .dat (.int num), .dat (.int many)])] := by unfold Fk.cells; rw [hl]
    have ec2 : Fk.cells { k with f := { k.f with pos := j } } = [(k.b, .lst [.dat (.tuple (Row.datas k.f.rows)), .dat (.int j), .ref k.l]), (k.l, .lst [.dat (.str x), .dat (.int num), .dat (.int many)])] := by unfold Fk.cells; dsimp only; rw [hl]
    refine ⟨.ref k.l, tp.get 0 rfl, .inr ⟨rfl, rfl⟩, { h with cells := ?_, l6 := l6 }⟩
    rw [ec] at c
    have c2 := Cells.wr (l := [_, _, _, _, _, _, _, _, _]) (o := .lst [.dat (.tuple (Row.datas k.f.rows)), .dat (.int j), .ref k.l]) c
    unfold Rx.cells
    dsimp only
    rw [List.flatMap_cons, ec2, ← fe]
    exact c2
/-- the number of the top loop -/
theorem RunAt.turn (h : RunAt CRu CPs p al R n) (e : R.ks = k :: ks) {x : Str} {num many : Int} (hl : k.f.loop = some (x, num, many)) : al k.l = some (.lst [.dat (.str x), .dat (.int num), .dat (.int many)]) ∧
    RunAt CRu CPs p (oup al k.l (.lst [.dat (.str x), .dat (.int (num + 1)), .dat (.int many)])) { R with ks := { k with f := { k.f with loop := some (x, num + 1, many) } } :: ks } n := by
  have c := h.cells
  have tp := h.top e
  unfold Rx.cells at c
  rw [e, List.flatMap_cons] at c
  have fe : frames (k :: ks) = frames ({ k with f := { k.f with loop := some (x, num + 1, many) } } :: ks) := by simp [frames]
  have l6 := h.l6
  rw [e] at l6
  unfold Fk.cells at tp
  rw [hl] at tp
  have ec : k.cells = [(k.b, .lst [.dat (.tuple (Row.datas k.f.rows)), .dat (.int k.f.pos), .ref k.l]), (k.l, .lst [.dat (.str x), .dat (.int num), .dat (.int many)])] := by unfold Fk.cells; rw [hl]
  refine ⟨tp.get 1 rfl, { h with cells := ?_, l6 := l6 }⟩
  rw [ec] at c
  have c2 := Cells.wr (l := [_, _, _, _, _, _, _, _, _, _]) (o := .lst [.dat (.str x), .dat (.int (num + 1)), .dat (.int many)]) c
  unfold Rx.cells
  dsimp only
  rw [List.flatMap_cons, ← fe]
  exact c2
end
end B

set_option synthInstance.maxHeartbeats 0
set_option synthInstance.maxSize 100000
/-! numbers.py: reckoned, are_values; plain.py: PlainStore. -/
namespace B
open PySem PySem.Spec PyProof.Rows L2
abbrev s_reckoned : Stmt := (topS 12)
theorem sc_reckoned : FnScope ["word", "one", "other"] ["word", "one", "other"] (defScope s_reckoned) := ⟨rfl, rfl, rfl, by decide +kernel, rfl, by decide +kernel, by decide +kernel⟩
abbrev s_are_values : Stmt := (topS 11)
theorem sc_are_values : FnScope ["thing", "one"] ["thing"] (defScope s_are_values) := ⟨rfl, rfl, rfl, by decide +kernel, rfl, by decide +kernel, by decide +kernel⟩
abbrev s_PlainStore_init : Stmt := (inClass (topS 40) 0)
theorem sc_PlainStore_init : FnScope ["self"] ["self"] (defScope s_PlainStore_init) := ⟨rfl, rfl, rfl, by decide +kernel, rfl, by decide +kernel, by decide +kernel⟩
abbrev s_PlainStore_get : Stmt := (inClass (topS 40) 1)
theorem sc_PlainStore_get : FnScope ["self", "spot"] ["self", "spot"] (defScope s_PlainStore_get) := ⟨rfl, rfl, rfl, by decide +kernel, rfl, by decide +kernel, by decide +kernel⟩
abbrev s_PlainStore_put : Stmt := (inClass (topS 40) 2)
theorem sc_PlainStore_put : FnScope ["self", "spot", "value"] ["self", "spot", "value"] (defScope s_PlainStore_put) := ⟨rfl, rfl, rfl, by decide +kernel, rfl, by decide +kernel, by decide +kernel⟩
structure NTxt (K : PySem.W.Frag) (mg : Str → Option Value) (fb CPs : Addr) : Prop extends UTxt K mg fb where
  d_reckoned : DefAt K mg "reckoned" s_reckoned ["word", "one", "other"]
  d_are_values : DefAt K mg "are_values" s_are_values ["thing"]
  g_REST : ∃ t, mg "REST" = some (.int 256 t)
  i_PlainStore : IniAt K mg "PlainStore" CPs "PlainStore.__init__" s_PlainStore_init ["self"]
  m_get : MetAt K CPs "get" "PlainStore.get" s_PlainStore_get ["self", "spot"]
  m_put : MetAt K CPs "put" "PlainStore.put" s_PlainStore_put ["self", "spot", "value"]
  cPs : Cls K CPs
  nPs_fields : NoAttr K CPs "fields"
  nPs_uses : NoAttr K CPs "uses"
theorem r_less {x y : Int} : reck "less" x y = bif decide (x < y) then 1 else 0 := by
  unfold reck
  rw [if_pos rfl]
  by_cases h : x < y <;> simp [h]
theorem r_same {x y : Int} : reck "same" x y = bif decide (x = y) then 1 else 0 := by
  unfold reck
  rw [if_neg (by decide), if_pos rfl]
  by_cases h : x = y <;> simp [h]
section
variable {P : Program} {w : World} {K : PySem.W.Frag} {mg : Str → Option Value} {base : Heap} {fb CPs : Addr}
theorem cal_reckoned (T : NTxt K mg fb CPs) : Cal P w K mg base 1 "reckoned" (spD K 3 (fn3 fun a b c Φ => ∃ z x y, a = .str z ∧ b = .int x ∧ c = .int y ∧ (0 ≤ x ∧ x ≤ 255) ∧ (0 ≤ y ∧ y ≤ 255) ∧ Φ (.int (reck z x y)))) := by
  have g1 := T.g_REST
  refine T.d_reckoned.cal sc_reckoned (fun vs H Q E h => h.1) (fun f cdv A outer s H vs Q E hr h => ?_)
  refine ⟨_, (pss_cons (ps_if (pt_cmpR op_eq (pv 0) pe_str (nomark _))
  (pss_one (ps_ret (pe_callTy call_int1r (by rfl) T.z_int bt_int (pa_cons (pe_cmpR op_lt (pv 1) (pv 2) (nomark _)) pa_nil))))
  pss_nil)
  (pss_cons (ps_if (pt_cmpR op_eq (pv 0) pe_str (nomark _))
  (pss_one (ps_ret (pe_callTy call_int1r (by rfl) T.z_int bt_int (pa_cons (pe_cmpR op_eq (pv 1) (pv 2) (nomark _)) pa_nil))))
  pss_nil)
  (pss_cons (ps_if (pt_cmpR op_eq (pv 0) pe_str (nomark _))
  (pss_one (ps_ret (pe_ifExp (pt_cmpR op_eq (pv 2) pe_int (nomark _)) (pv 1) (pe_op op_mod (pv 1) (pv 2)))))
  pss_nil)
  (pss_cons (ps_if (pt_cmpR op_eq (pv 0) pe_str (nomark _))
  (pss_one (ps_ret (pe_op op_mod (pe_op op_mul (pv 1) (pv 2)) (pe_gint rfl T.g_REST))))
  pss_nil)
  (pss_one (ps_ret (pe_ifExp (pt_cmpR op_eq (pv 0) pe_str (nomark _)) (pe_op op_mod (pe_op op_add (pv 1) (pv 2)) (pe_gint rfl T.g_REST)) (pe_op op_mod (pe_op op_sub (pv 1) (pv 2)) (pe_gint rfl T.g_REST))))))))), ?_⟩
  refine run_D h fun Γ as Φ hg => ?_
  obtain ⟨a, b, c, rfl, z, x, y, rfl, rfl, rfl, hx, hy, q⟩ := of_fn3 hg
  clear hg
  simp only [at_mk, put_mk, know_mk, q_var, q_vdat, q_vpen, q_vown, q_vfn, q_vref, q_asD, q_asDo, q_asDa, q_aown, q_adat, q_asA, q_asAp, q_asAf, q_asAr, q_asAo, q_asAa, q_asS, q_asSo, q_asSp, q_asSf, q_asSr, q_asSa, q_asR, q_asRr, q_asRo, q_onD, q_onR, q_inOb, q_inObr, q_inObf, q_onT, q_onL, q_onI, q_onX, q_onBo, q_onTd, q_seqL, q_seqT, q_intI, q_intB, q_none, q_noneR, q_one, q_oneS, q_seeL, q_seeT, q_seeO, q_seeA, q_seeAo, q_seeAl, q_seeAt, q_srL, q_srO, q_srA, q_lenS, q_lenO, q_lenA, q_lenR, q_slL, q_slO, q_slA, q_slAo, q_slAl, q_ixR, q_ixL, q_ixO, q_ixA, q_appA, q_appAo, q_appR, q_emR, q_zipT, q_zipL, q_some, q_fn1, q_fn2, q_fn3, q_fn4, q_pn0, q_pn1, q_pn2, q_pn3, q_scaI, q_scaS, q_scaB, q_scaN, q_fnD, q_all0, q_all1, q_all2, q_all3, q_all4, q_all5, q_wipe0, q_wipe, q_start, q_eqI, q_eqX, q_eqB, q_onB, q_at0, q_at1, q_at2, q_at3, q_at4, q_tup, q_strT, q_str, q_int, q_bool, List.length_cons, List.length_nil, List.map_cons, List.map_nil, List.replicate, List.cons_append, List.nil_append, List.getD_cons_zero, List.getD_cons_succ, List.getD_nil, List.set_cons_zero, List.set_cons_succ, List.set_nil, cond_true, cond_false, Nat.reduceAdd, Nat.reduceSub, Nat.sub_self, Nat.add_one_sub_one, Bool.not_true, Bool.not_false, true_and, and_true, Bool.false_eq_true, if_false, reduceIte]
  unfold reck at q
  by_cases h1 : z = "less"
  · rw [if_pos h1] at q
    have e1 : decide (z = Str.ofString "less") = true := decide_eq_true h1
    rw [e1]
    by_cases hlt : x < y
    · rw [if_pos hlt] at q; rw [decide_eq_true hlt]; exact q
    · rw [if_neg hlt] at q; rw [decide_eq_false hlt]; exact q
  rw [if_neg h1] at q
  have e1 : decide (z = Str.ofString "less") = false := decide_eq_false h1
  by_cases h2 : z = "same"
  · rw [if_pos h2] at q
    have e2 : decide (z = Str.ofString "same") = true := decide_eq_true h2
    rw [e1, e2]
    by_cases hlt : x = y
    · rw [if_pos hlt] at q; rw [decide_eq_true hlt]; exact q
    · rw [if_neg hlt] at q; rw [decide_eq_false hlt]; exact q
  rw [if_neg h2] at q
  have e2 : decide (z = Str.ofString "same") = false := decide_eq_false h2
  by_cases h3 : z = "rest"
  · rw [if_pos h3] at q
    have e3 : decide (z = Str.ofString "rest") = true := decide_eq_true h3
    rw [e1, e2, e3]
    by_cases h0 : y = 0
    · rw [if_pos h0] at q; rw [decide_eq_true h0]; exact q
    · rw [if_neg h0] at q; rw [decide_eq_false h0]; exact ⟨by omega, q⟩
  rw [if_neg h3] at q
  have e3 : decide (z = Str.ofString "rest") = false := decide_eq_false h3
  by_cases h4 : z = "mul"
  · rw [if_pos h4] at q
    have e4 : decide (z = Str.ofString "mul") = true := decide_eq_true h4
    rw [e1, e2, e3, e4]
    exact ⟨.inl ⟨by omega, by omega⟩, by decide, q⟩
  rw [if_neg h4] at q
  have e4 : decide (z = Str.ofString "mul") = false := decide_eq_false h4
  by_cases h5 : z = "add"
  · rw [if_pos h5] at q
    have e5 : decide (z = Str.ofString "add") = true := decide_eq_true h5
    rw [e1, e2, e3, e4, e5]
    exact ⟨by decide, q⟩
  rw [if_neg h5] at q
  have e5 : decide (z = Str.ofString "add") = false := decide_eq_false h5
  rw [e1, e2, e3, e4, e5]
  exact ⟨by decide, q⟩
theorem cal_are_values (T : NTxt K mg fb CPs) : Cal P w K mg base 3 "are_values" (spD K 1 (fn1 fun a Φ => ∃ xs : List Int, a = .tuple (xs.map .int) ∧ xs.length ≤ 1000 ∧ (∀ x ∈ xs, 0 ≤ x ∧ x ≤ 255) ∧ Φ (.bool true))) := by
  have c_is_from := cal_is_from' (P := P) (w := w) (base := base) T.toUTxt
  have g1 := T.g_MOST_VALUE
  refine T.d_are_values.cal sc_are_values (fun vs H Q E h => h.1) (fun f cdv A outer s H vs Q E hr h => ?_)
  refine ⟨_, (pss_one (ps_ret (pe_and (pe_callB (call_isiK' K (by rfl)) (by rfl) T.z_isinstance bt_isinstance (pa_cons (pv 0) (pa_cons (pe_bltn (v := .ty "tuple") rfl T.z_tuple bt_tuple rfl) pa_nil))) (pe_one (pe_callB (cr_allK K (by rfl) (by rfl)) (by rfl) T.z_all bt_all (by exact (pa_cons (pe_lcX [("one", 1)] (by rfl) sc_are_values.nd (pi_tupK K (by rfl) (pv 0)) (blkOk_by (N := ["thing", "one"]) (sc := defScope s_are_values) (by decide +kernel)) (fun _ _ _ _ _ => by exact (pg_nameX 1 sc_are_values.nd rfl (by first | exact .inl rfl | exact .inr rfl) (by first | exact .inr rfl | exact .inl rfl))) (fun _ _ _ _ _ => by exact pts_nil) (fun _ _ _ _ _ => by exact (pe_c c_is_from hr (by first | decide | omega) (by rfl) (pa_cons (pv 1) (pa_cons pe_int (pa_cons (pe_gint rfl T.g_MOST_VALUE) pa_nil))))) (fun _ => rfl)) pa_nil))))))), ?_⟩
  refine run_D h fun Γ as Φ hg => ?_
  obtain ⟨a, rfl, xs, rfl, hl, hx, q⟩ := of_fn1 hg
  simp only [at_mk, put_mk, know_mk, q_var, q_vdat, q_vpen, q_vown, q_vfn, q_vref, q_asD, q_asDo, q_asDa, q_aown, q_adat, q_asA, q_asAp, q_asAf, q_asAr, q_asAo, q_asAa, q_asS, q_asSo, q_asSp, q_asSf, q_asSr, q_asSa, q_asR, q_asRr, q_asRo, q_onD, q_onR, q_inOb, q_inObr, q_inObf, q_onT, q_onL, q_onI, q_onX, q_onBo, q_onTd, q_seqL, q_seqT, q_intI, q_intB, q_none, q_noneR, q_one, q_oneS, q_seeL, q_seeT, q_seeO, q_seeA, q_seeAo, q_seeAl, q_seeAt, q_srL, q_srO, q_srA, q_lenS, q_lenO, q_lenA, q_lenR, q_slL, q_slO, q_slA, q_slAo, q_slAl, q_ixR, q_ixL, q_ixO, q_ixA, q_appA, q_appAo, q_appR, q_emR, q_zipT, q_zipL, q_some, q_fn1, q_fn2, q_fn3, q_fn4, q_pn0, q_pn1, q_pn2, q_pn3, q_scaI, q_scaS, q_scaB, q_scaN, q_fnD, q_all0, q_all1, q_all2, q_all3, q_all4, q_all5, q_wipe0, q_wipe, q_start, q_eqI, q_eqX, q_eqB, q_onB, q_at0, q_at1, q_at2, q_at3, q_at4, q_tup, q_strT, q_str, q_int, q_bool, List.length_cons, List.length_nil, List.map_cons, List.map_nil, List.replicate, List.cons_append, List.nil_append, List.getD_cons_zero, List.getD_cons_succ, List.getD_nil, List.set_cons_zero, List.set_cons_succ, List.set_nil, cond_true, cond_false, Nat.reduceAdd, Nat.reduceSub, Nat.sub_self, Nat.add_one_sub_one, Bool.not_true, Bool.not_false, true_and, and_true, Bool.false_eq_true, if_false, reduceIte]
  refine ⟨rfl, ?_⟩
  refine lcD_map (δ0 := ⟨[some (.dat (.tuple (xs.map .int))), none], fun _ => none⟩) (fun _ => .bool true) rfl (by rw [List.length_map]; show 0 + _ ≤ _; omega) ?_ ?_
  · intro d hd k hk
    obtain ⟨x, hx', rfl⟩ := List.mem_map.mp hd
    have e3 : isFrom (.int x) 0 255 = true := isFrom_in (hx x hx').1 (hx x hx').2
    simp only [at_mk, put_mk, know_mk, q_var, q_vdat, q_vpen, q_vown, q_vfn, q_vref, q_asD, q_asDo, q_asDa, q_aown, q_adat, q_asA, q_asAp, q_asAf, q_asAr, q_asAo, q_asAa, q_asS, q_asSo, q_asSp, q_asSf, q_asSr, q_asSa, q_asR, q_asRr, q_asRo, q_onD, q_onR, q_inOb, q_inObr, q_inObf, q_onT, q_onL, q_onI, q_onX, q_onBo, q_onTd, q_seqL, q_seqT, q_intI, q_intB, q_none, q_noneR, q_one, q_oneS, q_seeL, q_seeT, q_seeO, q_seeA, q_seeAo, q_seeAl, q_seeAt, q_srL, q_srO, q_srA, q_lenS, q_lenO, q_lenA, q_lenR, q_slL, q_slO, q_slA, q_slAo, q_slAl, q_ixR, q_ixL, q_ixO, q_ixA, q_appA, q_appAo, q_appR, q_emR, q_zipT, q_zipL, q_some, q_fn1, q_fn2, q_fn3, q_fn4, q_pn0, q_pn1, q_pn2, q_pn3, q_scaI, q_scaS, q_scaB, q_scaN, q_fnD, q_all0, q_all1, q_all2, q_all3, q_all4, q_all5, q_wipe0, q_wipe, q_start, q_eqI, q_eqX, q_eqB, q_onB, q_at0, q_at1, q_at2, q_at3, q_at4, q_tup, q_strT, q_str, q_int, q_bool, List.length_cons, List.length_nil, List.map_cons, List.map_nil, List.replicate, List.cons_append, List.nil_append, List.getD_cons_zero, List.getD_cons_succ, List.getD_nil, List.set_cons_zero, List.set_cons_succ, List.set_nil, cond_true, cond_false, Nat.reduceAdd, Nat.reduceSub, Nat.sub_self, Nat.add_one_sub_one, Bool.not_true, Bool.not_false, true_and, and_true, Bool.false_eq_true, if_false, reduceIte, e3]
    exact hk _ rfl
  · refine onBs_trues ?_
    rw [all_trues]
    exact q
structure StAt (CPs : Addr) (al : Al) (st fd us : Addr) (fe : List (List Key × PyData)) (ul : List Sv) : Prop where
  ex : ∃ dx, al st = some (.ins CPs dx (stF fd us))
  fe : al fd = some (.dT fe)
  ul : al us = some (.lst ul)
theorem mak_PlainStore (T : NTxt K mg fb CPs) : Mak P w K mg base 1 "PlainStore" CPs (spH K 1 fun al as Φ => ∃ a dx, as = [.ref a] ∧ al a = some (.ins CPs dx []) ∧ ∀ fd us al', al fd = none → al us = none → fd ≠ us → al' a = some (.ins CPs dx (stF fd us)) → al' fd = some (.dT []) → al' us = some (.lst []) → (∀ b, b ≠ a → b ≠ fd → b ≠ us → al' b = al b) → Φ al' (.dat .none)) := by
  refine T.i_PlainStore.mak sc_PlainStore_init (fun vs H Q E h => h.1) (fun f cdv A outer s H vs Q E hr h => ?_)
  refine ⟨_, (pss_cons (ps_fldK K (by rfl) (pv 0) pe_dnewT rfl)
  (pss_one (ps_fldK K (by rfl) (pv 0) (pe_ref (pe_lst pa_nil)) rfl))), ?_⟩
  refine run_H h fun Γ al as Φ hg => ?_
  obtain ⟨a, dx, rfl, e, q⟩ := hg
  simp only [at_mk, put_mk, know_mk, q_var, q_vdat, q_vpen, q_vown, q_vfn, q_vref, q_asD, q_asDo, q_asDa, q_aown, q_adat, q_asA, q_asAp, q_asAf, q_asAr, q_asAo, q_asAa, q_asS, q_asSo, q_asSp, q_asSf, q_asSr, q_asSa, q_asR, q_asRr, q_asRo, q_onD, q_onR, q_inOb, q_inObr, q_inObf, q_onT, q_onL, q_onI, q_onX, q_onBo, q_onTd, q_seqL, q_seqT, q_intI, q_intB, q_none, q_noneR, q_one, q_oneS, q_seeL, q_seeT, q_seeO, q_seeA, q_seeAo, q_seeAl, q_seeAt, q_srL, q_srO, q_srA, q_lenS, q_lenO, q_lenA, q_lenR, q_slL, q_slO, q_slA, q_slAo, q_slAl, q_ixR, q_ixL, q_ixO, q_ixA, q_appA, q_appAo, q_appR, q_emR, q_zipT, q_zipL, q_some, q_fn1, q_fn2, q_fn3, q_fn4, q_pn0, q_pn1, q_pn2, q_pn3, q_scaI, q_scaS, q_scaB, q_scaN, q_fnD, q_all0, q_all1, q_all2, q_all3, q_all4, q_all5, q_wipe0, q_wipe, q_start, q_eqI, q_eqX, q_eqB, q_onB, q_at0, q_at1, q_at2, q_at3, q_at4, q_tup, q_strT, q_str, q_int, q_bool, List.length_cons, List.length_nil, List.map_cons, List.map_nil, List.replicate, List.cons_append, List.nil_append, List.getD_cons_zero, List.getD_cons_succ, List.getD_nil, List.set_cons_zero, List.set_cons_succ, List.set_nil, cond_true, cond_false, Nat.reduceAdd, Nat.reduceSub, Nat.sub_self, Nat.add_one_sub_one, Bool.not_true, Bool.not_false, true_and, and_true, Bool.false_eq_true, if_false, reduceIte]
  intro p hp
  have np : a ≠ p := al_new e hp
  refine asIns_of ((oup_ne np).trans e) ⟨⟨⟨T.cPs, T.nPs_fields⟩, by decide⟩, by decide, fun r hr2 => ?_⟩
  have np2 : a ≠ r := fun z => by rw [← z, oup_same] at hr2; cases hr2
  rw [oup_ne np2.symm] at hr2
  have nr : r ≠ p := fun z => by rw [z, oup_same] at hr2; cases hr2
  rw [oup_ne nr] at hr2
  refine asIns_of ((oup_ne np2).trans oup_same) ⟨⟨⟨T.cPs, T.nPs_uses⟩, (show 1 < 1000 by decide)⟩, _, Sub.rfl, q p r _ hp hr2 nr.symm oup_same ?_ ?_ ?_⟩
  · rw [oup_ne np.symm, oup_ne nr.symm, oup_ne np.symm, oup_same]
  · rw [oup_ne np2.symm, oup_same]
  · intro b h1 h2 h3
    rw [oup_ne h1, oup_ne h3, oup_ne h1, oup_ne h2]
theorem met_get (T : NTxt K mg fb CPs) : Met P w K mg base 1 CPs "get" (spH K 2 fun al as Φ => ∃ st fd us fe ul t r f, as = [.ref st, .dat (.tuple [.str t, .int r, .str f])] ∧ StAt CPs al st fd us fe ul ∧ ul.length < 1000000 ∧ Φ (oup al us (.lst (ul ++ [.dat (useD "get" t r f)]))) (.dat ((getE fe [.inr t, .inl r, .inr f]).getD (.int 0)))) := by
  refine T.m_get.met sc_PlainStore_get (fun vs H Q E h => h.1) (fun f cdv A outer s H vs Q E hr h => ?_)
  have hu := hu_of hr
  refine ⟨_, (pss_cons (ps_expr (pe_bmK K (by rfl) PySem.F.plainAttrs_list PySem.F.slot_list_append PySem.F.type_list_append mt_append (pe_fldK K (by rfl) (by rfl) (pv 0)) (pa_cons (pe_op (op_catZK K (by rfl)) (pe_tupZ (pa_cons pe_str pa_nil)) (pv 1)) pa_nil)))
  (pss_one (ps_ret (pe_dget2 hu (pe_fldK K (by rfl) (by rfl) (pv 0)) (pv 1) pe_int ⟨by rfl, by rfl, by rfl, by rfl⟩)))), ?_⟩
  refine run_H h fun Γ al as Φ hg => ?_
  obtain ⟨st, fd, us, fe, ul, t, r, f, rfl, ⟨⟨dx, e1⟩, e2, e3⟩, hl, q⟩ := hg
  have n1 : st ≠ us := al_ne e1 e3 (fun z => nomatch z)
  have n2 : fd ≠ us := al_ne e2 e3 (fun z => nomatch z)
  simp only [at_mk, put_mk, know_mk, q_var, q_vdat, q_vpen, q_vown, q_vfn, q_vref, q_asD, q_asDo, q_asDa, q_aown, q_adat, q_asA, q_asAp, q_asAf, q_asAr, q_asAo, q_asAa, q_asS, q_asSo, q_asSp, q_asSf, q_asSr, q_asSa, q_asR, q_asRr, q_asRo, q_onD, q_onR, q_inOb, q_inObr, q_inObf, q_onT, q_onL, q_onI, q_onX, q_onBo, q_onTd, q_seqL, q_seqT, q_intI, q_intB, q_none, q_noneR, q_one, q_oneS, q_seeL, q_seeT, q_seeO, q_seeA, q_seeAo, q_seeAl, q_seeAt, q_srL, q_srO, q_srA, q_lenS, q_lenO, q_lenA, q_lenR, q_slL, q_slO, q_slA, q_slAo, q_slAl, q_ixR, q_ixL, q_ixO, q_ixA, q_appA, q_appAo, q_appR, q_emR, q_zipT, q_zipL, q_some, q_fn1, q_fn2, q_fn3, q_fn4, q_pn0, q_pn1, q_pn2, q_pn3, q_scaI, q_scaS, q_scaB, q_scaN, q_fnD, q_all0, q_all1, q_all2, q_all3, q_all4, q_all5, q_wipe0, q_wipe, q_start, q_eqI, q_eqX, q_eqB, q_onB, q_at0, q_at1, q_at2, q_at3, q_at4, q_tup, q_strT, q_str, q_int, q_bool, List.length_cons, List.length_nil, List.map_cons, List.map_nil, List.replicate, List.cons_append, List.nil_append, List.getD_cons_zero, List.getD_cons_succ, List.getD_nil, List.set_cons_zero, List.set_cons_succ, List.set_nil, cond_true, cond_false, Nat.reduceAdd, Nat.reduceSub, Nat.sub_self, Nat.add_one_sub_one, Bool.not_true, Bool.not_false, true_and, and_true, Bool.false_eq_true, if_false, reduceIte, q_ins e1, T.cPs, T.nPs_fields, T.nPs_uses, stF_uses, stF_fields, q_lst e3]
  refine ⟨by decide, by decide, hl, ?_⟩
  refine asIns_of ((oup_ne n1).trans e1) ?_
  refine ⟨⟨T.cPs, T.nPs_fields⟩, ?_⟩
  simp only [at_mk, put_mk, know_mk, q_var, q_vdat, q_vpen, q_vown, q_vfn, q_vref, q_asD, q_asDo, q_asDa, q_aown, q_adat, q_asA, q_asAp, q_asAf, q_asAr, q_asAo, q_asAa, q_asS, q_asSo, q_asSp, q_asSf, q_asSr, q_asSa, q_asR, q_asRr, q_asRo, q_onD, q_onR, q_inOb, q_inObr, q_inObf, q_onT, q_onL, q_onI, q_onX, q_onBo, q_onTd, q_seqL, q_seqT, q_intI, q_intB, q_none, q_noneR, q_one, q_oneS, q_seeL, q_seeT, q_seeO, q_seeA, q_seeAo, q_seeAl, q_seeAt, q_srL, q_srO, q_srA, q_lenS, q_lenO, q_lenA, q_lenR, q_slL, q_slO, q_slA, q_slAo, q_slAl, q_ixR, q_ixL, q_ixO, q_ixA, q_appA, q_appAo, q_appR, q_emR, q_zipT, q_zipL, q_some, q_fn1, q_fn2, q_fn3, q_fn4, q_pn0, q_pn1, q_pn2, q_pn3, q_scaI, q_scaS, q_scaB, q_scaN, q_fnD, q_all0, q_all1, q_all2, q_all3, q_all4, q_all5, q_wipe0, q_wipe, q_start, q_eqI, q_eqX, q_eqB, q_onB, q_at0, q_at1, q_at2, q_at3, q_at4, q_tup, q_strT, q_str, q_int, q_bool, List.length_cons, List.length_nil, List.map_cons, List.map_nil, List.replicate, List.cons_append, List.nil_append, List.getD_cons_zero, List.getD_cons_succ, List.getD_nil, List.set_cons_zero, List.set_cons_succ, List.set_nil, cond_true, cond_false, Nat.reduceAdd, Nat.reduceSub, Nat.sub_self, Nat.add_one_sub_one, Bool.not_true, Bool.not_false, true_and, and_true, Bool.false_eq_true, if_false, reduceIte, stF_fields]
  have e4 : oup al us (.lst (ul ++ [.dat (.tuple [.str "get", .str t, .int r, .str f])])) fd = some (.dT fe) := (oup_ne n2).trans e2
  refine ⟨.inr ⟨_, e4⟩, dictAt_T e4 ⟨(fun z => nomatch z), (show 3 < 4 by decide)⟩ (κ := [.inr t, .inl r, .inr f]) rfl ?_⟩
  exact ⟨_, Sub.rfl, q⟩
theorem met_put (T : NTxt K mg fb CPs) : Met P w K mg base 1 CPs "put" (spH K 3 fun al as Φ => ∃ st fd us fe ul t r f v, as = [.ref st, .dat (.tuple [.str t, .int r, .str f]), .dat (.int v)] ∧ StAt CPs al st fd us fe ul ∧ ul.length < 1000000 ∧ fe.length < 1000000 ∧ Φ (oup (oup al us (.lst (ul ++ [.dat (useD "put" t r f)]))) fd (.dT (putE fe [.inr t, .inl r, .inr f] (.int v)))) (.dat .none)) := by
  refine T.m_put.met sc_PlainStore_put (fun vs H Q E h => h.1) (fun f cdv A outer s H vs Q E hr h => ?_)
  have hu := hu_of hr
  refine ⟨_, (pss_cons (ps_expr (pe_bmK K (by rfl) PySem.F.plainAttrs_list PySem.F.slot_list_append PySem.F.type_list_append mt_append (pe_fldK K (by rfl) (by rfl) (pv 0)) (pa_cons (pe_op (op_catZK K (by rfl)) (pe_tupZ (pa_cons pe_str pa_nil)) (pv 1)) pa_nil)))
  (pss_one (ps_dput hu (pe_fldK K (by rfl) (by rfl) (pv 0)) (pv 1) (pv 2) rfl))), ?_⟩
  refine run_H h fun Γ al as Φ hg => ?_
  obtain ⟨st, fd, us, fe, ul, t, r, f, v, rfl, ⟨⟨dx, e1⟩, e2, e3⟩, hl, hl2, q⟩ := hg
  have n1 : st ≠ us := al_ne e1 e3 (fun z => nomatch z)
  have n2 : fd ≠ us := al_ne e2 e3 (fun z => nomatch z)
  simp only [at_mk, put_mk, know_mk, q_var, q_vdat, q_vpen, q_vown, q_vfn, q_vref, q_asD, q_asDo, q_asDa, q_aown, q_adat, q_asA, q_asAp, q_asAf, q_asAr, q_asAo, q_asAa, q_asS, q_asSo, q_asSp, q_asSf, q_asSr, q_asSa, q_asR, q_asRr, q_asRo, q_onD, q_onR, q_inOb, q_inObr, q_inObf, q_onT, q_onL, q_onI, q_onX, q_onBo, q_onTd, q_seqL, q_seqT, q_intI, q_intB, q_none, q_noneR, q_one, q_oneS, q_seeL, q_seeT, q_seeO, q_seeA, q_seeAo, q_seeAl, q_seeAt, q_srL, q_srO, q_srA, q_lenS, q_lenO, q_lenA, q_lenR, q_slL, q_slO, q_slA, q_slAo, q_slAl, q_ixR, q_ixL, q_ixO, q_ixA, q_appA, q_appAo, q_appR, q_emR, q_zipT, q_zipL, q_some, q_fn1, q_fn2, q_fn3, q_fn4, q_pn0, q_pn1, q_pn2, q_pn3, q_scaI, q_scaS, q_scaB, q_scaN, q_fnD, q_all0, q_all1, q_all2, q_all3, q_all4, q_all5, q_wipe0, q_wipe, q_start, q_eqI, q_eqX, q_eqB, q_onB, q_at0, q_at1, q_at2, q_at3, q_at4, q_tup, q_strT, q_str, q_int, q_bool, List.length_cons, List.length_nil, List.map_cons, List.map_nil, List.replicate, List.cons_append, List.nil_append, List.getD_cons_zero, List.getD_cons_succ, List.getD_nil, List.set_cons_zero, List.set_cons_succ, List.set_nil, cond_true, cond_false, Nat.reduceAdd, Nat.reduceSub, Nat.sub_self, Nat.add_one_sub_one, Bool.not_true, Bool.not_false, true_and, and_true, Bool.false_eq_true, if_false, reduceIte, q_ins e1, T.cPs, T.nPs_fields, T.nPs_uses, stF_uses, stF_fields, q_lst e3]
  refine ⟨by decide, by decide, hl, ?_⟩
  refine asIns_of ((oup_ne n1).trans e1) ?_
  refine ⟨⟨T.cPs, T.nPs_fields⟩, ?_⟩
  simp only [at_mk, put_mk, know_mk, q_var, q_vdat, q_vpen, q_vown, q_vfn, q_vref, q_asD, q_asDo, q_asDa, q_aown, q_adat, q_asA, q_asAp, q_asAf, q_asAr, q_asAo, q_asAa, q_asS, q_asSo, q_asSp, q_asSf, q_asSr, q_asSa, q_asR, q_asRr, q_asRo, q_onD, q_onR, q_inOb, q_inObr, q_inObf, q_onT, q_onL, q_onI, q_onX, q_onBo, q_onTd, q_seqL, q_seqT, q_intI, q_intB, q_none, q_noneR, q_one, q_oneS, q_seeL, q_seeT, q_seeO, q_seeA, q_seeAo, q_seeAl, q_seeAt, q_srL, q_srO, q_srA, q_lenS, q_lenO, q_lenA, q_lenR, q_slL, q_slO, q_slA, q_slAo, q_slAl, q_ixR, q_ixL, q_ixO, q_ixA, q_appA, q_appAo, q_appR, q_emR, q_zipT, q_zipL, q_some, q_fn1, q_fn2, q_fn3, q_fn4, q_pn0, q_pn1, q_pn2, q_pn3, q_scaI, q_scaS, q_scaB, q_scaN, q_fnD, q_all0, q_all1, q_all2, q_all3, q_all4, q_all5, q_wipe0, q_wipe, q_start, q_eqI, q_eqX, q_eqB, q_onB, q_at0, q_at1, q_at2, q_at3, q_at4, q_tup, q_strT, q_str, q_int, q_bool, List.length_cons, List.length_nil, List.map_cons, List.map_nil, List.replicate, List.cons_append, List.nil_append, List.getD_cons_zero, List.getD_cons_succ, List.getD_nil, List.set_cons_zero, List.set_cons_succ, List.set_nil, cond_true, cond_false, Nat.reduceAdd, Nat.reduceSub, Nat.sub_self, Nat.add_one_sub_one, Bool.not_true, Bool.not_false, true_and, and_true, Bool.false_eq_true, if_false, reduceIte, stF_fields]
  have e4 : oup al us (.lst (ul ++ [.dat (.tuple [.str "put", .str t, .int r, .str f])])) fd = some (.dT fe) := (oup_ne n2).trans e2
  refine dictPut_T e4 ⟨(fun z => nomatch z), (show 3 < 4 by decide)⟩ (κ := [.inr t, .inl r, .inr f]) rfl hl2 ?_
  exact ⟨_, Sub.rfl, q⟩
end
end B


set_option synthInstance.maxHeartbeats 0
set_option synthInstance.maxSize 100000
/-! plain.py: Run, what is read. -/
namespace B
open PySem PySem.Spec PyProof.Rows L2
abbrev s_Run_settle : Stmt := (inClass (topS 41) 1)
theorem sc_Run_settle : FnScope ["self"] ["self"] (defScope s_Run_settle) := ⟨rfl, rfl, rfl, by decide +kernel, rfl, by decide +kernel, by decide +kernel⟩
abbrev s_Run_is_left : Stmt := (inClass (topS 41) 2)
theorem sc_Run_is_left : FnScope ["self", "frame", "rows", "at", "loop"] ["self", "frame"] (defScope s_Run_is_left) := ⟨rfl, rfl, rfl, by decide +kernel, rfl, by decide +kernel, by decide +kernel⟩
abbrev s_Run_value_of : Stmt := (inClass (topS 41) 4)
theorem sc_Run_value_of : FnScope ["self", "expression"] ["self", "expression"] (defScope s_Run_value_of) := ⟨rfl, rfl, rfl, by decide +kernel, rfl, by decide +kernel, by decide +kernel⟩
abbrev s_Run_record_of : Stmt := (inClass (topS 41) 5)
theorem sc_Run_record_of : FnScope ["self", "table", "expression"] ["self", "table", "expression"] (defScope s_Run_record_of) := ⟨rfl, rfl, rfl, by decide +kernel, rfl, by decide +kernel, by decide +kernel⟩
abbrev s_Run_bits_of : Stmt := (inClass (topS 41) 6)
theorem sc_Run_bits_of : FnScope ["self", "table", "field"] ["self", "table", "field"] (defScope s_Run_bits_of) := ⟨rfl, rfl, rfl, by decide +kernel, rfl, by decide +kernel, by decide +kernel⟩
structure RTxt (K : PySem.W.Frag) (mg : Str → Option Value) (fb CPs CRu : Addr) : Prop extends NTxt K mg fb CPs where
  m_settle : MetAt K CRu "settle" "Run.settle" s_Run_settle ["self"]
  m_is_left : MetAt K CRu "is_left" "Run.is_left" s_Run_is_left ["self", "frame"]
  m_value_of : MetAt K CRu "value_of" "Run.value_of" s_Run_value_of ["self", "expression"]
  m_record_of : MetAt K CRu "record_of" "Run.record_of" s_Run_record_of ["self", "table", "expression"]
  m_bits_of : MetAt K CRu "bits_of" "Run.bits_of" s_Run_bits_of ["self", "table", "field"]
  cRu : Cls K CRu
  nRu_program : NoAttr K CRu "program"
  nRu_tables : NoAttr K CRu "tables"
  nRu_held : NoAttr K CRu "held"
  nRu_faces : NoAttr K CRu "faces"
  nRu_store : NoAttr K CRu "store"
  nRu_said : NoAttr K CRu "said"
  nRu_trail : NoAttr K CRu "trail"
  nRu_turned : NoAttr K CRu "turned"
  nRu_frames : NoAttr K CRu "frames"
  z_dict : mg "dict" = none
section
variable {P : Program} {w : World} {K : PySem.W.Frag} {mg : Str → Option Value} {base : Heap} {fb CPs CRu : Addr}
theorem met_is_left (T : RTxt K mg fb CPs CRu) : Met P w K mg base 1 CRu "is_left" (spH K 2 fun al as Φ => ∃ (a : Addr) (k : Fk), as = [.ref a, .ref k.b] ∧ Cells al k.cells ∧ Φ al (.dat (.bool k.f.left))) := by
  refine T.m_is_left.met sc_Run_is_left (fun vs H Q E h => h.1) (fun f cdv A outer s H vs Q E hr h => ?_)
  have hu := hu_of hr
  refine ⟨_, (pss_cons (ps_asg (pv 1) (pg_unlK K (n := 3) (by rfl) (by rfl) (pgs_consX (by rfl) (pg_nameX 2 sc_Run_is_left.nd rfl (by first | exact .inl rfl | exact .inr rfl) (by first | exact .inr rfl | exact .inl rfl)) (pgs_consX (by rfl) (pg_nameX 3 sc_Run_is_left.nd rfl (by first | exact .inl rfl | exact .inr rfl) (by first | exact .inr rfl | exact .inl rfl)) (pgs_consX (by rfl) (pg_nameX 4 sc_Run_is_left.nd rfl (by first | exact .inl rfl | exact .inr rfl) (by first | exact .inr rfl | exact .inl rfl)) pgs_nil))) (by rfl) (by rfl)))
  (pss_one (ps_ret (pe_and (pe_cmpR op_eq (pv 3) (pe_callB (call_lenK K (by rfl)) (by rfl) T.z_len bt_len (pa_cons (pv 2) pa_nil)) (nomark _)) (pe_one (pe_or (pe_cmpR op_isN1 (pv 4) pe_non (nomark _)) (pe_one (pe_cmpR op_eq (pe_op op_add (pe_ix (ix_listK K (by rfl)) (pv 4) pe_int (fun _ _ => rfl)) pe_int) (pe_ix (ix_listK K (by rfl)) (pv 4) pe_int (fun _ _ => rfl)) (nomark _))))))))), ?_⟩
  refine run_H h fun Γ al as Φ hg => ?_
  obtain ⟨a, k, rfl, sc, q⟩ := hg
  unfold Fra.left at q
  unfold Fk.cells at sc
  cases hl : k.f.loop with
  | none =>
    rw [hl] at q sc
    have e1 := sc.get 0 rfl
    simp only [at_mk, put_mk, know_mk, q_var, q_vdat, q_vpen, q_vown, q_vfn, q_vref, q_asD, q_asDo, q_asDa, q_aown, q_adat, q_asA, q_asAp, q_asAf, q_asAr, q_asAo, q_asAa, q_asS, q_asSo, q_asSp, q_asSf, q_asSr, q_asSa, q_asR, q_asRr, q_asRo, q_onD, q_onR, q_inOb, q_inObr, q_inObf, q_onT, q_onL, q_onI, q_onX, q_onBo, q_onTd, q_seqL, q_seqT, q_intI, q_intB, q_none, q_noneR, q_one, q_oneS, q_seeL, q_seeT, q_seeO, q_seeA, q_seeAo, q_seeAl, q_seeAt, q_srL, q_srO, q_srA, q_lenS, q_lenO, q_lenA, q_lenR, q_slL, q_slO, q_slA, q_slAo, q_slAl, q_ixR, q_ixL, q_ixO, q_ixA, q_appA, q_appAo, q_appR, q_emR, q_zipT, q_zipL, q_some, q_fn1, q_fn2, q_fn3, q_fn4, q_pn0, q_pn1, q_pn2, q_pn3, q_scaI, q_scaS, q_scaB, q_scaN, q_fnD, q_all0, q_all1, q_all2, q_all3, q_all4, q_all5, q_wipe0, q_wipe, q_start, q_eqI, q_eqX, q_eqB, q_onB, q_at0, q_at1, q_at2, q_at3, q_at4, q_tup, q_strT, q_str, q_int, q_bool, List.length_cons, List.length_nil, List.map_cons, List.map_nil, List.replicate, List.cons_append, List.nil_append, List.getD_cons_zero, List.getD_cons_succ, List.getD_nil, List.set_cons_zero, List.set_cons_succ, List.set_nil, cond_true, cond_false, Nat.reduceAdd, Nat.reduceSub, Nat.sub_self, Nat.add_one_sub_one, Bool.not_true, Bool.not_false, true_and, and_true, Bool.false_eq_true, if_false, reduceIte, q_lst e1]
    refine ⟨rfl, ?_⟩
    rw [Row.datas_map, List.length_map]
    by_cases hp : k.f.pos = k.f.rows.length
    · rw [decide_eq_true hp] at q
      rw [decide_eq_true (show (k.f.pos : Int) = k.f.rows.length by omega)]
      exact ⟨_, Sub.rfl, q⟩
    · rw [decide_eq_false hp] at q
      rw [decide_eq_false (show ¬ (k.f.pos : Int) = k.f.rows.length by omega)]
      exact ⟨_, Sub.rfl, q⟩
  | some o =>
    obtain ⟨x, num, many⟩ := o
    rw [hl] at q sc
    have e1 := sc.get 0 rfl
    have e2 := sc.get 1 rfl
    simp only [at_mk, put_mk, know_mk, q_var, q_vdat, q_vpen, q_vown, q_vfn, q_vref, q_asD, q_asDo, q_asDa, q_aown, q_adat, q_asA, q_asAp, q_asAf, q_asAr, q_asAo, q_asAa, q_asS, q_asSo, q_asSp, q_asSf, q_asSr, q_asSa, q_asR, q_asRr, q_asRo, q_onD, q_onR, q_inOb, q_inObr, q_inObf, q_onT, q_onL, q_onI, q_onX, q_onBo, q_onTd, q_seqL, q_seqT, q_intI, q_intB, q_none, q_noneR, q_one, q_oneS, q_seeL, q_seeT, q_seeO, q_seeA, q_seeAo, q_seeAl, q_seeAt, q_srL, q_srO, q_srA, q_lenS, q_lenO, q_lenA, q_lenR, q_slL, q_slO, q_slA, q_slAo, q_slAl, q_ixR, q_ixL, q_ixO, q_ixA, q_appA, q_appAo, q_appR, q_emR, q_zipT, q_zipL, q_some, q_fn1, q_fn2, q_fn3, q_fn4, q_pn0, q_pn1, q_pn2, q_pn3, q_scaI, q_scaS, q_scaB, q_scaN, q_fnD, q_all0, q_all1, q_all2, q_all3, q_all4, q_all5, q_wipe0, q_wipe, q_start, q_eqI, q_eqX, q_eqB, q_onB, q_at0, q_at1, q_at2, q_at3, q_at4, q_tup, q_strT, q_str, q_int, q_bool, List.length_cons, List.length_nil, List.map_cons, List.map_nil, List.replicate, List.cons_append, List.nil_append, List.getD_cons_zero, List.getD_cons_succ, List.getD_nil, List.set_cons_zero, List.set_cons_succ, List.set_nil, cond_true, cond_false, Nat.reduceAdd, Nat.reduceSub, Nat.sub_self, Nat.add_one_sub_one, Bool.not_true, Bool.not_false, true_and, and_true, Bool.false_eq_true, if_false, reduceIte, q_lst e1]
    refine ⟨rfl, ?_⟩
    rw [Row.datas_map, List.length_map]
    by_cases hp : k.f.pos = k.f.rows.length
    · rw [decide_eq_true hp] at q
      rw [decide_eq_true (show (k.f.pos : Int) = k.f.rows.length by omega)]
      show asLst al k.l _
      refine asLst_of e2 ?_
      refine atS_at (j := 1) rfl rfl ?_
      show asLst al k.l _
      refine asLst_of e2 ?_
      refine atS_at (j := 2) rfl rfl ?_
      exact ⟨_, Sub.rfl, q⟩
    · rw [decide_eq_false hp] at q
      rw [decide_eq_false (show ¬ (k.f.pos : Int) = k.f.rows.length by omega)]
      exact ⟨_, Sub.rfl, q⟩
theorem pairsD_fields : ∀ fs : List (Str × Int), pairsD (fs.map Tab.fdata) = some (fs.map fun f => (.inr f.1, .int f.2))
  | [] => rfl
  | f :: fs => by
    show pairsD (.tuple [.str f.1, .int f.2] :: fs.map Tab.fdata) = _
    simp only [pairsD, keyD, pairsD_fields fs]
    rfl
theorem w_var_num : decide (Str.ofString "var" = Str.ofString "num") = false := by decide
theorem met_settle (T : RTxt K mg fb CPs CRu) : Met P w K mg base 2 CRu "settle" (spH K 1 fun al as Φ => ∃ (p : Prg) (R : Rx) (n : Nat), as = [.ref R.a] ∧ RunAt CRu CPs p al R n ∧ ∀ al' ks', RunAt CRu CPs p al' { R with ks := ks' } n → ks'.map (·.f) = settle (R.ks.map (·.f)) → Φ al' (.dat .none)) := by
  have mt_Run_is_left := met_is_left (P := P) (w := w) (base := base) T
  refine T.m_settle.met sc_Run_settle (fun vs H Q E h => h.1) (fun f cdv A outer s H vs Q E hr h => ?_)
  have hu := hu_of hr
  refine ⟨_, (pss_one (ps_while PassesOwn.never (PW.pt (pw_and (pt_cmpR (op_ne0K K (by rfl) hr.units0) (pe_fldK K (by rfl) (by rfl) (pv 0)) (pe_lst pa_nil) (nomark _)) (pw_and1 (pt_val (pe_mt mt_Run_is_left hr (by first | decide | omega) (pv 0) (pa_cons (pe_ix (ix_listK K (by rfl)) (pe_fldK K (by rfl) (by rfl) (pv 0)) (pe_un un_neg pe_int) (fun _ _ => rfl)) pa_nil))))))
  (pss_one (ps_expr (pe_bm0K K (by rfl) PySem.F.plainAttrs_list PySem.F.slot_list_pop PySem.F.type_list_pop mt_pop (pe_fldK K (by rfl) (by rfl) (pv 0))))))), ?_⟩
  refine run_H h fun Γ al as Φ hg => ?_
  obtain ⟨p, R, n, rfl, sc, q⟩ := hg
  simp only [at_mk, put_mk, know_mk, q_var, q_vdat, q_vpen, q_vown, q_vfn, q_vref, q_asD, q_asDo, q_asDa, q_aown, q_adat, q_asA, q_asAp, q_asAf, q_asAr, q_asAo, q_asAa, q_asS, q_asSo, q_asSp, q_asSf, q_asSr, q_asSa, q_asR, q_asRr, q_asRo, q_onD, q_onR, q_inOb, q_inObr, q_inObf, q_onT, q_onL, q_onI, q_onX, q_onBo, q_onTd, q_seqL, q_seqT, q_intI, q_intB, q_none, q_noneR, q_one, q_oneS, q_seeL, q_seeT, q_seeO, q_seeA, q_seeAo, q_seeAl, q_seeAt, q_srL, q_srO, q_srA, q_lenS, q_lenO, q_lenA, q_lenR, q_slL, q_slO, q_slA, q_slAo, q_slAl, q_ixR, q_ixL, q_ixO, q_ixA, q_appA, q_appAo, q_appR, q_emR, q_zipT, q_zipL, q_some, q_fn1, q_fn2, q_fn3, q_fn4, q_pn0, q_pn1, q_pn2, q_pn3, q_scaI, q_scaS, q_scaB, q_scaN, q_fnD, q_all0, q_all1, q_all2, q_all3, q_all4, q_all5, q_wipe0, q_wipe, q_start, q_eqI, q_eqX, q_eqB, q_onB, q_at0, q_at1, q_at2, q_at3, q_at4, q_tup, q_strT, q_str, q_int, q_bool, List.length_cons, List.length_nil, List.map_cons, List.map_nil, List.replicate, List.cons_append, List.nil_append, List.getD_cons_zero, List.getD_cons_succ, List.getD_nil, List.set_cons_zero, List.set_cons_succ, List.set_nil, cond_true, cond_false, Nat.reduceAdd, Nat.reduceSub, Nat.sub_self, Nat.add_one_sub_one, Bool.not_true, Bool.not_false, true_and, and_true, Bool.false_eq_true, if_false, reduceIte]
  refine ⟨fun m δ => ∃ al' ks', δ = ⟨[some (.ref R.a)], al'⟩ ∧ RunAt CRu CPs p al' { R with ks := ks' } n ∧ ks'.length = m ∧ settle (ks'.map (·.f)) = settle (R.ks.map (·.f)), ⟨_, al, R.ks, rfl, sc, rfl, rfl⟩, fun m δ hδ => ?_⟩
  obtain ⟨al', ks', rfl, sc', hm, hs⟩ := hδ
  have e1 := sc'.cells.get 0 rfl
  have e2 := sc'.cells.get 8 rfl
  simp only [at_mk, put_mk, know_mk, q_var, q_vdat, q_vpen, q_vown, q_vfn, q_vref, q_asD, q_asDo, q_asDa, q_aown, q_adat, q_asA, q_asAp, q_asAf, q_asAr, q_asAo, q_asAa, q_asS, q_asSo, q_asSp, q_asSf, q_asSr, q_asSa, q_asR, q_asRr, q_asRo, q_onD, q_onR, q_inOb, q_inObr, q_inObf, q_onT, q_onL, q_onI, q_onX, q_onBo, q_onTd, q_seqL, q_seqT, q_intI, q_intB, q_none, q_noneR, q_one, q_oneS, q_seeL, q_seeT, q_seeO, q_seeA, q_seeAo, q_seeAl, q_seeAt, q_srL, q_srO, q_srA, q_lenS, q_lenO, q_lenA, q_lenR, q_slL, q_slO, q_slA, q_slAo, q_slAl, q_ixR, q_ixL, q_ixO, q_ixA, q_appA, q_appAo, q_appR, q_emR, q_zipT, q_zipL, q_some, q_fn1, q_fn2, q_fn3, q_fn4, q_pn0, q_pn1, q_pn2, q_pn3, q_scaI, q_scaS, q_scaB, q_scaN, q_fnD, q_all0, q_all1, q_all2, q_all3, q_all4, q_all5, q_wipe0, q_wipe, q_start, q_eqI, q_eqX, q_eqB, q_onB, q_at0, q_at1, q_at2, q_at3, q_at4, q_tup, q_strT, q_str, q_int, q_bool, List.length_cons, List.length_nil, List.map_cons, List.map_nil, List.replicate, List.cons_append, List.nil_append, List.getD_cons_zero, List.getD_cons_succ, List.getD_nil, List.set_cons_zero, List.set_cons_succ, List.set_nil, cond_true, cond_false, Nat.reduceAdd, Nat.reduceSub, Nat.sub_self, Nat.add_one_sub_one, Bool.not_true, Bool.not_false, true_and, and_true, Bool.false_eq_true, if_false, reduceIte, q_ins e1, T.cRu, T.nRu_frames, ruF_frames, q_lst e2]
  refine ⟨by decide, ?_⟩
  cases ks' with
  | nil => exact ⟨_, Sub.rfl, q al' [] sc' hs⟩
  | cons k ks =>
    have ef := frames_cons k ks
    have en : (frames (k :: ks)).isEmpty = false := by rw [ef]; simp
    rw [en]
    refine ⟨rfl, ?_⟩
    rw [ef, atS_last]
    refine ⟨R.a, k, rfl, sc'.top rfl, ?_⟩
    cases hl : k.f.left with
    | false =>
      refine ⟨_, Sub.rfl, q al' (k :: ks) sc' ?_⟩
      rw [← hs]
      show _ = settle (k.f :: ks.map (·.f))
      rw [settle, hl]
      rfl
    | true =>
      refine asIns_of e1 ⟨⟨T.cRu, T.nRu_frames⟩, ?_⟩
      show asLst al' R.fr _
      refine asLst_of e2 ?_
      show match (frames (k :: ks))[(frames (k :: ks)).length - 1]? with
        | some t => _
        | none => _
      have eg : (frames (k :: ks))[(frames (k :: ks)).length - 1]? = some (.ref k.b) := by rw [ef]; simp
      rw [eg]
      refine ⟨ks.length, ?_, oup al' R.fr (.lst (frames ks)), ks, ?_, sc'.pop rfl, rfl, ?_⟩
      · rw [← hm]
        exact Nat.lt_succ_self _
      · show (⟨_, oup al' R.fr (.lst (frames (k :: ks)).dropLast)⟩ : Dn) = _
        rw [ef, List.dropLast_concat]
        rfl
      · rw [← hs]
        show _ = settle (k.f :: ks.map (·.f))
        rw [settle, hl]
        rfl
theorem met_value_step (T : RTxt K mg fb CPs CRu) (d : Nat) (mt_Run_value_of : Met P w K mg base (1 + d) CRu "value_of" (spH K 2 fun al as Φ => ∃ (p : Prg) (R : Rx) (n : Nat) (e : Ex), as = [.ref R.a, .dat (Ex.data e)] ∧ RunAt CRu CPs p al R n ∧ e.ok ∧ e.dep < d ∧ Φ al (.dat (.int (e.val R.S.env))))) :
    Met P w K mg base (2 + d) CRu "value_of" (spH K 2 fun al as Φ => ∃ (p : Prg) (R : Rx) (n : Nat) (e : Ex), as = [.ref R.a, .dat (Ex.data e)] ∧ RunAt CRu CPs p al R n ∧ e.ok ∧ e.dep ≤ d ∧ Φ al (.dat (.int (e.val R.S.env)))) := by
  have c_reckoned := cal_reckoned (P := P) (w := w) (base := base) T.toNTxt
  have e9 : 2 + d = 1 + d + 1 := by omega
  rw [e9]
  refine T.m_value_of.met sc_Run_value_of (fun vs H Q E h => h.1) (fun f cdv A outer s H vs Q E hr h => ?_)
  have hu := hu_of hr
  refine ⟨_, (pss_cons (ps_if (pt_cmpR op_eq (pe_ix (ix_tupK K (by rfl)) (pv 1) pe_int (fun _ _ => rfl)) pe_str (nomark _))
  (pss_one (ps_ret (pe_ix (ix_tupK K (by rfl)) (pv 1) pe_int (fun _ _ => rfl))))
  pss_nil)
  (pss_cons (ps_if (pt_cmpR op_eq (pe_ix (ix_tupK K (by rfl)) (pv 1) pe_int (fun _ _ => rfl)) pe_str (nomark _))
  (pss_one (ps_ret (pe_dget2 hu (pe_fldK K (by rfl) (by rfl) (pv 0)) (pe_ix (ix_tupK K (by rfl)) (pv 1) pe_int (fun _ _ => rfl)) pe_int ⟨by rfl, by rfl, by rfl, by rfl⟩)))
  pss_nil)
  (pss_one (ps_ret (pe_c c_reckoned hr (by first | decide | omega) (by rfl) (pa_cons (pe_ix (ix_tupK K (by rfl)) (pv 1) pe_int (fun _ _ => rfl)) (pa_cons (pe_mt mt_Run_value_of hr (by first | decide | omega) (pv 0) (pa_cons (pe_ix (ix_tupK K (by rfl)) (pv 1) pe_int (fun _ _ => rfl)) pa_nil)) (pa_cons (pe_mt mt_Run_value_of hr (by first | decide | omega) (pv 0) (pa_cons (pe_ix (ix_tupK K (by rfl)) (pv 1) pe_int (fun _ _ => rfl)) pa_nil)) pa_nil)))))))), ?_⟩
  refine run_H h fun Γ al as Φ hg => ?_
  obtain ⟨p, R, n, e, rfl, sc, ok, hd, q⟩ := hg
  have e1 := sc.cells.get 0 rfl
  have e2 := sc.cells.get 3 rfl
  cases e with
  | num v =>
    simp only [at_mk, put_mk, know_mk, q_var, q_vdat, q_vpen, q_vown, q_vfn, q_vref, q_asD, q_asDo, q_asDa, q_aown, q_adat, q_asA, q_asAp, q_asAf, q_asAr, q_asAo, q_asAa, q_asS, q_asSo, q_asSp, q_asSf, q_asSr, q_asSa, q_asR, q_asRr, q_asRo, q_onD, q_onR, q_inOb, q_inObr, q_inObf, q_onT, q_onL, q_onI, q_onX, q_onBo, q_onTd, q_seqL, q_seqT, q_intI, q_intB, q_none, q_noneR, q_one, q_oneS, q_seeL, q_seeT, q_seeO, q_seeA, q_seeAo, q_seeAl, q_seeAt, q_srL, q_srO, q_srA, q_lenS, q_lenO, q_lenA, q_lenR, q_slL, q_slO, q_slA, q_slAo, q_slAl, q_ixR, q_ixL, q_ixO, q_ixA, q_appA, q_appAo, q_appR, q_emR, q_zipT, q_zipL, q_some, q_fn1, q_fn2, q_fn3, q_fn4, q_pn0, q_pn1, q_pn2, q_pn3, q_scaI, q_scaS, q_scaB, q_scaN, q_fnD, q_all0, q_all1, q_all2, q_all3, q_all4, q_all5, q_wipe0, q_wipe, q_start, q_eqI, q_eqX, q_eqB, q_onB, q_at0, q_at1, q_at2, q_at3, q_at4, q_tup, q_strT, q_str, q_int, q_bool, List.length_cons, List.length_nil, List.map_cons, List.map_nil, List.replicate, List.cons_append, List.nil_append, List.getD_cons_zero, List.getD_cons_succ, List.getD_nil, List.set_cons_zero, List.set_cons_succ, List.set_nil, cond_true, cond_false, Nat.reduceAdd, Nat.reduceSub, Nat.sub_self, Nat.add_one_sub_one, Bool.not_true, Bool.not_false, true_and, and_true, Bool.false_eq_true, if_false, reduceIte, Ex.data, decide_true]
    exact ⟨_, Sub.rfl, q⟩
  | var x =>
    simp only [at_mk, put_mk, know_mk, q_var, q_vdat, q_vpen, q_vown, q_vfn, q_vref, q_asD, q_asDo, q_asDa, q_aown, q_adat, q_asA, q_asAp, q_asAf, q_asAr, q_asAo, q_asAa, q_asS, q_asSo, q_asSp, q_asSf, q_asSr, q_asSa, q_asR, q_asRr, q_asRo, q_onD, q_onR, q_inOb, q_inObr, q_inObf, q_onT, q_onL, q_onI, q_onX, q_onBo, q_onTd, q_seqL, q_seqT, q_intI, q_intB, q_none, q_noneR, q_one, q_oneS, q_seeL, q_seeT, q_seeO, q_seeA, q_seeAo, q_seeAl, q_seeAt, q_srL, q_srO, q_srA, q_lenS, q_lenO, q_lenA, q_lenR, q_slL, q_slO, q_slA, q_slAo, q_slAl, q_ixR, q_ixL, q_ixO, q_ixA, q_appA, q_appAo, q_appR, q_emR, q_zipT, q_zipL, q_some, q_fn1, q_fn2, q_fn3, q_fn4, q_pn0, q_pn1, q_pn2, q_pn3, q_scaI, q_scaS, q_scaB, q_scaN, q_fnD, q_all0, q_all1, q_all2, q_all3, q_all4, q_all5, q_wipe0, q_wipe, q_start, q_eqI, q_eqX, q_eqB, q_onB, q_at0, q_at1, q_at2, q_at3, q_at4, q_tup, q_strT, q_str, q_int, q_bool, List.length_cons, List.length_nil, List.map_cons, List.map_nil, List.replicate, List.cons_append, List.nil_append, List.getD_cons_zero, List.getD_cons_succ, List.getD_nil, List.set_cons_zero, List.set_cons_succ, List.set_nil, cond_true, cond_false, Nat.reduceAdd, Nat.reduceSub, Nat.sub_self, Nat.add_one_sub_one, Bool.not_true, Bool.not_false, true_and, and_true, Bool.false_eq_true, if_false, reduceIte, Ex.data, w_var_num, decide_true, q_ins e1, T.cRu, T.nRu_held, ruF_held, q_get e2 (show keyD (.str x) = some (.inr x) from rfl)]
    have e3 := sc.he x
    unfold valE at e3
    rw [e3]
    exact ⟨.inl ⟨_, e2⟩, _, Sub.rfl, q⟩
  | op z x y =>
    obtain ⟨hz, ok1, ok2⟩ := ok
    have w1 : decide (z = Str.ofString "num") = false := decide_eq_false fun e => by subst e; exact absurd hz (by decide)
    have w2 : decide (z = Str.ofString "var") = false := decide_eq_false fun e => by subst e; exact absurd hz (by decide)
    have hd' : max x.dep y.dep + 1 ≤ d := hd
    simp only [at_mk, put_mk, know_mk, q_var, q_vdat, q_vpen, q_vown, q_vfn, q_vref, q_asD, q_asDo, q_asDa, q_aown, q_adat, q_asA, q_asAp, q_asAf, q_asAr, q_asAo, q_asAa, q_asS, q_asSo, q_asSp, q_asSf, q_asSr, q_asSa, q_asR, q_asRr, q_asRo, q_onD, q_onR, q_inOb, q_inObr, q_inObf, q_onT, q_onL, q_onI, q_onX, q_onBo, q_onTd, q_seqL, q_seqT, q_intI, q_intB, q_none, q_noneR, q_one, q_oneS, q_seeL, q_seeT, q_seeO, q_seeA, q_seeAo, q_seeAl, q_seeAt, q_srL, q_srO, q_srA, q_lenS, q_lenO, q_lenA, q_lenR, q_slL, q_slO, q_slA, q_slAo, q_slAl, q_ixR, q_ixL, q_ixO, q_ixA, q_appA, q_appAo, q_appR, q_emR, q_zipT, q_zipL, q_some, q_fn1, q_fn2, q_fn3, q_fn4, q_pn0, q_pn1, q_pn2, q_pn3, q_scaI, q_scaS, q_scaB, q_scaN, q_fnD, q_all0, q_all1, q_all2, q_all3, q_all4, q_all5, q_wipe0, q_wipe, q_start, q_eqI, q_eqX, q_eqB, q_onB, q_at0, q_at1, q_at2, q_at3, q_at4, q_tup, q_strT, q_str, q_int, q_bool, List.length_cons, List.length_nil, List.map_cons, List.map_nil, List.replicate, List.cons_append, List.nil_append, List.getD_cons_zero, List.getD_cons_succ, List.getD_nil, List.set_cons_zero, List.set_cons_succ, List.set_nil, cond_true, cond_false, Nat.reduceAdd, Nat.reduceSub, Nat.sub_self, Nat.add_one_sub_one, Bool.not_true, Bool.not_false, true_and, and_true, Bool.false_eq_true, if_false, reduceIte, Ex.data, w1, w2, q_ins e1]
    exact ⟨rfl, p, R, n, x, rfl, sc, ok1, by omega, rfl, p, R, n, y, rfl, sc, ok2, by omega, _, _, _, rfl, rfl, rfl, Ex.val_ok sc.env ok1, Ex.val_ok sc.env ok2, _, Sub.rfl, q⟩
theorem met_value_of (T : RTxt K mg fb CPs CRu) : ∀ d : Nat, Met P w K mg base (2 + d) CRu "value_of" (spH K 2 fun al as Φ => ∃ (p : Prg) (R : Rx) (n : Nat) (e : Ex), as = [.ref R.a, .dat (Ex.data e)] ∧ RunAt CRu CPs p al R n ∧ e.ok ∧ e.dep ≤ d ∧ Φ al (.dat (.int (e.val R.S.env))))
  | 0 => met_value_step T 0 (T.m_value_of.met sc_Run_value_of (fun vs H Q E h => h.1) (fun f cdv A outer s H vs Q E hr h => (spH_no (fun al as Φ hg => by
      obtain ⟨p, R, n, e, rfl, _, _, lt, _⟩ := hg
      exact absurd lt (Nat.not_lt_zero _)) h).elim))
  | d + 1 => met_value_step T (d + 1) ((met_value_of T d).imp (spH_imp fun al as Φ hg => by
      obtain ⟨p, R, n, e, h1, h2, h3, h4, h5⟩ := hg
      exact ⟨p, R, n, e, h1, h2, h3, by omega, h5⟩) (by omega))
theorem met_record_of (T : RTxt K mg fb CPs CRu) : Met P w K mg base 6 CRu "record_of" (spH K 3 fun al as Φ => ∃ (p : Prg) (R : Rx) (n : Nat) (e : Ex) (o : Str) (t : Tab), as = [.ref R.a, .dat (.str o), .dat (Ex.data e)] ∧ RunAt CRu CPs p al R n ∧ e.ok ∧ e.dep ≤ 3 ∧ p.tab o = some t ∧ 1 ≤ t.many ∧ Φ al (.dat (.int (e.val R.S.env % t.many)))) := by
  have mt_Run_value_of := met_value_of (P := P) (w := w) (base := base) T 3
  refine T.m_record_of.met sc_Run_record_of (fun vs H Q E h => h.1) (fun f cdv A outer s H vs Q E hr h => ?_)
  have hu := hu_of hr
  refine ⟨_, (pss_one (ps_ret (pe_op op_mod (pe_mt mt_Run_value_of hr (by first | decide | omega) (pv 0) (pa_cons (pv 2) pa_nil)) (pe_ix (ix_tupK K (by rfl)) (pe_dget hu (pe_fldK K (by rfl) (by rfl) (pv 0)) (pv 1) (fun _ _ => rfl)) pe_int (fun _ _ => rfl))))), ?_⟩
  refine run_H h fun Γ al as Φ hg => ?_
  obtain ⟨p, R, n, e, o, t, rfl, sc, ok, hd, ht, hm, q⟩ := hg
  have e1 := sc.cells.get 0 rfl
  have e2 := sc.cells.get 2 rfl
  have e3 := sc.te o t ht
  simp only [at_mk, put_mk, know_mk, q_var, q_vdat, q_vpen, q_vown, q_vfn, q_vref, q_asD, q_asDo, q_asDa, q_aown, q_adat, q_asA, q_asAp, q_asAf, q_asAr, q_asAo, q_asAa, q_asS, q_asSo, q_asSp, q_asSf, q_asSr, q_asSa, q_asR, q_asRr, q_asRo, q_onD, q_onR, q_inOb, q_inObr, q_inObf, q_onT, q_onL, q_onI, q_onX, q_onBo, q_onTd, q_seqL, q_seqT, q_intI, q_intB, q_none, q_noneR, q_one, q_oneS, q_seeL, q_seeT, q_seeO, q_seeA, q_seeAo, q_seeAl, q_seeAt, q_srL, q_srO, q_srA, q_lenS, q_lenO, q_lenA, q_lenR, q_slL, q_slO, q_slA, q_slAo, q_slAl, q_ixR, q_ixL, q_ixO, q_ixA, q_appA, q_appAo, q_appR, q_emR, q_zipT, q_zipL, q_some, q_fn1, q_fn2, q_fn3, q_fn4, q_pn0, q_pn1, q_pn2, q_pn3, q_scaI, q_scaS, q_scaB, q_scaN, q_fnD, q_all0, q_all1, q_all2, q_all3, q_all4, q_all5, q_wipe0, q_wipe, q_start, q_eqI, q_eqX, q_eqB, q_onB, q_at0, q_at1, q_at2, q_at3, q_at4, q_tup, q_strT, q_str, q_int, q_bool, List.length_cons, List.length_nil, List.map_cons, List.map_nil, List.replicate, List.cons_append, List.nil_append, List.getD_cons_zero, List.getD_cons_succ, List.getD_nil, List.set_cons_zero, List.set_cons_succ, List.set_nil, cond_true, cond_false, Nat.reduceAdd, Nat.reduceSub, Nat.sub_self, Nat.add_one_sub_one, Bool.not_true, Bool.not_false, true_and, and_true, Bool.false_eq_true, if_false, reduceIte, q_ins e1]
  refine ⟨rfl, p, R, n, e, rfl, sc, ok, hd, ?_⟩
  simp only [at_mk, put_mk, know_mk, q_var, q_vdat, q_vpen, q_vown, q_vfn, q_vref, q_asD, q_asDo, q_asDa, q_aown, q_adat, q_asA, q_asAp, q_asAf, q_asAr, q_asAo, q_asAa, q_asS, q_asSo, q_asSp, q_asSf, q_asSr, q_asSa, q_asR, q_asRr, q_asRo, q_onD, q_onR, q_inOb, q_inObr, q_inObf, q_onT, q_onL, q_onI, q_onX, q_onBo, q_onTd, q_seqL, q_seqT, q_intI, q_intB, q_none, q_noneR, q_one, q_oneS, q_seeL, q_seeT, q_seeO, q_seeA, q_seeAo, q_seeAl, q_seeAt, q_srL, q_srO, q_srA, q_lenS, q_lenO, q_lenA, q_lenR, q_slL, q_slO, q_slA, q_slAo, q_slAl, q_ixR, q_ixL, q_ixO, q_ixA, q_appA, q_appAo, q_appR, q_emR, q_zipT, q_zipL, q_some, q_fn1, q_fn2, q_fn3, q_fn4, q_pn0, q_pn1, q_pn2, q_pn3, q_scaI, q_scaS, q_scaB, q_scaN, q_fnD, q_all0, q_all1, q_all2, q_all3, q_all4, q_all5, q_wipe0, q_wipe, q_start, q_eqI, q_eqX, q_eqB, q_onB, q_at0, q_at1, q_at2, q_at3, q_at4, q_tup, q_strT, q_str, q_int, q_bool, List.length_cons, List.length_nil, List.map_cons, List.map_nil, List.replicate, List.cons_append, List.nil_append, List.getD_cons_zero, List.getD_cons_succ, List.getD_nil, List.set_cons_zero, List.set_cons_succ, List.set_nil, cond_true, cond_false, Nat.reduceAdd, Nat.reduceSub, Nat.sub_self, Nat.add_one_sub_one, Bool.not_true, Bool.not_false, true_and, and_true, Bool.false_eq_true, if_false, reduceIte, q_ins e1, T.cRu, T.nRu_tables, ruF_tables, q_get e2 (show keyD (.str o) = some (.inr o) from rfl), e3]
  exact ⟨hm, _, Sub.rfl, q⟩
theorem met_bits_of (T : RTxt K mg fb CPs CRu) : Met P w K mg base 1 CRu "bits_of" (spH K 3 fun al as Φ => ∃ (p : Prg) (R : Rx) (n : Nat) (o fl : Str) (t : Tab) (b : Int), as = [.ref R.a, .dat (.str o), .dat (.str fl)] ∧ RunAt CRu CPs p al R n ∧ p.tab o = some t ∧ t.ok ∧ t.fields.lookup fl = some b ∧ Φ al (.dat (.int b))) := by
  refine T.m_bits_of.met sc_Run_bits_of (fun vs H Q E h => h.1) (fun f cdv A outer s H vs Q E hr h => ?_)
  have hu := hu_of hr
  refine ⟨_, (pss_one (ps_ret (pe_dget hu (pe_callTy (call_dictTK K (by rfl) (by rfl)) (by rfl) T.z_dict bt_dict (pa_cons (pe_ix (ix_tupK K (by rfl)) (pe_dget hu (pe_fldK K (by rfl) (by rfl) (pv 0)) (pv 1) (fun _ _ => rfl)) pe_int (fun _ _ => rfl)) pa_nil)) (pv 2) (fun _ _ => rfl)))), ?_⟩
  refine run_H h fun Γ al as Φ hg => ?_
  obtain ⟨p, R, n, o, fl, t, b, rfl, sc, ht, ok, hb, q⟩ := hg
  have e1 := sc.cells.get 0 rfl
  have e2 := sc.cells.get 2 rfl
  have e3 := sc.te o t ht
  simp only [at_mk, put_mk, know_mk, q_var, q_vdat, q_vpen, q_vown, q_vfn, q_vref, q_asD, q_asDo, q_asDa, q_aown, q_adat, q_asA, q_asAp, q_asAf, q_asAr, q_asAo, q_asAa, q_asS, q_asSo, q_asSp, q_asSf, q_asSr, q_asSa, q_asR, q_asRr, q_asRo, q_onD, q_onR, q_inOb, q_inObr, q_inObf, q_onT, q_onL, q_onI, q_onX, q_onBo, q_onTd, q_seqL, q_seqT, q_intI, q_intB, q_none, q_noneR, q_one, q_oneS, q_seeL, q_seeT, q_seeO, q_seeA, q_seeAo, q_seeAl, q_seeAt, q_srL, q_srO, q_srA, q_lenS, q_lenO, q_lenA, q_lenR, q_slL, q_slO, q_slA, q_slAo, q_slAl, q_ixR, q_ixL, q_ixO, q_ixA, q_appA, q_appAo, q_appR, q_emR, q_zipT, q_zipL, q_some, q_fn1, q_fn2, q_fn3, q_fn4, q_pn0, q_pn1, q_pn2, q_pn3, q_scaI, q_scaS, q_scaB, q_scaN, q_fnD, q_all0, q_all1, q_all2, q_all3, q_all4, q_all5, q_wipe0, q_wipe, q_start, q_eqI, q_eqX, q_eqB, q_onB, q_at0, q_at1, q_at2, q_at3, q_at4, q_tup, q_strT, q_str, q_int, q_bool, List.length_cons, List.length_nil, List.map_cons, List.map_nil, List.replicate, List.cons_append, List.nil_append, List.getD_cons_zero, List.getD_cons_succ, List.getD_nil, List.set_cons_zero, List.set_cons_succ, List.set_nil, cond_true, cond_false, Nat.reduceAdd, Nat.reduceSub, Nat.sub_self, Nat.add_one_sub_one, Bool.not_true, Bool.not_false, true_and, and_true, Bool.false_eq_true, if_false, reduceIte, q_ins e1, T.cRu, T.nRu_tables, ruF_tables, q_get e2 (show keyD (.str o) = some (.inr o) from rfl), e3]
  refine pairsOf_of (pairsD_fields t.fields) fun m hm => ?_
  refine dictAt_K oup_same (κ := .inr fl) rfl ?_
  have e4 : getE (mergeE [] (t.fields.map fun f => ((.inr f.1 : Key), PyData.int f.2))) (.inr fl) = some (.int b) := by
    rw [getE_merge, getE_fields, hb]
    · rfl
    · rw [List.map_map]
      have : ((fun f : Str × Int => (Sum.inr f.1 : Key))) = (fun x => Sum.inr x) ∘ (fun f : Str × Int => f.1) := rfl
      show (t.fields.map (fun f : Str × Int => (Sum.inr f.1 : Key))).Nodup
      rw [this, ← List.map_map]
      exact List.Pairwise.map _ (fun a b h z => h (Sum.inr.inj z)) ok.unlike
  rw [e4]
  exact ⟨al, Sub.more hm, q⟩
end
end B


set_option synthInstance.maxHeartbeats 0
set_option synthInstance.maxSize 100000
/-! plain.py: Run, a row. -/
namespace B
open PySem PySem.Spec PyProof.Rows L2
abbrev s_Run_begin : Stmt := (inClass (topS 41) 7)
theorem sc_Run_begin : FnScope ["self", "rows", "name", "many"] ["self", "rows", "name", "many"] (defScope s_Run_begin) := ⟨rfl, rfl, rfl, by decide +kernel, rfl, by decide +kernel, by decide +kernel⟩
abbrev s_Run_do_row : Stmt := (inClass (topS 41) 9)
theorem sc_Run_do_row : FnScope ["self", "row", "record", "value", "side"] ["self", "row"] (defScope s_Run_do_row) := ⟨rfl, rfl, rfl, by decide +kernel, rfl, by decide +kernel, by decide +kernel⟩
structure RTxt2 (K : PySem.W.Frag) (mg : Str → Option Value) (fb CPs CRu : Addr) : Prop extends RTxt K mg fb CPs CRu where
  m_begin : MetAt K CRu "begin" "Run.begin" s_Run_begin ["self", "rows", "name", "many"]
  m_do_row : MetAt K CRu "do_row" "Run.do_row" s_Run_do_row ["self", "row"]
section
variable {P : Program} {w : World} {K : PySem.W.Frag} {mg : Str → Option Value} {base : Heap} {fb CPs CRu : Addr}
theorem met_begin (T : RTxt2 K mg fb CPs CRu) : Met P w K mg base 1 CRu "begin" (spH K 4 fun al as Φ => ∃ (p : Prg) (R : Rx) (n : Nat) (rs : List Row) (x : Str) (many : Int), as = [.ref R.a, .dat (.tuple (Row.datas rs)), .dat (.str x), .dat (.int many)] ∧ RunAt CRu CPs p al R n ∧ n < 900000 ∧
    ∀ al' (R' : Rx), RunAt CRu CPs p al' R' (n + 2) → R'.a = R.a → R'.tl = R.tl → R'.S = R.S.set x 0 → R'.ks.map (·.f) = ⟨rs, 0, some (x, 0, many)⟩ :: R.ks.map (·.f) → Φ al' (.dat .none)) := by
  refine T.m_begin.met sc_Run_begin (fun vs H Q E h => h.1) (fun f cdv A outer s H vs Q E hr h => ?_)
  have hu := hu_of hr
  refine ⟨_, (pss_cons (ps_dput hu (pe_fldK K (by rfl) (by rfl) (pv 0)) (pv 2) pe_int rfl)
  (pss_one (ps_expr (pe_bmK K (by rfl) PySem.F.plainAttrs_list PySem.F.slot_list_append PySem.F.type_list_append mt_append (pe_fldK K (by rfl) (by rfl) (pv 0)) (pa_cons (pe_lstQ (pe_lst (pa_cons (pv 1) (pa_cons pe_int (pa_cons (pe_lstQ (pe_lst (pa_cons (pv 2) (pa_cons pe_int (pa_cons (pv 3) pa_nil))))) pa_nil))))) pa_nil))))), ?_⟩
  refine run_H h fun Γ al as Φ hg => ?_
  obtain ⟨p, R, n, rs, x, many, rfl, sc, hn, q⟩ := hg
  have e1 := sc.cells.get 0 rfl
  have e2 := sc.cells.get 3 rfl
  have g := sc.held (x := x) (v := 0) (by decide)
  have e3 := g.cells.get 0 rfl
  have e4 := g.cells.get 8 rfl
  have l1 := sc.l1
  simp only [at_mk, put_mk, know_mk, q_var, q_vdat, q_vpen, q_vown, q_vfn, q_vref, q_asD, q_asDo, q_asDa, q_aown, q_adat, q_asA, q_asAp, q_asAf, q_asAr, q_asAo, q_asAa, q_asS, q_asSo, q_asSp, q_asSf, q_asSr, q_asSa, q_asR, q_asRr, q_asRo, q_onD, q_onR, q_inOb, q_inObr, q_inObf, q_onT, q_onL, q_onI, q_onX, q_onBo, q_onTd, q_seqL, q_seqT, q_intI, q_intB, q_none, q_noneR, q_one, q_oneS, q_seeL, q_seeT, q_seeO, q_seeA, q_seeAo, q_seeAl, q_seeAt, q_srL, q_srO, q_srA, q_lenS, q_lenO, q_lenA, q_lenR, q_slL, q_slO, q_slA, q_slAo, q_slAl, q_ixR, q_ixL, q_ixO, q_ixA, q_appA, q_appAo, q_appR, q_emR, q_zipT, q_zipL, q_some, q_fn1, q_fn2, q_fn3, q_fn4, q_pn0, q_pn1, q_pn2, q_pn3, q_scaI, q_scaS, q_scaB, q_scaN, q_fnD, q_all0, q_all1, q_all2, q_all3, q_all4, q_all5, q_wipe0, q_wipe, q_start, q_eqI, q_eqX, q_eqB, q_onB, q_at0, q_at1, q_at2, q_at3, q_at4, q_tup, q_strT, q_str, q_int, q_bool, List.length_cons, List.length_nil, List.map_cons, List.map_nil, List.replicate, List.cons_append, List.nil_append, List.getD_cons_zero, List.getD_cons_succ, List.getD_nil, List.set_cons_zero, List.set_cons_succ, List.set_nil, cond_true, cond_false, Nat.reduceAdd, Nat.reduceSub, Nat.sub_self, Nat.add_one_sub_one, Bool.not_true, Bool.not_false, true_and, and_true, Bool.false_eq_true, if_false, reduceIte, q_ins e1, T.cRu, T.nRu_held, ruF_held, q_put e2 (show keyD (.str x) = some (.inr x) from rfl)]
  refine ⟨by omega, ?_⟩
  refine asIns_of e3 ⟨⟨T.cRu, T.nRu_frames⟩, ?_⟩
  show asLst _ R.fr _ ∧ _
  refine ⟨asLst_of e4 trivial, ?_⟩
  simp only [at_mk, put_mk, know_mk, q_var, q_vdat, q_vpen, q_vown, q_vfn, q_vref, q_asD, q_asDo, q_asDa, q_aown, q_adat, q_asA, q_asAp, q_asAf, q_asAr, q_asAo, q_asAa, q_asS, q_asSo, q_asSp, q_asSf, q_asSr, q_asSa, q_asR, q_asRr, q_asRo, q_onD, q_onR, q_inOb, q_inObr, q_inObf, q_onT, q_onL, q_onI, q_onX, q_onBo, q_onTd, q_seqL, q_seqT, q_intI, q_intB, q_none, q_noneR, q_one, q_oneS, q_seeL, q_seeT, q_seeO, q_seeA, q_seeAo, q_seeAl, q_seeAt, q_srL, q_srO, q_srA, q_lenS, q_lenO, q_lenA, q_lenR, q_slL, q_slO, q_slA, q_slAo, q_slAl, q_ixR, q_ixL, q_ixO, q_ixA, q_appA, q_appAo, q_appR, q_emR, q_zipT, q_zipL, q_some, q_fn1, q_fn2, q_fn3, q_fn4, q_pn0, q_pn1, q_pn2, q_pn3, q_scaI, q_scaS, q_scaB, q_scaN, q_fnD, q_all0, q_all1, q_all2, q_all3, q_all4, q_all5, q_wipe0, q_wipe, q_start, q_eqI, q_eqX, q_eqB, q_onB, q_at0, q_at1, q_at2, q_at3, q_at4, q_tup, q_strT, q_str, q_int, q_bool, List.length_cons, List.length_nil, List.map_cons, List.map_nil, List.replicate, List.cons_append, List.nil_append, List.getD_cons_zero, List.getD_cons_succ, List.getD_nil, List.set_cons_zero, List.set_cons_succ, List.set_nil, cond_true, cond_false, Nat.reduceAdd, Nat.reduceSub, Nat.sub_self, Nat.add_one_sub_one, Bool.not_true, Bool.not_false, true_and, and_true, Bool.false_eq_true, if_false, reduceIte]
  refine ⟨⟨rfl, by decide⟩, fun l hl => ⟨⟨rfl, by decide⟩, fun b hb => ?_⟩⟩
  have nl : R.fr ≠ l := al_new e4 hl
  have nb : R.fr ≠ b := al_new ((oup_ne nl).trans e4) hb
  have g2 := g.pushL (rs := rs) (x := x) (many := many) hl hb
  have l6 := sc.l6
  refine asLst_of ((oup_ne nb).trans ((oup_ne nl).trans e4)) ⟨?_, _, Sub.rfl, q _ _ g2 rfl rfl rfl rfl⟩
  show (frames R.ks).length < 1000000
  rw [frames_len]
  omega
def Row.fit (p : Prg) : Row → Prop
  | .set _ e => e.ok ∧ e.dep ≤ 3
  | .tell e => e.ok ∧ e.dep ≤ 3
  | .get _ o e _ => (e.ok ∧ e.dep ≤ 3) ∧ ∃ t, p.tab o = some t ∧ t.ok
  | .put o e f v => (e.ok ∧ e.dep ≤ 3) ∧ (v.ok ∧ v.dep ≤ 3) ∧ ∃ t b, p.tab o = some t ∧ t.ok ∧ t.fields.lookup f = some b ∧ 1 ≤ b ∧ b ≤ 8
  | .hand _ _ => False
  | .each _ o _ => ∃ t, p.tab o = some t
  | .times _ _ _ => True
  | .cond e _ _ => e.ok ∧ e.dep ≤ 3
theorem RunAt.store {CRu CPs : Addr} {p : Prg} {al : Al} {R : Rx} {n : Nat} (h : RunAt CRu CPs p al R n) : StAt CPs al R.st R.fd R.us R.fe (R.S.uses.map Sv.dat) := ⟨⟨_, h.cells.get 1 rfl⟩, h.cells.get 4 rfl, h.cells.get 5 rfl⟩
theorem met_do_row (T : RTxt2 K mg fb CPs CRu) : Met P w K mg base 7 CRu "do_row" (spH K 2 fun al as Φ => ∃ (p : Prg) (R : Rx) (n : Nat) (r : Row), as = [.ref R.a, .dat (Row.data r)] ∧ RunAt CRu CPs p al R n ∧ n < 900000 ∧ r.fit p ∧
    ∀ al' (R' : Rx), RunAt CRu CPs p al' R' (n + 2) → R'.a = R.a → R'.tl = R.tl → (⟨R'.S, 0, R'.ks.map (·.f)⟩ : Ms) = doRow p r ⟨R.S, 0, R.ks.map (·.f)⟩ → Φ al' (.dat .none)) := by
  have mt_Run_value_of := met_value_of (P := P) (w := w) (base := base) T.toRTxt 3
  have mt_Run_record_of := met_record_of (P := P) (w := w) (base := base) T.toRTxt
  have mt_Run_bits_of := met_bits_of (P := P) (w := w) (base := base) T.toRTxt
  have mt_Run_begin := met_begin (P := P) (w := w) (base := base) T
  have mt_PlainStore_get := met_get (P := P) (w := w) (base := base) T.toNTxt
  have mt_PlainStore_put := met_put (P := P) (w := w) (base := base) T.toNTxt
  refine T.m_do_row.met sc_Run_do_row (fun vs H Q E h => h.1) (fun f cdv A outer s H vs Q E hr h => ?_)
  have hu := hu_of hr
  refine ⟨_, (pss_one (ps_if (pt_cmpR op_eq (pe_ix (ix_tupK K (by rfl)) (pv 1) pe_int (fun _ _ => rfl)) pe_str (nomark _))
  (pss_one (ps_dput hu (pe_fldK K (by rfl) (by rfl) (pv 0)) (pe_ix (ix_tupK K (by rfl)) (pv 1) pe_int (fun _ _ => rfl)) (pe_mt mt_Run_value_of hr (by first | decide | omega) (pv 0) (pa_cons (pe_ix (ix_tupK K (by rfl)) (pv 1) pe_int (fun _ _ => rfl)) pa_nil)) rfl))
  (pss_one (ps_if (pt_cmpR op_eq (pe_ix (ix_tupK K (by rfl)) (pv 1) pe_int (fun _ _ => rfl)) pe_str (nomark _))
  (pss_one (ps_expr (pe_bmK K (by rfl) PySem.F.plainAttrs_list PySem.F.slot_list_append PySem.F.type_list_append mt_append (pe_fldK K (by rfl) (by rfl) (pv 0)) (pa_cons (pe_mt mt_Run_value_of hr (by first | decide | omega) (pv 0) (pa_cons (pe_ix (ix_tupK K (by rfl)) (pv 1) pe_int (fun _ _ => rfl)) pa_nil)) pa_nil))))
  (pss_one (ps_if (pt_cmpR op_eq (pe_ix (ix_tupK K (by rfl)) (pv 1) pe_int (fun _ _ => rfl)) pe_str (nomark _))
  (pss_cons (ps_set (i := 2) sc_Run_do_row.nd rfl (by first | exact .inl rfl | exact .inr rfl) (pe_mt mt_Run_record_of hr (by first | decide | omega) (pv 0) (pa_cons (pe_ix (ix_tupK K (by rfl)) (pv 1) pe_int (fun _ _ => rfl)) (pa_cons (pe_ix (ix_tupK K (by rfl)) (pv 1) pe_int (fun _ _ => rfl)) pa_nil))))
  (pss_one (ps_dput hu (pe_fldK K (by rfl) (by rfl) (pv 0)) (pe_ix (ix_tupK K (by rfl)) (pv 1) pe_int (fun _ _ => rfl)) (pe_mt mt_PlainStore_get hr (by first | decide | omega) (pe_fldK K (by rfl) (by rfl) (pv 0)) (pa_cons (pe_tupZ (pa_cons (pe_ix (ix_tupK K (by rfl)) (pv 1) pe_int (fun _ _ => rfl)) (pa_cons (pv 2) (pa_cons (pe_ix (ix_tupK K (by rfl)) (pv 1) pe_int (fun _ _ => rfl)) pa_nil)))) pa_nil)) rfl)))
  (pss_one (ps_if (pt_cmpR op_eq (pe_ix (ix_tupK K (by rfl)) (pv 1) pe_int (fun _ _ => rfl)) pe_str (nomark _))
  (pss_cons (ps_set (i := 2) sc_Run_do_row.nd rfl (by first | exact .inl rfl | exact .inr rfl) (pe_mt mt_Run_record_of hr (by first | decide | omega) (pv 0) (pa_cons (pe_ix (ix_tupK K (by rfl)) (pv 1) pe_int (fun _ _ => rfl)) (pa_cons (pe_ix (ix_tupK K (by rfl)) (pv 1) pe_int (fun _ _ => rfl)) pa_nil))))
  (pss_cons (ps_set (i := 3) sc_Run_do_row.nd rfl (by first | exact .inl rfl | exact .inr rfl) (pe_op op_mod (pe_mt mt_Run_value_of hr (by first | decide | omega) (pv 0) (pa_cons (pe_ix (ix_tupK K (by rfl)) (pv 1) pe_int (fun _ _ => rfl)) pa_nil)) (pe_op op_shl pe_int (pe_mt mt_Run_bits_of hr (by first | decide | omega) (pv 0) (pa_cons (pe_ix (ix_tupK K (by rfl)) (pv 1) pe_int (fun _ _ => rfl)) (pa_cons (pe_ix (ix_tupK K (by rfl)) (pv 1) pe_int (fun _ _ => rfl)) pa_nil))))))
  (pss_one (ps_expr (pe_mt mt_PlainStore_put hr (by first | decide | omega) (pe_fldK K (by rfl) (by rfl) (pv 0)) (pa_cons (pe_tupZ (pa_cons (pe_ix (ix_tupK K (by rfl)) (pv 1) pe_int (fun _ _ => rfl)) (pa_cons (pv 2) (pa_cons (pe_ix (ix_tupK K (by rfl)) (pv 1) pe_int (fun _ _ => rfl)) pa_nil)))) (pa_cons (pv 3) pa_nil)))))))
  (pss_one (ps_if (pt_cmpR op_eq (pe_ix (ix_tupK K (by rfl)) (pv 1) pe_int (fun _ _ => rfl)) pe_str (nomark _))
  (pss_one ps_never)
  (pss_one (ps_if (pt_cmpR op_eq (pe_ix (ix_tupK K (by rfl)) (pv 1) pe_int (fun _ _ => rfl)) pe_str (nomark _))
  (pss_one (ps_expr (pe_mt mt_Run_begin hr (by first | decide | omega) (pv 0) (pa_cons (pe_ix (ix_tupK K (by rfl)) (pv 1) pe_int (fun _ _ => rfl)) (pa_cons (pe_ix (ix_tupK K (by rfl)) (pv 1) pe_int (fun _ _ => rfl)) (pa_cons (pe_ix (ix_tupK K (by rfl)) (pe_dget hu (pe_fldK K (by rfl) (by rfl) (pv 0)) (pe_ix (ix_tupK K (by rfl)) (pv 1) pe_int (fun _ _ => rfl)) (fun _ _ => rfl)) pe_int (fun _ _ => rfl)) pa_nil))))))
  (pss_one (ps_if (pt_cmpR op_eq (pe_ix (ix_tupK K (by rfl)) (pv 1) pe_int (fun _ _ => rfl)) pe_str (nomark _))
  (pss_one (ps_expr (pe_mt mt_Run_begin hr (by first | decide | omega) (pv 0) (pa_cons (pe_ix (ix_tupK K (by rfl)) (pv 1) pe_int (fun _ _ => rfl)) (pa_cons (pe_ix (ix_tupK K (by rfl)) (pv 1) pe_int (fun _ _ => rfl)) (pa_cons (pe_ix (ix_tupK K (by rfl)) (pv 1) pe_int (fun _ _ => rfl)) pa_nil))))))
  (pss_cons (ps_set (i := 4) sc_Run_do_row.nd rfl (by first | exact .inl rfl | exact .inr rfl) (pe_ifExp (pt_cmpR op_ne (pe_mt mt_Run_value_of hr (by first | decide | omega) (pv 0) (pa_cons (pe_ix (ix_tupK K (by rfl)) (pv 1) pe_int (fun _ _ => rfl)) pa_nil)) pe_int (nomark _)) (pe_ix (ix_tupK K (by rfl)) (pv 1) pe_int (fun _ _ => rfl)) (pe_ix (ix_tupK K (by rfl)) (pv 1) pe_int (fun _ _ => rfl))))
  (pss_one (ps_expr (pe_bmK K (by rfl) PySem.F.plainAttrs_list PySem.F.slot_list_append PySem.F.type_list_append mt_append (pe_fldK K (by rfl) (by rfl) (pv 0)) (pa_cons (pe_lstQ (pe_lst (pa_cons (pv 4) (pa_cons pe_int (pa_cons pe_non pa_nil))))) pa_nil))))))))))))))))))), ?_⟩
  refine run_H h fun Γ al as Φ hg => ?_
  obtain ⟨p, R, n, r, rfl, sc, hn, ft, q⟩ := hg
  have e1 := sc.cells.get 0 rfl
  have l1 := sc.l1
  have l2 := sc.l2
  have l3 := sc.l3
  have l4 := sc.l4
  have l6 := sc.l6
  cases r with
  | set x e =>
    simp only [at_mk, put_mk, know_mk, q_var, q_vdat, q_vpen, q_vown, q_vfn, q_vref, q_asD, q_asDo, q_asDa, q_aown, q_adat, q_asA, q_asAp, q_asAf, q_asAr, q_asAo, q_asAa, q_asS, q_asSo, q_asSp, q_asSf, q_asSr, q_asSa, q_asR, q_asRr, q_asRo, q_onD, q_onR, q_inOb, q_inObr, q_inObf, q_onT, q_onL, q_onI, q_onX, q_onBo, q_onTd, q_seqL, q_seqT, q_intI, q_intB, q_none, q_noneR, q_one, q_oneS, q_seeL, q_seeT, q_seeO, q_seeA, q_seeAo, q_seeAl, q_seeAt, q_srL, q_srO, q_srA, q_lenS, q_lenO, q_lenA, q_lenR, q_slL, q_slO, q_slA, q_slAo, q_slAl, q_ixR, q_ixL, q_ixO, q_ixA, q_appA, q_appAo, q_appR, q_emR, q_zipT, q_zipL, q_some, q_fn1, q_fn2, q_fn3, q_fn4, q_pn0, q_pn1, q_pn2, q_pn3, q_scaI, q_scaS, q_scaB, q_scaN, q_fnD, q_all0, q_all1, q_all2, q_all3, q_all4, q_all5, q_wipe0, q_wipe, q_start, q_eqI, q_eqX, q_eqB, q_onB, q_at0, q_at1, q_at2, q_at3, q_at4, q_tup, q_strT, q_str, q_int, q_bool, List.length_cons, List.length_nil, List.map_cons, List.map_nil, List.replicate, List.cons_append, List.nil_append, List.getD_cons_zero, List.getD_cons_succ, List.getD_nil, List.set_cons_zero, List.set_cons_succ, List.set_nil, cond_true, cond_false, Nat.reduceAdd, Nat.reduceSub, Nat.sub_self, Nat.add_one_sub_one, Bool.not_true, Bool.not_false, true_and, and_true, Bool.false_eq_true, if_false, reduceIte, Row.data, w_set_set, q_ins e1, decide_true]
    have e2 := sc.cells.get 3 rfl
    refine ⟨rfl, p, R, n, e, rfl, sc, ft.1, ft.2, ⟨T.cRu, T.nRu_held⟩, ?_⟩
    rw [ruF_held, q_inObr, q_onR]
    exact dictPut_K e2 rfl (by omega) ⟨_, Sub.rfl, q _ _ ((sc.held (Ex.val_ok sc.env ft.1)).mono (by omega)) rfl rfl rfl⟩
  | tell e =>
    simp only [at_mk, put_mk, know_mk, q_var, q_vdat, q_vpen, q_vown, q_vfn, q_vref, q_asD, q_asDo, q_asDa, q_aown, q_adat, q_asA, q_asAp, q_asAf, q_asAr, q_asAo, q_asAa, q_asS, q_asSo, q_asSp, q_asSf, q_asSr, q_asSa, q_asR, q_asRr, q_asRo, q_onD, q_onR, q_inOb, q_inObr, q_inObf, q_onT, q_onL, q_onI, q_onX, q_onBo, q_onTd, q_seqL, q_seqT, q_intI, q_intB, q_none, q_noneR, q_one, q_oneS, q_seeL, q_seeT, q_seeO, q_seeA, q_seeAo, q_seeAl, q_seeAt, q_srL, q_srO, q_srA, q_lenS, q_lenO, q_lenA, q_lenR, q_slL, q_slO, q_slA, q_slAo, q_slAl, q_ixR, q_ixL, q_ixO, q_ixA, q_appA, q_appAo, q_appR, q_emR, q_zipT, q_zipL, q_some, q_fn1, q_fn2, q_fn3, q_fn4, q_pn0, q_pn1, q_pn2, q_pn3, q_scaI, q_scaS, q_scaB, q_scaN, q_fnD, q_all0, q_all1, q_all2, q_all3, q_all4, q_all5, q_wipe0, q_wipe, q_start, q_eqI, q_eqX, q_eqB, q_onB, q_at0, q_at1, q_at2, q_at3, q_at4, q_tup, q_strT, q_str, q_int, q_bool, List.length_cons, List.length_nil, List.map_cons, List.map_nil, List.replicate, List.cons_append, List.nil_append, List.getD_cons_zero, List.getD_cons_succ, List.getD_nil, List.set_cons_zero, List.set_cons_succ, List.set_nil, cond_true, cond_false, Nat.reduceAdd, Nat.reduceSub, Nat.sub_self, Nat.add_one_sub_one, Bool.not_true, Bool.not_false, true_and, and_true, Bool.false_eq_true, if_false, reduceIte, Row.data, w_tell_set, w_tell_tell, q_ins e1, decide_true, T.cRu, T.nRu_said, ruF_said]
    have e2 := sc.cells.get 6 rfl
    have l4' : (saidS R.S.said).length < 1000000 := by unfold saidS; rw [List.length_map]; omega
    refine ⟨asLst_of e2 trivial, rfl, p, R, n, e, rfl, sc, ft.1, ft.2, ?_⟩
    show asLst al R.sd _
    exact asLst_of e2 ⟨l4', _, Sub.rfl, q _ _ ((sc.told).mono (by omega)) rfl rfl rfl⟩
  | get x o e f =>
    simp only [at_mk, put_mk, know_mk, q_var, q_vdat, q_vpen, q_vown, q_vfn, q_vref, q_asD, q_asDo, q_asDa, q_aown, q_adat, q_asA, q_asAp, q_asAf, q_asAr, q_asAo, q_asAa, q_asS, q_asSo, q_asSp, q_asSf, q_asSr, q_asSa, q_asR, q_asRr, q_asRo, q_onD, q_onR, q_inOb, q_inObr, q_inObf, q_onT, q_onL, q_onI, q_onX, q_onBo, q_onTd, q_seqL, q_seqT, q_intI, q_intB, q_none, q_noneR, q_one, q_oneS, q_seeL, q_seeT, q_seeO, q_seeA, q_seeAo, q_seeAl, q_seeAt, q_srL, q_srO, q_srA, q_lenS, q_lenO, q_lenA, q_lenR, q_slL, q_slO, q_slA, q_slAo, q_slAl, q_ixR, q_ixL, q_ixO, q_ixA, q_appA, q_appAo, q_appR, q_emR, q_zipT, q_zipL, q_some, q_fn1, q_fn2, q_fn3, q_fn4, q_pn0, q_pn1, q_pn2, q_pn3, q_scaI, q_scaS, q_scaB, q_scaN, q_fnD, q_all0, q_all1, q_all2, q_all3, q_all4, q_all5, q_wipe0, q_wipe, q_start, q_eqI, q_eqX, q_eqB, q_onB, q_at0, q_at1, q_at2, q_at3, q_at4, q_tup, q_strT, q_str, q_int, q_bool, List.length_cons, List.length_nil, List.map_cons, List.map_nil, List.replicate, List.cons_append, List.nil_append, List.getD_cons_zero, List.getD_cons_succ, List.getD_nil, List.set_cons_zero, List.set_cons_succ, List.set_nil, cond_true, cond_false, Nat.reduceAdd, Nat.reduceSub, Nat.sub_self, Nat.add_one_sub_one, Bool.not_true, Bool.not_false, true_and, and_true, Bool.false_eq_true, if_false, reduceIte, Row.data, w_get_set, w_get_tell, w_get_get, q_ins e1, decide_true]
    obtain ⟨⟨ok, hd⟩, t, ht, tok⟩ := ft
    have hm : p.many o = t.many := by unfold Prg.many; rw [ht]; rfl
    have e2 := sc.cells.get 1 rfl
    have g := sc.used (u := useD "get" o (e.val R.S.env % t.many) f)
    have l3' : (R.S.uses.map Sv.dat).length < 1000000 := by rw [List.length_map]; omega
    have ev := sc.fe o (e.val R.S.env % t.many) f
    unfold valE at ev
    refine ⟨rfl, p, R, n, e, o, t, rfl, sc, ok, hd, ht, tok.many.1, ⟨T.cRu, T.nRu_store⟩, ?_⟩
    show asIns al R.st _
    refine asIns_of e2 ⟨⟨rfl, rfl⟩, by decide, R.st, R.fd, R.us, R.fe, _, o, _, f, rfl, sc.store, l3', ?_⟩
    rw [ev]
    refine asIns_of (g.cells.get 0 rfl) ⟨⟨T.cRu, T.nRu_held⟩, ?_⟩
    rw [ruF_held, q_inObr, q_onR]
    refine dictPut_K (g.cells.get 3 rfl) rfl (by show R.he.length < _; omega) ⟨_, Sub.rfl, q _ _ (g.held (sc.fld ..)) rfl rfl ?_⟩
    simp only [doRow, runRow, hm]
  | put o e f v =>
    simp only [at_mk, put_mk, know_mk, q_var, q_vdat, q_vpen, q_vown, q_vfn, q_vref, q_asD, q_asDo, q_asDa, q_aown, q_adat, q_asA, q_asAp, q_asAf, q_asAr, q_asAo, q_asAa, q_asS, q_asSo, q_asSp, q_asSf, q_asSr, q_asSa, q_asR, q_asRr, q_asRo, q_onD, q_onR, q_inOb, q_inObr, q_inObf, q_onT, q_onL, q_onI, q_onX, q_onBo, q_onTd, q_seqL, q_seqT, q_intI, q_intB, q_none, q_noneR, q_one, q_oneS, q_seeL, q_seeT, q_seeO, q_seeA, q_seeAo, q_seeAl, q_seeAt, q_srL, q_srO, q_srA, q_lenS, q_lenO, q_lenA, q_lenR, q_slL, q_slO, q_slA, q_slAo, q_slAl, q_ixR, q_ixL, q_ixO, q_ixA, q_appA, q_appAo, q_appR, q_emR, q_zipT, q_zipL, q_some, q_fn1, q_fn2, q_fn3, q_fn4, q_pn0, q_pn1, q_pn2, q_pn3, q_scaI, q_scaS, q_scaB, q_scaN, q_fnD, q_all0, q_all1, q_all2, q_all3, q_all4, q_all5, q_wipe0, q_wipe, q_start, q_eqI, q_eqX, q_eqB, q_onB, q_at0, q_at1, q_at2, q_at3, q_at4, q_tup, q_strT, q_str, q_int, q_bool, List.length_cons, List.length_nil, List.map_cons, List.map_nil, List.replicate, List.cons_append, List.nil_append, List.getD_cons_zero, List.getD_cons_succ, List.getD_nil, List.set_cons_zero, List.set_cons_succ, List.set_nil, cond_true, cond_false, Nat.reduceAdd, Nat.reduceSub, Nat.sub_self, Nat.add_one_sub_one, Bool.not_true, Bool.not_false, true_and, and_true, Bool.false_eq_true, if_false, reduceIte, Row.data, w_put_set, w_put_tell, w_put_get, w_put_put, q_ins e1, decide_true]
    obtain ⟨⟨ok, hd⟩, ⟨ok2, hd2⟩, t, b, ht, tok, hb, b1, b8⟩ := ft
    have hm : p.many o = t.many := by unfold Prg.many; rw [ht]; rfl
    have hbt : p.bits o f = b := by unfold Prg.bits; rw [ht]; show (t.fields.lookup f).getD 1 = b; rw [hb]; rfl
    have e2 := sc.cells.get 1 rfl
    have l3' : (R.S.uses.map Sv.dat).length < 1000000 := by rw [List.length_map]; omega
    refine ⟨rfl, p, R, n, e, o, t, rfl, sc, ok, hd, ht, tok.many.1, rfl, p, R, n, v, rfl, sc, ok2, hd2, rfl, p, R, n, o, f, t, b, rfl, sc, ht, tok, hb, ?_⟩
    have hp0 : (0 : Int) < 2 ^ b.toNat := Int.pow_pos (by decide)
    have hv := Ex.val_ok sc.env ok2
    have hv2 : 0 ≤ v.val R.S.env % 2 ^ b.toNat ∧ v.val R.S.env % 2 ^ b.toNat ≤ 255 := by
      refine ⟨Int.emod_nonneg _ (by omega), ?_⟩
      by_cases hlt : v.val R.S.env < 2 ^ b.toNat
      · rw [Int.emod_eq_of_lt hv.1 hlt]; exact hv.2
      · have := Int.emod_lt_of_pos (v.val R.S.env) hp0; omega
    have g := sc.putF (t := o) (r := e.val R.S.env % t.many) (f := f) hv2
    rw [Int.one_mul]
    refine ⟨⟨by omega, by omega, by decide⟩, hp0, ⟨T.cRu, T.nRu_store⟩, ?_⟩
    show asIns al R.st _
    refine asIns_of e2 ⟨⟨rfl, rfl⟩, by decide, R.st, R.fd, R.us, R.fe, _, o, _, f, _, rfl, sc.store, l3', by omega, _, Sub.rfl, q _ _ (g.mono (by omega)) rfl rfl ?_⟩
    simp only [doRow, runRow, hm, hbt]
  | hand o e => exact ft.elim
  | each x o rs =>
    obtain ⟨t, ht⟩ := ft
    have hm : p.many o = t.many := by unfold Prg.many; rw [ht]; rfl
    simp only [at_mk, put_mk, know_mk, q_var, q_vdat, q_vpen, q_vown, q_vfn, q_vref, q_asD, q_asDo, q_asDa, q_aown, q_adat, q_asA, q_asAp, q_asAf, q_asAr, q_asAo, q_asAa, q_asS, q_asSo, q_asSp, q_asSf, q_asSr, q_asSa, q_asR, q_asRr, q_asRo, q_onD, q_onR, q_inOb, q_inObr, q_inObf, q_onT, q_onL, q_onI, q_onX, q_onBo, q_onTd, q_seqL, q_seqT, q_intI, q_intB, q_none, q_noneR, q_one, q_oneS, q_seeL, q_seeT, q_seeO, q_seeA, q_seeAo, q_seeAl, q_seeAt, q_srL, q_srO, q_srA, q_lenS, q_lenO, q_lenA, q_lenR, q_slL, q_slO, q_slA, q_slAo, q_slAl, q_ixR, q_ixL, q_ixO, q_ixA, q_appA, q_appAo, q_appR, q_emR, q_zipT, q_zipL, q_some, q_fn1, q_fn2, q_fn3, q_fn4, q_pn0, q_pn1, q_pn2, q_pn3, q_scaI, q_scaS, q_scaB, q_scaN, q_fnD, q_all0, q_all1, q_all2, q_all3, q_all4, q_all5, q_wipe0, q_wipe, q_start, q_eqI, q_eqX, q_eqB, q_onB, q_at0, q_at1, q_at2, q_at3, q_at4, q_tup, q_strT, q_str, q_int, q_bool, List.length_cons, List.length_nil, List.map_cons, List.map_nil, List.replicate, List.cons_append, List.nil_append, List.getD_cons_zero, List.getD_cons_succ, List.getD_nil, List.set_cons_zero, List.set_cons_succ, List.set_nil, cond_true, cond_false, Nat.reduceAdd, Nat.reduceSub, Nat.sub_self, Nat.add_one_sub_one, Bool.not_true, Bool.not_false, true_and, and_true, Bool.false_eq_true, if_false, reduceIte, Row.data, w_each_set, w_each_tell, w_each_get, w_each_put, w_each_hand, w_each_each, q_ins e1, decide_true, T.cRu, T.nRu_tables, ruF_tables, q_get (sc.cells.get 2 rfl) (show keyD (.str o) = some (.inr o) from rfl), sc.te o _ ht]
    refine ⟨rfl, p, R, n, rs, x, t.many, rfl, sc, hn, fun al' R' h1 h2 h3 h4 h5 => ⟨_, Sub.rfl, q al' R' h1 h2 h3 ?_⟩⟩
    simp only [doRow, hm, h4, h5]
  | times x m rs =>
    simp only [at_mk, put_mk, know_mk, q_var, q_vdat, q_vpen, q_vown, q_vfn, q_vref, q_asD, q_asDo, q_asDa, q_aown, q_adat, q_asA, q_asAp, q_asAf, q_asAr, q_asAo, q_asAa, q_asS, q_asSo, q_asSp, q_asSf, q_asSr, q_asSa, q_asR, q_asRr, q_asRo, q_onD, q_onR, q_inOb, q_inObr, q_inObf, q_onT, q_onL, q_onI, q_onX, q_onBo, q_onTd, q_seqL, q_seqT, q_intI, q_intB, q_none, q_noneR, q_one, q_oneS, q_seeL, q_seeT, q_seeO, q_seeA, q_seeAo, q_seeAl, q_seeAt, q_srL, q_srO, q_srA, q_lenS, q_lenO, q_lenA, q_lenR, q_slL, q_slO, q_slA, q_slAo, q_slAl, q_ixR, q_ixL, q_ixO, q_ixA, q_appA, q_appAo, q_appR, q_emR, q_zipT, q_zipL, q_some, q_fn1, q_fn2, q_fn3, q_fn4, q_pn0, q_pn1, q_pn2, q_pn3, q_scaI, q_scaS, q_scaB, q_scaN, q_fnD, q_all0, q_all1, q_all2, q_all3, q_all4, q_all5, q_wipe0, q_wipe, q_start, q_eqI, q_eqX, q_eqB, q_onB, q_at0, q_at1, q_at2, q_at3, q_at4, q_tup, q_strT, q_str, q_int, q_bool, List.length_cons, List.length_nil, List.map_cons, List.map_nil, List.replicate, List.cons_append, List.nil_append, List.getD_cons_zero, List.getD_cons_succ, List.getD_nil, List.set_cons_zero, List.set_cons_succ, List.set_nil, cond_true, cond_false, Nat.reduceAdd, Nat.reduceSub, Nat.sub_self, Nat.add_one_sub_one, Bool.not_true, Bool.not_false, true_and, and_true, Bool.false_eq_true, if_false, reduceIte, Row.data, w_times_set, w_times_tell, w_times_get, w_times_put, w_times_hand, w_times_each, w_times_times, q_ins e1, decide_true]
    refine ⟨rfl, p, R, n, rs, x, m, rfl, sc, hn, fun al' R' h1 h2 h3 h4 h5 => ⟨_, Sub.rfl, q al' R' h1 h2 h3 ?_⟩⟩
    simp only [doRow, h4, h5]
  | cond e rs us =>
    simp only [at_mk, put_mk, know_mk, q_var, q_vdat, q_vpen, q_vown, q_vfn, q_vref, q_asD, q_asDo, q_asDa, q_aown, q_adat, q_asA, q_asAp, q_asAf, q_asAr, q_asAo, q_asAa, q_asS, q_asSo, q_asSp, q_asSf, q_asSr, q_asSa, q_asR, q_asRr, q_asRo, q_onD, q_onR, q_inOb, q_inObr, q_inObf, q_onT, q_onL, q_onI, q_onX, q_onBo, q_onTd, q_seqL, q_seqT, q_intI, q_intB, q_none, q_noneR, q_one, q_oneS, q_seeL, q_seeT, q_seeO, q_seeA, q_seeAo, q_seeAl, q_seeAt, q_srL, q_srO, q_srA, q_lenS, q_lenO, q_lenA, q_lenR, q_slL, q_slO, q_slA, q_slAo, q_slAl, q_ixR, q_ixL, q_ixO, q_ixA, q_appA, q_appAo, q_appR, q_emR, q_zipT, q_zipL, q_some, q_fn1, q_fn2, q_fn3, q_fn4, q_pn0, q_pn1, q_pn2, q_pn3, q_scaI, q_scaS, q_scaB, q_scaN, q_fnD, q_all0, q_all1, q_all2, q_all3, q_all4, q_all5, q_wipe0, q_wipe, q_start, q_eqI, q_eqX, q_eqB, q_onB, q_at0, q_at1, q_at2, q_at3, q_at4, q_tup, q_strT, q_str, q_int, q_bool, List.length_cons, List.length_nil, List.map_cons, List.map_nil, List.replicate, List.cons_append, List.nil_append, List.getD_cons_zero, List.getD_cons_succ, List.getD_nil, List.set_cons_zero, List.set_cons_succ, List.set_nil, cond_true, cond_false, Nat.reduceAdd, Nat.reduceSub, Nat.sub_self, Nat.add_one_sub_one, Bool.not_true, Bool.not_false, true_and, and_true, Bool.false_eq_true, if_false, reduceIte, Row.data, w_when_set, w_when_tell, w_when_get, w_when_put, w_when_hand, w_when_each, w_when_times, q_ins e1, decide_true, T.cRu, T.nRu_frames, ruF_frames]
    have e2 := sc.cells.get 8 rfl
    have l6' : (frames R.ks).length < 1000000 := by rw [frames_len]; omega
    refine ⟨rfl, p, R, n, e, rfl, sc, ft.1, ft.2, ?_⟩
    by_cases h0 : e.val R.S.env = 0
    · rw [decide_eq_true h0]
      refine ⟨asLst_of e2 trivial, ⟨rfl, by decide⟩, fun b hb => ?_⟩
      have g := sc.push (rs := us) hb
      have ne : R.fr ≠ b := al_new e2 hb
      show asLst _ R.fr _
      refine asLst_of ((oup_ne ne).trans e2) ⟨l6', _, Sub.rfl, q _ _ (g.mono (by omega)) rfl rfl ?_⟩
      simp only [doRow, h0, ne_eq, not_true_eq_false, if_false, List.map_cons]
    · rw [decide_eq_false h0]
      refine ⟨asLst_of e2 trivial, ⟨rfl, by decide⟩, fun b hb => ?_⟩
      have g := sc.push (rs := rs) hb
      have ne : R.fr ≠ b := al_new e2 hb
      show asLst _ R.fr _
      refine asLst_of ((oup_ne ne).trans e2) ⟨l6', _, Sub.rfl, q _ _ (g.mono (by omega)) rfl rfl ?_⟩
      simp only [doRow, ne_eq, h0, not_false_eq_true, if_true, List.map_cons]
end
end B


set_option synthInstance.maxHeartbeats 0
set_option synthInstance.maxSize 100000
/-! plain.py: Run, a step. -/
namespace B
open PySem PySem.Spec PyProof.Rows L2
theorem pe_mt0 {X : Cx} {k j : Nat} {C : Addr} {m : Str} {sp : Sp} {pos apos : Pos} {o : Expr} {ta : TE} {pl : Sem Bool} (c : Met X.prog X.w X.K X.mg X.base k C m sp) (hr : Room j X.A) (hk : k ≤ j) (he : PE X o ta)
    (ht : eval (.Call (.Attribute o m apos) [] [] pos) X.env = (do
      let ov ← eval o X.env
      standAt apos.atName
      let (f, first) ← holding [ov] (getMethod ov m pl)
      callWith pos f first (backTo pos (starEach [] X.env)) (backToKw pos (keywordEach [] X.env))) := by rfl) :
    PE X (.Call (.Attribute o m apos) [] [] pos) (tMeth C m sp [] E0 ta tNil) := by
  obtain ⟨f, fd, ps, hc, hm, F, b⟩ := c.ex
  exact pe_meth0 (pl := pl) he hc hm F (hr.mono hk) b .nil pass0 ht
abbrev s_Run_do_step : Stmt := (inClass (topS 41) 10)
theorem sc_Run_do_step : FnScope ["self", "frame", "rows", "at", "loop"] ["self"] (defScope s_Run_do_step) := ⟨rfl, rfl, rfl, by decide +kernel, rfl, by decide +kernel, by decide +kernel⟩
structure RTxt3 (K : PySem.W.Frag) (mg : Str → Option Value) (fb CPs CRu : Addr) : Prop extends RTxt2 K mg fb CPs CRu where
  m_do_step : MetAt K CRu "do_step" "Run.do_step" s_Run_do_step ["self"]
  z_len' : mg "len" = none
theorem setS_1 {sl : List (Option Sv)} {al : Al} {b : Addr} {u v z : Sv} {d : PyData} {k : Dn → Prop} (e : al b = some (.lst [u, v, z])) (h : k ⟨sl, oup al b (.lst [u, .dat d, z])⟩) : setS b 1 (.dat d) ⟨sl, al⟩ k := by
  unfold setS
  exact asLst_of e h
theorem step_row {p : Prg} {S : Rs} {f : Fra} {fs : List Fra} {r : Row} (er : f.rows[f.pos]? = some r) : (stepM p ⟨S, 0, f :: fs⟩).S = (doRow p r ⟨S, 0, { f with pos := f.pos + 1 } :: fs⟩).S ∧ (stepM p ⟨S, 0, f :: fs⟩).stack = settle (doRow p r ⟨S, 0, { f with pos := f.pos + 1 } :: fs⟩).stack := by
  constructor <;> simp only [stepM, er]
theorem step_turn {p : Prg} {S : Rs} {f : Fra} {fs : List Fra} {x : Str} {num many : Int} (er : f.rows[f.pos]? = none) (hl : f.loop = some (x, num, many)) : (stepM p ⟨S, 0, f :: fs⟩).S = S.set x (num + 1) ∧ (stepM p ⟨S, 0, f :: fs⟩).stack = settle ({ f with pos := 0, loop := some (x, num + 1, many) } :: fs) := by
  constructor <;> simp only [stepM, er, hl]
section
variable {P : Program} {w : World} {K : PySem.W.Frag} {mg : Str → Option Value} {base : Heap} {fb CPs CRu : Addr}
/-- the top frame has something to do, which the model covers -/
structure TopOk (p : Prg) (f : Fra) : Prop where
  ok : f.Ok
  nl : f.left = false
  fit : ∀ r ∈ f.rows, r.fit p
  num : ∀ x num many, f.loop = some (x, num, many) → 0 ≤ num ∧ many ≤ 255
theorem met_do_step (T : RTxt3 K mg fb CPs CRu) : Met P w K mg base 8 CRu "do_step" (spH K 1 fun al as Φ => ∃ (p : Prg) (R : Rx) (n : Nat), as = [.ref R.a] ∧ RunAt CRu CPs p al R n ∧ n < 900000 ∧ (∀ k ks, R.ks = k :: ks → TopOk p k.f) ∧
    (R.ks = [] → Φ al (.dat (.bool false))) ∧ (R.ks ≠ [] → ∀ al' (R' : Rx), RunAt CRu CPs p al' R' (n + 4) → R'.a = R.a → R'.S = (stepM p ⟨R.S, 0, R.ks.map (·.f)⟩).S → R'.ks.map (·.f) = (stepM p ⟨R.S, 0, R.ks.map (·.f)⟩).stack → Φ al' (.dat (.bool true)))) := by
  have mt_Run_settle := met_settle (P := P) (w := w) (base := base) T.toRTxt
  have mt_Run_do_row := met_do_row (P := P) (w := w) (base := base) T.toRTxt2
  refine T.m_do_step.met sc_Run_do_step (fun vs H Q E h => h.1) (fun f cdv A outer s H vs Q E hr h => ?_)
  have hu := hu_of hr
  refine ⟨_, (pss_cons (ps_if (pt_cmpR (op_eq0K K (by rfl) hr.units0) (pe_fldK K (by rfl) (by rfl) (pv 0)) (pe_lst pa_nil) (nomark _))
  (pss_one (ps_ret pe_bl))
  pss_nil)
  (pss_cons (ps_set (i := 1) sc_Run_do_step.nd rfl (by first | exact .inl rfl | exact .inr rfl) (pe_ix (ix_listK K (by rfl)) (pe_fldK K (by rfl) (by rfl) (pv 0)) (pe_un un_neg pe_int) (fun _ _ => rfl)))
  (pss_cons (ps_asg (pv 1) (pg_unlK K (n := 3) (by rfl) (by rfl) (pgs_consX (by rfl) (pg_nameX 2 sc_Run_do_step.nd rfl (by first | exact .inl rfl | exact .inr rfl) (by first | exact .inr rfl | exact .inl rfl)) (pgs_consX (by rfl) (pg_nameX 3 sc_Run_do_step.nd rfl (by first | exact .inl rfl | exact .inr rfl) (by first | exact .inr rfl | exact .inl rfl)) (pgs_consX (by rfl) (pg_nameX 4 sc_Run_do_step.nd rfl (by first | exact .inl rfl | exact .inr rfl) (by first | exact .inr rfl | exact .inl rfl)) pgs_nil))) (by rfl) (by rfl)))
  (pss_cons (ps_if (pt_cmpR op_lt (pv 3) (pe_callB (call_lenK K (by rfl)) (by rfl) T.z_len bt_len (pa_cons (pv 2) pa_nil)) (nomark _))
  (pss_cons (ps_asg (pe_op op_add (pv 3) pe_int) (pg_sub (pv 1) pe_int set_list))
  (pss_one (ps_expr (pe_mt mt_Run_do_row hr (by first | decide | omega) (pv 0) (pa_cons (pe_ix (ix_tupK K (by rfl)) (pv 2) (pv 3) (fun _ _ => rfl)) pa_nil)))))
  (pss_cons (ps_augS (pv 4) pe_int (pget_listK K (by rfl)) pe_int ip_add set_list)
  (pss_cons (ps_asg pe_int (pg_sub (pv 1) pe_int set_list))
  (pss_one (ps_dput hu (pe_fldK K (by rfl) (by rfl) (pv 0)) (pe_ix (ix_listK K (by rfl)) (pv 4) pe_int (fun _ _ => rfl)) (pe_ix (ix_listK K (by rfl)) (pv 4) pe_int (fun _ _ => rfl)) rfl)))))
  (pss_cons (ps_expr (pe_bmK K (by rfl) PySem.F.plainAttrs_list PySem.F.slot_list_append PySem.F.type_list_append mt_append (pe_fldK K (by rfl) (by rfl) (pv 0)) (pa_cons (pv 2) pa_nil)))
  (pss_cons (ps_expr (pe_mt0 mt_Run_settle hr (by first | decide | omega) (pv 0)))
  (pss_one (ps_ret pe_bl)))))))), ?_⟩
  refine run_H h fun Γ al as Φ hg => ?_
  obtain ⟨p, R, n, rfl, sc, hn, tk, q1, q2⟩ := hg
  have e1 := sc.cells.get 0 rfl
  have e2 := sc.cells.get 8 rfl
  have l5 := sc.l5
  cases hk : R.ks with
  | nil =>
    rw [hk] at e2
    have ef : (frames []).isEmpty = true := rfl
    simp only [at_mk, put_mk, know_mk, q_var, q_vdat, q_vpen, q_vown, q_vfn, q_vref, q_asD, q_asDo, q_asDa, q_aown, q_adat, q_asA, q_asAp, q_asAf, q_asAr, q_asAo, q_asAa, q_asS, q_asSo, q_asSp, q_asSf, q_asSr, q_asSa, q_asR, q_asRr, q_asRo, q_onD, q_onR, q_inOb, q_inObr, q_inObf, q_onT, q_onL, q_onI, q_onX, q_onBo, q_onTd, q_seqL, q_seqT, q_intI, q_intB, q_none, q_noneR, q_one, q_oneS, q_seeL, q_seeT, q_seeO, q_seeA, q_seeAo, q_seeAl, q_seeAt, q_srL, q_srO, q_srA, q_lenS, q_lenO, q_lenA, q_lenR, q_slL, q_slO, q_slA, q_slAo, q_slAl, q_ixR, q_ixL, q_ixO, q_ixA, q_appA, q_appAo, q_appR, q_emR, q_zipT, q_zipL, q_some, q_fn1, q_fn2, q_fn3, q_fn4, q_pn0, q_pn1, q_pn2, q_pn3, q_scaI, q_scaS, q_scaB, q_scaN, q_fnD, q_all0, q_all1, q_all2, q_all3, q_all4, q_all5, q_wipe0, q_wipe, q_start, q_eqI, q_eqX, q_eqB, q_onB, q_at0, q_at1, q_at2, q_at3, q_at4, q_tup, q_strT, q_str, q_int, q_bool, List.length_cons, List.length_nil, List.map_cons, List.map_nil, List.replicate, List.cons_append, List.nil_append, List.getD_cons_zero, List.getD_cons_succ, List.getD_nil, List.set_cons_zero, List.set_cons_succ, List.set_nil, cond_true, cond_false, Nat.reduceAdd, Nat.reduceSub, Nat.sub_self, Nat.add_one_sub_one, Bool.not_true, Bool.not_false, true_and, and_true, Bool.false_eq_true, if_false, reduceIte, q_ins e1, T.cRu, T.nRu_frames, ruF_frames, q_lst e2, ef]
    exact ⟨by decide, al, Sub.rfl, q1 hk⟩
  | cons k ks =>
    have q := q2 (by rw [hk]; exact fun z => nomatch z)
    clear q1 q2
    have tk := tk k ks hk
    rw [hk] at e2
    have ef := frames_cons k ks
    have en : (frames (k :: ks)).isEmpty = false := by rw [ef]; simp
    simp only [at_mk, put_mk, know_mk, q_var, q_vdat, q_vpen, q_vown, q_vfn, q_vref, q_asD, q_asDo, q_asDa, q_aown, q_adat, q_asA, q_asAp, q_asAf, q_asAr, q_asAo, q_asAa, q_asS, q_asSo, q_asSp, q_asSf, q_asSr, q_asSa, q_asR, q_asRr, q_asRo, q_onD, q_onR, q_inOb, q_inObr, q_inObf, q_onT, q_onL, q_onI, q_onX, q_onBo, q_onTd, q_seqL, q_seqT, q_intI, q_intB, q_none, q_noneR, q_one, q_oneS, q_seeL, q_seeT, q_seeO, q_seeA, q_seeAo, q_seeAl, q_seeAt, q_srL, q_srO, q_srA, q_lenS, q_lenO, q_lenA, q_lenR, q_slL, q_slO, q_slA, q_slAo, q_slAl, q_ixR, q_ixL, q_ixO, q_ixA, q_appA, q_appAo, q_appR, q_emR, q_zipT, q_zipL, q_some, q_fn1, q_fn2, q_fn3, q_fn4, q_pn0, q_pn1, q_pn2, q_pn3, q_scaI, q_scaS, q_scaB, q_scaN, q_fnD, q_all0, q_all1, q_all2, q_all3, q_all4, q_all5, q_wipe0, q_wipe, q_start, q_eqI, q_eqX, q_eqB, q_onB, q_at0, q_at1, q_at2, q_at3, q_at4, q_tup, q_strT, q_str, q_int, q_bool, List.length_cons, List.length_nil, List.map_cons, List.map_nil, List.replicate, List.cons_append, List.nil_append, List.getD_cons_zero, List.getD_cons_succ, List.getD_nil, List.set_cons_zero, List.set_cons_succ, List.set_nil, cond_true, cond_false, Nat.reduceAdd, Nat.reduceSub, Nat.sub_self, Nat.add_one_sub_one, Bool.not_true, Bool.not_false, true_and, and_true, Bool.false_eq_true, if_false, reduceIte, q_ins e1, T.cRu, T.nRu_frames, ruF_frames, q_lst e2, en]
    refine ⟨by decide, ?_⟩
    rw [ef, atS_last]
    obtain ⟨s, e3, hs, sc2⟩ := sc.at_ hk (k.f.pos + 1)
    have hs' : plainSv s = true := by rcases hs with ⟨_, z⟩ | ⟨z, _⟩ <;> rw [z] <;> rfl
    simp only [at_mk, put_mk, know_mk, q_var, q_vdat, q_vpen, q_vown, q_vfn, q_vref, q_asD, q_asDo, q_asDa, q_aown, q_adat, q_asA, q_asAp, q_asAf, q_asAr, q_asAo, q_asAa, q_asS, q_asSo, q_asSp, q_asSf, q_asSr, q_asSa, q_asR, q_asRr, q_asRo, q_onD, q_onR, q_inOb, q_inObr, q_inObf, q_onT, q_onL, q_onI, q_onX, q_onBo, q_onTd, q_seqL, q_seqT, q_intI, q_intB, q_none, q_noneR, q_one, q_oneS, q_seeL, q_seeT, q_seeO, q_seeA, q_seeAo, q_seeAl, q_seeAt, q_srL, q_srO, q_srA, q_lenS, q_lenO, q_lenA, q_lenR, q_slL, q_slO, q_slA, q_slAo, q_slAl, q_ixR, q_ixL, q_ixO, q_ixA, q_appA, q_appAo, q_appR, q_emR, q_zipT, q_zipL, q_some, q_fn1, q_fn2, q_fn3, q_fn4, q_pn0, q_pn1, q_pn2, q_pn3, q_scaI, q_scaS, q_scaB, q_scaN, q_fnD, q_all0, q_all1, q_all2, q_all3, q_all4, q_all5, q_wipe0, q_wipe, q_start, q_eqI, q_eqX, q_eqB, q_onB, q_at0, q_at1, q_at2, q_at3, q_at4, q_tup, q_strT, q_str, q_int, q_bool, List.length_cons, List.length_nil, List.map_cons, List.map_nil, List.replicate, List.cons_append, List.nil_append, List.getD_cons_zero, List.getD_cons_succ, List.getD_nil, List.set_cons_zero, List.set_cons_succ, List.set_nil, cond_true, cond_false, Nat.reduceAdd, Nat.reduceSub, Nat.sub_self, Nat.add_one_sub_one, Bool.not_true, Bool.not_false, true_and, and_true, Bool.false_eq_true, if_false, reduceIte, q_lst e3]
    cases er : k.f.rows[k.f.pos]? with
    | some r =>
      have hlt := (List.getElem?_eq_some_iff.mp er).1
      have ec : decide ((k.f.pos : Int) < ((Row.datas k.f.rows).length : Int)) = true := decide_eq_true (by rw [Row.datas_map, List.length_map]; omega)
      have sc2 : RunAt CRu CPs p (oup al k.b (.lst [.dat (.tuple (Row.datas k.f.rows)), .dat (.int (k.f.pos + 1)), s])) { R with ks := { k with f := { k.f with pos := k.f.pos + 1 } } :: ks } n := sc2
      rw [ec]
      refine ⟨by show (true && (true && (plainSv s && true))) = true; rw [hs']; rfl, ?_⟩
      rw [cond_true]
      refine setS_1 e3 ?_
      refine asIns_of (sc2.cells.get 0 rfl) ⟨⟨rfl, rfl⟩, ?_⟩
      refine atD_at (d := r.data) rfl (by rw [Row.datas_map, List.getElem?_map, er]; rfl) ?_
      refine ⟨p, { R with ks := { k with f := { k.f with pos := k.f.pos + 1 } } :: ks }, n, r, rfl, sc2, hn, tk.fit r (List.mem_of_getElem? er), fun al' R' g1 ga gt gd => ?_⟩
      have ga' : R'.a = R.a := ga
      have c0 := g1.cells.get 0 rfl
      rw [ga'] at c0
      have g2 := g1.trail (x := .dat (.tuple (Row.datas k.f.rows)))
      have c1 := g2.cells.get 0 rfl
      have c2 : oup al' R'.tr (.lst (R'.tl ++ [.dat (.tuple (Row.datas k.f.rows))])) R.a = _ := ga' ▸ c1
      have l5' := g1.l5
      obtain ⟨t1, t2⟩ := step_row (p := p) (S := R.S) (fs := ks.map (·.f)) er
      refine asIns_of c0 ⟨⟨T.cRu, T.nRu_trail⟩, ?_⟩
      simp only [at_mk, put_mk, know_mk, q_var, q_vdat, q_vpen, q_vown, q_vfn, q_vref, q_asD, q_asDo, q_asDa, q_aown, q_adat, q_asA, q_asAp, q_asAf, q_asAr, q_asAo, q_asAa, q_asS, q_asSo, q_asSp, q_asSf, q_asSr, q_asSa, q_asR, q_asRr, q_asRo, q_onD, q_onR, q_inOb, q_inObr, q_inObf, q_onT, q_onL, q_onI, q_onX, q_onBo, q_onTd, q_seqL, q_seqT, q_intI, q_intB, q_none, q_noneR, q_one, q_oneS, q_seeL, q_seeT, q_seeO, q_seeA, q_seeAo, q_seeAl, q_seeAt, q_srL, q_srO, q_srA, q_lenS, q_lenO, q_lenA, q_lenR, q_slL, q_slO, q_slA, q_slAo, q_slAl, q_ixR, q_ixL, q_ixO, q_ixA, q_appA, q_appAo, q_appR, q_emR, q_zipT, q_zipL, q_some, q_fn1, q_fn2, q_fn3, q_fn4, q_pn0, q_pn1, q_pn2, q_pn3, q_scaI, q_scaS, q_scaB, q_scaN, q_fnD, q_all0, q_all1, q_all2, q_all3, q_all4, q_all5, q_wipe0, q_wipe, q_start, q_eqI, q_eqX, q_eqB, q_onB, q_at0, q_at1, q_at2, q_at3, q_at4, q_tup, q_strT, q_str, q_int, q_bool, List.length_cons, List.length_nil, List.map_cons, List.map_nil, List.replicate, List.cons_append, List.nil_append, List.getD_cons_zero, List.getD_cons_succ, List.getD_nil, List.set_cons_zero, List.set_cons_succ, List.set_nil, cond_true, cond_false, Nat.reduceAdd, Nat.reduceSub, Nat.sub_self, Nat.add_one_sub_one, Bool.not_true, Bool.not_false, true_and, and_true, Bool.false_eq_true, if_false, reduceIte, ruF_trail, q_lst (g1.cells.get 7 rfl)]
      refine ⟨by omega, asIns_of c2 ⟨⟨rfl, rfl⟩, ?_⟩⟩
      refine ⟨p, { R' with tl := R'.tl ++ [.dat (.tuple (Row.datas k.f.rows))] }, n + 3, congrArg (fun z => [Sv.ref z]) ga'.symm, g2, fun al2 ks' h1 h2 => ⟨_, Sub.rfl, q al2 _ (h1.mono (by omega)) ga' ?_ ?_⟩⟩
      · rw [hk]
        refine Eq.trans ?_ t1.symm
        exact congrArg Ms.S gd
      · rw [hk]
        refine Eq.trans h2 (Eq.trans ?_ t2.symm)
        exact congrArg (fun m => settle (Ms.stack m)) gd
    | none =>
      have hle := List.getElem?_eq_none_iff.mp er
      have ec : decide ((k.f.pos : Int) < ((Row.datas k.f.rows).length : Int)) = false := decide_eq_false (by rw [Row.datas_map, List.length_map]; omega)
      have hp : k.f.pos = k.f.rows.length := by have := tk.ok.pos; omega
      obtain ⟨x, num, many, hl⟩ : ∃ x num many, k.f.loop = some (x, num, many) := by
        cases z : k.f.loop with
        | none =>
          have nl := tk.nl
          unfold Fra.left at nl
          rw [z, hp] at nl
          simp at nl
        | some o => exact ⟨o.1, o.2.1, o.2.2, rfl⟩
      have es : s = .ref k.l := by
        rcases hs with ⟨z, _⟩ | ⟨z, _⟩
        · rw [hl] at z; cases z
        · exact z
      subst es
      obtain ⟨e5, sc3⟩ := sc.turn hk hl
      obtain ⟨s', e6, hs6, sc4⟩ := sc3.at_ rfl 0
      have es6 : s' = .ref k.l := by
        rcases hs6 with ⟨z, _⟩ | ⟨z, _⟩
        · cases z
        · exact z
      subst es6
      have tp := sc4.top rfl
      have e7 : oup (oup al k.l (.lst [.dat (.str x), .dat (.int (num + 1)), .dat (.int many)])) k.b (.lst [.dat (.tuple (Row.datas k.f.rows)), .dat (.int 0), .ref k.l]) k.l = some (.lst [.dat (.str x), .dat (.int (num + 1)), .dat (.int many)]) := tp.get 1 rfl
      have sc4 : RunAt CRu CPs p (oup (oup al k.l (.lst [.dat (.str x), .dat (.int (num + 1)), .dat (.int many)])) k.b (.lst [.dat (.tuple (Row.datas k.f.rows)), .dat (.int 0), .ref k.l])) { R with ks := { k with f := { k.f with pos := 0, loop := some (x, num + 1, many) } } :: ks } n := sc4
      have hn1 := tk.num x num many hl
      have hn2 := tk.ok.loop x num many hl
      have g1 := sc4.held (x := x) (v := num + 1) (by omega)
      have g2 := g1.trail (x := .dat (.tuple (Row.datas k.f.rows)))
      have l1 := sc.l1
      obtain ⟨t1, t2⟩ := step_turn (p := p) (S := R.S) (fs := ks.map (·.f)) er hl
      rw [ec]
      refine ⟨rfl, ?_⟩
      refine asLst_of e5 ?_
      refine atS_at (j := 1) rfl rfl ?_
      rw [q_onD, q_onI]
      refine setS_1 e5 ?_
      simp only [at_mk, put_mk, know_mk, q_var, q_vdat, q_vpen, q_vown, q_vfn, q_vref, q_asD, q_asDo, q_asDa, q_aown, q_adat, q_asA, q_asAp, q_asAf, q_asAr, q_asAo, q_asAa, q_asS, q_asSo, q_asSp, q_asSf, q_asSr, q_asSa, q_asR, q_asRr, q_asRo, q_onD, q_onR, q_inOb, q_inObr, q_inObf, q_onT, q_onL, q_onI, q_onX, q_onBo, q_onTd, q_seqL, q_seqT, q_intI, q_intB, q_none, q_noneR, q_one, q_oneS, q_seeL, q_seeT, q_seeO, q_seeA, q_seeAo, q_seeAl, q_seeAt, q_srL, q_srO, q_srA, q_lenS, q_lenO, q_lenA, q_lenR, q_slL, q_slO, q_slA, q_slAo, q_slAl, q_ixR, q_ixL, q_ixO, q_ixA, q_appA, q_appAo, q_appR, q_emR, q_zipT, q_zipL, q_some, q_fn1, q_fn2, q_fn3, q_fn4, q_pn0, q_pn1, q_pn2, q_pn3, q_scaI, q_scaS, q_scaB, q_scaN, q_fnD, q_all0, q_all1, q_all2, q_all3, q_all4, q_all5, q_wipe0, q_wipe, q_start, q_eqI, q_eqX, q_eqB, q_onB, q_at0, q_at1, q_at2, q_at3, q_at4, q_tup, q_strT, q_str, q_int, q_bool, List.length_cons, List.length_nil, List.map_cons, List.map_nil, List.replicate, List.cons_append, List.nil_append, List.getD_cons_zero, List.getD_cons_succ, List.getD_nil, List.set_cons_zero, List.set_cons_succ, List.set_nil, cond_true, cond_false, Nat.reduceAdd, Nat.reduceSub, Nat.sub_self, Nat.add_one_sub_one, Bool.not_true, Bool.not_false, true_and, and_true, Bool.false_eq_true, if_false, reduceIte]
      refine setS_1 e6 ?_
      simp only [at_mk, put_mk, know_mk, q_var, q_vdat, q_vpen, q_vown, q_vfn, q_vref, q_asD, q_asDo, q_asDa, q_aown, q_adat, q_asA, q_asAp, q_asAf, q_asAr, q_asAo, q_asAa, q_asS, q_asSo, q_asSp, q_asSf, q_asSr, q_asSa, q_asR, q_asRr, q_asRo, q_onD, q_onR, q_inOb, q_inObr, q_inObf, q_onT, q_onL, q_onI, q_onX, q_onBo, q_onTd, q_seqL, q_seqT, q_intI, q_intB, q_none, q_noneR, q_one, q_oneS, q_seeL, q_seeT, q_seeO, q_seeA, q_seeAo, q_seeAl, q_seeAt, q_srL, q_srO, q_srA, q_lenS, q_lenO, q_lenA, q_lenR, q_slL, q_slO, q_slA, q_slAo, q_slAl, q_ixR, q_ixL, q_ixO, q_ixA, q_appA, q_appAo, q_appR, q_emR, q_zipT, q_zipL, q_some, q_fn1, q_fn2, q_fn3, q_fn4, q_pn0, q_pn1, q_pn2, q_pn3, q_scaI, q_scaS, q_scaB, q_scaN, q_fnD, q_all0, q_all1, q_all2, q_all3, q_all4, q_all5, q_wipe0, q_wipe, q_start, q_eqI, q_eqX, q_eqB, q_onB, q_at0, q_at1, q_at2, q_at3, q_at4, q_tup, q_strT, q_str, q_int, q_bool, List.length_cons, List.length_nil, List.map_cons, List.map_nil, List.replicate, List.cons_append, List.nil_append, List.getD_cons_zero, List.getD_cons_succ, List.getD_nil, List.set_cons_zero, List.set_cons_succ, List.set_nil, cond_true, cond_false, Nat.reduceAdd, Nat.reduceSub, Nat.sub_self, Nat.add_one_sub_one, Bool.not_true, Bool.not_false, true_and, and_true, Bool.false_eq_true, if_false, reduceIte]
      refine asLst_of e7 ?_
      refine atS_at (j := 1) rfl rfl ?_
      refine asIns_of (sc4.cells.get 0 rfl) ⟨⟨T.cRu, T.nRu_held⟩, ?_⟩
      rw [ruF_held, q_inObr, q_onR]
      refine asLst_of e7 ?_
      refine atS_at (j := 0) rfl rfl ?_
      simp only [at_mk, put_mk, know_mk, q_var, q_vdat, q_vpen, q_vown, q_vfn, q_vref, q_asD, q_asDo, q_asDa, q_aown, q_adat, q_asA, q_asAp, q_asAf, q_asAr, q_asAo, q_asAa, q_asS, q_asSo, q_asSp, q_asSf, q_asSr, q_asSa, q_asR, q_asRr, q_asRo, q_onD, q_onR, q_inOb, q_inObr, q_inObf, q_onT, q_onL, q_onI, q_onX, q_onBo, q_onTd, q_seqL, q_seqT, q_intI, q_intB, q_none, q_noneR, q_one, q_oneS, q_seeL, q_seeT, q_seeO, q_seeA, q_seeAo, q_seeAl, q_seeAt, q_srL, q_srO, q_srA, q_lenS, q_lenO, q_lenA, q_lenR, q_slL, q_slO, q_slA, q_slAo, q_slAl, q_ixR, q_ixL, q_ixO, q_ixA, q_appA, q_appAo, q_appR, q_emR, q_zipT, q_zipL, q_some, q_fn1, q_fn2, q_fn3, q_fn4, q_pn0, q_pn1, q_pn2, q_pn3, q_scaI, q_scaS, q_scaB, q_scaN, q_fnD, q_all0, q_all1, q_all2, q_all3, q_all4, q_all5, q_wipe0, q_wipe, q_start, q_eqI, q_eqX, q_eqB, q_onB, q_at0, q_at1, q_at2, q_at3, q_at4, q_tup, q_strT, q_str, q_int, q_bool, List.length_cons, List.length_nil, List.map_cons, List.map_nil, List.replicate, List.cons_append, List.nil_append, List.getD_cons_zero, List.getD_cons_succ, List.getD_nil, List.set_cons_zero, List.set_cons_succ, List.set_nil, cond_true, cond_false, Nat.reduceAdd, Nat.reduceSub, Nat.sub_self, Nat.add_one_sub_one, Bool.not_true, Bool.not_false, true_and, and_true, Bool.false_eq_true, if_false, reduceIte]
      refine dictPut_K (y := .str x) (d := .int (num + 1)) (κ := .inr x) (sc4.cells.get 3 rfl) rfl (by show R.he.length < _; omega) ?_
      refine asIns_of (g1.cells.get 0 rfl) ⟨⟨T.cRu, T.nRu_trail⟩, ?_⟩
      have l5' := g1.l5
      simp only [at_mk, put_mk, know_mk, q_var, q_vdat, q_vpen, q_vown, q_vfn, q_vref, q_asD, q_asDo, q_asDa, q_aown, q_adat, q_asA, q_asAp, q_asAf, q_asAr, q_asAo, q_asAa, q_asS, q_asSo, q_asSp, q_asSf, q_asSr, q_asSa, q_asR, q_asRr, q_asRo, q_onD, q_onR, q_inOb, q_inObr, q_inObf, q_onT, q_onL, q_onI, q_onX, q_onBo, q_onTd, q_seqL, q_seqT, q_intI, q_intB, q_none, q_noneR, q_one, q_oneS, q_seeL, q_seeT, q_seeO, q_seeA, q_seeAo, q_seeAl, q_seeAt, q_srL, q_srO, q_srA, q_lenS, q_lenO, q_lenA, q_lenR, q_slL, q_slO, q_slA, q_slAo, q_slAl, q_ixR, q_ixL, q_ixO, q_ixA, q_appA, q_appAo, q_appR, q_emR, q_zipT, q_zipL, q_some, q_fn1, q_fn2, q_fn3, q_fn4, q_pn0, q_pn1, q_pn2, q_pn3, q_scaI, q_scaS, q_scaB, q_scaN, q_fnD, q_all0, q_all1, q_all2, q_all3, q_all4, q_all5, q_wipe0, q_wipe, q_start, q_eqI, q_eqX, q_eqB, q_onB, q_at0, q_at1, q_at2, q_at3, q_at4, q_tup, q_strT, q_str, q_int, q_bool, List.length_cons, List.length_nil, List.map_cons, List.map_nil, List.replicate, List.cons_append, List.nil_append, List.getD_cons_zero, List.getD_cons_succ, List.getD_nil, List.set_cons_zero, List.set_cons_succ, List.set_nil, cond_true, cond_false, Nat.reduceAdd, Nat.reduceSub, Nat.sub_self, Nat.add_one_sub_one, Bool.not_true, Bool.not_false, true_and, and_true, Bool.false_eq_true, if_false, reduceIte, ruF_trail, q_lst (g1.cells.get 7 rfl)]
      refine ⟨by show R.tl.length < _; omega, asIns_of (g2.cells.get 0 rfl) ⟨⟨rfl, rfl⟩, ?_⟩⟩
      refine ⟨p, { R with he := putE R.he (.inr x) (.int (num + 1)), S := R.S.set x (num + 1), tl := R.tl ++ [.dat (.tuple (Row.datas k.f.rows))], ks := { k with f := { k.f with pos := 0, loop := some (x, num + 1, many) } } :: ks }, n + 2, rfl, g2, fun al2 ks' h1 h2 => ⟨_, Sub.rfl, q al2 _ (h1.mono (by omega)) rfl ?_ ?_⟩⟩
      · rw [hk]
        exact t1.symm
      · rw [hk]
        exact Eq.trans h2 t2.symm
end
end B


set_option synthInstance.maxHeartbeats 0
set_option synthInstance.maxSize 100000
/-! plain.py: Run, from its beginning. -/
namespace B
open PySem PySem.Spec PyProof.Rows L2
abbrev s_Run_init : Stmt := (inClass (topS 41) 0)
theorem sc_Run_init : FnScope ["self", "program", "store", "inputs", "faces", "name", "many", "fields"] ["self", "program", "store", "inputs", "faces"] (defScope s_Run_init) := ⟨rfl, rfl, rfl, by decide +kernel, rfl, by decide +kernel, by decide +kernel⟩
structure RTxt4 (K : PySem.W.Frag) (mg : Str → Option Value) (fb CPs CRu CSe : Addr) : Prop extends RTxt3 K mg fb CPs CRu where
  v : VTxt K mg CSe
  i_Run : IniAt K mg "Run" CRu "Run.__init__" s_Run_init ["self", "program", "store", "inputs", "faces"]
  z_zip : mg "zip" = none
theorem lookup_mem {x : Str} {v : Int} : ∀ {fs : List (Str × Int)}, fs.lookup x = some v → (x, v) ∈ fs
  | [], e => by cases e
  | f :: fs, e => by
    by_cases z : (x == f.1) = true
    · simp only [List.lookup, z] at e
      cases e
      have : x = f.1 := by simpa using z
      rw [this]
      exact List.mem_cons_self ..
    · have z' : (x == f.1) = false := by simpa using z
      simp only [List.lookup, z'] at e
      exact List.mem_cons_of_mem _ (lookup_mem e)
theorem mergeE_len : ∀ (more es : List (Key × PyData)), (mergeE es more).length ≤ es.length + more.length
  | [], es => Nat.le_refl _
  | f :: more, es => by
    show (mergeE (putE es f.1 f.2) more).length ≤ _
    have h1 := mergeE_len more (putE es f.1 f.2)
    have h2 := putE_len es f.1 f.2
    rw [List.length_cons]
    omega
theorem getE_tabs {o : Str} {G : Tab → PyData} : ∀ {ts : List Tab}, getE (ts.map fun t => ((.inr t.name : Key), G t)) (.inr o) = (ts.find? fun t => decide (t.name = o)).map G
  | [] => rfl
  | t :: ts => by
    unfold getE
    rw [List.map_cons, List.find?_cons, List.find?_cons]
    by_cases h : t.name = o
    · simp [h]
    · have e2 : decide ((Sum.inr t.name : Key) = Sum.inr o) = false := decide_eq_false fun e => h (Sum.inr.inj e)
      simp only [e2, decide_eq_false h]
      exact getE_tabs (ts := ts)
theorem keysD_strs : ∀ xs : List Str, keysD (xs.map PyData.str) = some (xs.map fun x => (.inr x : Key))
  | [] => rfl
  | x :: xs => by
    simp only [List.map_cons, keysD, keyD, keysD_strs xs]
section
variable {P : Program} {w : World} {K : PySem.W.Frag} {mg : Str → Option Value} {base : Heap} {fb CPs CRu CSe : Addr}
/-- what vars hold at first -/
def env0 (p : Prg) (ins : List Int) (x : Str) : Int := ((p.params.zip ins).lookup x).getD 0
def rs0 (p : Prg) (ins : List Int) : Rs := ⟨env0 p ins, fun _ _ _ => 0, [], []⟩
theorem mak_Run (T : RTxt4 K mg fb CPs CRu CSe) : Mak P w K mg base 17 "Run" CRu (spH K 5 fun al as Φ => ∃ (a dx st dx2 fd us : Addr) (p : Prg) (ins : List Int) (fa : PyData), as = [.ref a, .dat p.data, .ref st, .dat (.tuple (ins.map .int)), .dat fa] ∧
    Cells al [(a, .ins CRu dx []), (st, .ins CPs dx2 (stF fd us)), (fd, .dT []), (us, .lst [])] ∧ p.ok ∧ ins.length = p.params.length ∧ (∀ v ∈ ins, 0 ≤ v ∧ v ≤ 255) ∧
    ∀ al' R, RunAt CRu CPs p al' R 4 → R.a = a → R.S = rs0 p ins → R.ks.map (·.f) = settle [⟨p.rows, 0, none⟩] → Φ al' (.dat .none)) := by
  have c_led_by := cal_led_by (P := P) (w := w) (base := base) T.v
  have mt_Run_settle := met_settle (P := P) (w := w) (base := base) T.toRTxt
  refine T.i_Run.mak sc_Run_init (fun vs H Q E h => h.1) (fun f cdv A outer s H vs Q E hr h => ?_)
  have hu := hu_of hr
  refine ⟨_, (pss_cons (ps_fldK K (by rfl) (pv 0) (pv 1) rfl)
  (pss_cons (ps_fldK K (by rfl) (pv 0) (pe_dcX [("name", 5), ("many", 6), ("fields", 7)] (by rfl) sc_Run_init.nd (pi_tupK K (by rfl) (pe_ix (ix_tupK K (by rfl)) (pv 1) pe_int (fun _ _ => rfl))) (blkOk_by (N := ["self", "program", "store", "inputs", "faces", "name", "many", "fields"]) (sc := defScope s_Run_init) (by decide +kernel)) (fun _ _ _ _ _ => by exact (pg_tupK K (n := 3) (by rfl) (by rfl) (by rfl) (by rfl) (pgs_consX (by rfl) (pg_nameX 5 sc_Run_init.nd rfl (by first | exact .inl rfl | exact .inr rfl) (by first | exact .inr rfl | exact .inl rfl)) (pgs_consX (by rfl) (pg_nameX 6 sc_Run_init.nd rfl (by first | exact .inl rfl | exact .inr rfl) (by first | exact .inr rfl | exact .inl rfl)) (pgs_consX (by rfl) (pg_nameX 7 sc_Run_init.nd rfl (by first | exact .inl rfl | exact .inr rfl) (by first | exact .inr rfl | exact .inl rfl)) pgs_nil))))) (fun _ _ _ _ _ => by exact pts_nil) (fun _ _ _ _ _ => by exact (pv 5)) (fun _ _ _ _ _ => by exact (pe_tupZ (pa_cons (pv 6) (pa_cons (pv 7) pa_nil)))) (fun _ => rfl)) rfl)
  (pss_cons (ps_fldK K (by rfl) (pv 0) (pe_dictZipK K (by rfl) (by rfl) (by rfl) T.z_dict (by rfl) T.z_zip (pa_cons (pe_ix (ix_tupK K (by rfl)) (pv 1) pe_int (fun _ _ => rfl)) (pa_cons (pv 3) pa_nil)) (by rfl) (by rfl) (by rfl)) rfl)
  (pss_cons (ps_fldK K (by rfl) (pv 0) (pv 4) rfl)
  (pss_cons (ps_fldK K (by rfl) (pv 0) (pv 2) rfl)
  (pss_cons (ps_fldK K (by rfl) (pv 0) (pe_ref (pe_lst pa_nil)) rfl)
  (pss_cons (ps_fldK K (by rfl) (pv 0) (pe_ref (pe_lst pa_nil)) rfl)
  (pss_cons (ps_fldK K (by rfl) (pv 0) pe_int rfl)
  (pss_cons (ps_fldK K (by rfl) (pv 0) (pe_lstQ (pe_lst (pa_cons (pe_lstQ (pe_lst (pa_cons (pe_ix (ix_tupK K (by rfl)) (pe_c c_led_by hr (by first | decide | omega) (by rfl) (pa_cons (pv 1) pa_nil)) pe_int (fun _ _ => rfl)) (pa_cons pe_int (pa_cons pe_non pa_nil))))) pa_nil))) rfl)
  (pss_one (ps_expr (pe_mt0 mt_Run_settle hr (by first | decide | omega) (pv 0))))))))))))), ?_⟩
  refine run_H h fun Γ al as Φ hg => ?_
  obtain ⟨a, dx, st, dx2, fd, us, p, ins, fa, rfl, c0, ok, hl, hv, q⟩ := hg
  have e0 := c0.get 0 rfl
  have c1 := Cells.wr (l := []) (o := .ins CRu dx (putS "program" (.dat p.data) [])) c0
  simp only [at_mk, put_mk, know_mk, q_var, q_vdat, q_vpen, q_vown, q_vfn, q_vref, q_asD, q_asDo, q_asDa, q_aown, q_adat, q_asA, q_asAp, q_asAf, q_asAr, q_asAo, q_asAa, q_asS, q_asSo, q_asSp, q_asSf, q_asSr, q_asSa, q_asR, q_asRr, q_asRo, q_onD, q_onR, q_inOb, q_inObr, q_inObf, q_onT, q_onL, q_onI, q_onX, q_onBo, q_onTd, q_seqL, q_seqT, q_intI, q_intB, q_none, q_noneR, q_one, q_oneS, q_seeL, q_seeT, q_seeO, q_seeA, q_seeAo, q_seeAl, q_seeAt, q_srL, q_srO, q_srA, q_lenS, q_lenO, q_lenA, q_lenR, q_slL, q_slO, q_slA, q_slAo, q_slAl, q_ixR, q_ixL, q_ixO, q_ixA, q_appA, q_appAo, q_appR, q_emR, q_zipT, q_zipL, q_some, q_fn1, q_fn2, q_fn3, q_fn4, q_pn0, q_pn1, q_pn2, q_pn3, q_scaI, q_scaS, q_scaB, q_scaN, q_fnD, q_all0, q_all1, q_all2, q_all3, q_all4, q_all5, q_wipe0, q_wipe, q_start, q_eqI, q_eqX, q_eqB, q_onB, q_at0, q_at1, q_at2, q_at3, q_at4, q_tup, q_strT, q_str, q_int, q_bool, List.length_cons, List.length_nil, List.map_cons, List.map_nil, List.replicate, List.cons_append, List.nil_append, List.getD_cons_zero, List.getD_cons_succ, List.getD_nil, List.set_cons_zero, List.set_cons_succ, List.set_nil, cond_true, cond_false, Nat.reduceAdd, Nat.reduceSub, Nat.sub_self, Nat.add_one_sub_one, Bool.not_true, Bool.not_false, true_and, and_true, Bool.false_eq_true, if_false, reduceIte, q_ins e0, T.cRu, T.nRu_program]
  refine ⟨by decide, rfl, ?_⟩
  show ∀ tb : Addr, _
  intro tb htb
  have n1 : a ≠ tb := fun z => by rw [← z, oup_same] at htb; cases htb
  refine dcD_map (sl := [some (.ref a), some (.dat p.data), some (.ref st), some (.dat (.tuple (ins.map .int))), some (.dat fa), none, none, none]) (fun d => match d with | .tuple (.str x :: _) => .inr x | _ => .inl 0) (fun d => match d with | .tuple (_ :: x :: y :: _) => .tuple [x, y] | _ => d) rfl (by rw [List.length_map]; have := ok.tabs.2; show 0 + _ < _; omega) ?_ ?_
  · intro d hd es' k hk
    obtain ⟨t, ht, rfl⟩ := List.mem_map.mp hd
    have := hk (.str t.name) ⟨[some (.ref a), some (.dat p.data), some (.ref st), some (.dat (.tuple (ins.map .int))), some (.dat fa), some (.dat (.str t.name)), some (.dat (.int t.many)), some (.dat (.tuple (t.fields.map Tab.fdata)))], _⟩ rfl rfl
    simp only [at_mk, put_mk, know_mk, q_var, q_vdat, q_vpen, q_vown, q_vfn, q_vref, q_asD, q_asDo, q_asDa, q_aown, q_adat, q_asA, q_asAp, q_asAf, q_asAr, q_asAo, q_asAa, q_asS, q_asSo, q_asSp, q_asSf, q_asSr, q_asSa, q_asR, q_asRr, q_asRo, q_onD, q_onR, q_inOb, q_inObr, q_inObf, q_onT, q_onL, q_onI, q_onX, q_onBo, q_onTd, q_seqL, q_seqT, q_intI, q_intB, q_none, q_noneR, q_one, q_oneS, q_seeL, q_seeT, q_seeO, q_seeA, q_seeAo, q_seeAl, q_seeAt, q_srL, q_srO, q_srA, q_lenS, q_lenO, q_lenA, q_lenR, q_slL, q_slO, q_slA, q_slAo, q_slAl, q_ixR, q_ixL, q_ixO, q_ixA, q_appA, q_appAo, q_appR, q_emR, q_zipT, q_zipL, q_some, q_fn1, q_fn2, q_fn3, q_fn4, q_pn0, q_pn1, q_pn2, q_pn3, q_scaI, q_scaS, q_scaB, q_scaN, q_fnD, q_all0, q_all1, q_all2, q_all3, q_all4, q_all5, q_wipe0, q_wipe, q_start, q_eqI, q_eqX, q_eqB, q_onB, q_at0, q_at1, q_at2, q_at3, q_at4, q_tup, q_strT, q_str, q_int, q_bool, List.length_cons, List.length_nil, List.map_cons, List.map_nil, List.replicate, List.cons_append, List.nil_append, List.getD_cons_zero, List.getD_cons_succ, List.getD_nil, List.set_cons_zero, List.set_cons_succ, List.set_nil, cond_true, cond_false, Nat.reduceAdd, Nat.reduceSub, Nat.sub_self, Nat.add_one_sub_one, Bool.not_true, Bool.not_false, true_and, and_true, Bool.false_eq_true, if_false, reduceIte, Tab.data]
    exact ⟨by decide, this⟩
  have c2 := Cells.new (l := [_, _]) (o := .dK (mergeE [] ((p.tabs.map Tab.data).map fun d => ((match d with | .tuple (.str x :: _) => .inr x | _ => .inl 0 : Key), (match d with | .tuple (_ :: x :: y :: _) => .tuple [x, y] | _ => d : PyData))))) c1 htb
  refine asIns_of (c2.get 0 rfl) ⟨⟨⟨T.cRu, T.nRu_tables⟩, (show 1 < 1000 by decide)⟩, ?_⟩
  have c3 := Cells.wr (l := []) (o := .ins CRu dx (putS "tables" (.ref tb) (putS "program" (.dat p.data) []))) c2
  refine keysOn_of (ks := p.params.map .inr) (keysD_strs _) fun hl' hhl => ?_
  have n2 : a ≠ hl' := al_new (c3.get 0 rfl) hhl
  have c4 := Cells.new (l := [_, _, _]) (o := .dK (mergeE [] ((p.params.map .inr).zip (ins.map .int)))) c3 hhl
  refine asIns_of (c4.get 0 rfl) ⟨⟨⟨T.cRu, T.nRu_held⟩, (show 2 < 1000 by decide)⟩, ?_⟩
  have c5 := Cells.wr (l := []) (o := .ins CRu dx (putS "held" (.ref hl') (putS "tables" (.ref tb) (putS "program" (.dat p.data) [])))) c4
  refine asIns_of (c5.get 0 rfl) ⟨⟨⟨T.cRu, T.nRu_faces⟩, (show 3 < 1000 by decide)⟩, ?_⟩
  have c6 := Cells.wr (l := []) (o := .ins CRu dx (putS "faces" (.dat fa) (putS "held" (.ref hl') (putS "tables" (.ref tb) (putS "program" (.dat p.data) []))))) c5
  refine asIns_of (c6.get 0 rfl) ⟨⟨⟨T.cRu, T.nRu_store⟩, (show 4 < 1000 by decide)⟩, ?_⟩
  have c7 := Cells.wr (l := []) (o := .ins CRu dx (putS "store" (.ref st) (putS "faces" (.dat fa) (putS "held" (.ref hl') (putS "tables" (.ref tb) (putS "program" (.dat p.data) [])))))) c6
  refine ⟨by decide, fun sd hsd => ?_⟩
  have c8 := Cells.new (l := [_, _, _, _, _, _]) (o := .lst []) c7 hsd
  refine asIns_of (c8.get 0 rfl) ⟨⟨⟨T.cRu, T.nRu_said⟩, (show 5 < 1000 by decide)⟩, ?_⟩
  have c9 := Cells.wr (l := []) (o := .ins CRu dx (putS "said" (.ref sd) (putS "store" (.ref st) (putS "faces" (.dat fa) (putS "held" (.ref hl') (putS "tables" (.ref tb) (putS "program" (.dat p.data) []))))))) c8
  refine ⟨by decide, fun tr htr => ?_⟩
  have c10 := Cells.new (l := [_, _, _, _, _, _, _]) (o := .lst []) c9 htr
  refine asIns_of (c10.get 0 rfl) ⟨⟨⟨T.cRu, T.nRu_trail⟩, (show 6 < 1000 by decide)⟩, ?_⟩
  have c11 := Cells.wr (l := []) (o := .ins CRu dx (putS "trail" (.ref tr) (putS "said" (.ref sd) (putS "store" (.ref st) (putS "faces" (.dat fa) (putS "held" (.ref hl') (putS "tables" (.ref tb) (putS "program" (.dat p.data) [])))))))) c10
  refine asIns_of (c11.get 0 rfl) ⟨⟨⟨T.cRu, T.nRu_turned⟩, (show 7 < 1000 by decide)⟩, ?_⟩
  have c12 := Cells.wr (l := []) (o := .ins CRu dx (putS "turned" (.dat (.int 0)) (putS "trail" (.ref tr) (putS "said" (.ref sd) (putS "store" (.ref st) (putS "faces" (.dat fa) (putS "held" (.ref hl') (putS "tables" (.ref tb) (putS "program" (.dat p.data) []))))))))) c11
  refine ⟨p, Nat.le_trans ok.tabs.2 (by decide), ok.deep, Row.shorts_of ok.rows, ok.short, rfl, ?_⟩
  refine ⟨⟨rfl, by decide⟩, fun b hb => ⟨⟨rfl, by decide⟩, fun fr hfr => ?_⟩⟩
  have c13 := Cells.new (l := [_, _, _, _, _, _, _, _]) (o := .lst [.dat (.tuple (Row.datas p.rows)), .dat (.int 0), .dat .none]) c12 hb
  have c14 := Cells.new (l := [_, _, _, _, _, _, _, _]) (o := .lst [.ref b]) c13 hfr
  refine asIns_of (c14.get 0 rfl) ⟨⟨⟨T.cRu, T.nRu_frames⟩, (show 8 < 1000 by decide)⟩, ?_⟩
  have c15 := Cells.wr (l := []) (o := .ins CRu dx (putS "frames" (.ref fr) (putS "turned" (.dat (.int 0)) (putS "trail" (.ref tr) (putS "said" (.ref sd) (putS "store" (.ref st) (putS "faces" (.dat fa) (putS "held" (.ref hl') (putS "tables" (.ref tb) (putS "program" (.dat p.data) [])))))))))) c14
  refine asIns_of (c15.get 0 rfl) ⟨⟨rfl, rfl⟩, ?_⟩
  refine ⟨p, ⟨a, dx, st, dx2, tb, hl', fd, us, sd, tr, fr, _, _, [], [], fa, rs0 p ins, [⟨⟨p.rows, 0, none⟩, b, b⟩]⟩, 4, rfl, ⟨c15, ?_, ?_, ?_, ?_, ?_, ?_, ?_, ?_, ?_, ?_, ?_⟩, fun al' ks' h1 h2 => ⟨_, Sub.rfl, q _ _ h1 rfl rfl h2⟩⟩
  · intro o t ht
    show getE (mergeE [] ((p.tabs.map Tab.data).map _)) (.inr o) = _
    rw [List.map_map]
    show getE (mergeE [] (p.tabs.map fun t => ((.inr t.name : Key), PyData.tuple [.int t.many, .tuple (t.fields.map Tab.fdata)]))) (.inr o) = _
    rw [getE_merge, getE_tabs]
    · have ht' : p.tabs.find? (fun t => decide (t.name = o)) = some t := ht
      rw [ht']
      rfl
    · rw [List.map_map]
      have e1 : ((fun x : Key × PyData => x.1) ∘ fun t : Tab => ((.inr t.name : Key), PyData.tuple [.int t.many, .tuple (t.fields.map Tab.fdata)])) = (fun x => Sum.inr x) ∘ (fun t : Tab => t.name) := rfl
      rw [e1, ← List.map_map]
      exact List.Pairwise.map _ (fun a b h z => h (Sum.inr.inj z)) ok.unlike
  · intro x
    show valE (getE (mergeE [] ((p.params.map _).zip (ins.map _))) (.inr x)) = .int (env0 p ins x)
    rw [List.zip_map]
    show valE (getE (mergeE [] ((p.params.zip ins).map fun f => ((.inr f.1 : Key), PyData.int f.2))) (.inr x)) = .int (env0 p ins x)
    rw [getE_merge, getE_fields]
    · unfold env0
      cases (p.params.zip ins).lookup x <;> rfl
    · rw [List.map_map]
      have e1 : ((fun x : Key × PyData => x.1) ∘ fun f : Str × Int => ((.inr f.1 : Key), PyData.int f.2)) = (fun x => Sum.inr x) ∘ (fun f : Str × Int => f.1) := rfl
      rw [e1, ← List.map_map]
      have hz : (p.params.zip ins).map (fun f : Str × Int => f.1) = p.params := List.map_fst_zip (by omega)
      rw [hz]
      exact List.Pairwise.map _ (fun a b h z => h (Sum.inr.inj z)) ok.params.2.2
  · exact fun t r f => rfl
  · intro x
    show 0 ≤ env0 p ins x ∧ env0 p ins x ≤ 255
    unfold env0
    cases e : (p.params.zip ins).lookup x with
    | none => exact ⟨Int.le_refl 0, by decide⟩
    | some v => exact hv v (List.of_mem_zip (lookup_mem e)).2
  · exact fun t r f => ⟨Int.le_refl 0, (show (0 : Int) ≤ 255 by decide)⟩
  · show (mergeE [] ((p.params.map _).zip (ins.map _))).length ≤ 4
    refine Nat.le_trans (mergeE_len ..) ?_
    rw [List.length_zip, List.length_map, List.length_map]
    have := ok.params.1
    show 0 + _ ≤ _
    omega
  · exact Nat.zero_le _
  · exact Nat.zero_le _
  · exact Nat.zero_le _
  · exact Nat.zero_le _
  · show 1 ≤ 4
    decide
end
end B


set_option synthInstance.maxHeartbeats 0
set_option synthInstance.maxSize 100000
/-! plain.py: run_by, need_run, run_plain. -/
namespace B
open PySem PySem.Spec PyProof.Rows L2
abbrev s_run_by : Stmt := (topS 45)
theorem sc_run_by : FnScope ["program", "inputs", "faces", "run"] ["program", "inputs", "faces"] (defScope s_run_by) := ⟨rfl, rfl, rfl, by decide +kernel, rfl, by decide +kernel, by decide +kernel⟩
abbrev s_need_inputs : Stmt := (topS 42)
theorem sc_need_inputs : FnScope ["program", "inputs"] ["program", "inputs"] (defScope s_need_inputs) := ⟨rfl, rfl, rfl, by decide +kernel, rfl, by decide +kernel, by decide +kernel⟩
abbrev s_need_faces : Stmt := (topS 43)
theorem sc_need_faces : FnScope ["faces"] ["faces"] (defScope s_need_faces) := ⟨rfl, rfl, rfl, by decide +kernel, rfl, by decide +kernel, by decide +kernel⟩
abbrev s_need_run : Stmt := (topS 44)
theorem sc_need_run : FnScope ["program", "inputs", "faces"] ["program", "inputs", "faces"] (defScope s_need_run) := ⟨rfl, rfl, rfl, by decide +kernel, rfl, by decide +kernel, by decide +kernel⟩
abbrev s_run_plain : Stmt := (topS 46)
theorem sc_run_plain : FnScope ["program", "inputs", "faces"] ["program", "inputs", "faces"] (defScope s_run_plain) := ⟨rfl, rfl, rfl, by decide +kernel, rfl, by decide +kernel, by decide +kernel⟩
/-! ### rows that the model of a run covers, to all depths -/
mutual
def Row.good (p : Prg) : Row → Prop
  | .set _ e => e.ok ∧ e.dep ≤ 3
  | .tell e => e.ok ∧ e.dep ≤ 3
  | .get _ o e _ => (e.ok ∧ e.dep ≤ 3) ∧ ∃ t, p.tab o = some t ∧ t.ok
  | .put o e f v => (e.ok ∧ e.dep ≤ 3) ∧ (v.ok ∧ v.dep ≤ 3) ∧ ∃ t b, p.tab o = some t ∧ t.ok ∧ t.fields.lookup f = some b ∧ 1 ≤ b ∧ b ≤ 8
  | .hand _ _ => False
  | .each _ o rs => (∃ t, p.tab o = some t ∧ 1 ≤ t.many ∧ t.many ≤ 6) ∧ Row.goods p rs
  | .times _ n rs => (1 ≤ n ∧ n ≤ 6) ∧ Row.goods p rs
  | .cond e rs us => (e.ok ∧ e.dep ≤ 3) ∧ Row.goods p rs ∧ Row.goods p us
def Row.goods (p : Prg) : List Row → Prop
  | [] => True
  | r :: rs => r.good p ∧ Row.goods p rs
end
theorem Row.goods_mem {p : Prg} : ∀ {rs : List Row}, Row.goods p rs → ∀ r ∈ rs, r.good p
  | r :: rs, h, x, hx => (List.mem_cons.mp hx).elim (fun e => e ▸ h.1) fun z => Row.goods_mem h.2 x z
theorem Row.good.fit {p : Prg} {r : Row} (h : r.good p) : r.fit p := by
  cases r with
  | set _ _ => exact h
  | tell _ => exact h
  | get _ _ _ _ => exact h
  | put _ _ _ _ => exact h
  | hand _ _ => exact h
  | each x o rs => obtain ⟨⟨t, ht, _⟩, _⟩ := h; exact ⟨t, ht⟩
  | times _ _ _ => trivial
  | cond _ _ _ => exact h.1
theorem Row.good.noHand {p : Prg} {r : Row} (h : r.good p) (o : Str) (e : Ex) : r ≠ .hand o e := fun z => by subst z; exact h
structure FraOk (p : Prg) (f : Fra) : Prop where
  ok : f.Ok
  good : Row.goods p f.rows
  num : ∀ x num many, f.loop = some (x, num, many) → 0 ≤ num ∧ many ≤ 255
structure StackOk (p : Prg) (fs : List Fra) : Prop where
  all : ∀ f ∈ fs, FraOk p f
  top : ∀ f r, fs = f :: r → f.left = false
theorem settle_sub : ∀ {fs : List Fra} {f : Fra}, f ∈ settle fs → f ∈ fs
  | g :: fs, f, h => by
    unfold settle at h
    split at h
    · exact List.mem_cons_of_mem _ (settle_sub h)
    · exact h
theorem settle_top : ∀ {fs : List Fra} {f : Fra} {r : List Fra}, settle fs = f :: r → f.left = false
  | [], _, _, h => by cases h
  | g :: fs, f, r, h => by
    unfold settle at h
    split at h
    · exact settle_top h
    · rename_i z
      cases h
      simpa using z
theorem StackOk.of {p : Prg} {fs : List Fra} (h : ∀ f ∈ fs, FraOk p f) : StackOk p (settle fs) := ⟨fun f hf => h f (settle_sub hf), fun f r e => settle_top e⟩
theorem Prg.many_ok {p : Prg} (h : p.ok) (o : Str) : 1 ≤ p.many o := by
  unfold Prg.many
  cases e : p.tab o with
  | none => decide
  | some t => exact (h.each t (List.mem_of_find?_eq_some e)).many.1
theorem StackOk.step {p : Prg} {M : Ms} (h : StackOk p M.stack) (ne : M.stack ≠ []) : StackOk p (stepM p M).stack := by
  unfold stepM
  cases e : M.stack with
  | nil => exact absurd e ne
  | cons f fs =>
    have hf := h.all f (by rw [e]; exact List.mem_cons_self ..)
    have hfs : ∀ g ∈ fs, FraOk p g := fun g hg => h.all g (by rw [e]; exact List.mem_cons_of_mem _ hg)
    have nl := h.top f fs e
    cases er : f.rows[f.pos]? with
    | some r =>
      have hlt := (List.getElem?_eq_some_iff.mp er).1
      have hr := Row.goods_mem hf.good r (List.mem_of_getElem? er)
      have hf' : FraOk p { f with pos := f.pos + 1 } := ⟨⟨hlt, hf.ok.loop⟩, hf.good, hf.num⟩
      have base : ∀ g ∈ { f with pos := f.pos + 1 } :: fs, FraOk p g := fun g hg => (List.mem_cons.mp hg).elim (fun z => z ▸ hf') (hfs g)
      simp only [er]
      refine StackOk.of fun g hg => ?_
      cases r with
      | each x o rs =>
        obtain ⟨⟨t, ht, h1, h6⟩, h2⟩ := hr
        have hm : p.many o = t.many := by unfold Prg.many; rw [ht]; rfl
        rcases List.mem_cons.mp hg with z | z
        · subst z
          exact ⟨⟨Nat.zero_le _, fun x' num many ez => by cases ez; omega⟩, h2, fun x' num many ez => by cases ez; omega⟩
        · exact base g z
      | times x n rs =>
        obtain ⟨⟨h1, h6⟩, h2⟩ := hr
        rcases List.mem_cons.mp hg with z | z
        · subst z
          exact ⟨⟨Nat.zero_le _, fun x' num many ez => by cases ez; omega⟩, h2, fun x' num many ez => by cases ez; omega⟩
        · exact base g z
      | cond ex rs us =>
        obtain ⟨_, h2, h3⟩ := hr
        rcases List.mem_cons.mp hg with z | z
        · subst z
          refine ⟨⟨Nat.zero_le _, fun x' num many ez => by cases ez⟩, ?_, fun x' num many ez => by cases ez⟩
          show Row.goods p (if _ then rs else us)
          split
          · exact h2
          · exact h3
        · exact base g z
      | set _ _ => exact base g hg
      | tell _ => exact base g hg
      | get _ _ _ _ => exact base g hg
      | put _ _ _ _ => exact base g hg
      | hand _ _ => exact base g hg
    | none =>
      simp only [er]
      have hp : f.pos = f.rows.length := by have := List.getElem?_eq_none_iff.mp er; have := hf.ok.pos; omega
      cases hl : f.loop with
      | none =>
        unfold Fra.left at nl
        rw [hl, hp] at nl
        simp at nl
      | some q =>
        obtain ⟨x, num, many⟩ := q
        have h1 := hf.ok.loop x num many hl
        have h2 := hf.num x num many hl
        have h3 : ¬ num + 1 = many := fun z => by
          unfold Fra.left at nl
          rw [hl, hp] at nl
          simp [z] at nl
        simp only
        refine StackOk.of fun g hg => ?_
        rcases List.mem_cons.mp hg with z | z
        · subst z
          exact ⟨⟨Nat.zero_le _, fun x' num' many' ez => by cases ez; omega⟩, hf.good, fun x' num' many' ez => by cases ez; omega⟩
        · exact hfs g z
structure QTxt (K : PySem.W.Frag) (mg : Str → Option Value) (fb CPs CRu CSe CSc : Addr) : Prop extends RTxt4 K mg fb CPs CRu CSe where
  s : STxt K mg fb CSc
  d_run_by : DefAt K mg "run_by" s_run_by ["program", "inputs", "faces"]
  d_need_inputs : DefAt K mg "need_inputs" s_need_inputs ["program", "inputs"]
  d_need_faces : DefAt K mg "need_faces" s_need_faces ["faces"]
  d_need_run : DefAt K mg "need_run" s_need_run ["program", "inputs", "faces"]
section
variable {P : Program} {w : World} {K : PySem.W.Frag} {mg : Str → Option Value} {base : Heap} {fb CPs CRu CSe CSc : Addr}
theorem cal_run_by (T : QTxt K mg fb CPs CRu CSe CSc) : Cal P w K mg base 19 "run_by" (spH K 3 fun al as Φ => ∃ (p : Prg) (ins : List Int) (fa : PyData), as = [.dat p.data, .dat (.tuple (ins.map .int)), .dat fa] ∧ p.ok ∧ Row.goods p p.rows ∧ Row.costs p p.rows ≤ 100000 ∧ ins.length = p.params.length ∧ (∀ v ∈ ins, 0 ≤ v ∧ v ≤ 255) ∧
    ∀ al' R, RunAt CRu CPs p al' R 600000 → R.S = runRows p p.rows (rs0 p ins) → Φ al' (.ref R.a)) := by
  have m_PlainStore := mak_PlainStore (P := P) (w := w) (base := base) T.toNTxt
  have m_Run := mak_Run (P := P) (w := w) (base := base) T.toRTxt4
  have mt_Run_do_step := met_do_step (P := P) (w := w) (base := base) T.toRTxt3
  refine T.d_run_by.cal sc_run_by (fun vs H Q E h => h.1) (fun f cdv A outer s H vs Q E hr h => ?_)
  have hu := hu_of hr
  refine ⟨_, (pss_cons (ps_set (i := 3) sc_run_by.nd rfl (by first | exact .inl rfl | exact .inr rfl) (pe_mk m_Run hr (by first | decide | omega) (by rfl) (pa_cons (pv 0) (pa_cons (pe_mk0 m_PlainStore hr (by first | decide | omega) (by rfl)) (pa_cons (pv 1) (pa_cons (pv 2) pa_nil))))))
  (pss_cons (ps_while PassesOwn.never (pt_val (pe_mt0 mt_Run_do_step hr (by first | decide | omega) (pv 3)))
  (pss_one ps_pass))
  (pss_one (ps_ret (pv 3))))), ?_⟩
  refine run_H h fun Γ al as Φ hg => ?_
  obtain ⟨p, ins, fa, rfl, ok, gd, hc, hl, hv, q⟩ := hg
  simp only [at_mk, put_mk, know_mk, q_var, q_vdat, q_vpen, q_vown, q_vfn, q_vref, q_asD, q_asDo, q_asDa, q_aown, q_adat, q_asA, q_asAp, q_asAf, q_asAr, q_asAo, q_asAa, q_asS, q_asSo, q_asSp, q_asSf, q_asSr, q_asSa, q_asR, q_asRr, q_asRo, q_onD, q_onR, q_inOb, q_inObr, q_inObf, q_onT, q_onL, q_onI, q_onX, q_onBo, q_onTd, q_seqL, q_seqT, q_intI, q_intB, q_none, q_noneR, q_one, q_oneS, q_seeL, q_seeT, q_seeO, q_seeA, q_seeAo, q_seeAl, q_seeAt, q_srL, q_srO, q_srA, q_lenS, q_lenO, q_lenA, q_lenR, q_slL, q_slO, q_slA, q_slAo, q_slAl, q_ixR, q_ixL, q_ixO, q_ixA, q_appA, q_appAo, q_appR, q_emR, q_zipT, q_zipL, q_some, q_fn1, q_fn2, q_fn3, q_fn4, q_pn0, q_pn1, q_pn2, q_pn3, q_scaI, q_scaS, q_scaB, q_scaN, q_fnD, q_all0, q_all1, q_all2, q_all3, q_all4, q_all5, q_wipe0, q_wipe, q_start, q_eqI, q_eqX, q_eqB, q_onB, q_at0, q_at1, q_at2, q_at3, q_at4, q_tup, q_strT, q_str, q_int, q_bool, List.length_cons, List.length_nil, List.map_cons, List.map_nil, List.replicate, List.cons_append, List.nil_append, List.getD_cons_zero, List.getD_cons_succ, List.getD_nil, List.set_cons_zero, List.set_cons_succ, List.set_nil, cond_true, cond_false, Nat.reduceAdd, Nat.reduceSub, Nat.sub_self, Nat.add_one_sub_one, Bool.not_true, Bool.not_false, true_and, and_true, Bool.false_eq_true, if_false, reduceIte]
  intro st dx hst
  refine ⟨st, dx, rfl, oup_same, fun fd us al' h1 h2 h3 h4 h5 h6 h7 => ?_⟩
  have n1 : fd ≠ st := fun z => by rw [z, oup_same] at h1; cases h1
  have n2 : us ≠ st := fun z => by rw [z, oup_same] at h2; cases h2
  have c0 : Cells al' [(st, .ins CPs dx (stF fd us)), (fd, .dT []), (us, .lst [])] := by
    refine ⟨by simp [n1.symm, n2.symm, h3], fun c hc => ?_⟩
    simp only [List.mem_cons, List.not_mem_nil, or_false] at hc
    rcases hc with z | z | z <;> subst z <;> assumption
  intro a dx' ha
  have c1 := Cells.new (l := []) (o := .ins CRu dx' []) c0 ha
  refine ⟨a, dx', st, dx, fd, us, p, ins, fa, rfl, c1, ok, hl, hv, fun al2 R g1 ga gS gk => ?_⟩
  refine ⟨fun m δ => ∃ (al3 : Al) (R3 : Rx) (n : Nat), δ = ⟨[some (.dat p.data), some (.dat (.tuple (ins.map .int))), some (.dat fa), some (.ref a)], al3⟩ ∧ R3.a = a ∧ RunAt CRu CPs p al3 R3 n ∧ costM p (R3.ks.map (·.f)) = m ∧ n + 4 * m ≤ 500000 ∧ StackOk p (R3.ks.map (·.f)) ∧ fin p (R3.ks.map (·.f)) R3.S = runRows p p.rows (rs0 p ins),
    ⟨_, al2, R, 4, rfl, ga, g1, rfl, ?_, ?_, ?_⟩, fun m δ hδ => ?_⟩
  · rw [gk]
    have h1 := cost_settle p [⟨p.rows, 0, none⟩]
    have h2 : costM p [⟨p.rows, 0, none⟩] = Row.costs p p.rows := rfl
    omega
  · rw [gk]
    exact StackOk.of fun f hf => by
      cases List.mem_singleton.mp hf
      exact ⟨⟨Nat.zero_le _, fun _ _ _ z => nomatch z⟩, gd, fun _ _ _ z => nomatch z⟩
  · rw [gk, fin_settle, gS]
    rfl
  · obtain ⟨al3, R3, n, rfl, ha3, sc, hm, hn, so, hf⟩ := hδ
    have e1 := sc.cells.get 0 rfl
    rw [ha3] at e1
    have tops : ∀ k ks, R3.ks = k :: ks → TopOk p k.f := fun k ks e => by
      have hk := so.all k.f (by rw [e]; exact List.mem_cons_self ..)
      have ht := so.top k.f (ks.map (·.f)) (by rw [e]; rfl)
      exact ⟨hk.ok, ht, fun r hr => (Row.goods_mem hk.good r hr).fit, hk.num⟩
    refine asIns_of e1 ⟨⟨rfl, rfl⟩, p, R3, n, congrArg (fun z => [Sv.ref z]) ha3.symm, sc, by omega, tops, fun hk => ?_, fun hk al4 R4 g4 ga4 gS4 gk4 => ?_⟩
    · rw [hk] at hf
      exact ⟨_, Sub.rfl, ha3 ▸ q al3 R3 (sc.mono (by omega)) hf⟩
    · have ne : R3.ks.map (·.f) ≠ [] := fun z => hk (List.map_eq_nil_iff.mp z)
      have hlt := cost_step p ⟨R3.S, 0, R3.ks.map (·.f)⟩ (Prg.many_ok ok) (fun f fs e => ⟨(so.all f (by rw [show R3.ks.map (·.f) = _ from e]; exact List.mem_cons_self ..)).ok, so.top f fs e⟩)
        (fun f hf' x n' rs hmem => (Row.goods_mem (so.all f hf').good _ hmem).1.1) ne
      have hfin := fin_step p ⟨R3.S, 0, R3.ks.map (·.f)⟩ (fun f fs e => ⟨(so.all f (by rw [show R3.ks.map (·.f) = _ from e]; exact List.mem_cons_self ..)).ok, so.top f fs e⟩)
        (fun f hf' r hr o e => (Row.goods_mem (so.all f hf').good r hr).noHand o e)
      have hst' := StackOk.step (M := ⟨R3.S, 0, R3.ks.map (·.f)⟩) so ne
      rw [← gk4] at hlt hst' hfin
      rw [← gS4] at hfin
      refine ⟨_, ?_, al4, R4, n + 4, rfl, ga4.trans ha3, g4, rfl, ?_, hst', hfin.trans hf⟩
      · rw [← hm]
        exact hlt
      · have : costM p (R4.ks.map (·.f)) < m := by rw [← hm]; exact hlt
        omega
theorem cal_need_inputs (T : QTxt K mg fb CPs CRu CSe CSc) : Cal P w K mg base 4 "need_inputs" (spD K 2 (fn2 fun a b Φ => ∃ (p : Prg) (ins : List Int), a = p.data ∧ b = .tuple (ins.map .int) ∧ ins.length = p.params.length ∧ ins.length ≤ 1000 ∧ (∀ v ∈ ins, 0 ≤ v ∧ v ≤ 255) ∧ Φ .none)) := by
  have c_are_values := cal_are_values (P := P) (w := w) (base := base) T.toNTxt
  refine T.d_need_inputs.cal sc_need_inputs (fun vs H Q E h => h.1) (fun f cdv A outer s H vs Q E hr h => ?_)
  have hu := hu_of hr
  refine ⟨_, (pss_one (ps_if (PW.pt (pw_or (pt_not (pt_val (pe_c c_are_values hr (by first | decide | omega) (by rfl) (pa_cons (pv 1) pa_nil)))) (pw_or1 (pt_cmpR op_ne (pe_callB (call_lenK K (by rfl)) (by rfl) T.z_len bt_len (pa_cons (pv 1) pa_nil)) (pe_callB (call_lenK K (by rfl)) (by rfl) T.z_len bt_len (pa_cons (pe_ix (ix_tupK K (by rfl)) (pv 0) pe_int (fun _ _ => rfl)) pa_nil)) (nomark _)))))
  (pss_one ps_never)
  pss_nil)), ?_⟩
  refine run_D h fun Γ as Φ hg => ?_
  obtain ⟨a, b, rfl, p, ins, rfl, rfl, hl, hs, hv, q⟩ := of_fn2 hg
  simp only [at_mk, put_mk, know_mk, q_var, q_vdat, q_vpen, q_vown, q_vfn, q_vref, q_asD, q_asDo, q_asDa, q_aown, q_adat, q_asA, q_asAp, q_asAf, q_asAr, q_asAo, q_asAa, q_asS, q_asSo, q_asSp, q_asSf, q_asSr, q_asSa, q_asR, q_asRr, q_asRo, q_onD, q_onR, q_inOb, q_inObr, q_inObf, q_onT, q_onL, q_onI, q_onX, q_onBo, q_onTd, q_seqL, q_seqT, q_intI, q_intB, q_none, q_noneR, q_one, q_oneS, q_seeL, q_seeT, q_seeO, q_seeA, q_seeAo, q_seeAl, q_seeAt, q_srL, q_srO, q_srA, q_lenS, q_lenO, q_lenA, q_lenR, q_slL, q_slO, q_slA, q_slAo, q_slAl, q_ixR, q_ixL, q_ixO, q_ixA, q_appA, q_appAo, q_appR, q_emR, q_zipT, q_zipL, q_some, q_fn1, q_fn2, q_fn3, q_fn4, q_pn0, q_pn1, q_pn2, q_pn3, q_scaI, q_scaS, q_scaB, q_scaN, q_fnD, q_all0, q_all1, q_all2, q_all3, q_all4, q_all5, q_wipe0, q_wipe, q_start, q_eqI, q_eqX, q_eqB, q_onB, q_at0, q_at1, q_at2, q_at3, q_at4, q_tup, q_strT, q_str, q_int, q_bool, List.length_cons, List.length_nil, List.map_cons, List.map_nil, List.replicate, List.cons_append, List.nil_append, List.getD_cons_zero, List.getD_cons_succ, List.getD_nil, List.set_cons_zero, List.set_cons_succ, List.set_nil, cond_true, cond_false, Nat.reduceAdd, Nat.reduceSub, Nat.sub_self, Nat.add_one_sub_one, Bool.not_true, Bool.not_false, true_and, and_true, Bool.false_eq_true, if_false, reduceIte, Prg.data]
  refine ⟨ins, rfl, hs, hv, ?_⟩
  simp only [at_mk, put_mk, know_mk, q_var, q_vdat, q_vpen, q_vown, q_vfn, q_vref, q_asD, q_asDo, q_asDa, q_aown, q_adat, q_asA, q_asAp, q_asAf, q_asAr, q_asAo, q_asAa, q_asS, q_asSo, q_asSp, q_asSf, q_asSr, q_asSa, q_asR, q_asRr, q_asRo, q_onD, q_onR, q_inOb, q_inObr, q_inObf, q_onT, q_onL, q_onI, q_onX, q_onBo, q_onTd, q_seqL, q_seqT, q_intI, q_intB, q_none, q_noneR, q_one, q_oneS, q_seeL, q_seeT, q_seeO, q_seeA, q_seeAo, q_seeAl, q_seeAt, q_srL, q_srO, q_srA, q_lenS, q_lenO, q_lenA, q_lenR, q_slL, q_slO, q_slA, q_slAo, q_slAl, q_ixR, q_ixL, q_ixO, q_ixA, q_appA, q_appAo, q_appR, q_emR, q_zipT, q_zipL, q_some, q_fn1, q_fn2, q_fn3, q_fn4, q_pn0, q_pn1, q_pn2, q_pn3, q_scaI, q_scaS, q_scaB, q_scaN, q_fnD, q_all0, q_all1, q_all2, q_all3, q_all4, q_all5, q_wipe0, q_wipe, q_start, q_eqI, q_eqX, q_eqB, q_onB, q_at0, q_at1, q_at2, q_at3, q_at4, q_tup, q_strT, q_str, q_int, q_bool, List.length_cons, List.length_nil, List.map_cons, List.map_nil, List.replicate, List.cons_append, List.nil_append, List.getD_cons_zero, List.getD_cons_succ, List.getD_nil, List.set_cons_zero, List.set_cons_succ, List.set_nil, cond_true, cond_false, Nat.reduceAdd, Nat.reduceSub, Nat.sub_self, Nat.add_one_sub_one, Bool.not_true, Bool.not_false, true_and, and_true, Bool.false_eq_true, if_false, reduceIte, List.length_map, hl, decide_true]
  exact q
theorem cal_need_faces (T : QTxt K mg fb CPs CRu CSe CSc) : Cal P w K mg base 4 "need_faces" (spD K 1 (fn1 fun b Φ => ∃ (fa : List Int), b = .tuple (fa.map .int) ∧ fa.length ≤ 1000 ∧ (∀ v ∈ fa, 0 ≤ v ∧ v ≤ 255) ∧ Φ .none)) := by
  have c_are_values := cal_are_values (P := P) (w := w) (base := base) T.toNTxt
  refine T.d_need_faces.cal sc_need_faces (fun vs H Q E h => h.1) (fun f cdv A outer s H vs Q E hr h => ?_)
  have hu := hu_of hr
  refine ⟨_, (pss_one (ps_if (pt_not (pt_val (pe_c c_are_values hr (by first | decide | omega) (by rfl) (pa_cons (pv 0) pa_nil))))
  (pss_one ps_never)
  pss_nil)), ?_⟩
  refine run_D h fun Γ as Φ hg => ?_
  obtain ⟨b, rfl, ins, rfl, hs, hv, q⟩ := of_fn1 hg
  simp only [at_mk, put_mk, know_mk, q_var, q_vdat, q_vpen, q_vown, q_vfn, q_vref, q_asD, q_asDo, q_asDa, q_aown, q_adat, q_asA, q_asAp, q_asAf, q_asAr, q_asAo, q_asAa, q_asS, q_asSo, q_asSp, q_asSf, q_asSr, q_asSa, q_asR, q_asRr, q_asRo, q_onD, q_onR, q_inOb, q_inObr, q_inObf, q_onT, q_onL, q_onI, q_onX, q_onBo, q_onTd, q_seqL, q_seqT, q_intI, q_intB, q_none, q_noneR, q_one, q_oneS, q_seeL, q_seeT, q_seeO, q_seeA, q_seeAo, q_seeAl, q_seeAt, q_srL, q_srO, q_srA, q_lenS, q_lenO, q_lenA, q_lenR, q_slL, q_slO, q_slA, q_slAo, q_slAl, q_ixR, q_ixL, q_ixO, q_ixA, q_appA, q_appAo, q_appR, q_emR, q_zipT, q_zipL, q_some, q_fn1, q_fn2, q_fn3, q_fn4, q_pn0, q_pn1, q_pn2, q_pn3, q_scaI, q_scaS, q_scaB, q_scaN, q_fnD, q_all0, q_all1, q_all2, q_all3, q_all4, q_all5, q_wipe0, q_wipe, q_start, q_eqI, q_eqX, q_eqB, q_onB, q_at0, q_at1, q_at2, q_at3, q_at4, q_tup, q_strT, q_str, q_int, q_bool, List.length_cons, List.length_nil, List.map_cons, List.map_nil, List.replicate, List.cons_append, List.nil_append, List.getD_cons_zero, List.getD_cons_succ, List.getD_nil, List.set_cons_zero, List.set_cons_succ, List.set_nil, cond_true, cond_false, Nat.reduceAdd, Nat.reduceSub, Nat.sub_self, Nat.add_one_sub_one, Bool.not_true, Bool.not_false, true_and, and_true, Bool.false_eq_true, if_false, reduceIte]
  exact ⟨ins, rfl, hs, hv, q⟩
theorem cal_need_run (T : QTxt K mg fb CPs CRu CSe CSc) : Cal P w K mg base 25 "need_run" (spD K 3 (fn3 fun a b c Φ => ∃ (p : Prg) (ins fa : List Int), a = p.data ∧ b = .tuple (ins.map .int) ∧ c = .tuple (fa.map .int) ∧ p.ok ∧ ins.length = p.params.length ∧ ins.length ≤ 1000 ∧ (∀ v ∈ ins, 0 ≤ v ∧ v ≤ 255) ∧ fa.length ≤ 1000 ∧ (∀ v ∈ fa, 0 ≤ v ∧ v ≤ 255) ∧ Φ .none)) := by
  have c_need_program := cal_need_program (P := P) (w := w) (base := base) T.s
  have c_need_inputs := cal_need_inputs (P := P) (w := w) (base := base) T
  have c_need_faces := cal_need_faces (P := P) (w := w) (base := base) T
  refine T.d_need_run.cal sc_need_run (fun vs H Q E h => h.1) (fun f cdv A outer s H vs Q E hr h => ?_)
  have hu := hu_of hr
  refine ⟨_, (pss_cons (ps_expr (pe_c c_need_program hr (by first | decide | omega) (by rfl) (pa_cons (pv 0) pa_nil)))
  (pss_cons (ps_expr (pe_c c_need_inputs hr (by first | decide | omega) (by rfl) (pa_cons (pv 0) (pa_cons (pv 1) pa_nil))))
  (pss_one (ps_expr (pe_c c_need_faces hr (by first | decide | omega) (by rfl) (pa_cons (pv 2) pa_nil)))))), ?_⟩
  refine run_D h fun Γ as Φ hg => ?_
  obtain ⟨a, b, c, rfl, p, ins, fa, rfl, rfl, rfl, ok, hl, hs, hv, hs2, hv2, q⟩ := of_fn3 hg
  simp only [at_mk, put_mk, know_mk, q_var, q_vdat, q_vpen, q_vown, q_vfn, q_vref, q_asD, q_asDo, q_asDa, q_aown, q_adat, q_asA, q_asAp, q_asAf, q_asAr, q_asAo, q_asAa, q_asS, q_asSo, q_asSp, q_asSf, q_asSr, q_asSa, q_asR, q_asRr, q_asRo, q_onD, q_onR, q_inOb, q_inObr, q_inObf, q_onT, q_onL, q_onI, q_onX, q_onBo, q_onTd, q_seqL, q_seqT, q_intI, q_intB, q_none, q_noneR, q_one, q_oneS, q_seeL, q_seeT, q_seeO, q_seeA, q_seeAo, q_seeAl, q_seeAt, q_srL, q_srO, q_srA, q_lenS, q_lenO, q_lenA, q_lenR, q_slL, q_slO, q_slA, q_slAo, q_slAl, q_ixR, q_ixL, q_ixO, q_ixA, q_appA, q_appAo, q_appR, q_emR, q_zipT, q_zipL, q_some, q_fn1, q_fn2, q_fn3, q_fn4, q_pn0, q_pn1, q_pn2, q_pn3, q_scaI, q_scaS, q_scaB, q_scaN, q_fnD, q_all0, q_all1, q_all2, q_all3, q_all4, q_all5, q_wipe0, q_wipe, q_start, q_eqI, q_eqX, q_eqB, q_onB, q_at0, q_at1, q_at2, q_at3, q_at4, q_tup, q_strT, q_str, q_int, q_bool, List.length_cons, List.length_nil, List.map_cons, List.map_nil, List.replicate, List.cons_append, List.nil_append, List.getD_cons_zero, List.getD_cons_succ, List.getD_nil, List.set_cons_zero, List.set_cons_succ, List.set_nil, cond_true, cond_false, Nat.reduceAdd, Nat.reduceSub, Nat.sub_self, Nat.add_one_sub_one, Bool.not_true, Bool.not_false, true_and, and_true, Bool.false_eq_true, if_false, reduceIte]
  exact ⟨p, ok, rfl, p, ins, rfl, rfl, hl, hs, hv, fa, rfl, hs2, hv2, q⟩
end
end B


set_option synthInstance.maxHeartbeats 0
set_option synthInstance.maxSize 100000
/-! plain.py: run_plain, with what may be left out. -/
namespace B
open PySem PySem.Spec PyProof.Rows L2
/-! ### defs with defaults -/
def spA (sp : Sp) (dvs : List V) : Sp := fun vs H Q E => ∃ us, vs = us ++ dvs ∧ sp us H Q E
structure CalD (P : Program) (w : World) (K : PySem.W.Frag) (mg : Str → Option Value) (base : Heap) (k : Nat) (x : Str) (dvs : List V) (sp : Sp) : Prop where
  ex : ∃ (f : Addr) (fd : FuncData) (ps : List Str) (ds : List Value), FnOk P w K mg base CX0 k f fd ps (spA sp dvs) ∧ mg x = some (.ref f) ∧ PySem.W.keepIn K (.ref f) = true ∧ Binds K fd ps ds ∧ Vals dvs ds
theorem pe_cD {X : Cx} {k j : Nat} {x : Str} {sp : Sp} {dvs : List V} {p pos : Pos} {e : Expr} {es : List Expr} {t : TA} (c : CalD X.prog X.w X.K X.mg X.base k x dvs sp) (hr : Room j X.A) (hk : k ≤ j) (hg : Gl X x) (ha : PA X (e :: es) t)
    (hdb : (x == ("__debug__" : Str)) = false := by decide) (he : starEach (e :: es) X.env = (false, eval e X.env) :: starEach es X.env := by rfl) (hpl : (backTo pos (starEach es X.env)).any (·.1) = false := by rfl) :
    PE X (.Call (.Name x p) (e :: es) [] pos) (tCall (spA sp dvs) dvs E0 t) := by
  obtain ⟨f, fd, ps, ds, F, hm, kp, b, hd⟩ := c.ex
  exact pe_call F (hr.mono hk) hg hm kp b hd pass0 ha hdb he hpl
instance {K : PySem.W.Frag} {Γ : Gm} {n : Nat} {dvs : List V} {g : List Sv → (PyData → Prop) → Prop} {t : TA} {f : Dn → (List Sv → Dn → Prop) → Prop} [A : DA K Γ t f] : DE K Γ (tCall (spA (spD K n g) dvs) dvs E0 t) (fun δ Φ => f δ fun as δ1 => as.length = n ∧ g as fun d => Φ (.dat d) δ1) := ⟨fun {L δ σ S H Φ Q} I h q => by
  refine A.run I h fun as L1 δ1 vs H1 J ar h1 => ?_
  refine ⟨vs, rfl, ar.len.trans h1.1, L1, Γ.P, as, _, fun p hp => J.sub p (J.pin0 p hp), J.live, J.pens, AR.swap (Γ := Γ) (Γ' := ⟨Γ.P, Γ.P, L1, H1⟩) rfl ar, h1.2, fun d v H' f1 p1 dv hd => ?_⟩
  exact q (.dat d) L1 δ1 v H' ((J.keep f1 p1).dat dv) hd⟩
/-- an empty tuple that stands behind the top -/
def EmT (K : PySem.W.Frag) (a : Addr) : Prop := ∃ (o : Obj) (n : Nat), K.lookup a = some o ∧ o.cls = .type "tuple" ∧ o.dict = none ∧ o.data = .seq #[] n
theorem EmT.dv {K : PySem.W.Frag} {a : Addr} (h : EmT K a) (L : List Addr) (H : Hp) : Dv K L H (.tuple []) (.ref a) := by
  obtain ⟨o, n, h1, h2, h3, h4⟩ := h
  exact ⟨a, [], rfl, .inr ⟨rfl, .inr ⟨o, #[], n, h1, h2, h3, h4, (by show 0 ≤ sizeLine; exact Nat.zero_le _), .nil⟩⟩, rfl⟩
/-- tuple(a list or a tuple, a known list too) -/
instance (priority := 2000) {K : PySem.W.Frag} {Γ : Gm} {e : TE} {fe : Dn → (Sv → Dn → Prop) → Prop} [E : DE K Γ e fe] : DE K Γ (tCB (rTupZ K) (tCons e tNil)) (fun δ Φ => fe δ fun s δ1 => seeR s δ1 fun ds => Φ (.dat (.tuple ds)) δ1) := ⟨fun {L δ σ S H Φ Q} I h q =>
  E.run I h fun s L1 δ1 v H1 T h1 => by
    obtain ⟨a, xs, ds, rfl, t, r, h2⟩ := seeR_run T h1
    refine ⟨a, xs, rfl, ?_⟩
    rcases t with t | t
    · exact .inl ⟨sqL_of t, fun l o nl od => q (.dat (.tuple ds)) L1 δ1 _ _ ((T.drop.more (.new nl)).dat ⟨l, xs, rfl, .made od, r.mono (P := []) (.new nl) fun _ z => nomatch z⟩) h2⟩
    · exact .inr ⟨t.sq, q (.dat (.tuple ds)) L1 δ1 _ H1 (T.drop.dat ⟨a, xs, rfl, t, r⟩) h2⟩⟩
theorem datas_said (xs : List Int) : datas (saidS xs) = some (xs.map .int) := by
  unfold saidS
  induction xs with
  | nil => rfl
  | cons x xs ih => rw [List.map_cons, datas, ih]; rfl
section
variable {P : Program} {w : World} {K : PySem.W.Frag} {mg : Str → Option Value} {base : Heap} {fb CPs CRu CSe CSc : Addr}
theorem fn_run_plain (T : QTxt K mg fb CPs CRu CSe CSc) {kws : List (Str × V)} {dvs : List V} {f : Addr} {fd : FuncData} (F : FunD K "run_plain" "run_plain" (defArgs s_run_plain) (defBody s_run_plain) (defScope s_run_plain) dvs kws f fd) :
    FnOk P w K mg base CX0 26 f fd ["program", "inputs", "faces"] (spD K 3 (fn3 fun a b c Φ => ∃ (p : Prg) (ins fa : List Int), a = p.data ∧ b = .tuple (ins.map .int) ∧ c = .tuple (fa.map .int) ∧ p.ok ∧ Row.goods p p.rows ∧ Row.costs p p.rows ≤ 100000 ∧ ins.length = p.params.length ∧ ins.length ≤ 1000 ∧ (∀ v ∈ ins, 0 ≤ v ∧ v ≤ 255) ∧ fa.length ≤ 1000 ∧ (∀ v ∈ fa, 0 ≤ v ∧ v ≤ 255) ∧
      Φ (.tuple ((runRows p p.rows (rs0 p ins)).said.map .int)))) := by
  have c_need_run := cal_need_run (P := P) (w := w) (base := base) T
  have c_run_by := cal_run_by (P := P) (w := w) (base := base) T
  refine F.ok sc_run_plain (fun vs H Q E h => h.1) (fun cdv A outer s H vs Q E hr h => ?_)
  have hu := hu_of hr
  refine ⟨_, PSs.nox (pss_cons (ps_expr (pe_c c_need_run hr (by first | decide | omega) (by rfl) (pa_cons (pv 0) (pa_cons (pv 1) (pa_cons (pv 2) pa_nil)))))
  (pss_one (ps_ret (pe_callTy (call_tupleZK K (by rfl)) (by rfl) T.z_tuple bt_tuple (pa_cons (pe_fldK K (by rfl) (by rfl) (pe_c c_run_by hr (by first | decide | omega) (by rfl) (pa_cons (pv 0) (pa_cons (pv 1) (pa_cons (pv 2) pa_nil))))) pa_nil))))), ?_⟩
  refine run_D h fun Γ as Φ hg => ?_
  obtain ⟨a, b, c, rfl, p, ins, fa, rfl, rfl, rfl, ok, gd, hc, hl, hs, hv, hs2, hv2, q⟩ := of_fn3 hg
  simp only [at_mk, put_mk, know_mk, q_var, q_vdat, q_vpen, q_vown, q_vfn, q_vref, q_asD, q_asDo, q_asDa, q_aown, q_adat, q_asA, q_asAp, q_asAf, q_asAr, q_asAo, q_asAa, q_asS, q_asSo, q_asSp, q_asSf, q_asSr, q_asSa, q_asR, q_asRr, q_asRo, q_onD, q_onR, q_inOb, q_inObr, q_inObf, q_onT, q_onL, q_onI, q_onX, q_onBo, q_onTd, q_seqL, q_seqT, q_intI, q_intB, q_none, q_noneR, q_one, q_oneS, q_seeL, q_seeT, q_seeO, q_seeA, q_seeAo, q_seeAl, q_seeAt, q_srL, q_srO, q_srA, q_lenS, q_lenO, q_lenA, q_lenR, q_slL, q_slO, q_slA, q_slAo, q_slAl, q_ixR, q_ixL, q_ixO, q_ixA, q_appA, q_appAo, q_appR, q_emR, q_zipT, q_zipL, q_some, q_fn1, q_fn2, q_fn3, q_fn4, q_pn0, q_pn1, q_pn2, q_pn3, q_scaI, q_scaS, q_scaB, q_scaN, q_fnD, q_all0, q_all1, q_all2, q_all3, q_all4, q_all5, q_wipe0, q_wipe, q_start, q_eqI, q_eqX, q_eqB, q_onB, q_at0, q_at1, q_at2, q_at3, q_at4, q_tup, q_strT, q_str, q_int, q_bool, List.length_cons, List.length_nil, List.map_cons, List.map_nil, List.replicate, List.cons_append, List.nil_append, List.getD_cons_zero, List.getD_cons_succ, List.getD_nil, List.set_cons_zero, List.set_cons_succ, List.set_nil, cond_true, cond_false, Nat.reduceAdd, Nat.reduceSub, Nat.sub_self, Nat.add_one_sub_one, Bool.not_true, Bool.not_false, true_and, and_true, Bool.false_eq_true, if_false, reduceIte]
  refine ⟨p, ins, fa, rfl, rfl, rfl, ok, hl, hs, hv, hs2, hv2, p, ins, .tuple (fa.map .int), rfl, ok, gd, hc, hl, hv, fun al' R sc hS => ?_⟩
  refine asIns_of (sc.cells.get 0 rfl) ⟨⟨T.cRu, T.nRu_said⟩, ?_⟩
  rw [ruF_said, q_inObr, q_srR (sc.cells.get 6 rfl) (datas_said _), hS]
  exact q
abbrev spRun (K : PySem.W.Frag) : Sp := spD K 1 (fn1 fun a Φ => ∃ p : Prg, a = p.data ∧ p.ok ∧ Row.goods p p.rows ∧ Row.costs p p.rows ≤ 100000 ∧ p.params = [] ∧ Φ (.tuple ((runRows p p.rows (rs0 p [])).said.map .int)))
theorem cal_run_plain (T : QTxt K mg fb CPs CRu CSe CSc) (zt : mg "tuple" = none) {e1 e2 f : Addr} {fd : FuncData} (h1 : EmT K e1) (h2 : EmT K e2) (F : FunD K "run_plain" "run_plain" (defArgs s_run_plain) (defBody s_run_plain) (defScope s_run_plain) [.ref e1] [("faces", .ref e2)] f fd) (hm : mg "run_plain" = some (.ref f)) :
    CalD P w K mg base 26 "run_plain" [.ref e1, .ref e2] (spRun K) := by
  have ok := fn_run_plain (P := P) (w := w) (base := base) T F
  obtain ⟨ds, hd, hb⟩ := F.binds (ps := ["program", "inputs", "faces"]) 1 0 (by simp) rfl (fun TT D doc pm an cdv ct us its ks l1 l2 l3 => by
    match us, l1 with
    | [u], _ =>
      match its, l2 with
      | [i], _ =>
        match ks, l3 with
        | [k], _ => exact ⟨_, rfl, _, _, _, _, _, _, rfl, rfl, rfl⟩) (by simp)
  refine ⟨f, fd, _, ds, ok.imp fun vs H Q E hh => ?_, hm, F.kp, hb, hd⟩
  obtain ⟨us, rfl, hl, L, P', as, Φ, i1, i2, i3, ar, hg, q⟩ := hh
  obtain ⟨a, rfl, p, rfl, i4, i5, i6, i7, i8⟩ := of_fn1 hg
  refine ⟨by rw [List.length_append, hl]; rfl, L, P', [.dat p.data, .dat (.tuple []), .dat (.tuple [])], Φ, i1, i2, i3, ?_, ?_, q⟩
  · obtain ⟨v, r, rfl, b1, b2, b3, b4⟩ := ar
    cases b4
    exact ⟨v, _, rfl, b1, b2, b3, _, _, rfl, h1.dv L H, rfl, (fun _ z => nomatch z), _, _, rfl, h2.dv L H, rfl, (fun _ z => nomatch z), rfl⟩
  · exact ⟨p, [], [], rfl, rfl, rfl, i4, i5, i6, by rw [i7]; rfl, by decide, (fun _ z => nomatch z), by decide, (fun _ z => nomatch z), i8⟩
end
end B


set_option synthInstance.maxHeartbeats 0
set_option synthInstance.maxSize 100000
/-! The data layer: dicts written out, repr of data. -/
namespace B
open PySem PySem.Spec PyProof.Rows L2
class DPs (K : PySem.W.Frag) (Γ : Gm) (t : List (TE × TE)) (f : outParam (Dn → (List (Key × PyData) → Dn → Prop) → Prop)) : Prop where
  run : ∀ {L : List Addr} {δ : Dn} {σ : L2.St} {S : List (Sv × V)} {H : Hp} {Φ : List (Key × PyData) → Dn → Prop} {Q : List (V × V) → Hp → Prop}, Sim K Γ L δ σ S H → f δ Φ →
    (∀ es L' δ' kvs H', Sim K Γ L' δ' σ S H' → DvK K L' H' es kvs → Φ es δ' → Q (kvs.map fun kv => (kV kv.1, kv.2)) H') → tPairs t σ H Q
def someKey (y : PyData) (k : Key → Prop) : Prop := match keyD y with
  | some κ => k κ
  | none => False
section
variable {K : PySem.W.Frag} {Γ : Gm}
instance : DPs K Γ [] (fun δ Φ => Φ [] δ) := ⟨fun {L δ σ S H Φ Q} I h q => q [] L δ [] H I rfl h⟩
instance {tk tv : TE} {r : List (TE × TE)} {fk fv : Dn → (Sv → Dn → Prop) → Prop} {f : Dn → (List (Key × PyData) → Dn → Prop) → Prop} [Y : DE K Γ tk fk] [E : DE K Γ tv fv] [R : DPs K Γ r f] :
    DPs K Γ ((tk, tv) :: r) (fun δ Φ => fk δ fun s δ1 => asD s δ1 fun y δ2 => fv δ2 fun t δ3 => asD t δ3 fun z δ4 => someKey y fun κ => f δ4 fun es δ5 => Φ ((κ, z) :: es) δ5) := ⟨fun {L δ σ S H Φ Q} I h q => by
  refine DE.data (T := Y) I h fun y L1 δ1 v H1 J h1 => DE.data (T := E) J h1 fun z L2 δ2 u H2 J2 h2 => ?_
  have dy := J2.pop.top
  unfold someKey at h2
  split at h2
  · rename_i κ ek
    have ev := keyD_run dy ek
    refine R.run J2 h2 fun es L3 δ3 kvs H3 J3 dv h3 => ?_
    have dz := J3.top
    subst ev
    exact q ((κ, z) :: es) L3 δ3 ((κ, u) :: kvs) H3 J3.pop.pop ⟨u, kvs, rfl, dz, dv⟩ h3
  · exact h2.elim⟩
instance {t : List (TE × TE)} {f : Dn → (List (Key × PyData) → Dn → Prop) → Prop} [R : DPs K Γ t f] :
    DE K Γ (tDisp t) (fun δ Φ => ∀ p, δ.al p = none → f (δ.know (oup δ.al p (.dK []))) fun es δ1 => es.length ≤ 15 ∧ asDK δ1.al p fun e0 => e0 = [] ∧ Φ (.ref p) (δ1.know (oup δ1.al p (.dK (mergeE [] es))))) := ⟨fun {L δ σ S H Φ Q} I h q => by
  intro p np
  have J := I.newOb (u := .dK []) (o := .dK []) np ⟨[], upd_same, rfl⟩
  refine R.run J (h p (I.fresh np).1) fun es L1 δ1 kvs H1 J1 dv h1 => ?_
  obtain ⟨hl, h2⟩ := h1
  unfold asDK at h2
  split at h2
  · rename_i e0 ea
    obtain ⟨rfl, h3⟩ := h2
    obtain ⟨⟨aL, _⟩, k0, e2, e3⟩ := J1.obj p _ ea
    cases (show k0 = [] from e3)
    refine ⟨e2, kvs, rfl, by rw [dv.len]; exact hl, ?_⟩
    have f1 : Fr [p] H1 (upd H1 p (.dK (mergeK [] kvs))) := .wr e2 trivial (by simp)
    have inL : ∀ b ∈ [p], b ∈ L1 := fun b hb => by cases List.mem_singleton.mp hb; exact aL
    have J2 := J1.wrOb (u := .dK (mergeK [] kvs)) (o' := .dK (mergeE [] es)) ea ⟨_, upd_same, (dv.merge (es := []) (acc := []) rfl).to fun d v => Dv.mono f1 inL⟩
    exact q (.ref p) _ _ _ _ (J2.push (s := .ref p) rfl rfl fun _ z => nomatch z) h3
  · exact h2.elim⟩
/-- repr(data) -/
instance {e : TE} {fe : Dn → (Sv → Dn → Prop) → Prop} [E : DE K Γ e fe] : DE K Γ (tCB (rReprD K) (tCons e tNil)) (fun δ Φ => fe δ fun s δ1 => asD s δ1 fun d δ2 => onT d fun ds => noDicts ds = true ∧ (∃ n m, n ≤ 60 ∧ m ≤ 200000 ∧ Sh n m (.tuple ds)) ∧ Φ (.dat (.str (PyData.tuple ds).shown)) δ2) := ⟨fun {L δ σ S H Φ Q} I h q => by
  refine DE.data (T := E) I h fun x L1 δ1 v H1 J h1 => ?_
  cases x with
  | tuple ds =>
    obtain ⟨h2, h3, h4⟩ := (show noDicts ds = true ∧ (∃ n m, n ≤ 60 ∧ m ≤ 200000 ∧ Sh n m (.tuple ds)) ∧ Φ (.dat (.str (PyData.tuple ds).shown)) δ1 from h1)
    have dv := J.top
    obtain ⟨a, xs, rfl, t, r⟩ := dv
    exact ⟨a, .tuple ds, rfl, Dv.dp (L := L1) h2 ⟨a, xs, rfl, t, r⟩, h3, q (.dat (.str _)) L1 δ1 _ H1 (J.pop.dat rfl) h4⟩
  | _ => exact h1.elim⟩
end
end B

set_option synthInstance.maxHeartbeats 0
set_option synthInstance.maxSize 100000
/-! The law k01's own defs. -/
namespace B
open PySem PySem.Spec PyProof.Rows L2
abbrev s__law_reckoned : Stmt := (topS 51)
theorem sc__law_reckoned : FnScope ["_law_word", "_law_one", "_law_other"] ["_law_word", "_law_one", "_law_other"] (defScope s__law_reckoned) := ⟨rfl, rfl, rfl, by decide +kernel, rfl, by decide +kernel, by decide +kernel⟩
abbrev s__law_value : Stmt := (topS 52)
theorem sc__law_value : FnScope ["_law_own", "_law_expression"] ["_law_own", "_law_expression"] (defScope s__law_value) := ⟨rfl, rfl, rfl, by decide +kernel, rfl, by decide +kernel, by decide +kernel⟩
abbrev s__law_pick : Stmt := (topS 53)
theorem sc__law_pick : FnScope ["_law_pen_here", "_law_things"] ["_law_pen_here", "_law_things"] (defScope s__law_pick) := ⟨rfl, rfl, rfl, by decide +kernel, rfl, by decide +kernel, by decide +kernel⟩
abbrev s__law_expr : Stmt := (topS 54)
theorem sc__law_expr : FnScope ["_law_pen_here", "_law_deep", "_law_way", "_law_word"] ["_law_pen_here", "_law_deep"] (defScope s__law_expr) := ⟨rfl, rfl, rfl, by decide +kernel, rfl, by decide +kernel, by decide +kernel⟩
structure WTxt (K : PySem.W.Frag) (mg : Str → Option Value) (fb CPs CRu CSe CSc : Addr) : Prop extends QTxt K mg fb CPs CRu CSe CSc, PTxt K mg where
  d__law_reckoned : DefAt K mg "_law_reckoned" s__law_reckoned ["_law_word", "_law_one", "_law_other"]
  d__law_value : DefAt K mg "_law_value" s__law_value ["_law_own", "_law_expression"]
  d__law_pick : DefAt K mg "_law_pick" s__law_pick ["_law_pen_here", "_law_things"]
  d__law_expr : DefAt K mg "_law_expr" s__law_expr ["_law_pen_here", "_law_deep"]
section
variable {P : Program} {w : World} {K : PySem.W.Frag} {mg : Str → Option Value} {base : Heap} {fb CPs CRu CSe CSc : Addr}
theorem cal_lreckoned (T : WTxt K mg fb CPs CRu CSe CSc) : Cal P w K mg base 1 "_law_reckoned" (spD K 3 (fn3 fun a b c Φ => ∃ z x y, a = .str z ∧ b = .int x ∧ c = .int y ∧ z ∈ opsL ∧ (0 ≤ x ∧ x ≤ 255) ∧ (0 ≤ y ∧ y ≤ 255) ∧ Φ (.int (reck z x y)))) := by
  refine T.d__law_reckoned.cal sc__law_reckoned (fun vs H Q E h => h.1) (fun f cdv A outer s H vs Q E hr h => ?_)
  have hu := hu_of hr
  refine ⟨_, (pss_cons (ps_if (pt_cmpR (op_in_seqK K (by rfl)) (pv 0) (pe_tupZ (pa_cons pe_str (pa_cons pe_str pa_nil))) (by rfl))
  (pss_one (ps_ret (pe_ifExp (pt_cmpR op_eq (pv 0) pe_str (nomark _)) (pe_callTy call_int1r (by rfl) T.z_int bt_int (pa_cons (pe_cmpR op_lt (pv 1) (pv 2) (nomark _)) pa_nil)) (pe_callTy call_int1r (by rfl) T.z_int bt_int (pa_cons (pe_cmpR op_eq (pv 1) (pv 2) (nomark _)) pa_nil)))))
  pss_nil)
  (pss_cons (ps_if (pt_cmpR op_eq (pv 0) pe_str (nomark _))
  (pss_one (ps_ret (pe_ifExp (pt_cmpR op_eq (pv 2) pe_int (nomark _)) (pv 1) (pe_op op_mod (pv 1) (pv 2)))))
  pss_nil)
  (pss_one (ps_ret (pe_op op_mod (pe_dget hu (pe_disp (pps_cons pe_str (pe_op op_add (pv 1) (pv 2)) (pps_cons pe_str (pe_op op_sub (pv 1) (pv 2)) (pps_cons pe_str (pe_op op_mul (pv 1) (pv 2)) pps_nil))) rfl rfl (by simp) (by decide)) (pv 0) (fun _ _ => rfl)) pe_int))))), ?_⟩
  refine run_D h fun Γ as Φ hg => ?_
  obtain ⟨a, b, c, rfl, z, x, y, rfl, rfl, rfl, hz, hx, hy, q⟩ := of_fn3 hg
  clear hg
  simp only [at_mk, put_mk, know_mk, q_var, q_vdat, q_vpen, q_vown, q_vfn, q_vref, q_asD, q_asDo, q_asDa, q_aown, q_adat, q_asA, q_asAp, q_asAf, q_asAr, q_asAo, q_asAa, q_asS, q_asSo, q_asSp, q_asSf, q_asSr, q_asSa, q_asR, q_asRr, q_asRo, q_onD, q_onR, q_inOb, q_inObr, q_inObf, q_onT, q_onL, q_onI, q_onX, q_onBo, q_onTd, q_seqL, q_seqT, q_intI, q_intB, q_none, q_noneR, q_one, q_oneS, q_seeL, q_seeT, q_seeO, q_seeA, q_seeAo, q_seeAl, q_seeAt, q_srL, q_srO, q_srA, q_lenS, q_lenO, q_lenA, q_lenR, q_slL, q_slO, q_slA, q_slAo, q_slAl, q_ixR, q_ixL, q_ixO, q_ixA, q_appA, q_appAo, q_appR, q_emR, q_zipT, q_zipL, q_some, q_fn1, q_fn2, q_fn3, q_fn4, q_pn0, q_pn1, q_pn2, q_pn3, q_scaI, q_scaS, q_scaB, q_scaN, q_fnD, q_all0, q_all1, q_all2, q_all3, q_all4, q_all5, q_wipe0, q_wipe, q_start, q_eqI, q_eqX, q_eqB, q_onB, q_at0, q_at1, q_at2, q_at3, q_at4, q_tup, q_strT, q_str, q_int, q_bool, List.length_cons, List.length_nil, List.map_cons, List.map_nil, List.replicate, List.cons_append, List.nil_append, List.getD_cons_zero, List.getD_cons_succ, List.getD_nil, List.set_cons_zero, List.set_cons_succ, List.set_nil, cond_true, cond_false, Nat.reduceAdd, Nat.reduceSub, Nat.sub_self, Nat.add_one_sub_one, Bool.not_true, Bool.not_false, true_and, and_true, Bool.false_eq_true, if_false, reduceIte]
  have cm : CMul x y := .inl ⟨by omega, by omega⟩
  simp only [opsL, List.mem_cons, List.not_mem_nil, or_false] at hz
  rcases hz with rfl | rfl | rfl | rfl | rfl | rfl
  · have i1 : ∀ k : Bool → Prop, inD (.str "add") [.str "less", .str "same"] k = k false := fun _ => rfl
    have w1 : decide ((Str.ofString "add") = Str.ofString "rest") = false := by decide
    have eq : reck "add" x y = (x + y) % 256 := rfl
    rw [eq] at q
    rw [i1, w1]
    refine ⟨by decide, fun p _ => ?_⟩
    refine ⟨cm, by decide, ?_⟩
    rw [q_dK oup_same]
    refine ⟨rfl, dictAt_K oup_same (κ := .inr "add") rfl ?_⟩
    show someD (some (.int (x + y))) _
    exact ⟨by decide, q⟩
  · have i1 : ∀ k : Bool → Prop, inD (.str "sub") [.str "less", .str "same"] k = k false := fun _ => rfl
    have w1 : decide ((Str.ofString "sub") = Str.ofString "rest") = false := by decide
    have eq : reck "sub" x y = (x - y) % 256 := rfl
    rw [eq] at q
    rw [i1, w1]
    refine ⟨by decide, fun p _ => ?_⟩
    refine ⟨cm, by decide, ?_⟩
    rw [q_dK oup_same]
    refine ⟨rfl, dictAt_K oup_same (κ := .inr "sub") rfl ?_⟩
    show someD (some (.int (x - y))) _
    exact ⟨by decide, q⟩
  · have i1 : ∀ k : Bool → Prop, inD (.str "mul") [.str "less", .str "same"] k = k false := fun _ => rfl
    have w1 : decide ((Str.ofString "mul") = Str.ofString "rest") = false := by decide
    have eq : reck "mul" x y = (x * y) % 256 := rfl
    rw [eq] at q
    rw [i1, w1]
    refine ⟨by decide, fun p _ => ?_⟩
    refine ⟨cm, by decide, ?_⟩
    rw [q_dK oup_same]
    refine ⟨rfl, dictAt_K oup_same (κ := .inr "mul") rfl ?_⟩
    show someD (some (.int (x * y))) _
    exact ⟨by decide, q⟩
  · have i1 : ∀ k : Bool → Prop, inD (.str "rest") [.str "less", .str "same"] k = k false := fun _ => rfl
    have w1 : decide ((Str.ofString "rest") = Str.ofString "rest") = true := by decide
    have eq : reck "rest" x y = if y = 0 then x else x % y := rfl
    rw [eq] at q
    rw [i1, w1]
    refine ⟨by decide, ?_⟩
    by_cases h0 : y = 0
    · rw [if_pos h0] at q
      rw [decide_eq_true h0]
      exact q
    · rw [if_neg h0] at q
      rw [decide_eq_false h0]
      exact ⟨by omega, q⟩
  · have i1 : ∀ k : Bool → Prop, inD (.str "less") [.str "less", .str "same"] k = k true := fun _ => rfl
    have w1 : decide ((Str.ofString "less") = Str.ofString "less") = true := by decide
    have eq : reck "less" x y = if x < y then 1 else 0 := rfl
    rw [eq] at q
    rw [i1, w1]
    refine ⟨by decide, ?_⟩
    by_cases h0 : x < y
    · rw [if_pos h0] at q
      rw [decide_eq_true h0]
      exact q
    · rw [if_neg h0] at q
      rw [decide_eq_false h0]
      exact q
  · have i1 : ∀ k : Bool → Prop, inD (.str "same") [.str "less", .str "same"] k = k true := fun _ => rfl
    have w1 : decide ((Str.ofString "same") = Str.ofString "less") = false := by decide
    have eq : reck "same" x y = if x = y then 1 else 0 := rfl
    rw [eq] at q
    rw [i1, w1]
    refine ⟨by decide, ?_⟩
    by_cases h0 : x = y
    · rw [if_pos h0] at q
      rw [decide_eq_true h0]
      exact q
    · rw [if_neg h0] at q
      rw [decide_eq_false h0]
      exact q
theorem met_lvalue_step (T : WTxt K mg fb CPs CRu CSe CSc) (d : Nat) (c__law_value : Cal P w K mg base (1 + d) "_law_value" (spH K 2 fun al as Φ => ∃ (ow : Addr) (es : List (Key × PyData)) (env : Str → Int) (e : Ex), as = [.ref ow, .dat (Ex.data e)] ∧ al ow = some (.dK es) ∧ (∀ x, valE (getE es (.inr x)) = .int (env x)) ∧ (∀ x, 0 ≤ env x ∧ env x ≤ 255) ∧ e.ok ∧ e.dep < d ∧ Φ al (.dat (.int (e.val env))))) :
    Cal P w K mg base (2 + d) "_law_value" (spH K 2 fun al as Φ => ∃ (ow : Addr) (es : List (Key × PyData)) (env : Str → Int) (e : Ex), as = [.ref ow, .dat (Ex.data e)] ∧ al ow = some (.dK es) ∧ (∀ x, valE (getE es (.inr x)) = .int (env x)) ∧ (∀ x, 0 ≤ env x ∧ env x ≤ 255) ∧ e.ok ∧ e.dep ≤ d ∧ Φ al (.dat (.int (e.val env)))) := by
  have c__law_reckoned := cal_lreckoned (P := P) (w := w) (base := base) T
  have e9 : 2 + d = 1 + d + 1 := by omega
  rw [e9]
  refine T.d__law_value.cal sc__law_value (fun vs H Q E h => h.1) (fun f cdv A outer s H vs Q E hr h => ?_)
  have hu := hu_of hr
  refine ⟨_, (pss_cons (ps_if (pt_cmpR op_eq (pe_ix (ix_tupK K (by rfl)) (pv 1) pe_int (fun _ _ => rfl)) pe_str (nomark _))
  (pss_one (ps_ret (pe_ix (ix_tupK K (by rfl)) (pv 1) pe_int (fun _ _ => rfl))))
  pss_nil)
  (pss_cons (ps_if (pt_cmpR op_eq (pe_ix (ix_tupK K (by rfl)) (pv 1) pe_int (fun _ _ => rfl)) pe_str (nomark _))
  (pss_one (ps_ret (pe_dget2 hu (pv 0) (pe_ix (ix_tupK K (by rfl)) (pv 1) pe_int (fun _ _ => rfl)) pe_int ⟨by rfl, by rfl, by rfl, by rfl⟩)))
  pss_nil)
  (pss_one (ps_ret (pe_c c__law_reckoned hr (by first | decide | omega) (by rfl) (pa_cons (pe_ix (ix_tupK K (by rfl)) (pv 1) pe_int (fun _ _ => rfl)) (pa_cons (pe_c c__law_value hr (by first | decide | omega) (by rfl) (pa_cons (pv 0) (pa_cons (pe_ix (ix_tupK K (by rfl)) (pv 1) pe_int (fun _ _ => rfl)) pa_nil))) (pa_cons (pe_c c__law_value hr (by first | decide | omega) (by rfl) (pa_cons (pv 0) (pa_cons (pe_ix (ix_tupK K (by rfl)) (pv 1) pe_int (fun _ _ => rfl)) pa_nil))) pa_nil)))))))), ?_⟩
  refine run_H h fun Γ al as Φ hg => ?_
  obtain ⟨ow, es, env, e, rfl, e2, he, hb, ok, hd, q⟩ := hg
  cases e with
  | num v =>
    simp only [at_mk, put_mk, know_mk, q_var, q_vdat, q_vpen, q_vown, q_vfn, q_vref, q_asD, q_asDo, q_asDa, q_aown, q_adat, q_asA, q_asAp, q_asAf, q_asAr, q_asAo, q_asAa, q_asS, q_asSo, q_asSp, q_asSf, q_asSr, q_asSa, q_asR, q_asRr, q_asRo, q_onD, q_onR, q_inOb, q_inObr, q_inObf, q_onT, q_onL, q_onI, q_onX, q_onBo, q_onTd, q_seqL, q_seqT, q_intI, q_intB, q_none, q_noneR, q_one, q_oneS, q_seeL, q_seeT, q_seeO, q_seeA, q_seeAo, q_seeAl, q_seeAt, q_srL, q_srO, q_srA, q_lenS, q_lenO, q_lenA, q_lenR, q_slL, q_slO, q_slA, q_slAo, q_slAl, q_ixR, q_ixL, q_ixO, q_ixA, q_appA, q_appAo, q_appR, q_emR, q_zipT, q_zipL, q_some, q_fn1, q_fn2, q_fn3, q_fn4, q_pn0, q_pn1, q_pn2, q_pn3, q_scaI, q_scaS, q_scaB, q_scaN, q_fnD, q_all0, q_all1, q_all2, q_all3, q_all4, q_all5, q_wipe0, q_wipe, q_start, q_eqI, q_eqX, q_eqB, q_onB, q_at0, q_at1, q_at2, q_at3, q_at4, q_tup, q_strT, q_str, q_int, q_bool, List.length_cons, List.length_nil, List.map_cons, List.map_nil, List.replicate, List.cons_append, List.nil_append, List.getD_cons_zero, List.getD_cons_succ, List.getD_nil, List.set_cons_zero, List.set_cons_succ, List.set_nil, cond_true, cond_false, Nat.reduceAdd, Nat.reduceSub, Nat.sub_self, Nat.add_one_sub_one, Bool.not_true, Bool.not_false, true_and, and_true, Bool.false_eq_true, if_false, reduceIte, Ex.data, decide_true]
    exact ⟨_, Sub.rfl, q⟩
  | var x =>
    have e3 := he x
    unfold valE at e3
    simp only [at_mk, put_mk, know_mk, q_var, q_vdat, q_vpen, q_vown, q_vfn, q_vref, q_asD, q_asDo, q_asDa, q_aown, q_adat, q_asA, q_asAp, q_asAf, q_asAr, q_asAo, q_asAa, q_asS, q_asSo, q_asSp, q_asSf, q_asSr, q_asSa, q_asR, q_asRr, q_asRo, q_onD, q_onR, q_inOb, q_inObr, q_inObf, q_onT, q_onL, q_onI, q_onX, q_onBo, q_onTd, q_seqL, q_seqT, q_intI, q_intB, q_none, q_noneR, q_one, q_oneS, q_seeL, q_seeT, q_seeO, q_seeA, q_seeAo, q_seeAl, q_seeAt, q_srL, q_srO, q_srA, q_lenS, q_lenO, q_lenA, q_lenR, q_slL, q_slO, q_slA, q_slAo, q_slAl, q_ixR, q_ixL, q_ixO, q_ixA, q_appA, q_appAo, q_appR, q_emR, q_zipT, q_zipL, q_some, q_fn1, q_fn2, q_fn3, q_fn4, q_pn0, q_pn1, q_pn2, q_pn3, q_scaI, q_scaS, q_scaB, q_scaN, q_fnD, q_all0, q_all1, q_all2, q_all3, q_all4, q_all5, q_wipe0, q_wipe, q_start, q_eqI, q_eqX, q_eqB, q_onB, q_at0, q_at1, q_at2, q_at3, q_at4, q_tup, q_strT, q_str, q_int, q_bool, List.length_cons, List.length_nil, List.map_cons, List.map_nil, List.replicate, List.cons_append, List.nil_append, List.getD_cons_zero, List.getD_cons_succ, List.getD_nil, List.set_cons_zero, List.set_cons_succ, List.set_nil, cond_true, cond_false, Nat.reduceAdd, Nat.reduceSub, Nat.sub_self, Nat.add_one_sub_one, Bool.not_true, Bool.not_false, true_and, and_true, Bool.false_eq_true, if_false, reduceIte, Ex.data, w_var_num, decide_true, q_get e2 (show keyD (.str x) = some (.inr x) from rfl)]
    rw [e3]
    exact ⟨.inl ⟨_, e2⟩, _, Sub.rfl, q⟩
  | op z x y =>
    obtain ⟨hz, ok1, ok2⟩ := ok
    have w1 : decide (z = Str.ofString "num") = false := decide_eq_false fun e => by subst e; exact absurd hz (by decide)
    have w2 : decide (z = Str.ofString "var") = false := decide_eq_false fun e => by subst e; exact absurd hz (by decide)
    have hd' : max x.dep y.dep + 1 ≤ d := hd
    simp only [at_mk, put_mk, know_mk, q_var, q_vdat, q_vpen, q_vown, q_vfn, q_vref, q_asD, q_asDo, q_asDa, q_aown, q_adat, q_asA, q_asAp, q_asAf, q_asAr, q_asAo, q_asAa, q_asS, q_asSo, q_asSp, q_asSf, q_asSr, q_asSa, q_asR, q_asRr, q_asRo, q_onD, q_onR, q_inOb, q_inObr, q_inObf, q_onT, q_onL, q_onI, q_onX, q_onBo, q_onTd, q_seqL, q_seqT, q_intI, q_intB, q_none, q_noneR, q_one, q_oneS, q_seeL, q_seeT, q_seeO, q_seeA, q_seeAo, q_seeAl, q_seeAt, q_srL, q_srO, q_srA, q_lenS, q_lenO, q_lenA, q_lenR, q_slL, q_slO, q_slA, q_slAo, q_slAl, q_ixR, q_ixL, q_ixO, q_ixA, q_appA, q_appAo, q_appR, q_emR, q_zipT, q_zipL, q_some, q_fn1, q_fn2, q_fn3, q_fn4, q_pn0, q_pn1, q_pn2, q_pn3, q_scaI, q_scaS, q_scaB, q_scaN, q_fnD, q_all0, q_all1, q_all2, q_all3, q_all4, q_all5, q_wipe0, q_wipe, q_start, q_eqI, q_eqX, q_eqB, q_onB, q_at0, q_at1, q_at2, q_at3, q_at4, q_tup, q_strT, q_str, q_int, q_bool, List.length_cons, List.length_nil, List.map_cons, List.map_nil, List.replicate, List.cons_append, List.nil_append, List.getD_cons_zero, List.getD_cons_succ, List.getD_nil, List.set_cons_zero, List.set_cons_succ, List.set_nil, cond_true, cond_false, Nat.reduceAdd, Nat.reduceSub, Nat.sub_self, Nat.add_one_sub_one, Bool.not_true, Bool.not_false, true_and, and_true, Bool.false_eq_true, if_false, reduceIte, Ex.data, w1, w2]
    exact ⟨ow, es, env, x, rfl, e2, he, hb, ok1, by omega, ow, es, env, y, rfl, e2, he, hb, ok2, by omega, _, _, _, rfl, rfl, rfl, hz, Ex.val_ok hb ok1, Ex.val_ok hb ok2, _, Sub.rfl, q⟩
theorem cal_pick (T : WTxt K mg fb CPs CRu CSe CSc) : Cal P w K mg base 2 "_law_pick" (spD K 2 (pn1 fun l Φ => ∃ xs : List PyData, l = .list xs ∧ 1 ≤ xs.length ∧ xs.length ≤ 1000 ∧ ∀ x ∈ xs, Φ x)) := by
  have c__law_draw := cal_draw (P := P) (w := w) (base := base) T.toPTxt
  refine T.d__law_pick.cal sc__law_pick (fun vs H Q E h => h.1) (fun f cdv A outer s H vs Q E hr h => ?_)
  have hu := hu_of hr
  refine ⟨_, (pss_one (ps_ret (pe_ix (ix_listK K (by rfl)) (pv 1) (pe_c c__law_draw hr (by first | decide | omega) (by rfl) (pa_cons (pv 0) (pa_cons (pe_callB (call_lenK K (by rfl)) (by rfl) T.z_len bt_len (pa_cons (pv 1) pa_nil)) pa_nil))) (fun _ _ => rfl)))), ?_⟩
  refine run_D h fun Γ as Φ hg => ?_
  obtain ⟨p, l, rfl, xs, rfl, h1, h2, q⟩ := of_pn1 hg
  simp only [at_mk, put_mk, know_mk, q_var, q_vdat, q_vpen, q_vown, q_vfn, q_vref, q_asD, q_asDo, q_asDa, q_aown, q_adat, q_asA, q_asAp, q_asAf, q_asAr, q_asAo, q_asAa, q_asS, q_asSo, q_asSp, q_asSf, q_asSr, q_asSa, q_asR, q_asRr, q_asRo, q_onD, q_onR, q_inOb, q_inObr, q_inObf, q_onT, q_onL, q_onI, q_onX, q_onBo, q_onTd, q_seqL, q_seqT, q_intI, q_intB, q_none, q_noneR, q_one, q_oneS, q_seeL, q_seeT, q_seeO, q_seeA, q_seeAo, q_seeAl, q_seeAt, q_srL, q_srO, q_srA, q_lenS, q_lenO, q_lenA, q_lenR, q_slL, q_slO, q_slA, q_slAo, q_slAl, q_ixR, q_ixL, q_ixO, q_ixA, q_appA, q_appAo, q_appR, q_emR, q_zipT, q_zipL, q_some, q_fn1, q_fn2, q_fn3, q_fn4, q_pn0, q_pn1, q_pn2, q_pn3, q_scaI, q_scaS, q_scaB, q_scaN, q_fnD, q_all0, q_all1, q_all2, q_all3, q_all4, q_all5, q_wipe0, q_wipe, q_start, q_eqI, q_eqX, q_eqB, q_onB, q_at0, q_at1, q_at2, q_at3, q_at4, q_tup, q_strT, q_str, q_int, q_bool, List.length_cons, List.length_nil, List.map_cons, List.map_nil, List.replicate, List.cons_append, List.nil_append, List.getD_cons_zero, List.getD_cons_succ, List.getD_nil, List.set_cons_zero, List.set_cons_succ, List.set_nil, cond_true, cond_false, Nat.reduceAdd, Nat.reduceSub, Nat.sub_self, Nat.add_one_sub_one, Bool.not_true, Bool.not_false, true_and, and_true, Bool.false_eq_true, if_false, reduceIte]
  refine ⟨⟨by omega, by omega⟩, fun d d0 d1 => ?_⟩
  have hlt : d.toNat < xs.length := by omega
  exact atD_at (j := d.toNat) (by omega) (List.getElem?_eq_getElem hlt) (q _ (List.getElem_mem hlt))
theorem cal_expr_step (T : WTxt K mg fb CPs CRu CSe CSc) (d : Nat) (c__law_expr : Cal P w K mg base (2 + d) "_law_expr" (spD K 2 (pn1 fun m Φ => 1 ≤ d ∧ m = .int ((d : Int) - 1) ∧ ∀ e : Ex, e.ok → e.dep < d → Φ e.data))) :
    Cal P w K mg base (3 + d) "_law_expr" (spD K 2 (pn1 fun m Φ => m = .int (d : Int) ∧ ∀ e : Ex, e.ok → e.dep ≤ d → Φ e.data)) := by
  have c__law_draw := cal_draw (P := P) (w := w) (base := base) T.toPTxt
  have c__law_pick := cal_pick (P := P) (w := w) (base := base) T
  have e9 : 3 + d = 2 + d + 1 := by omega
  rw [e9]
  refine T.d__law_expr.cal sc__law_expr (fun vs H Q E h => h.1) (fun f cdv A outer s H vs Q E hr h => ?_)
  have hu := hu_of hr
  refine ⟨_, (pss_cons (ps_set (i := 2) sc__law_expr.nd rfl (by first | exact .inl rfl | exact .inr rfl) (pe_c c__law_draw hr (by first | decide | omega) (by rfl) (pa_cons (pv 0) (pa_cons pe_int pa_nil))))
  (pss_cons (ps_if (PW.pt (pw_or (pt_cmpR op_eq (pv 1) pe_int (nomark _)) (pw_or1 (pt_cmpR op_lt (pv 2) pe_int (nomark _)))))
  (pss_cons (ps_if (pt_cmpR op_eq (pe_op op_mod (pv 2) pe_int) pe_int (nomark _))
  (pss_one (ps_ret (pe_tupZ (pa_cons pe_str (pa_cons (pe_ix (ix_listK K (by rfl)) (pe_lst (pa_cons (pe_c c__law_draw hr (by first | decide | omega) (by rfl) (pa_cons (pv 0) (pa_cons pe_int pa_nil))) (pa_cons (pe_c c__law_draw hr (by first | decide | omega) (by rfl) (pa_cons (pv 0) (pa_cons pe_int pa_nil))) (pa_cons pe_int pa_nil)))) (pe_c c__law_draw hr (by first | decide | omega) (by rfl) (pa_cons (pv 0) (pa_cons pe_int pa_nil))) (fun _ _ => rfl)) pa_nil)))))
  pss_nil)
  (pss_one (ps_ret (pe_tupZ (pa_cons pe_str (pa_cons (pe_c c__law_pick hr (by first | decide | omega) (by rfl) (pa_cons (pv 0) (pa_cons (pe_lst (pa_cons pe_str (pa_cons pe_str (pa_cons pe_str (pa_cons pe_str (pa_cons pe_str pa_nil)))))) pa_nil))) pa_nil))))))
  pss_nil)
  (pss_cons (ps_set (i := 3) sc__law_expr.nd rfl (by first | exact .inl rfl | exact .inr rfl) (pe_c c__law_pick hr (by first | decide | omega) (by rfl) (pa_cons (pv 0) (pa_cons (pe_lst (pa_cons pe_str (pa_cons pe_str (pa_cons pe_str (pa_cons pe_str (pa_cons pe_str (pa_cons pe_str pa_nil))))))) pa_nil))))
  (pss_one (ps_ret (pe_tupZ (pa_cons (pv 3) (pa_cons (pe_c c__law_expr hr (by first | decide | omega) (by rfl) (pa_cons (pv 0) (pa_cons (pe_op op_sub (pv 1) pe_int) pa_nil))) (pa_cons (pe_c c__law_expr hr (by first | decide | omega) (by rfl) (pa_cons (pv 0) (pa_cons (pe_op op_sub (pv 1) pe_int) pa_nil))) pa_nil))))))))), ?_⟩
  refine run_D h fun Γ as Φ hg => ?_
  obtain ⟨p, m, rfl, rfl, q⟩ := of_pn1 hg
  clear hg
  simp only [at_mk, put_mk, know_mk, q_var, q_vdat, q_vpen, q_vown, q_vfn, q_vref, q_asD, q_asDo, q_asDa, q_aown, q_adat, q_asA, q_asAp, q_asAf, q_asAr, q_asAo, q_asAa, q_asS, q_asSo, q_asSp, q_asSf, q_asSr, q_asSa, q_asR, q_asRr, q_asRo, q_onD, q_onR, q_inOb, q_inObr, q_inObf, q_onT, q_onL, q_onI, q_onX, q_onBo, q_onTd, q_seqL, q_seqT, q_intI, q_intB, q_none, q_noneR, q_one, q_oneS, q_seeL, q_seeT, q_seeO, q_seeA, q_seeAo, q_seeAl, q_seeAt, q_srL, q_srO, q_srA, q_lenS, q_lenO, q_lenA, q_lenR, q_slL, q_slO, q_slA, q_slAo, q_slAl, q_ixR, q_ixL, q_ixO, q_ixA, q_appA, q_appAo, q_appR, q_emR, q_zipT, q_zipL, q_some, q_fn1, q_fn2, q_fn3, q_fn4, q_pn0, q_pn1, q_pn2, q_pn3, q_scaI, q_scaS, q_scaB, q_scaN, q_fnD, q_all0, q_all1, q_all2, q_all3, q_all4, q_all5, q_wipe0, q_wipe, q_start, q_eqI, q_eqX, q_eqB, q_onB, q_at0, q_at1, q_at2, q_at3, q_at4, q_tup, q_strT, q_str, q_int, q_bool, List.length_cons, List.length_nil, List.map_cons, List.map_nil, List.replicate, List.cons_append, List.nil_append, List.getD_cons_zero, List.getD_cons_succ, List.getD_nil, List.set_cons_zero, List.set_cons_succ, List.set_nil, cond_true, cond_false, Nat.reduceAdd, Nat.reduceSub, Nat.sub_self, Nat.add_one_sub_one, Bool.not_true, Bool.not_false, true_and, and_true, Bool.false_eq_true, if_false, reduceIte]
  have leafN : drawD [Sv.pen p, Sv.dat (PyData.int 6)] fun d => drawD [Sv.pen p, Sv.dat (PyData.int 256)] fun d2 => 3 ≤ 1000000 ∧ drawD [Sv.pen p, Sv.dat (PyData.int 3)] fun i => atD [PyData.int d, PyData.int d2, PyData.int 255] i fun x => 2 ≤ 1000000 ∧ Φ (.tuple [.str "num", x]) :=
    ⟨⟨by decide, by decide⟩, fun d d0 d6 => ⟨⟨by decide, by decide⟩, fun d2 e0 e6 => ⟨by decide, ⟨by decide, by decide⟩, fun i i0 i3 => by
      have : i = 0 ∨ i = 1 ∨ i = 2 := by omega
      rcases this with rfl | rfl | rfl
      · exact atD_at (j := 0) rfl rfl ⟨by decide, q (.num d) ⟨d0, by omega⟩ (Nat.zero_le _)⟩
      · exact atD_at (j := 1) rfl rfl ⟨by decide, q (.num d2) ⟨e0, by omega⟩ (Nat.zero_le _)⟩
      · exact atD_at (j := 2) rfl rfl ⟨by decide, q (.num 255) ⟨by decide, by decide⟩ (Nat.zero_le _)⟩⟩⟩⟩
  have leafV : 5 ≤ 1000000 ∧ ∃ xs, PyData.list [.str "x", .str "y", .str "i", .str "k", .str "zz"] = PyData.list xs ∧ 1 ≤ xs.length ∧ xs.length ≤ 1000 ∧ ∀ x ∈ xs, 2 ≤ 1000000 ∧ Φ (.tuple [.str "var", x]) := by
    refine ⟨by decide, _, rfl, (show 1 ≤ 5 by decide), (show 5 ≤ 1000 by decide), fun x hx => ⟨by decide, ?_⟩⟩
    simp only [List.mem_cons, List.not_mem_nil, or_false] at hx
    rcases hx with rfl | rfl | rfl | rfl | rfl
    · exact q (.var "x") (show isName "x" = true by decide) (Nat.zero_le _)
    · exact q (.var "y") (show isName "y" = true by decide) (Nat.zero_le _)
    · exact q (.var "i") (show isName "i" = true by decide) (Nat.zero_le _)
    · exact q (.var "k") (show isName "k" = true by decide) (Nat.zero_le _)
    · exact q (.var "zz") (show isName "zz" = true by decide) (Nat.zero_le _)
  refine ⟨⟨by decide, by decide⟩, fun way w0 w6 => ?_⟩
  show bif decide ((d : Int) = 0) then _ else _
  have leaf : (0 : Int) < 2 ∧ bif decide (way % 2 = 0) then drawD [Sv.pen p, Sv.dat (PyData.int 6)] fun d => drawD [Sv.pen p, Sv.dat (PyData.int 256)] fun d2 => 3 ≤ 1000000 ∧ drawD [Sv.pen p, Sv.dat (PyData.int 3)] fun i => atD [PyData.int d, PyData.int d2, PyData.int 255] i fun x => 2 ≤ 1000000 ∧ Φ (.tuple [.str "num", x]) else 5 ≤ 1000000 ∧ ∃ xs, PyData.list [.str "x", .str "y", .str "i", .str "k", .str "zz"] = PyData.list xs ∧ 1 ≤ xs.length ∧ xs.length ≤ 1000 ∧ ∀ x ∈ xs, 2 ≤ 1000000 ∧ Φ (.tuple [.str "var", x]) := by
    refine ⟨by decide, ?_⟩
    cases decide (way % 2 = 0)
    · exact leafV
    · exact leafN
  by_cases hd0 : (d : Int) = 0
  · rw [decide_eq_true hd0, cond_true]
    exact leaf
  · rw [decide_eq_false hd0, cond_false]
    by_cases hw : way < 3
    · rw [decide_eq_true hw, cond_true]
      exact leaf
    · rw [decide_eq_false hw, cond_false]
      refine ⟨(show 6 ≤ 1000000 by decide), _, rfl, (show 1 ≤ 6 by decide), (show 6 ≤ 1000 by decide), fun x hx => ⟨by omega, fun e ok hd => ⟨by omega, fun e' ok' hd' => ⟨by decide, ?_⟩⟩⟩⟩
      have hx' : ∃ z, z ∈ opsL ∧ x = .str z := by
        simp only [List.mem_cons, List.not_mem_nil, or_false] at hx
        rcases hx with rfl | rfl | rfl | rfl | rfl | rfl
        all_goals exact ⟨_, by decide, rfl⟩
      obtain ⟨z, hz, rfl⟩ := hx'
      refine q (.op z e e') ⟨hz, ok, ok'⟩ ?_
      show max e.dep e'.dep + 1 ≤ d
      omega
theorem cal_lvalue (T : WTxt K mg fb CPs CRu CSe CSc) : ∀ d : Nat, Cal P w K mg base (2 + d) "_law_value" (spH K 2 fun al as Φ => ∃ (ow : Addr) (es : List (Key × PyData)) (env : Str → Int) (e : Ex), as = [.ref ow, .dat (Ex.data e)] ∧ al ow = some (.dK es) ∧ (∀ x, valE (getE es (.inr x)) = .int (env x)) ∧ (∀ x, 0 ≤ env x ∧ env x ≤ 255) ∧ e.ok ∧ e.dep ≤ d ∧ Φ al (.dat (.int (e.val env))))
  | 0 => met_lvalue_step T 0 (T.d__law_value.cal sc__law_value (fun vs H Q E h => h.1) (fun f cdv A outer s H vs Q E hr h => (spH_no (fun al as Φ hg => by
      obtain ⟨ow, es, env, e, rfl, _, _, _, _, lt, _⟩ := hg
      exact absurd lt (Nat.not_lt_zero _)) h).elim))
  | d + 1 => met_lvalue_step T (d + 1) ((cal_lvalue T d).imp (spH_imp fun al as Φ hg => by
      obtain ⟨ow, es, env, e, h1, h2, h3, h4, h5, h6, h7⟩ := hg
      exact ⟨ow, es, env, e, h1, h2, h3, h4, h5, by omega, h7⟩) (by omega))
theorem cal_lexpr (T : WTxt K mg fb CPs CRu CSe CSc) : ∀ d : Nat, Cal P w K mg base (3 + d) "_law_expr" (spD K 2 (pn1 fun m Φ => m = .int (d : Int) ∧ ∀ e : Ex, e.ok → e.dep ≤ d → Φ e.data))
  | 0 => cal_expr_step T 0 (T.d__law_expr.cal sc__law_expr (fun vs H Q E h => h.1) (fun f cdv A outer s H vs Q E hr h => (spD_no (fun as Φ hg => by
      obtain ⟨p, m, rfl, lt, _⟩ := of_pn1 hg
      exact absurd lt (by omega)) h).elim))
  | d + 1 => cal_expr_step T (d + 1) ((cal_lexpr T d).imp (spD_imp fun as Φ hg => by
      obtain ⟨p, m, rfl, h1, h2, h3⟩ := of_pn1 hg
      refine ⟨by rw [h2]; congr 1; omega, fun e ok hd => h3 e ok (by omega)⟩) (by omega))
end
end B


set_option synthInstance.maxHeartbeats 0
set_option synthInstance.maxSize 100000
/-! The plain law of k01, run_plain with inputs told. -/
namespace B
open PySem PySem.Spec PyProof.Rows L2
def tabA : Tab := ⟨"ta", 1, [("a", 1)]⟩
def prog1 (ps : List Str) (es : List Ex) : Prg := ⟨ps, [tabA], es.map .tell⟩
theorem tells_said (p : Prg) : ∀ (es : List Ex) (S : Rs), (runRows p (es.map .tell) S).said = S.said ++ es.map (Ex.val S.env) ∧ (runRows p (es.map .tell) S).env = S.env
  | [], S => ⟨by simp [runRows], rfl⟩
  | e :: es, S => by
    show (runRows p (es.map .tell) (S.tell (e.val S.env))).said = _ ∧ (runRows p (es.map .tell) (S.tell (e.val S.env))).env = _
    obtain ⟨h1, h2⟩ := tells_said p es (S.tell (e.val S.env))
    refine ⟨?_, h2⟩
    rw [h1]
    show (S.said ++ [e.val S.env]) ++ es.map (Ex.val S.env) = _
    rw [List.map_cons, List.append_assoc]
    rfl
theorem tells_ok (p : Prg) : ∀ {es : List Ex}, (∀ e ∈ es, e.ok ∧ e.dep ≤ 3) → Row.oks p.sco (es.map .tell) ∧ Row.goods p (es.map .tell) ∧ Row.costs p (es.map .tell) = es.length ∧ Row.deps (es.map .tell) = 0
  | [], _ => ⟨trivial, trivial, rfl, rfl⟩
  | e :: es, h => by
    obtain ⟨i1, i2, i3, i4⟩ := tells_ok p (es := es) fun x hx => h x (List.mem_cons_of_mem _ hx)
    have he := h e (List.mem_cons_self ..)
    refine ⟨⟨he, i1⟩, ⟨he, i2⟩, ?_, ?_⟩
    · show 1 + Row.costs p (es.map .tell) = es.length + 1
      omega
    · show max 0 (Row.deps (es.map .tell)) = 0
      rw [i4]
      rfl
theorem prog1_ok {ps : List Str} {es : List Ex} (hp : ps.length ≤ 3 ∧ (∀ x ∈ ps, isName x = true) ∧ ps.Nodup) (h : ∀ e ∈ es, e.ok ∧ e.dep ≤ 3) (hl : es.length ≤ 100) : (prog1 ps es).ok ∧ Row.goods (prog1 ps es) (prog1 ps es).rows ∧ Row.costs (prog1 ps es) (prog1 ps es).rows ≤ 100000 := by
  obtain ⟨i1, i2, i3, i4⟩ := tells_ok (prog1 ps es) h
  refine ⟨{ params := hp, tabs := ⟨(by show 1 ≤ 1; decide), (by show 1 ≤ 3; decide)⟩, each := fun t ht => ?_, unlike := ?_, rows := i1, deep := ?_, short := ?_ }, i2, ?_⟩
  · cases List.mem_singleton.mp ht
    exact { name := (by decide), many := ⟨(by decide), (by decide)⟩, few := ⟨(by decide), (by decide)⟩, names := fun f hf => by cases List.mem_singleton.mp hf; exact ⟨by decide, by decide, by decide⟩, unlike := (by decide) }
  · show (["ta"] : List Str).Nodup
    decide
  · show Row.deps (es.map .tell) ≤ 6
    rw [i4]
    exact Nat.zero_le _
  · show (es.map Row.tell).length ≤ 1000
    rw [List.length_map]
    omega
  · show Row.costs (prog1 ps es) (es.map .tell) ≤ 100000
    rw [i3]
    omega
theorem prog1_said {ps : List Str} {es : List Ex} {ins : List Int} : (runRows (prog1 ps es) (prog1 ps es).rows (rs0 (prog1 ps es) ins)).said = es.map (Ex.val (env0 (prog1 ps es) ins)) := by
  show (runRows (prog1 ps es) (es.map .tell) (rs0 (prog1 ps es) ins)).said = _
  rw [(tells_said _ _ _).1]
  rfl
theorem prog1_data (ps : List Str) (es : List Ex) : (prog1 ps es).data = .tuple [.tuple (ps.map .str), .tuple [.tuple [.str "ta", .int 1, .tuple [.tuple [.str "a", .int 1]]]], .tuple [], .tuple (es.map fun e => .tuple [.str "tell", e.data])] := by
  show PyData.tuple [_, _, _, .tuple (Row.datas (es.map .tell))] = _
  rw [Row.datas_map, List.map_map]
  rfl
section
variable {P : Program} {w : World} {K : PySem.W.Frag} {mg : Str → Option Value} {base : Heap} {fb CPs CRu CSe CSc : Addr}
abbrev spRun2 (K : PySem.W.Frag) : Sp := spD K 2 (fn2 fun a b Φ => ∃ (p : Prg) (ins : List Int), a = p.data ∧ b = .tuple (ins.map .int) ∧ p.ok ∧ Row.goods p p.rows ∧ Row.costs p p.rows ≤ 100000 ∧ ins.length = p.params.length ∧ ins.length ≤ 1000 ∧ (∀ v ∈ ins, 0 ≤ v ∧ v ≤ 255) ∧ Φ (.tuple ((runRows p p.rows (rs0 p ins)).said.map .int)))
theorem cal_run_plain2 (T : QTxt K mg fb CPs CRu CSe CSc) {e1 e2 f : Addr} {fd : FuncData} (h2 : EmT K e2) (F : FunD K "run_plain" "run_plain" (defArgs s_run_plain) (defBody s_run_plain) (defScope s_run_plain) [.ref e1] [("faces", .ref e2)] f fd) (hm : mg "run_plain" = some (.ref f)) :
    CalD P w K mg base 26 "run_plain" [.ref e2] (spRun2 K) := by
  have ok := fn_run_plain (P := P) (w := w) (base := base) T F
  obtain ⟨ds, hd, hb⟩ := F.binds (ps := ["program", "inputs", "faces"]) 2 1 (by simp) rfl (fun TT D doc pm an cdv ct us its ks l1 l2 l3 => by
    match us, l1 with
    | [u, u2], _ =>
      match its, l2 with
      | [i], _ =>
        match ks, l3 with
        | [k], _ => exact ⟨_, rfl, _, _, _, _, _, _, rfl, rfl, rfl⟩) (by simp)
  refine ⟨f, fd, _, ds, ok.imp fun vs H Q E hh => ?_, hm, F.kp, hb, hd⟩
  obtain ⟨us, rfl, hl, L, P', as, Φ, i1, i2, i3, ar, hg, q⟩ := hh
  obtain ⟨a, b, rfl, p, ins, rfl, rfl, i4, i5, i6, i7, i8, i9, i10⟩ := of_fn2 hg
  refine ⟨by rw [List.length_append, hl]; rfl, L, P', [.dat p.data, .dat (.tuple (ins.map .int)), .dat (.tuple [])], Φ, i1, i2, i3, ?_, ?_, q⟩
  · obtain ⟨v, r, rfl, b1, b2, b3, v2, r2, rfl, c1, c2, c3, c4⟩ := ar
    cases c4
    exact ⟨v, _, rfl, b1, b2, b3, v2, _, rfl, c1, c2, c3, _, _, rfl, h2.dv L H, rfl, (fun _ z => nomatch z), rfl⟩
  · exact ⟨p, ins, [], rfl, rfl, rfl, i4, i5, i6, i7, i8, i9, by decide, (fun _ z => nomatch z), i10⟩
end
theorem noDict_ints : ∀ ns : List Int, noDicts (ns.map PyData.int) = true
  | [] => rfl
  | n :: ns => by
    show (noDict (.int n) && noDicts (ns.map PyData.int)) = true
    rw [noDict_ints ns]
    rfl
theorem sh_ints {ns : List Int} (h : ∀ i ∈ ns, 0 ≤ i ∧ i ≤ 255) (hl : ns.length ≤ 100) : ∃ n m, n ≤ 60 ∧ m ≤ 200000 ∧ Sh n m (.tuple (ns.map PyData.int)) := by
  have := Sh.tup (n := 0) (m := 0) (k := 100) (ds := ns.map PyData.int) (fun d hd => by
    obtain ⟨i, hi, rfl⟩ := List.mem_map.mp hd
    exact Sh.int (log70 (by have := h i hi; omega) (by have := h i hi; omega))) (by rw [List.length_map]; exact hl)
  exact ⟨_, _, by decide, by decide, this⟩
end B


set_option synthInstance.maxHeartbeats 0
set_option synthInstance.maxSize 100000
/-! The law k01. -/
namespace B
open PySem PySem.Spec PyProof.Rows L2
abbrev s_law : Stmt := (topS 55)
theorem sc_law : FnScope ["_law_script", "_law_ends", "_law_tables", "_law_word", "_law_one", "_law_rows", "_law_other", "_law_due", "_law_cell_here", "_law_pen_here", "_law_lap", "_law_turn", "_law_inputs", "_law_own", "_law_row"] ["_law_script"] (defScope s_law) := ⟨rfl, rfl, rfl, by decide +kernel, rfl, by decide +kernel, by decide +kernel⟩
structure LTxt (K : PySem.W.Frag) (mg : Str → Option Value) (fb CPs CRu CSe CSc e1 e2 : Addr) : Prop extends WTxt K mg fb CPs CRu CSe CSc where
  h_e1 : EmT K e1
  h_e2 : EmT K e2
  d_run_plain : ∃ f fd, FunD K "run_plain" "run_plain" (defArgs s_run_plain) (defBody s_run_plain) (defScope s_run_plain) [.ref e1] [("faces", .ref e2)] f fd ∧ mg "run_plain" = some (.ref f)
  z_range : mg "range" = none
  z_repr : mg "repr" = none
def spLaw (K : PySem.W.Frag) : Sp := fun vs H Q _ => ∃ (a : Addr) (ns : List Int), vs = [.ref a] ∧ SqL K H a (ns.map V.int) ∧ ns.length ≤ 63 ∧ ∀ H', Q (.bl true) H'
def endsN : List Int := [0, 1, 2, 127, 128, 254, 255]
def rowF (w : Str) (o : Int) : PyData → PyData
  | .int o2 => .tuple [.str "tell", .tuple [.str w, .tuple [.str "num", .int o], .tuple [.str "num", .int o2]]]
  | d => d
def dueF (w : Str) (o : Int) : PyData → PyData
  | .int o2 => .int (reck w o o2)
  | d => d
theorem ends_ok : ∀ o ∈ endsN, 0 ≤ o ∧ o ≤ 255 := by decide
theorem ends_es {w : Str} (hw : w ∈ opsL) {o : Int} (ob : 0 ≤ o ∧ o ≤ 255) : ∀ e ∈ endsN.map fun o2 => Ex.op w (.num o) (.num o2), e.ok ∧ e.dep ≤ 3 := by
  intro e he
  obtain ⟨o2, ho2, rfl⟩ := List.mem_map.mp he
  exact ⟨⟨hw, ob, ends_ok o2 ho2⟩, (show 1 ≤ 3 by decide)⟩
theorem ends_data (w : Str) (o : Int) : PyData.tuple [.tuple [], .tuple [tabA.data], .tuple [], .tuple ((endsN.map PyData.int).map (rowF w o))] = (prog1 [] (endsN.map fun o2 => Ex.op w (.num o) (.num o2))).data := by
  rw [prog1_data, List.map_map, List.map_map]
  rfl
theorem ends_said (w : Str) (o : Int) : (runRows (prog1 [] (endsN.map fun o2 => Ex.op w (.num o) (.num o2))) (prog1 [] (endsN.map fun o2 => Ex.op w (.num o) (.num o2))).rows (rs0 (prog1 [] (endsN.map fun o2 => Ex.op w (.num o) (.num o2))) [])).said.map PyData.int = (endsN.map (reck w o)).map PyData.int := by
  rw [prog1_said, List.map_map, List.map_map, List.map_map]
  rfl
theorem ends_due (w : Str) (o : Int) : (endsN.map PyData.int).map (dueF w o) = (endsN.map (reck w o)).map PyData.int := by
  rw [List.map_map, List.map_map]
  rfl
theorem ends_vs {w : Str} {o : Int} (ob : 0 ≤ o ∧ o ≤ 255) : ∀ i ∈ endsN.map (reck w o), 0 ≤ i ∧ i ≤ 255 := by
  intro i hi
  obtain ⟨o2, ho2, rfl⟩ := List.mem_map.mp hi
  exact reck_val ob (ends_ok o2 ho2)
theorem gN {i : Nat} {v : V} {σ : L2.St} {H : Hp} {Q : L2.St → Hp → Prop} (h : Q (σ.set i (some v)) H) : gName i v σ H Q := h
theorem cut_ints (ns : List Int) (lo hi : Option Int) : cutV (ns.map V.int) lo hi = (((ns.drop (HT.sIx ns.length 0 lo)).take (HT.sIx ns.length ns.length hi - HT.sIx ns.length 0 lo))).map V.int := by
  unfold cutV
  rw [List.length_map, List.map_take, List.map_drop]
theorem noOwn1 {p : Addr} {i : Nat} {s : Sv} (e : ([none, none, some (.dat (.tuple [tabA.data])), none, none, none, none, none, none, some (.pen p), none, none, none, none, none] : List (Option Sv))[i]? = some (some s)) (o : isOwn s = true) : False := by
  have hi : i < 15 := (List.getElem?_eq_some_iff.mp e).1
  have : ∀ i : Fin 15, ∀ s, ([none, none, some (.dat (.tuple [tabA.data])), none, none, none, none, none, none, some (.pen p), none, none, none, none, none] : List (Option Sv))[i.val]? = some (some s) → isOwn s = false := by
    intro i s e
    match i with
    | ⟨2, _⟩ => cases e; rfl
    | ⟨9, _⟩ => cases e; rfl
    | ⟨0, _⟩ => cases e
    | ⟨1, _⟩ => cases e
    | ⟨3, _⟩ => cases e
    | ⟨4, _⟩ => cases e
    | ⟨5, _⟩ => cases e
    | ⟨6, _⟩ => cases e
    | ⟨7, _⟩ => cases e
    | ⟨8, _⟩ => cases e
    | ⟨n + 10, h⟩ =>
      rcases n with _ | _ | _ | _ | _ | n
      all_goals first | cases e | omega
  rw [this ⟨i, hi⟩ s e] at o
  cases o
theorem pick_es : ∀ {out : List PyData}, (∀ y ∈ out, ∃ e : Ex, (e.ok ∧ e.dep ≤ 2) ∧ y = .tuple [.str "tell", e.data]) → ∃ es : List Ex, (∀ e ∈ es, e.ok ∧ e.dep ≤ 2) ∧ out = es.map fun e => .tuple [.str "tell", e.data]
  | [], _ => ⟨[], (fun _ z => nomatch z), rfl⟩
  | y :: out, h => by
    obtain ⟨e, he, rfl⟩ := h y (List.mem_cons_self ..)
    obtain ⟨es, hes, rfl⟩ := pick_es (out := out) fun z hz => h z (List.mem_cons_of_mem _ hz)
    exact ⟨e :: es, fun x hx => (List.mem_cons.mp hx).elim (fun z => z ▸ he) (hes x), rfl⟩
theorem lcD_over {α : Type} {fg : Sv → Dn → (Dn → Prop) → Prop} {fe : Dn → (Sv → Dn → Prop) → Prop} {vs : List Nat} {Φ : List PyData → Dn → Prop} {δ0 : Dn} (g h : α → PyData) : ∀ {es : List α} {acc : List PyData} {δ : Dn}, wipeD δ vs = δ0 → acc.length + es.length ≤ 1000000 →
    (∀ e ∈ es, ∀ (k : PyData → Dn → Prop), (∀ δ4, wipeD δ4 vs = δ0 → k (h e) δ4) → fg (.dat (g e)) δ0 fun δ1 => fe δ1 fun s δ3 => asD s δ3 k) → Φ (acc ++ es.map h) δ0 → lcD fg (fun δ Φ => Φ true δ) fe vs Φ (es.map g) acc δ
  | [], acc, δ, e, _, _, q => by
    unfold lcD
    show Φ acc (wipeD δ vs)
    rw [e]
    simpa using q
  | x :: es, acc, δ, e, hl, hs, q => by
    rw [List.map_cons]
    unfold lcD
    rw [e]
    rw [List.length_cons] at hl
    refine hs x (List.mem_cons_self ..) _ fun δ4 e4 => ⟨by omega, ?_⟩
    refine lcD_over g h e4 (by rw [List.length_append, List.length_singleton]; omega) (fun y hy => hs y (List.mem_cons_of_mem _ hy)) ?_
    simpa using q
def env2 (i0 i1 : Int) (x : Str) : Int := (((["x", "y"] : List Str).zip [i0, i1]).lookup x).getD 0
theorem env2_get (i0 i1 : Int) (x : Str) : valE (getE (mergeE [] [((.inr "x" : Key), PyData.int i0), ((.inr "y" : Key), PyData.int i1)]) (.inr x)) = .int (env2 i0 i1 x) := by
  show valE (getE (mergeE [] ((((["x", "y"] : List Str).zip [i0, i1])).map fun f => ((.inr f.1 : Key), PyData.int f.2))) (.inr x)) = _
  rw [getE_merge, getE_fields]
  · unfold env2
    cases ((["x", "y"] : List Str).zip [i0, i1]).lookup x <;> rfl
  · show ([(.inr "x"), (.inr "y")] : List Key).Nodup
    decide
theorem env2_ok {i0 i1 : Int} (h0 : 0 ≤ i0 ∧ i0 ≤ 255) (h1 : 0 ≤ i1 ∧ i1 ≤ 255) (x : Str) : 0 ≤ env2 i0 i1 x ∧ env2 i0 i1 x ≤ 255 := by
  unfold env2
  cases e : ((["x", "y"] : List Str).zip [i0, i1]).lookup x with
  | none => exact ⟨Int.le_refl 0, (show (0 : Int) ≤ 255 by decide)⟩
  | some v =>
    have hm := (List.of_mem_zip (lookup_mem e)).2
    simp only [List.mem_cons, List.not_mem_nil, or_false] at hm
    rcases hm with rfl | rfl
    · exact h0
    · exact h1
theorem seq3 {s1 s2 s3 s4 : TS} {D : Ends} {σ : L2.St} {H : Hp} (h : tSeq s1 (tSeq s2 s3) { D with nx := s4 D } σ H) : tSeq s1 (tSeq s2 (tSeq s3 s4)) D σ H := h
section
variable {P : Program} {w : World} {K : PySem.W.Frag} {mg : Str → Option Value} {base : Heap} {fb CPs CRu CSe CSc e1 e2 : Addr}
theorem ok_law {fa : Addr} {fd : FuncData} (T : LTxt K mg fb CPs CRu CSe CSc e1 e2) (F : Fun K "law" "law" s_law fa fd) : FnG P w K mg base 27 fa fd ["_law_script"] (spLaw K) := by
  have c__law_cell := cal_cell (P := P) (w := w) (base := base) T.toPTxt
  have c__law_pen := cal_pen (P := P) (w := w) (base := base) T.toPTxt
  have c__law_draw := cal_draw (P := P) (w := w) (base := base) T.toPTxt
  have c__law_reckoned := cal_lreckoned (P := P) (w := w) (base := base) T.toWTxt
  have c__law_value := cal_lvalue (P := P) (w := w) (base := base) T.toWTxt 2
  have c__law_expr := cal_lexpr (P := P) (w := w) (base := base) T.toWTxt 2
  obtain ⟨fr, fdr, Fr', hmr⟩ := T.d_run_plain
  have c_run_plain := cal_run_plain (P := P) (w := w) (base := base) T.toQTxt T.z_tuple T.h_e1 T.h_e2 Fr' hmr
  have c_run_plain2 := cal_run_plain2 (P := P) (w := w) (base := base) T.toQTxt T.h_e2 Fr' hmr
  refine okG F sc_law (fun vs H Q E h => ?_) (fun cdv A outer s H vs Q E hG hr h => ?_)
  · obtain ⟨a, ns, rfl, _⟩ := h
    rfl
  · obtain ⟨a, ns, rfl, hS, hlen, q⟩ := h
    have hu := hu_of hr
    refine ⟨_, (pss_cons (ps_set (i := 1) sc_law.nd rfl (by first | exact .inl rfl | exact .inr rfl) (pe_lst (pa_cons pe_int (pa_cons pe_int (pa_cons pe_int (pa_cons pe_int (pa_cons pe_int (pa_cons pe_int (pa_cons pe_int pa_nil)))))))))
  (pss_cons (ps_set (i := 2) sc_law.nd rfl (by first | exact .inl rfl | exact .inr rfl) (pe_tupZ (pa_cons (pe_tupZ (pa_cons pe_str (pa_cons pe_int (pa_cons (pe_tupZ (pa_cons (pe_tupZ (pa_cons pe_str (pa_cons pe_int pa_nil))) pa_nil)) pa_nil)))) pa_nil)))
  (pss_cons (ps_for PassesOwn.never rfl (pi_listK K (by rfl) (pe_lst (pa_cons pe_str (pa_cons pe_str (pa_cons pe_str (pa_cons pe_str (pa_cons pe_str (pa_cons pe_str pa_nil)))))))) (pg_nameX 3 sc_law.nd rfl (by first | exact .inl rfl | exact .inr rfl) (by first | exact .inr rfl | exact .inl rfl))
  (pss_one (ps_for PassesOwn.never rfl (pi_listK K (by rfl) (pv 1)) (pg_nameX 4 sc_law.nd rfl (by first | exact .inl rfl | exact .inr rfl) (by first | exact .inr rfl | exact .inl rfl))
  (pss_cons (ps_set (i := 5) sc_law.nd rfl (by first | exact .inl rfl | exact .inr rfl) (pe_callTy (call_tupleZK K (by rfl)) (by rfl) T.z_tuple bt_tuple (by exact (pa_cons (pe_lcX [("_law_other", 6)] (by rfl) sc_law.nd (pi_listK K (by rfl) (pv 1)) (blkOk_by (N := ["_law_script", "_law_ends", "_law_tables", "_law_word", "_law_one", "_law_rows", "_law_other", "_law_due", "_law_cell_here", "_law_pen_here", "_law_lap", "_law_turn", "_law_inputs", "_law_own", "_law_row"]) (sc := defScope s_law) (by decide +kernel)) (fun _ _ _ _ _ => by exact (pg_nameX 6 sc_law.nd rfl (by first | exact .inl rfl | exact .inr rfl) (by first | exact .inr rfl | exact .inl rfl))) (fun _ _ _ _ _ => by exact pts_nil) (fun _ _ _ _ _ => by exact (pe_tupZ (pa_cons pe_str (pa_cons (pe_tupZ (pa_cons (pv 3) (pa_cons (pe_tupZ (pa_cons pe_str (pa_cons (pv 4) pa_nil))) (pa_cons (pe_tupZ (pa_cons pe_str (pa_cons (pv 6) pa_nil))) pa_nil)))) pa_nil)))) (fun _ => rfl)) pa_nil))))
  (pss_cons (ps_set (i := 7) sc_law.nd rfl (by first | exact .inl rfl | exact .inr rfl) (pe_callTy (call_tupleZK K (by rfl)) (by rfl) T.z_tuple bt_tuple (by exact (pa_cons (pe_lcX [("_law_other", 6)] (by rfl) sc_law.nd (pi_listK K (by rfl) (pv 1)) (blkOk_by (N := ["_law_script", "_law_ends", "_law_tables", "_law_word", "_law_one", "_law_rows", "_law_other", "_law_due", "_law_cell_here", "_law_pen_here", "_law_lap", "_law_turn", "_law_inputs", "_law_own", "_law_row"]) (sc := defScope s_law) (by decide +kernel)) (fun _ _ _ _ _ => by exact (pg_nameX 6 sc_law.nd rfl (by first | exact .inl rfl | exact .inr rfl) (by first | exact .inr rfl | exact .inl rfl))) (fun _ _ _ _ _ => by exact pts_nil) (fun _ _ _ _ _ => by exact (pe_c c__law_reckoned hr (by first | decide | omega) (by rfl) (pa_cons (pv 3) (pa_cons (pv 4) (pa_cons (pv 6) pa_nil))))) (fun _ => rfl)) pa_nil))))
  (pss_one (ps_if (pt_cmpR op_ne (pe_callB (call_reprDK K (by rfl) hG hr.units) (by rfl) T.z_repr bt_repr (pa_cons (pe_cD c_run_plain hr (by first | decide | omega) (by rfl) (pa_cons (pe_tupZ (pa_cons (pe_tupZ pa_nil) (pa_cons (pv 2) (pa_cons (pe_tupZ pa_nil) (pa_cons (pv 5) pa_nil))))) pa_nil)) pa_nil)) (pe_callB (call_reprDK K (by rfl) hG hr.units) (by rfl) T.z_repr bt_repr (pa_cons (pv 7) pa_nil)) (nomark _))
  (pss_one (ps_ret pe_bl))
  pss_nil)))))))
  (pss_cons (ps_for PassesOwn.never rfl (pi_listK K (by rfl) (pe_op op_cat (pe_lst (pa_cons (pe_c c__law_cell hr (by first | decide | omega) (by rfl) (pa_cons (pv 0) (pa_cons pe_int pa_nil))) pa_nil)) (pe_slice (sl_listK K (by rfl)) (pv 0) (po_some pe_int) (po_some pe_int)))) (pg_nameX 8 sc_law.nd rfl (by first | exact .inl rfl | exact .inr rfl) (by first | exact .inr rfl | exact .inl rfl))
  (pss_cons (ps_set (i := 9) sc_law.nd rfl (by first | exact .inl rfl | exact .inr rfl) (pe_c c__law_pen hr (by first | decide | omega) (by rfl) (pa_cons (pv 8) pa_nil)))
  (pss_one (ps_for PassesOwn.never rfl (pi_range1 (by rfl) T.z_range (pa_cons pe_int pa_nil)) (pg_nameX 10 sc_law.nd rfl (by first | exact .inl rfl | exact .inr rfl) (by first | exact .inr rfl | exact .inl rfl))
  (pss_cons (ps_set (i := 5) sc_law.nd rfl (by first | exact .inl rfl | exact .inr rfl) (pe_callTy (call_tupleZK K (by rfl)) (by rfl) T.z_tuple bt_tuple (by exact (pa_cons (pe_lcX [("_law_turn", 11)] (by rfl) sc_law.nd (pi_range1 (by rfl) T.z_range (pa_cons pe_int pa_nil)) (blkOk_by (N := ["_law_script", "_law_ends", "_law_tables", "_law_word", "_law_one", "_law_rows", "_law_other", "_law_due", "_law_cell_here", "_law_pen_here", "_law_lap", "_law_turn", "_law_inputs", "_law_own", "_law_row"]) (sc := defScope s_law) (by decide +kernel)) (fun _ _ _ _ _ => by exact (pg_nameX 11 sc_law.nd rfl (by first | exact .inl rfl | exact .inr rfl) (by first | exact .inr rfl | exact .inl rfl))) (fun _ _ _ _ _ => by exact pts_nil) (fun _ _ _ _ _ => by exact (pe_tupZ (pa_cons pe_str (pa_cons (pe_c c__law_expr hr (by first | decide | omega) (by rfl) (pa_cons (pv 9) (pa_cons pe_int pa_nil))) pa_nil)))) (fun _ => rfl)) pa_nil))))
  (pss_cons (ps_set (i := 12) sc_law.nd rfl (by first | exact .inl rfl | exact .inr rfl) (pe_tupZ (pa_cons (pe_c c__law_draw hr (by first | decide | omega) (by rfl) (pa_cons (pv 9) (pa_cons pe_int pa_nil))) (pa_cons (pe_c c__law_draw hr (by first | decide | omega) (by rfl) (pa_cons (pv 9) (pa_cons pe_int pa_nil))) pa_nil))))
  (pss_cons (ps_set (i := 13) sc_law.nd rfl (by first | exact .inl rfl | exact .inr rfl) (pe_disp (pps_cons pe_str (pe_ix (ix_tupK K (by rfl)) (pv 12) pe_int (fun _ _ => rfl)) (pps_cons pe_str (pe_ix (ix_tupK K (by rfl)) (pv 12) pe_int (fun _ _ => rfl)) pps_nil)) rfl rfl (by simp) (by decide)))
  (pss_cons (ps_set (i := 7) sc_law.nd rfl (by first | exact .inl rfl | exact .inr rfl) (pe_callTy (call_tupleZK K (by rfl)) (by rfl) T.z_tuple bt_tuple (by exact (pa_cons (pe_lcX [("_law_row", 14)] (by rfl) sc_law.nd (pi_tupK K (by rfl) (pv 5)) (blkOk_by (N := ["_law_script", "_law_ends", "_law_tables", "_law_word", "_law_one", "_law_rows", "_law_other", "_law_due", "_law_cell_here", "_law_pen_here", "_law_lap", "_law_turn", "_law_inputs", "_law_own", "_law_row"]) (sc := defScope s_law) (by decide +kernel)) (fun _ _ _ _ _ => by exact (pg_nameX 14 sc_law.nd rfl (by first | exact .inl rfl | exact .inr rfl) (by first | exact .inr rfl | exact .inl rfl))) (fun _ _ _ _ _ => by exact pts_nil) (fun _ _ _ _ _ => by exact (pe_c c__law_value hr (by first | decide | omega) (by rfl) (pa_cons (pv 13) (pa_cons (pe_ix (ix_tupK K (by rfl)) (pv 14) pe_int (fun _ _ => rfl)) pa_nil)))) (fun _ => rfl)) pa_nil))))
  (pss_one (ps_if (pt_cmpR op_ne (pe_callB (call_reprDK K (by rfl) hG hr.units) (by rfl) T.z_repr bt_repr (pa_cons (pe_cD c_run_plain2 hr (by decide) (by rfl) (pa_cons (pe_tupZ (pa_cons (pe_tupZ (pa_cons pe_str (pa_cons pe_str pa_nil))) (pa_cons (pv 2) (pa_cons (pe_tupZ pa_nil) (pa_cons (pv 5) pa_nil))))) (pa_cons (pv 12) pa_nil))) pa_nil)) (pe_callB (call_reprDK K (by rfl) hG hr.units) (by rfl) T.z_repr bt_repr (pa_cons (pv 7) pa_nil)) (nomark _))
  (pss_one (ps_ret pe_bl))
  pss_nil))))))))))
  (pss_one (ps_ret pe_bl)))))), ?_⟩
    refine seq3 ?_
    refine DS.run (K := K) (Γ := ⟨[], [], [], H⟩) (L := []) (δ := ⟨[some (.fn a), none, none, none, none, none, none, none, none, none, none, none, none, none, none], fun _ => none⟩) (S := [])
      (Ψ := { nx := fun δ => ∃ (x1 x3 x4 x5 x6 x7 x8 x9 x10 x11 x12 x13 x14 : Option Sv), δ.sl = [some (.fn a), x1, some (.dat (.tuple [tabA.data])), x3, x4, x5, x6, x7, x8, x9, x10, x11, x12, x13, x14], rt := fun _ _ => False })
      (sim_start (N := ["_law_script", "_law_ends", "_law_tables", "_law_word", "_law_one", "_law_rows", "_law_other", "_law_due", "_law_cell_here", "_law_pen_here", "_law_lap", "_law_turn", "_law_inputs", "_law_own", "_law_row"]) (P := []) (W := []) (L := []) (al := fun _ => none) (as := [.fn a]) (fun _ z => z) (fun _ z => z) (fun _ z => nomatch z) (fun _ z => nomatch z) (fun a o e => nomatch (show (none : Option Ob) = some o from e)) ⟨_, _, rfl, rfl, rfl, (fun _ z => nomatch z), rfl⟩) ?_ ⟨fun {L' δ' σ' H'} J hj => ?_, fun _ z => z.elim, fun _ z => z.elim, fun _ _ z => z.elim⟩
    · simp only [at_mk, put_mk, know_mk, q_var, q_vdat, q_vpen, q_vown, q_vfn, q_vref, q_asD, q_asDo, q_asDa, q_aown, q_adat, q_asA, q_asAp, q_asAf, q_asAr, q_asAo, q_asAa, q_asS, q_asSo, q_asSp, q_asSf, q_asSr, q_asSa, q_asR, q_asRr, q_asRo, q_onD, q_onR, q_inOb, q_inObr, q_inObf, q_onT, q_onL, q_onI, q_onX, q_onBo, q_onTd, q_seqL, q_seqT, q_intI, q_intB, q_none, q_noneR, q_one, q_oneS, q_seeL, q_seeT, q_seeO, q_seeA, q_seeAo, q_seeAl, q_seeAt, q_srL, q_srO, q_srA, q_lenS, q_lenO, q_lenA, q_lenR, q_slL, q_slO, q_slA, q_slAo, q_slAl, q_ixR, q_ixL, q_ixO, q_ixA, q_appA, q_appAo, q_appR, q_emR, q_zipT, q_zipL, q_some, q_fn1, q_fn2, q_fn3, q_fn4, q_pn0, q_pn1, q_pn2, q_pn3, q_scaI, q_scaS, q_scaB, q_scaN, q_fnD, q_all0, q_all1, q_all2, q_all3, q_all4, q_all5, q_wipe0, q_wipe, q_start, q_eqI, q_eqX, q_eqB, q_onB, q_at0, q_at1, q_at2, q_at3, q_at4, q_tup, q_strT, q_str, q_int, q_bool, List.length_cons, List.length_nil, List.map_cons, List.map_nil, List.replicate, List.cons_append, List.nil_append, List.getD_cons_zero, List.getD_cons_succ, List.getD_nil, List.set_cons_zero, List.set_cons_succ, List.set_nil, cond_true, cond_false, Nat.reduceAdd, Nat.reduceSub, Nat.sub_self, Nat.add_one_sub_one, Bool.not_true, Bool.not_false, true_and, and_true, Bool.false_eq_true, if_false, reduceIte]
      refine ⟨(show 7 ≤ 1000000 by decide), by decide, by decide, by decide, by decide, (show 6 ≤ 1000000 by decide), ?_⟩
      refine forD_by (i := 0) (fun _ δ => ∃ (s1 : Sv) (x3 x4 x5 x6 x7 x8 x9 x10 x11 x12 x13 x14 : Option Sv), δ = ⟨[some (.fn a), some s1, some (.dat (.tuple [tabA.data])), x3, x4, x5, x6, x7, x8, x9, x10, x11, x12, x13, x14], fun _ => none⟩ ∧ (s1 = .own (endsN.map .int) ∨ s1 = .dat (.list (endsN.map .int)))) ⟨_, _, _, _, _, _, _, _, _, _, _, _, _, rfl, .inl rfl⟩ ?_ ?_
      · rintro j dj hj δ ⟨s1, x3, x4, x5, x6, x7, x8, x9, x10, x11, x12, x13, x14, rfl, hs⟩ nx hnx
        have hw : ∃ w, w ∈ opsL ∧ dj = .str w := by
          have := List.mem_of_getElem? hj
          simp only [List.mem_cons, List.not_mem_nil, or_false] at this
          rcases this with rfl | rfl | rfl | rfl | rfl | rfl
          all_goals exact ⟨_, by decide, rfl⟩
        obtain ⟨w, hw, rfl⟩ := hw
        clear hj
        rcases hs with rfl | rfl
        all_goals
          simp only [at_mk, put_mk, know_mk, q_var, q_vdat, q_vpen, q_vown, q_vfn, q_vref, q_asD, q_asDo, q_asDa, q_aown, q_adat, q_asA, q_asAp, q_asAf, q_asAr, q_asAo, q_asAa, q_asS, q_asSo, q_asSp, q_asSf, q_asSr, q_asSa, q_asR, q_asRr, q_asRo, q_onD, q_onR, q_inOb, q_inObr, q_inObf, q_onT, q_onL, q_onI, q_onX, q_onBo, q_onTd, q_seqL, q_seqT, q_intI, q_intB, q_none, q_noneR, q_one, q_oneS, q_seeL, q_seeT, q_seeO, q_seeA, q_seeAo, q_seeAl, q_seeAt, q_srL, q_srO, q_srA, q_lenS, q_lenO, q_lenA, q_lenR, q_slL, q_slO, q_slA, q_slAo, q_slAl, q_ixR, q_ixL, q_ixO, q_ixA, q_appA, q_appAo, q_appR, q_emR, q_zipT, q_zipL, q_some, q_fn1, q_fn2, q_fn3, q_fn4, q_pn0, q_pn1, q_pn2, q_pn3, q_scaI, q_scaS, q_scaB, q_scaN, q_fnD, q_all0, q_all1, q_all2, q_all3, q_all4, q_all5, q_wipe0, q_wipe, q_start, q_eqI, q_eqX, q_eqB, q_onB, q_at0, q_at1, q_at2, q_at3, q_at4, q_tup, q_strT, q_str, q_int, q_bool, List.length_cons, List.length_nil, List.map_cons, List.map_nil, List.replicate, List.cons_append, List.nil_append, List.getD_cons_zero, List.getD_cons_succ, List.getD_nil, List.set_cons_zero, List.set_cons_succ, List.set_nil, cond_true, cond_false, Nat.reduceAdd, Nat.reduceSub, Nat.sub_self, Nat.add_one_sub_one, Bool.not_true, Bool.not_false, true_and, and_true, Bool.false_eq_true, if_false, reduceIte]
          refine forD_by (i := 0) (fun _ δ => ∃ (x4 x5 x6 x7 x8 x9 x10 x11 x12 x13 x14 : Option Sv), δ = ⟨[some (.fn a), some (.dat (.list (endsN.map .int))), some (.dat (.tuple [tabA.data])), some (.dat (.str w)), x4, x5, x6, x7, x8, x9, x10, x11, x12, x13, x14], fun _ => none⟩) ⟨_, _, _, _, _, _, _, _, _, _, _, rfl⟩ ?_ (fun δ ⟨x4, x5, x6, x7, x8, x9, x10, x11, x12, x13, x14, e⟩ => by subst e; exact hnx _ ⟨_, _, _, _, _, _, _, _, _, _, _, _, _, rfl, .inr rfl⟩)
          rintro j2 d2 hj2 δ ⟨x4, x5, x6, x7, x8, x9, x10, x11, x12, x13, x14, rfl⟩ nx2 hnx2
          rw [List.getElem?_map] at hj2
          obtain ⟨o, ho, rfl⟩ := Option.map_eq_some_iff.mp hj2
          have ob : 0 ≤ o ∧ o ≤ 255 := ends_ok o (List.mem_of_getElem? ho)
          simp only [at_mk, put_mk, know_mk, q_var, q_vdat, q_vpen, q_vown, q_vfn, q_vref, q_asD, q_asDo, q_asDa, q_aown, q_adat, q_asA, q_asAp, q_asAf, q_asAr, q_asAo, q_asAa, q_asS, q_asSo, q_asSp, q_asSf, q_asSr, q_asSa, q_asR, q_asRr, q_asRo, q_onD, q_onR, q_inOb, q_inObr, q_inObf, q_onT, q_onL, q_onI, q_onX, q_onBo, q_onTd, q_seqL, q_seqT, q_intI, q_intB, q_none, q_noneR, q_one, q_oneS, q_seeL, q_seeT, q_seeO, q_seeA, q_seeAo, q_seeAl, q_seeAt, q_srL, q_srO, q_srA, q_lenS, q_lenO, q_lenA, q_lenR, q_slL, q_slO, q_slA, q_slAo, q_slAl, q_ixR, q_ixL, q_ixO, q_ixA, q_appA, q_appAo, q_appR, q_emR, q_zipT, q_zipL, q_some, q_fn1, q_fn2, q_fn3, q_fn4, q_pn0, q_pn1, q_pn2, q_pn3, q_scaI, q_scaS, q_scaB, q_scaN, q_fnD, q_all0, q_all1, q_all2, q_all3, q_all4, q_all5, q_wipe0, q_wipe, q_start, q_eqI, q_eqX, q_eqB, q_onB, q_at0, q_at1, q_at2, q_at3, q_at4, q_tup, q_strT, q_str, q_int, q_bool, List.length_cons, List.length_nil, List.map_cons, List.map_nil, List.replicate, List.cons_append, List.nil_append, List.getD_cons_zero, List.getD_cons_succ, List.getD_nil, List.set_cons_zero, List.set_cons_succ, List.set_nil, cond_true, cond_false, Nat.reduceAdd, Nat.reduceSub, Nat.sub_self, Nat.add_one_sub_one, Bool.not_true, Bool.not_false, true_and, and_true, Bool.false_eq_true, if_false, reduceIte]
          refine ⟨rfl, ?_⟩
          refine lcD_map (δ0 := ⟨[some (.fn a), some (.dat (.list (endsN.map .int))), some (.dat (.tuple [tabA.data])), some (.dat (.str w)), some (.dat (.int o)), x5, none, x7, x8, x9, x10, x11, x12, x13, x14], fun _ => none⟩) (rowF w o) rfl (by rw [List.length_map]; show 0 + 7 ≤ _; decide) ?_ ?_
          · intro d hd k hk
            obtain ⟨o2, _, rfl⟩ := List.mem_map.mp hd
            have := hk ⟨[some (.fn a), some (.dat (.list (endsN.map .int))), some (.dat (.tuple [tabA.data])), some (.dat (.str w)), some (.dat (.int o)), x5, some (.dat (.int o2)), x7, x8, x9, x10, x11, x12, x13, x14], fun _ => none⟩ rfl
            simp only [at_mk, put_mk, know_mk, q_var, q_vdat, q_vpen, q_vown, q_vfn, q_vref, q_asD, q_asDo, q_asDa, q_aown, q_adat, q_asA, q_asAp, q_asAf, q_asAr, q_asAo, q_asAa, q_asS, q_asSo, q_asSp, q_asSf, q_asSr, q_asSa, q_asR, q_asRr, q_asRo, q_onD, q_onR, q_inOb, q_inObr, q_inObf, q_onT, q_onL, q_onI, q_onX, q_onBo, q_onTd, q_seqL, q_seqT, q_intI, q_intB, q_none, q_noneR, q_one, q_oneS, q_seeL, q_seeT, q_seeO, q_seeA, q_seeAo, q_seeAl, q_seeAt, q_srL, q_srO, q_srA, q_lenS, q_lenO, q_lenA, q_lenR, q_slL, q_slO, q_slA, q_slAo, q_slAl, q_ixR, q_ixL, q_ixO, q_ixA, q_appA, q_appAo, q_appR, q_emR, q_zipT, q_zipL, q_some, q_fn1, q_fn2, q_fn3, q_fn4, q_pn0, q_pn1, q_pn2, q_pn3, q_scaI, q_scaS, q_scaB, q_scaN, q_fnD, q_all0, q_all1, q_all2, q_all3, q_all4, q_all5, q_wipe0, q_wipe, q_start, q_eqI, q_eqX, q_eqB, q_onB, q_at0, q_at1, q_at2, q_at3, q_at4, q_tup, q_strT, q_str, q_int, q_bool, List.length_cons, List.length_nil, List.map_cons, List.map_nil, List.replicate, List.cons_append, List.nil_append, List.getD_cons_zero, List.getD_cons_succ, List.getD_nil, List.set_cons_zero, List.set_cons_succ, List.set_nil, cond_true, cond_false, Nat.reduceAdd, Nat.reduceSub, Nat.sub_self, Nat.add_one_sub_one, Bool.not_true, Bool.not_false, true_and, and_true, Bool.false_eq_true, if_false, reduceIte]
            exact ⟨by decide, by decide, by decide, by decide, this⟩
          · simp only [at_mk, put_mk, know_mk, q_var, q_vdat, q_vpen, q_vown, q_vfn, q_vref, q_asD, q_asDo, q_asDa, q_aown, q_adat, q_asA, q_asAp, q_asAf, q_asAr, q_asAo, q_asAa, q_asS, q_asSo, q_asSp, q_asSf, q_asSr, q_asSa, q_asR, q_asRr, q_asRo, q_onD, q_onR, q_inOb, q_inObr, q_inObf, q_onT, q_onL, q_onI, q_onX, q_onBo, q_onTd, q_seqL, q_seqT, q_intI, q_intB, q_none, q_noneR, q_one, q_oneS, q_seeL, q_seeT, q_seeO, q_seeA, q_seeAo, q_seeAl, q_seeAt, q_srL, q_srO, q_srA, q_lenS, q_lenO, q_lenA, q_lenR, q_slL, q_slO, q_slA, q_slAo, q_slAl, q_ixR, q_ixL, q_ixO, q_ixA, q_appA, q_appAo, q_appR, q_emR, q_zipT, q_zipL, q_some, q_fn1, q_fn2, q_fn3, q_fn4, q_pn0, q_pn1, q_pn2, q_pn3, q_scaI, q_scaS, q_scaB, q_scaN, q_fnD, q_all0, q_all1, q_all2, q_all3, q_all4, q_all5, q_wipe0, q_wipe, q_start, q_eqI, q_eqX, q_eqB, q_onB, q_at0, q_at1, q_at2, q_at3, q_at4, q_tup, q_strT, q_str, q_int, q_bool, List.length_cons, List.length_nil, List.map_cons, List.map_nil, List.replicate, List.cons_append, List.nil_append, List.getD_cons_zero, List.getD_cons_succ, List.getD_nil, List.set_cons_zero, List.set_cons_succ, List.set_nil, cond_true, cond_false, Nat.reduceAdd, Nat.reduceSub, Nat.sub_self, Nat.add_one_sub_one, Bool.not_true, Bool.not_false, true_and, and_true, Bool.false_eq_true, if_false, reduceIte]
            refine ⟨rfl, ?_⟩
            refine lcD_map (δ0 := ⟨[some (.fn a), some (.dat (.list (endsN.map .int))), some (.dat (.tuple [tabA.data])), some (.dat (.str w)), some (.dat (.int o)), some (.dat (.tuple ((endsN.map PyData.int).map (rowF w o)))), none, x7, x8, x9, x10, x11, x12, x13, x14], fun _ => none⟩) (dueF w o) rfl (by rw [List.length_map]; show 0 + 7 ≤ _; decide) ?_ ?_
            · intro d hd k hk
              obtain ⟨o2, ho2, rfl⟩ := List.mem_map.mp hd
              have := hk ⟨[some (.fn a), some (.dat (.list (endsN.map .int))), some (.dat (.tuple [tabA.data])), some (.dat (.str w)), some (.dat (.int o)), some (.dat (.tuple ((endsN.map PyData.int).map (rowF w o)))), some (.dat (.int o2)), x7, x8, x9, x10, x11, x12, x13, x14], fun _ => none⟩ rfl
              simp only [at_mk, put_mk, know_mk, q_var, q_vdat, q_vpen, q_vown, q_vfn, q_vref, q_asD, q_asDo, q_asDa, q_aown, q_adat, q_asA, q_asAp, q_asAf, q_asAr, q_asAo, q_asAa, q_asS, q_asSo, q_asSp, q_asSf, q_asSr, q_asSa, q_asR, q_asRr, q_asRo, q_onD, q_onR, q_inOb, q_inObr, q_inObf, q_onT, q_onL, q_onI, q_onX, q_onBo, q_onTd, q_seqL, q_seqT, q_intI, q_intB, q_none, q_noneR, q_one, q_oneS, q_seeL, q_seeT, q_seeO, q_seeA, q_seeAo, q_seeAl, q_seeAt, q_srL, q_srO, q_srA, q_lenS, q_lenO, q_lenA, q_lenR, q_slL, q_slO, q_slA, q_slAo, q_slAl, q_ixR, q_ixL, q_ixO, q_ixA, q_appA, q_appAo, q_appR, q_emR, q_zipT, q_zipL, q_some, q_fn1, q_fn2, q_fn3, q_fn4, q_pn0, q_pn1, q_pn2, q_pn3, q_scaI, q_scaS, q_scaB, q_scaN, q_fnD, q_all0, q_all1, q_all2, q_all3, q_all4, q_all5, q_wipe0, q_wipe, q_start, q_eqI, q_eqX, q_eqB, q_onB, q_at0, q_at1, q_at2, q_at3, q_at4, q_tup, q_strT, q_str, q_int, q_bool, List.length_cons, List.length_nil, List.map_cons, List.map_nil, List.replicate, List.cons_append, List.nil_append, List.getD_cons_zero, List.getD_cons_succ, List.getD_nil, List.set_cons_zero, List.set_cons_succ, List.set_nil, cond_true, cond_false, Nat.reduceAdd, Nat.reduceSub, Nat.sub_self, Nat.add_one_sub_one, Bool.not_true, Bool.not_false, true_and, and_true, Bool.false_eq_true, if_false, reduceIte]
              exact ⟨w, o, o2, rfl, rfl, rfl, hw, ob, ends_ok o2 ho2, this⟩
            · simp only [at_mk, put_mk, know_mk, q_var, q_vdat, q_vpen, q_vown, q_vfn, q_vref, q_asD, q_asDo, q_asDa, q_aown, q_adat, q_asA, q_asAp, q_asAf, q_asAr, q_asAo, q_asAa, q_asS, q_asSo, q_asSp, q_asSf, q_asSr, q_asSa, q_asR, q_asRr, q_asRo, q_onD, q_onR, q_inOb, q_inObr, q_inObf, q_onT, q_onL, q_onI, q_onX, q_onBo, q_onTd, q_seqL, q_seqT, q_intI, q_intB, q_none, q_noneR, q_one, q_oneS, q_seeL, q_seeT, q_seeO, q_seeA, q_seeAo, q_seeAl, q_seeAt, q_srL, q_srO, q_srA, q_lenS, q_lenO, q_lenA, q_lenR, q_slL, q_slO, q_slA, q_slAo, q_slAl, q_ixR, q_ixL, q_ixO, q_ixA, q_appA, q_appAo, q_appR, q_emR, q_zipT, q_zipL, q_some, q_fn1, q_fn2, q_fn3, q_fn4, q_pn0, q_pn1, q_pn2, q_pn3, q_scaI, q_scaS, q_scaB, q_scaN, q_fnD, q_all0, q_all1, q_all2, q_all3, q_all4, q_all5, q_wipe0, q_wipe, q_start, q_eqI, q_eqX, q_eqB, q_onB, q_at0, q_at1, q_at2, q_at3, q_at4, q_tup, q_strT, q_str, q_int, q_bool, List.length_cons, List.length_nil, List.map_cons, List.map_nil, List.replicate, List.cons_append, List.nil_append, List.getD_cons_zero, List.getD_cons_succ, List.getD_nil, List.set_cons_zero, List.set_cons_succ, List.set_nil, cond_true, cond_false, Nat.reduceAdd, Nat.reduceSub, Nat.sub_self, Nat.add_one_sub_one, Bool.not_true, Bool.not_false, true_and, and_true, Bool.false_eq_true, if_false, reduceIte]
              obtain ⟨q1, q2, q3⟩ := prog1_ok (ps := []) (es := endsN.map fun o2 => Ex.op w (.num o) (.num o2)) ⟨by decide, (fun _ z => nomatch z), List.nodup_nil⟩ (ends_es hw ob) (by rw [List.length_map]; decide)
              refine ⟨by decide, by decide, by decide, prog1 [] (endsN.map fun o2 => Ex.op w (.num o) (.num o2)), ends_data w o, q1, q2, q3, rfl, ?_⟩
              rw [ends_said, ends_due]
              refine ⟨noDict_ints _, sh_ints (ends_vs ob) (by rw [List.length_map]; decide), noDict_ints _, sh_ints (ends_vs ob) (by rw [List.length_map]; decide), ?_⟩
              rw [decide_eq_true rfl]
              exact hnx2 _ ⟨_, _, _, _, _, _, _, _, _, _, _, rfl⟩
      · rintro δ ⟨s1, x3, x4, x5, x6, x7, x8, x9, x10, x11, x12, x13, x14, rfl, hs⟩
        exact ⟨_, _, _, _, _, _, _, _, _, _, _, _, _, rfl⟩
    · obtain ⟨x1, x3, x4, x5, x6, x7, x8, x9, x10, x11, x12, x13, x14, e⟩ := hj
      obtain ⟨_, v0, s0, r0⟩ := J.slot 0 (.fn a) (by rw [e]; rfl)
      cases (show v0 = .ref a from r0)
      obtain ⟨_, v2, s2, r2⟩ := J.slot 2 (.dat (.tuple [tabA.data])) (by rw [e]; rfl)
      dsimp only
      have hS' : SqL K H' a (ns.map V.int) := J.fr.lst hS (fun z => nomatch z)
      have hσ : σ'.length = 15 := by have := J.len; rw [e] at this; exact this.symm
      -- [_law_cell(script, 0)] + script[1:4]
      refine ⟨_, s0, a, ns, 0, rfl, hS', fun z0 => ⟨(by show 1 ≤ sizeLine; decide), fun l0 nl0 => ?_⟩⟩
      have fa : Fr [] H' (upd H' l0 (.lst [.int z0])) := .new nl0
      refine ⟨_, s0, 1, rfl, 4, rfl, a, _, rfl, fa.lst hS' (fun z => nomatch z), fun l1 nl1 => ?_⟩
      rw [cut_ints]
      generalize hcut : (((ns.drop (HT.sIx ns.length 0 (some 1))).take (HT.sIx ns.length ns.length (some 4) - HT.sIx ns.length 0 (some 1)))) = ms
      have hms : ms.length ≤ 63 := by
        rw [← hcut]
        have h2 := List.length_take_le' (HT.sIx ns.length ns.length (some 4) - HT.sIx ns.length 0 (some 1)) (ns.drop (HT.sIx ns.length 0 (some 1)))
        rw [List.length_drop] at h2
        omega
      have hszl := sizeLine_eq
      have h01 : l0 ≠ l1 := ne_of_none upd_same nl1
      refine ⟨l0, l1, [.int z0], ms.map V.int, rfl, rfl, (by rw [upd_ne h01]; exact upd_same), upd_same, (by rw [List.length_map]; show 1 + _ ≤ _; omega), fun l2 nl2 => ?_⟩
      have exs : ([V.int z0] ++ ms.map V.int) = (z0 :: ms).map V.int := rfl
      rw [exs]
      have fl : Fr [] H' (upd (upd (upd H' l0 (.lst [.int z0])) l1 (.lst (ms.map V.int))) l2 (.lst ((z0 :: ms).map V.int))) := (fa.up nl1).up nl2
      generalize eHl : upd (upd (upd H' l0 (.lst [.int z0])) l1 (.lst (ms.map V.int))) l2 (.lst ((z0 :: ms).map V.int)) = Hl at fl
      have hl2 : Hl l2 = some (.lst ((z0 :: ms).map V.int)) := by rw [← eHl]; exact upd_same
      refine ⟨l2, rfl, ⟨_, sqL_of hl2⟩, for_list (K := K) (a := l2) (xs := (z0 :: ms).map V.int) (fun i σ H1 => ∃ v2, σ.length = 15 ∧ σ[2]? = some (some v2) ∧ Dv K [] H1 (.tuple [tabA.data]) v2 ∧ Fr [] Hl H1)
        ⟨v2, hσ, s2, Dv.mono fl (fun _ z => nomatch z) (Dv.sub (L' := []) (fun b (z : b ∈ ([] : List Addr)) => nomatch z) r2), .refl _ _⟩ (fun i σ H1 _ ⟨_, _, _, _, fr⟩ => sqL_of (fr.at hl2)) ?_ (fun σ H1 _ => q H1)⟩
      rintro i x σ H1 hx ⟨v2', hσl, hσ2, hdv, frl⟩
      obtain ⟨zc, _, rfl⟩ := map_at hx
      refine ⟨_, (by simp [hσl]), zc, rfl, fun p Hq np fp pnp => ?_⟩
      have hdv2 : Dv K [p] Hq (.tuple [tabA.data]) v2' := Dv.mono (P := []) fp (fun _ z => nomatch z) (Dv.sub (fun b hb => by cases List.mem_singleton.mp hb; exact .inr np) hdv)
      refine gN ?_
      dsimp only
      refine DS.run (K := K) (Γ := ⟨[p], [p], [p], Hq⟩) (L := [p]) (δ := ⟨[none, none, some (.dat (.tuple [tabA.data])), none, none, none, none, none, none, some (.pen p), none, none, none, none, none], fun _ => none⟩) (S := [])
        (Ψ := { nx := fun δ => δ.sl.length = 15 ∧ δ.sl[2]? = some (some (.dat (.tuple [tabA.data]))), rt := fun _ _ => False }) ?_ ?_ ⟨fun {L2' δ2' σ2' H2'} J2 hj2 => ?_, fun _ z => z.elim, fun _ z => z.elim, fun _ _ z => z.elim⟩
      · exact {
          fr := .refl _ _, pens := fun r hr => by cases List.mem_singleton.mp hr; exact pnp, pin := fun _ z => z, win := fun _ z => z, sub := fun _ z => z
          live := fun r hr => by
            cases List.mem_singleton.mp hr
            obtain ⟨u, v, e⟩ := pnp
            rw [e]
            exact fun z => nomatch z
          old := fun _ z => .inl z
          len := by simp [hσl]
          slot := fun i s e => by
            have hi : i < 15 := (List.getElem?_eq_some_iff.mp e).1
            have h1 : ((σ.set 8 (some (.int zc))).set 9 (some (.ref p)))[2]? = some (some v2') := by simp [hσ2]
            have h3 : ((σ.set 8 (some (.int zc))).set 9 (some (.ref p)))[9]? = some (some (.ref p)) := by simp [hσl]
            match i, hi with
            | 2, _ =>
              cases e
              exact ⟨(fun _ z => nomatch z), _, h1, hdv2⟩
            | 9, _ =>
              cases e
              exact ⟨(fun _ z => nomatch z), _, h3, rfl, List.mem_singleton.mpr rfl⟩
            | 0, _ => cases e
            | 1, _ => cases e
            | 3, _ => cases e
            | 4, _ => cases e
            | 5, _ => cases e
            | 6, _ => cases e
            | 7, _ => cases e
            | 8, _ => cases e
            | 10, _ => cases e
            | 11, _ => cases e
            | 12, _ => cases e
            | 13, _ => cases e
            | 14, _ => cases e
          stk := fun _ z => nomatch z
          nal := fun _ z => nomatch z
          sep := fun i j s t v n e1 e2 o => (noOwn1 e1 o).elim
          sepS := fun _ _ _ _ _ _ _ z => nomatch z
          sepT := List.Pairwise.nil
          obj := fun a o e => nomatch (show (none : Option Ob) = some o from e)
          sepA := fun i s a e o => (noOwn1 e o).elim
          sepB := fun _ z => nomatch z }
      · simp only [at_mk, put_mk, know_mk, q_var, q_vdat, q_vpen, q_vown, q_vfn, q_vref, q_asD, q_asDo, q_asDa, q_aown, q_adat, q_asA, q_asAp, q_asAf, q_asAr, q_asAo, q_asAa, q_asS, q_asSo, q_asSp, q_asSf, q_asSr, q_asSa, q_asR, q_asRr, q_asRo, q_onD, q_onR, q_inOb, q_inObr, q_inObf, q_onT, q_onL, q_onI, q_onX, q_onBo, q_onTd, q_seqL, q_seqT, q_intI, q_intB, q_none, q_noneR, q_one, q_oneS, q_seeL, q_seeT, q_seeO, q_seeA, q_seeAo, q_seeAl, q_seeAt, q_srL, q_srO, q_srA, q_lenS, q_lenO, q_lenA, q_lenR, q_slL, q_slO, q_slA, q_slAo, q_slAl, q_ixR, q_ixL, q_ixO, q_ixA, q_appA, q_appAo, q_appR, q_emR, q_zipT, q_zipL, q_some, q_fn1, q_fn2, q_fn3, q_fn4, q_pn0, q_pn1, q_pn2, q_pn3, q_scaI, q_scaS, q_scaB, q_scaN, q_fnD, q_all0, q_all1, q_all2, q_all3, q_all4, q_all5, q_wipe0, q_wipe, q_start, q_eqI, q_eqX, q_eqB, q_onB, q_at0, q_at1, q_at2, q_at3, q_at4, q_tup, q_strT, q_str, q_int, q_bool, List.length_cons, List.length_nil, List.map_cons, List.map_nil, List.replicate, List.cons_append, List.nil_append, List.getD_cons_zero, List.getD_cons_succ, List.getD_nil, List.set_cons_zero, List.set_cons_succ, List.set_nil, cond_true, cond_false, Nat.reduceAdd, Nat.reduceSub, Nat.sub_self, Nat.add_one_sub_one, Bool.not_true, Bool.not_false, true_and, and_true, Bool.false_eq_true, if_false, reduceIte]
        refine ⟨⟨by decide, by decide⟩, ?_⟩
        refine forD_by (i := 0) (fun _ δ => ∃ (al : Al) (x3 x4 x5 x6 x7 x8 x10 x11 x12 x13 x14 : Option Sv), δ = ⟨[none, none, some (.dat (.tuple [tabA.data])), x3, x4, x5, x6, x7, x8, some (.pen p), x10, x11, x12, x13, x14], al⟩) ⟨_, _, _, _, _, _, _, _, _, _, _, _, rfl⟩ ?_ (fun δ ⟨al, x3, x4, x5, x6, x7, x8, x10, x11, x12, x13, x14, e⟩ => by subst e; exact ⟨rfl, rfl⟩)
        rintro j dj hj δ ⟨al, x3, x4, x5, x6, x7, x8, x10, x11, x12, x13, x14, rfl⟩ nx hnx
        simp only [at_mk, put_mk, know_mk, q_var, q_vdat, q_vpen, q_vown, q_vfn, q_vref, q_asD, q_asDo, q_asDa, q_aown, q_adat, q_asA, q_asAp, q_asAf, q_asAr, q_asAo, q_asAa, q_asS, q_asSo, q_asSp, q_asSf, q_asSr, q_asSa, q_asR, q_asRr, q_asRo, q_onD, q_onR, q_inOb, q_inObr, q_inObf, q_onT, q_onL, q_onI, q_onX, q_onBo, q_onTd, q_seqL, q_seqT, q_intI, q_intB, q_none, q_noneR, q_one, q_oneS, q_seeL, q_seeT, q_seeO, q_seeA, q_seeAo, q_seeAl, q_seeAt, q_srL, q_srO, q_srA, q_lenS, q_lenO, q_lenA, q_lenR, q_slL, q_slO, q_slA, q_slAo, q_slAl, q_ixR, q_ixL, q_ixO, q_ixA, q_appA, q_appAo, q_appR, q_emR, q_zipT, q_zipL, q_some, q_fn1, q_fn2, q_fn3, q_fn4, q_pn0, q_pn1, q_pn2, q_pn3, q_scaI, q_scaS, q_scaB, q_scaN, q_fnD, q_all0, q_all1, q_all2, q_all3, q_all4, q_all5, q_wipe0, q_wipe, q_start, q_eqI, q_eqX, q_eqB, q_onB, q_at0, q_at1, q_at2, q_at3, q_at4, q_tup, q_strT, q_str, q_int, q_bool, List.length_cons, List.length_nil, List.map_cons, List.map_nil, List.replicate, List.cons_append, List.nil_append, List.getD_cons_zero, List.getD_cons_succ, List.getD_nil, List.set_cons_zero, List.set_cons_succ, List.set_nil, cond_true, cond_false, Nat.reduceAdd, Nat.reduceSub, Nat.sub_self, Nat.add_one_sub_one, Bool.not_true, Bool.not_false, true_and, and_true, Bool.false_eq_true, if_false, reduceIte]
        refine ⟨rfl, ⟨by decide, by decide⟩, ?_⟩
        refine lcD_any (δ0 := ⟨[none, none, some (.dat (.tuple [tabA.data])), x3, x4, x5, x6, x7, x8, some (.pen p), some (.dat dj), none, x12, x13, x14], al⟩) (fun y => ∃ e : Ex, (e.ok ∧ e.dep ≤ 2) ∧ y = .tuple [.str "tell", e.data]) rfl (by show 0 + 4 ≤ _; decide) ?_ ?_
        · intro d hd k hk
          have := fun (e : Ex) (h : e.ok ∧ e.dep ≤ 2) => hk (.tuple [.str "tell", e.data]) ⟨[none, none, some (.dat (.tuple [tabA.data])), x3, x4, x5, x6, x7, x8, some (.pen p), some (.dat dj), some (.dat d), x12, x13, x14], al⟩ ⟨e, h, rfl⟩ rfl
          simp only [at_mk, put_mk, know_mk, q_var, q_vdat, q_vpen, q_vown, q_vfn, q_vref, q_asD, q_asDo, q_asDa, q_aown, q_adat, q_asA, q_asAp, q_asAf, q_asAr, q_asAo, q_asAa, q_asS, q_asSo, q_asSp, q_asSf, q_asSr, q_asSa, q_asR, q_asRr, q_asRo, q_onD, q_onR, q_inOb, q_inObr, q_inObf, q_onT, q_onL, q_onI, q_onX, q_onBo, q_onTd, q_seqL, q_seqT, q_intI, q_intB, q_none, q_noneR, q_one, q_oneS, q_seeL, q_seeT, q_seeO, q_seeA, q_seeAo, q_seeAl, q_seeAt, q_srL, q_srO, q_srA, q_lenS, q_lenO, q_lenA, q_lenR, q_slL, q_slO, q_slA, q_slAo, q_slAl, q_ixR, q_ixL, q_ixO, q_ixA, q_appA, q_appAo, q_appR, q_emR, q_zipT, q_zipL, q_some, q_fn1, q_fn2, q_fn3, q_fn4, q_pn0, q_pn1, q_pn2, q_pn3, q_scaI, q_scaS, q_scaB, q_scaN, q_fnD, q_all0, q_all1, q_all2, q_all3, q_all4, q_all5, q_wipe0, q_wipe, q_start, q_eqI, q_eqX, q_eqB, q_onB, q_at0, q_at1, q_at2, q_at3, q_at4, q_tup, q_strT, q_str, q_int, q_bool, List.length_cons, List.length_nil, List.map_cons, List.map_nil, List.replicate, List.cons_append, List.nil_append, List.getD_cons_zero, List.getD_cons_succ, List.getD_nil, List.set_cons_zero, List.set_cons_succ, List.set_nil, cond_true, cond_false, Nat.reduceAdd, Nat.reduceSub, Nat.sub_self, Nat.add_one_sub_one, Bool.not_true, Bool.not_false, true_and, and_true, Bool.false_eq_true, if_false, reduceIte]
          exact ⟨rfl, fun e ok hd => ⟨by decide, this e ⟨ok, hd⟩⟩⟩
        · intro out hol hout
          obtain ⟨es, hes, rfl⟩ := pick_es hout
          have hel : es.length = 4 := by rw [List.length_map] at hol; exact hol
          rw [List.nil_append]
          simp only [at_mk, put_mk, know_mk, q_var, q_vdat, q_vpen, q_vown, q_vfn, q_vref, q_asD, q_asDo, q_asDa, q_aown, q_adat, q_asA, q_asAp, q_asAf, q_asAr, q_asAo, q_asAa, q_asS, q_asSo, q_asSp, q_asSf, q_asSr, q_asSa, q_asR, q_asRr, q_asRo, q_onD, q_onR, q_inOb, q_inObr, q_inObf, q_onT, q_onL, q_onI, q_onX, q_onBo, q_onTd, q_seqL, q_seqT, q_intI, q_intB, q_none, q_noneR, q_one, q_oneS, q_seeL, q_seeT, q_seeO, q_seeA, q_seeAo, q_seeAl, q_seeAt, q_srL, q_srO, q_srA, q_lenS, q_lenO, q_lenA, q_lenR, q_slL, q_slO, q_slA, q_slAo, q_slAl, q_ixR, q_ixL, q_ixO, q_ixA, q_appA, q_appAo, q_appR, q_emR, q_zipT, q_zipL, q_some, q_fn1, q_fn2, q_fn3, q_fn4, q_pn0, q_pn1, q_pn2, q_pn3, q_scaI, q_scaS, q_scaB, q_scaN, q_fnD, q_all0, q_all1, q_all2, q_all3, q_all4, q_all5, q_wipe0, q_wipe, q_start, q_eqI, q_eqX, q_eqB, q_onB, q_at0, q_at1, q_at2, q_at3, q_at4, q_tup, q_strT, q_str, q_int, q_bool, List.length_cons, List.length_nil, List.map_cons, List.map_nil, List.replicate, List.cons_append, List.nil_append, List.getD_cons_zero, List.getD_cons_succ, List.getD_nil, List.set_cons_zero, List.set_cons_succ, List.set_nil, cond_true, cond_false, Nat.reduceAdd, Nat.reduceSub, Nat.sub_self, Nat.add_one_sub_one, Bool.not_true, Bool.not_false, true_and, and_true, Bool.false_eq_true, if_false, reduceIte]
          refine ⟨⟨by decide, by decide⟩, fun i0 a0 a1 => ⟨⟨by decide, by decide⟩, fun i1 b0 b1 => ⟨by decide, fun ow how => ?_⟩⟩⟩
          refine ⟨by decide, ?_⟩
          rw [q_dK oup_same]
          refine ⟨rfl, rfl, ?_⟩
          refine lcD_over (δ0 := ⟨[none, none, some (.dat (.tuple [tabA.data])), x3, x4, some (.dat (.tuple (es.map fun e => .tuple [.str "tell", e.data]))), x6, x7, x8, some (.pen p), some (.dat dj), none, some (.dat (.tuple [.int i0, .int i1])), some (.ref ow), none], oup (oup al ow (.dK [])) ow (.dK (mergeE [] [((.inr "x" : Key), PyData.int i0), ((.inr "y" : Key), PyData.int i1)]))⟩) (fun e : Ex => PyData.tuple [.str "tell", e.data]) (fun e => .int (e.val (env2 i0 i1))) rfl (by show 0 + _ ≤ _; omega) ?_ ?_
          · intro e he k hk
            have := hk ⟨[none, none, some (.dat (.tuple [tabA.data])), x3, x4, some (.dat (.tuple (es.map fun e => .tuple [.str "tell", e.data]))), x6, x7, x8, some (.pen p), some (.dat dj), none, some (.dat (.tuple [.int i0, .int i1])), some (.ref ow), some (.dat (.tuple [.str "tell", e.data]))], oup (oup al ow (.dK [])) ow (.dK (mergeE [] [((.inr "x" : Key), PyData.int i0), ((.inr "y" : Key), PyData.int i1)]))⟩ rfl
            simp only [at_mk, put_mk, know_mk, q_var, q_vdat, q_vpen, q_vown, q_vfn, q_vref, q_asD, q_asDo, q_asDa, q_aown, q_adat, q_asA, q_asAp, q_asAf, q_asAr, q_asAo, q_asAa, q_asS, q_asSo, q_asSp, q_asSf, q_asSr, q_asSa, q_asR, q_asRr, q_asRo, q_onD, q_onR, q_inOb, q_inObr, q_inObf, q_onT, q_onL, q_onI, q_onX, q_onBo, q_onTd, q_seqL, q_seqT, q_intI, q_intB, q_none, q_noneR, q_one, q_oneS, q_seeL, q_seeT, q_seeO, q_seeA, q_seeAo, q_seeAl, q_seeAt, q_srL, q_srO, q_srA, q_lenS, q_lenO, q_lenA, q_lenR, q_slL, q_slO, q_slA, q_slAo, q_slAl, q_ixR, q_ixL, q_ixO, q_ixA, q_appA, q_appAo, q_appR, q_emR, q_zipT, q_zipL, q_some, q_fn1, q_fn2, q_fn3, q_fn4, q_pn0, q_pn1, q_pn2, q_pn3, q_scaI, q_scaS, q_scaB, q_scaN, q_fnD, q_all0, q_all1, q_all2, q_all3, q_all4, q_all5, q_wipe0, q_wipe, q_start, q_eqI, q_eqX, q_eqB, q_onB, q_at0, q_at1, q_at2, q_at3, q_at4, q_tup, q_strT, q_str, q_int, q_bool, List.length_cons, List.length_nil, List.map_cons, List.map_nil, List.replicate, List.cons_append, List.nil_append, List.getD_cons_zero, List.getD_cons_succ, List.getD_nil, List.set_cons_zero, List.set_cons_succ, List.set_nil, cond_true, cond_false, Nat.reduceAdd, Nat.reduceSub, Nat.sub_self, Nat.add_one_sub_one, Bool.not_true, Bool.not_false, true_and, and_true, Bool.false_eq_true, if_false, reduceIte]
            exact ⟨ow, _, env2 i0 i1, e, rfl, oup_same, env2_get i0 i1, env2_ok ⟨a0, by omega⟩ ⟨b0, by omega⟩, (hes e he).1, (hes e he).2, this⟩
          · obtain ⟨q1, q2, q3⟩ := prog1_ok (ps := ["x", "y"]) (es := es) ⟨by decide, by decide, by decide⟩ (fun e he => ⟨(hes e he).1, Nat.le_trans (hes e he).2 (by decide)⟩) (by omega)
            have hdat : PyData.tuple [.tuple [.str "x", .str "y"], .tuple [tabA.data], .tuple [], .tuple (es.map fun e => .tuple [.str "tell", e.data])] = (prog1 ["x", "y"] es).data := (prog1_data ["x", "y"] es).symm
            have hsd : (runRows (prog1 ["x", "y"] es) (prog1 ["x", "y"] es).rows (rs0 (prog1 ["x", "y"] es) [i0, i1])).said = es.map fun e => e.val (env2 i0 i1) := prog1_said
            have hv : ∀ i ∈ es.map fun e => e.val (env2 i0 i1), 0 ≤ i ∧ i ≤ 255 := fun i hi => by
              obtain ⟨e, he, rfl⟩ := List.mem_map.mp hi
              exact Ex.val_ok (env2_ok ⟨a0, by omega⟩ ⟨b0, by omega⟩) (hes e he).1
            have hml : (es.map fun e => PyData.int (e.val (env2 i0 i1))) = (es.map fun e => e.val (env2 i0 i1)).map PyData.int := by rw [List.map_map]; rfl
            rw [List.nil_append, hml]
            simp only [at_mk, put_mk, know_mk, q_var, q_vdat, q_vpen, q_vown, q_vfn, q_vref, q_asD, q_asDo, q_asDa, q_aown, q_adat, q_asA, q_asAp, q_asAf, q_asAr, q_asAo, q_asAa, q_asS, q_asSo, q_asSp, q_asSf, q_asSr, q_asSa, q_asR, q_asRr, q_asRo, q_onD, q_onR, q_inOb, q_inObr, q_inObf, q_onT, q_onL, q_onI, q_onX, q_onBo, q_onTd, q_seqL, q_seqT, q_intI, q_intB, q_none, q_noneR, q_one, q_oneS, q_seeL, q_seeT, q_seeO, q_seeA, q_seeAo, q_seeAl, q_seeAt, q_srL, q_srO, q_srA, q_lenS, q_lenO, q_lenA, q_lenR, q_slL, q_slO, q_slA, q_slAo, q_slAl, q_ixR, q_ixL, q_ixO, q_ixA, q_appA, q_appAo, q_appR, q_emR, q_zipT, q_zipL, q_some, q_fn1, q_fn2, q_fn3, q_fn4, q_pn0, q_pn1, q_pn2, q_pn3, q_scaI, q_scaS, q_scaB, q_scaN, q_fnD, q_all0, q_all1, q_all2, q_all3, q_all4, q_all5, q_wipe0, q_wipe, q_start, q_eqI, q_eqX, q_eqB, q_onB, q_at0, q_at1, q_at2, q_at3, q_at4, q_tup, q_strT, q_str, q_int, q_bool, List.length_cons, List.length_nil, List.map_cons, List.map_nil, List.replicate, List.cons_append, List.nil_append, List.getD_cons_zero, List.getD_cons_succ, List.getD_nil, List.set_cons_zero, List.set_cons_succ, List.set_nil, cond_true, cond_false, Nat.reduceAdd, Nat.reduceSub, Nat.sub_self, Nat.add_one_sub_one, Bool.not_true, Bool.not_false, true_and, and_true, Bool.false_eq_true, if_false, reduceIte]
            refine ⟨by decide, by decide, by decide, prog1 ["x", "y"] es, [i0, i1], hdat, rfl, q1, q2, q3, rfl, (show 2 ≤ 1000 by decide), ?_, ?_⟩
            · intro v hv
              simp only [List.mem_cons, List.not_mem_nil, or_false] at hv
              rcases hv with rfl | rfl
              · exact ⟨a0, by omega⟩
              · exact ⟨b0, by omega⟩
            · rw [hsd]
              refine ⟨noDict_ints _, sh_ints hv (by rw [List.length_map]; omega), noDict_ints _, sh_ints hv (by rw [List.length_map]; omega), ?_⟩
              rw [decide_eq_true rfl]
              exact hnx _ ⟨_, _, _, _, _, _, _, _, _, _, _, _, rfl⟩
      · obtain ⟨jl, j1⟩ := hj2
        obtain ⟨_, v, e1, r⟩ := J2.slot 2 _ j1
        exact ⟨v, J2.len ▸ jl, e1, Dv.sub (L' := []) (fun b (z : b ∈ ([] : List Addr)) => nomatch z) r, frl.trans (fp.cut J2.fr fun l hl => by cases List.mem_singleton.mp hl; exact .inr np)⟩
end
end B


namespace B
open PySem PySem.Spec PyProof.Rows L2
set_option maxHeartbeats 0 in
theorem all_mk {l : PySem.W.OpenLaw} {w : World} {K : PySem.W.Frag} {h : Heap} {mg : Str → Option Value} {fa f1 f2 f3 f4 f5 f6 f7 f8 f9 f10 f11 u19 u20 C_Scope f30 f31 f32 f33 f34 f35 f36 f37 f40 f41 C_Seen f43 f44 f45 f46 f49 f52 f53 C_PlainStore f56 f57 f58 C_Run f62 f63 f64 f65 f66 f67 f68 f69 f70 f85 f86 f87 f88 f89 f90 f91 f92 f93 f94 f95 f96 dt96 dk96 e1 e2 f99 : Addr} (X : K.In h) (G : h.Ns mainGlobals mg) (hfa : mg "law" = some (.ref fa))
    {od1 an1 : Option Addr} {sl1 : Array (Option Value)} {oc1 kV1 dc1 pm1 cd1 ct1 : Value} {od2 an2 : Option Addr} {sl2 : Array (Option Value)} {oc2 kV2 dc2 pm2 cd2 ct2 : Value} {od3 an3 : Option Addr} {sl3 : Array (Option Value)} {oc3 kV3 dc3 pm3 cd3 ct3 : Value} {od4 an4 : Option Addr} {sl4 : Array (Option Value)} {oc4 kV4 dc4 pm4 cd4 ct4 : Value} {od5 an5 : Option Addr} {sl5 : Array (Option Value)} {oc5 kV5 dc5 pm5 cd5 ct5 : Value} {od6 an6 : Option Addr} {sl6 : Array (Option Value)} {oc6 kV6 dc6 pm6 cd6 ct6 : Value} {od7 an7 : Option Addr} {sl7 : Array (Option Value)} {oc7 kV7 dc7 pm7 cd7 ct7 : Value} {od8 an8 : Option Addr} {sl8 : Array (Option Value)} {oc8 kV8 dc8 pm8 cd8 ct8 : Value} {od9 an9 : Option Addr} {sl9 : Array (Option Value)} {oc9 kV9 dc9 pm9 cd9 ct9 : Value} {od10 an10 : Option Addr} {sl10 : Array (Option Value)} {oc10 kV10 dc10 pm10 cd10 ct10 : Value} {od11 an11 : Option Addr} {sl11 : Array (Option Value)} {oc11 kV11 dc11 pm11 cd11 ct11 : Value} {t12 : Tok} {t13 : Tok} {t14 : Tok} {t15 : Tok} {t16 : Tok} {t17 : Tok} {t18 : Tok} {t19_0 t19_1 t19_2 t19_3 t19_4 t19_5 : Tok} {n19 : Nat} {sl19 : Array (Option Value)} {t20_0 t20_1 t20_2 t20_3 t20_4 t20_5 t20_6 t20_7 t20_8 t20_9 t20_10 t20_11 t20_12 t20_13 t20_14 t20_15 : Tok} {n20 : Nat} {sl20 : Array (Option Value)} {od30 an30 : Option Addr} {sl30 : Array (Option Value)} {oc30 kV30 dc30 pm30 cd30 ct30 : Value} {od31 an31 : Option Addr} {sl31 : Array (Option Value)} {oc31 kV31 dc31 pm31 cd31 ct31 : Value} {od32 an32 : Option Addr} {sl32 : Array (Option Value)} {oc32 kV32 dc32 pm32 cd32 ct32 : Value} {od33 an33 : Option Addr} {sl33 : Array (Option Value)} {oc33 kV33 dc33 pm33 cd33 ct33 : Value} {od34 an34 : Option Addr} {sl34 : Array (Option Value)} {oc34 kV34 dc34 pm34 cd34 ct34 : Value} {od35 an35 : Option Addr} {sl35 : Array (Option Value)} {oc35 kV35 dc35 pm35 cd35 ct35 : Value} {od36 an36 : Option Addr} {sl36 : Array (Option Value)} {oc36 kV36 dc36 pm36 cd36 ct36 : Value} {od37 an37 : Option Addr} {sl37 : Array (Option Value)} {oc37 kV37 dc37 pm37 cd37 ct37 : Value} {od40 an40 : Option Addr} {sl40 : Array (Option Value)} {oc40 kV40 dc40 pm40 cd40 ct40 : Value} {od41 an41 : Option Addr} {sl41 : Array (Option Value)} {oc41 kV41 dc41 pm41 cd41 ct41 : Value} {od43 an43 : Option Addr} {sl43 : Array (Option Value)} {oc43 kV43 dc43 pm43 cd43 ct43 : Value} {od44 an44 : Option Addr} {sl44 : Array (Option Value)} {oc44 kV44 dc44 pm44 cd44 ct44 : Value} {od45 an45 : Option Addr} {sl45 : Array (Option Value)} {oc45 kV45 dc45 pm45 cd45 ct45 : Value} {od46 an46 : Option Addr} {sl46 : Array (Option Value)} {oc46 kV46 dc46 pm46 cd46 ct46 : Value} {od49 an49 : Option Addr} {sl49 : Array (Option Value)} {oc49 kV49 dc49 pm49 cd49 ct49 : Value} {od52 an52 : Option Addr} {sl52 : Array (Option Value)} {oc52 kV52 dc52 pm52 cd52 ct52 : Value} {od53 an53 : Option Addr} {sl53 : Array (Option Value)} {oc53 kV53 dc53 pm53 cd53 ct53 : Value} {t54 : Tok} {od56 an56 : Option Addr} {sl56 : Array (Option Value)} {oc56 kV56 dc56 pm56 cd56 ct56 : Value} {od57 an57 : Option Addr} {sl57 : Array (Option Value)} {oc57 kV57 dc57 pm57 cd57 ct57 : Value} {od58 an58 : Option Addr} {sl58 : Array (Option Value)} {oc58 kV58 dc58 pm58 cd58 ct58 : Value} {od62 an62 : Option Addr} {sl62 : Array (Option Value)} {oc62 kV62 dc62 pm62 cd62 ct62 : Value} {od63 an63 : Option Addr} {sl63 : Array (Option Value)} {oc63 kV63 dc63 pm63 cd63 ct63 : Value} {od64 an64 : Option Addr} {sl64 : Array (Option Value)} {oc64 kV64 dc64 pm64 cd64 ct64 : Value} {od65 an65 : Option Addr} {sl65 : Array (Option Value)} {oc65 kV65 dc65 pm65 cd65 ct65 : Value} {od66 an66 : Option Addr} {sl66 : Array (Option Value)} {oc66 kV66 dc66 pm66 cd66 ct66 : Value} {od67 an67 : Option Addr} {sl67 : Array (Option Value)} {oc67 kV67 dc67 pm67 cd67 ct67 : Value} {od68 an68 : Option Addr} {sl68 : Array (Option Value)} {oc68 kV68 dc68 pm68 cd68 ct68 : Value} {od69 an69 : Option Addr} {sl69 : Array (Option Value)} {oc69 kV69 dc69 pm69 cd69 ct69 : Value} {od70 an70 : Option Addr} {sl70 : Array (Option Value)} {oc70 kV70 dc70 pm70 cd70 ct70 : Value} {od85 an85 : Option Addr} {sl85 : Array (Option Value)} {oc85 kV85 dc85 pm85 cd85 ct85 : Value} {od86 an86 : Option Addr} {sl86 : Array (Option Value)} {oc86 kV86 dc86 pm86 cd86 ct86 : Value} {od87 an87 : Option Addr} {sl87 : Array (Option Value)} {oc87 kV87 dc87 pm87 cd87 ct87 : Value} {od88 an88 : Option Addr} {sl88 : Array (Option Value)} {oc88 kV88 dc88 pm88 cd88 ct88 : Value} {od89 an89 : Option Addr} {sl89 : Array (Option Value)} {oc89 kV89 dc89 pm89 cd89 ct89 : Value} {od90 an90 : Option Addr} {sl90 : Array (Option Value)} {oc90 kV90 dc90 pm90 cd90 ct90 : Value} {od91 an91 : Option Addr} {sl91 : Array (Option Value)} {oc91 kV91 dc91 pm91 cd91 ct91 : Value} {od92 an92 : Option Addr} {sl92 : Array (Option Value)} {oc92 kV92 dc92 pm92 cd92 ct92 : Value} {od93 an93 : Option Addr} {sl93 : Array (Option Value)} {oc93 kV93 dc93 pm93 cd93 ct93 : Value} {od94 an94 : Option Addr} {sl94 : Array (Option Value)} {oc94 kV94 dc94 pm94 cd94 ct94 : Value} {od95 an95 : Option Addr} {sl95 : Array (Option Value)} {oc95 kV95 dc95 pm95 cd95 ct95 : Value} {od96 an96 : Option Addr} {sl96 : Array (Option Value)} {oc96 dc96 pm96 cd96 ct96 : Value} {ocT96 : Value} {odT96 : Option Addr} {nT96 n196 n296 : Nat} {slT96 sl196 sl296 : Array (Option Value)} {od99 an99 : Option Addr} {sl99 : Array (Option Value)} {oc99 kV99 dc99 pm99 cd99 ct99 : Value}
    (a1 : PySem.W.nsIn K mainGlobals "is_number" = some (some (.ref f1))) (l1 : K.lookup f1 = some ⟨oc1, od1, .func (PySem.W.fnOf "is_number" "is_number" (defArgs s_is_number) (defBody s_is_number) (defScope s_is_number) .none kV1 dc1 pm1 an1 cd1 ct1), sl1⟩) (c1 : PySem.W.codeIn K cd1 "is_number" = true) (k1 : PySem.W.keepIn K (.ref f1) = true)
    (a2 : PySem.W.nsIn K mainGlobals "is_from" = some (some (.ref f2))) (l2 : K.lookup f2 = some ⟨oc2, od2, .func (PySem.W.fnOf "is_from" "is_from" (defArgs s_is_from) (defBody s_is_from) (defScope s_is_from) .none kV2 dc2 pm2 an2 cd2 ct2), sl2⟩) (c2 : PySem.W.codeIn K cd2 "is_from" = true) (k2 : PySem.W.keepIn K (.ref f2) = true)
    (a3 : PySem.W.nsIn K mainGlobals "is_shaped" = some (some (.ref f3))) (l3 : K.lookup f3 = some ⟨oc3, od3, .func (PySem.W.fnOf "is_shaped" "is_shaped" (defArgs s_is_shaped) (defBody s_is_shaped) (defScope s_is_shaped) .none kV3 dc3 pm3 an3 cd3 ct3), sl3⟩) (c3 : PySem.W.codeIn K cd3 "is_shaped" = true) (k3 : PySem.W.keepIn K (.ref f3) = true)
    (a4 : PySem.W.nsIn K mainGlobals "is_headed" = some (some (.ref f4))) (l4 : K.lookup f4 = some ⟨oc4, od4, .func (PySem.W.fnOf "is_headed" "is_headed" (defArgs s_is_headed) (defBody s_is_headed) (defScope s_is_headed) .none kV4 dc4 pm4 an4 cd4 ct4), sl4⟩) (c4 : PySem.W.codeIn K cd4 "is_headed" = true) (k4 : PySem.W.keepIn K (.ref f4) = true)
    (a5 : PySem.W.nsIn K mainGlobals "is_name" = some (some (.ref f5))) (l5 : K.lookup f5 = some ⟨oc5, od5, .func (PySem.W.fnOf "is_name" "is_name" (defArgs s_is_name) (defBody s_is_name) (defScope s_is_name) .none kV5 dc5 pm5 an5 cd5 ct5), sl5⟩) (c5 : PySem.W.codeIn K cd5 "is_name" = true) (k5 : PySem.W.keepIn K (.ref f5) = true)
    (a6 : PySem.W.nsIn K mainGlobals "are_unlike" = some (some (.ref f6))) (l6 : K.lookup f6 = some ⟨oc6, od6, .func (PySem.W.fnOf "are_unlike" "are_unlike" (defArgs s_are_unlike) (defBody s_are_unlike) (defScope s_are_unlike) .none kV6 dc6 pm6 an6 cd6 ct6), sl6⟩) (c6 : PySem.W.codeIn K cd6 "are_unlike" = true) (k6 : PySem.W.keepIn K (.ref f6) = true)
    (a7 : PySem.W.nsIn K mainGlobals "are_bits" = some (some (.ref f7))) (l7 : K.lookup f7 = some ⟨oc7, od7, .func (PySem.W.fnOf "are_bits" "are_bits" (defArgs s_are_bits) (defBody s_are_bits) (defScope s_are_bits) .none kV7 dc7 pm7 an7 cd7 ct7), sl7⟩) (c7 : PySem.W.codeIn K cd7 "are_bits" = true) (k7 : PySem.W.keepIn K (.ref f7) = true)
    (a8 : PySem.W.nsIn K mainGlobals "are_pairs" = some (some (.ref f8))) (l8 : K.lookup f8 = some ⟨oc8, od8, .func (PySem.W.fnOf "are_pairs" "are_pairs" (defArgs s_are_pairs) (defBody s_are_pairs) (defScope s_are_pairs) .none kV8 dc8 pm8 an8 cd8 ct8), sl8⟩) (c8 : PySem.W.codeIn K cd8 "are_pairs" = true) (k8 : PySem.W.keepIn K (.ref f8) = true)
    (a9 : PySem.W.nsIn K mainGlobals "is_table" = some (some (.ref f9))) (l9 : K.lookup f9 = some ⟨oc9, od9, .func (PySem.W.fnOf "is_table" "is_table" (defArgs s_is_table) (defBody s_is_table) (defScope s_is_table) .none kV9 dc9 pm9 an9 cd9 ct9), sl9⟩) (c9 : PySem.W.codeIn K cd9 "is_table" = true) (k9 : PySem.W.keepIn K (.ref f9) = true)
    (a10 : PySem.W.nsIn K mainGlobals "is_expression" = some (some (.ref f10))) (l10 : K.lookup f10 = some ⟨oc10, od10, .func (PySem.W.fnOf "is_expression" "is_expression" (defArgs s_is_expression) (defBody s_is_expression) (defScope s_is_expression) .none kV10 dc10 pm10 an10 cd10 ct10), sl10⟩) (c10 : PySem.W.codeIn K cd10 "is_expression" = true) (k10 : PySem.W.keepIn K (.ref f10) = true)
    (a11 : PySem.W.nsIn K mainGlobals "are_params" = some (some (.ref f11))) (l11 : K.lookup f11 = some ⟨oc11, od11, .func (PySem.W.fnOf "are_params" "are_params" (defArgs s_are_params) (defBody s_are_params) (defScope s_are_params) .none kV11 dc11 pm11 an11 cd11 ct11), sl11⟩) (c11 : PySem.W.codeIn K cd11 "are_params" = true) (k11 : PySem.W.keepIn K (.ref f11) = true)
    (g12 : PySem.W.nsIn K mainGlobals "MOST_VALUE" = some (some (.int 255 t12)))
    (g13 : PySem.W.nsIn K mainGlobals "MOST_FIELDS" = some (some (.int 5 t13)))
    (g14 : PySem.W.nsIn K mainGlobals "MOST_MANY" = some (some (.int 6 t14)))
    (g15 : PySem.W.nsIn K mainGlobals "MOST_THINGS" = some (some (.int 3 t15)))
    (g16 : PySem.W.nsIn K mainGlobals "MOST_SIGNS" = some (some (.int 6 t16)))
    (g17 : PySem.W.nsIn K mainGlobals "MOST_BITS" = some (some (.int 8 t17)))
    (g18 : PySem.W.nsIn K mainGlobals "LETTERS" = some (some (.str "abcdefghijklmnopqrstuvwxyz" t18)))
    (g19 : PySem.W.nsIn K mainGlobals "OPERATIONS" = some (some (.ref u19))) (l19 : K.lookup u19 = some ⟨.type "tuple", none, .seq #[.str "add" t19_0, .str "sub" t19_1, .str "mul" t19_2, .str "rest" t19_3, .str "less" t19_4, .str "same" t19_5] n19, sl19⟩)
    (g20 : PySem.W.nsIn K mainGlobals "WORDS" = some (some (.ref u20))) (l20 : K.lookup u20 = some ⟨.type "tuple", none, .seq #[.str "params" t20_0, .str "table" t20_1, .str "view" t20_2, .str "each" t20_3, .str "times" t20_4, .str "when" t20_5, .str "else" t20_6, .str "end" t20_7, .str "set" t20_8, .str "get" t20_9, .str "put" t20_10, .str "tell" t20_11, .str "hand" t20_12, .str "of" t20_13, .str "from" t20_14, .str "step" t20_15] n20, sl20⟩)
    (z21 : PySem.W.nsIn K mainGlobals "isinstance" = some none)
    (z22 : PySem.W.nsIn K mainGlobals "int" = some none)
    (z23 : PySem.W.nsIn K mainGlobals "bool" = some none)
    (z24 : PySem.W.nsIn K mainGlobals "tuple" = some none)
    (z25 : PySem.W.nsIn K mainGlobals "len" = some none)
    (z26 : PySem.W.nsIn K mainGlobals "str" = some none)
    (z27 : PySem.W.nsIn K mainGlobals "all" = some none)
    (z28 : PySem.W.nsIn K mainGlobals "set" = some none)
    (aC_Scope : PySem.W.nsIn K mainGlobals "Scope" = some (some (.ref C_Scope))) (pg_Scope : PySem.W.plainGet K C_Scope Str.empty = true) (hd_Scope : PySem.W.hasDictIn K C_Scope = true) (po_Scope : PySem.W.plainOver K C_Scope = true) (sa_Scope : PySem.W.findIn K (.ref C_Scope) "__setattr__" = some (some (.builtin "object.__setattr__"))) (mk_Scope : PySem.W.makesIn K C_Scope = true) (kc_Scope : PySem.W.keepIn K (.ref C_Scope) = true)
    (a30 : PySem.W.findIn K (.ref C_Scope) "__init__" = some (some (.ref f30))) (i30 : PySem.W.isFn K (.ref f30) = true) (l30 : K.lookup f30 = some ⟨oc30, od30, .func (PySem.W.fnOf "__init__" "Scope.__init__" (defArgs s_Scope_init) (defBody s_Scope_init) (defScope s_Scope_init) .none kV30 dc30 pm30 an30 cd30 ct30), sl30⟩) (c30 : PySem.W.codeIn K cd30 "Scope.__init__" = true) (k30 : PySem.W.keepIn K (.ref f30) = true)
    (a31 : PySem.W.findIn K (.ref C_Scope) "takes_table" = some (some (.ref f31))) (i31 : PySem.W.isFn K (.ref f31) = true) (l31 : K.lookup f31 = some ⟨oc31, od31, .func (PySem.W.fnOf "takes_table" "Scope.takes_table" (defArgs s_Scope_takes_table) (defBody s_Scope_takes_table) (defScope s_Scope_takes_table) .none kV31 dc31 pm31 an31 cd31 ct31), sl31⟩) (c31 : PySem.W.codeIn K cd31 "Scope.takes_table" = true) (k31 : PySem.W.keepIn K (.ref f31) = true)
    (a32 : PySem.W.findIn K (.ref C_Scope) "takes_view" = some (some (.ref f32))) (i32 : PySem.W.isFn K (.ref f32) = true) (l32 : K.lookup f32 = some ⟨oc32, od32, .func (PySem.W.fnOf "takes_view" "Scope.takes_view" (defArgs s_Scope_takes_view) (defBody s_Scope_takes_view) (defScope s_Scope_takes_view) .none kV32 dc32 pm32 an32 cd32 ct32), sl32⟩) (c32 : PySem.W.codeIn K cd32 "Scope.takes_view" = true) (k32 : PySem.W.keepIn K (.ref f32) = true)
    (a33 : PySem.W.findIn K (.ref C_Scope) "is_over" = some (some (.ref f33))) (i33 : PySem.W.isFn K (.ref f33) = true) (l33 : K.lookup f33 = some ⟨oc33, od33, .func (PySem.W.fnOf "is_over" "Scope.is_over" (defArgs s_Scope_is_over) (defBody s_Scope_is_over) (defScope s_Scope_is_over) .none kV33 dc33 pm33 an33 cd33 ct33), sl33⟩) (c33 : PySem.W.codeIn K cd33 "Scope.is_over" = true) (k33 : PySem.W.keepIn K (.ref f33) = true)
    (a34 : PySem.W.findIn K (.ref C_Scope) "is_field" = some (some (.ref f34))) (i34 : PySem.W.isFn K (.ref f34) = true) (l34 : K.lookup f34 = some ⟨oc34, od34, .func (PySem.W.fnOf "is_field" "Scope.is_field" (defArgs s_Scope_is_field) (defBody s_Scope_is_field) (defScope s_Scope_is_field) .none kV34 dc34 pm34 an34 cd34 ct34), sl34⟩) (c34 : PySem.W.codeIn K cd34 "Scope.is_field" = true) (k34 : PySem.W.keepIn K (.ref f34) = true)
    (a35 : PySem.W.findIn K (.ref C_Scope) "is_plain" = some (some (.ref f35))) (i35 : PySem.W.isFn K (.ref f35) = true) (l35 : K.lookup f35 = some ⟨oc35, od35, .func (PySem.W.fnOf "is_plain" "Scope.is_plain" (defArgs s_Scope_is_plain) (defBody s_Scope_is_plain) (defScope s_Scope_is_plain) .none kV35 dc35 pm35 an35 cd35 ct35), sl35⟩) (c35 : PySem.W.codeIn K cd35 "Scope.is_plain" = true) (k35 : PySem.W.keepIn K (.ref f35) = true)
    (a36 : PySem.W.findIn K (.ref C_Scope) "is_row" = some (some (.ref f36))) (i36 : PySem.W.isFn K (.ref f36) = true) (l36 : K.lookup f36 = some ⟨oc36, od36, .func (PySem.W.fnOf "is_row" "Scope.is_row" (defArgs s_Scope_is_row) (defBody s_Scope_is_row) (defScope s_Scope_is_row) .none kV36 dc36 pm36 an36 cd36 ct36), sl36⟩) (c36 : PySem.W.codeIn K cd36 "Scope.is_row" = true) (k36 : PySem.W.keepIn K (.ref f36) = true)
    (a37 : PySem.W.findIn K (.ref C_Scope) "are_rows" = some (some (.ref f37))) (i37 : PySem.W.isFn K (.ref f37) = true) (l37 : K.lookup f37 = some ⟨oc37, od37, .func (PySem.W.fnOf "are_rows" "Scope.are_rows" (defArgs s_Scope_are_rows) (defBody s_Scope_are_rows) (defScope s_Scope_are_rows) .none kV37 dc37 pm37 an37 cd37 ct37), sl37⟩) (c37 : PySem.W.codeIn K cd37 "Scope.are_rows" = true) (k37 : PySem.W.keepIn K (.ref f37) = true)
    (n38 : PySem.W.findIn K (.ref C_Scope) "seen" = some none)
    (n39 : PySem.W.findIn K (.ref C_Scope) "tables" = some none)
    (a40 : PySem.W.nsIn K mainGlobals "is_program" = some (some (.ref f40))) (l40 : K.lookup f40 = some ⟨oc40, od40, .func (PySem.W.fnOf "is_program" "is_program" (defArgs s_is_program) (defBody s_is_program) (defScope s_is_program) .none kV40 dc40 pm40 an40 cd40 ct40), sl40⟩) (c40 : PySem.W.codeIn K cd40 "is_program" = true) (k40 : PySem.W.keepIn K (.ref f40) = true)
    (a41 : PySem.W.nsIn K mainGlobals "need_program" = some (some (.ref f41))) (l41 : K.lookup f41 = some ⟨oc41, od41, .func (PySem.W.fnOf "need_program" "need_program" (defArgs s_need_program) (defBody s_need_program) (defScope s_need_program) .none kV41 dc41 pm41 an41 cd41 ct41), sl41⟩) (c41 : PySem.W.codeIn K cd41 "need_program" = true) (k41 : PySem.W.keepIn K (.ref f41) = true)
    (aC_Seen : PySem.W.nsIn K mainGlobals "Seen" = some (some (.ref C_Seen))) (pg_Seen : PySem.W.plainGet K C_Seen Str.empty = true) (hd_Seen : PySem.W.hasDictIn K C_Seen = true) (po_Seen : PySem.W.plainOver K C_Seen = true) (sa_Seen : PySem.W.findIn K (.ref C_Seen) "__setattr__" = some (some (.builtin "object.__setattr__"))) (mk_Seen : PySem.W.makesIn K C_Seen = true) (kc_Seen : PySem.W.keepIn K (.ref C_Seen) = true)
    (a43 : PySem.W.findIn K (.ref C_Seen) "__init__" = some (some (.ref f43))) (i43 : PySem.W.isFn K (.ref f43) = true) (l43 : K.lookup f43 = some ⟨oc43, od43, .func (PySem.W.fnOf "__init__" "Seen.__init__" (defArgs s_Seen_init) (defBody s_Seen_init) (defScope s_Seen_init) .none kV43 dc43 pm43 an43 cd43 ct43), sl43⟩) (c43 : PySem.W.codeIn K cd43 "Seen.__init__" = true) (k43 : PySem.W.keepIn K (.ref f43) = true)
    (a44 : PySem.W.findIn K (.ref C_Seen) "led_to" = some (some (.ref f44))) (i44 : PySem.W.isFn K (.ref f44) = true) (l44 : K.lookup f44 = some ⟨oc44, od44, .func (PySem.W.fnOf "led_to" "Seen.led_to" (defArgs s_Seen_led_to) (defBody s_Seen_led_to) (defScope s_Seen_led_to) .none kV44 dc44 pm44 an44 cd44 ct44), sl44⟩) (c44 : PySem.W.codeIn K cd44 "Seen.led_to" = true) (k44 : PySem.W.keepIn K (.ref f44) = true)
    (a45 : PySem.W.findIn K (.ref C_Seen) "row" = some (some (.ref f45))) (i45 : PySem.W.isFn K (.ref f45) = true) (l45 : K.lookup f45 = some ⟨oc45, od45, .func (PySem.W.fnOf "row" "Seen.row" (defArgs s_Seen_row) (defBody s_Seen_row) (defScope s_Seen_row) .none kV45 dc45 pm45 an45 cd45 ct45), sl45⟩) (c45 : PySem.W.codeIn K cd45 "Seen.row" = true) (k45 : PySem.W.keepIn K (.ref f45) = true)
    (a46 : PySem.W.findIn K (.ref C_Seen) "rows" = some (some (.ref f46))) (i46 : PySem.W.isFn K (.ref f46) = true) (l46 : K.lookup f46 = some ⟨oc46, od46, .func (PySem.W.fnOf "rows" "Seen.rows" (defArgs s_Seen_rows) (defBody s_Seen_rows) (defScope s_Seen_rows) .none kV46 dc46 pm46 an46 cd46 ct46), sl46⟩) (c46 : PySem.W.codeIn K cd46 "Seen.rows" = true) (k46 : PySem.W.keepIn K (.ref f46) = true)
    (n47 : PySem.W.findIn K (.ref C_Seen) "many" = some none)
    (n48 : PySem.W.findIn K (.ref C_Seen) "views" = some none)
    (a49 : PySem.W.nsIn K mainGlobals "led_by" = some (some (.ref f49))) (l49 : K.lookup f49 = some ⟨oc49, od49, .func (PySem.W.fnOf "led_by" "led_by" (defArgs s_led_by) (defBody s_led_by) (defScope s_led_by) .none kV49 dc49 pm49 an49 cd49 ct49), sl49⟩) (c49 : PySem.W.codeIn K cd49 "led_by" = true) (k49 : PySem.W.keepIn K (.ref f49) = true)
    (z50 : PySem.W.nsIn K mainGlobals "dict" = some none)
    (a52 : PySem.W.nsIn K mainGlobals "reckoned" = some (some (.ref f52))) (l52 : K.lookup f52 = some ⟨oc52, od52, .func (PySem.W.fnOf "reckoned" "reckoned" (defArgs s_reckoned) (defBody s_reckoned) (defScope s_reckoned) .none kV52 dc52 pm52 an52 cd52 ct52), sl52⟩) (c52 : PySem.W.codeIn K cd52 "reckoned" = true) (k52 : PySem.W.keepIn K (.ref f52) = true)
    (a53 : PySem.W.nsIn K mainGlobals "are_values" = some (some (.ref f53))) (l53 : K.lookup f53 = some ⟨oc53, od53, .func (PySem.W.fnOf "are_values" "are_values" (defArgs s_are_values) (defBody s_are_values) (defScope s_are_values) .none kV53 dc53 pm53 an53 cd53 ct53), sl53⟩) (c53 : PySem.W.codeIn K cd53 "are_values" = true) (k53 : PySem.W.keepIn K (.ref f53) = true)
    (g54 : PySem.W.nsIn K mainGlobals "REST" = some (some (.int 256 t54)))
    (aC_PlainStore : PySem.W.nsIn K mainGlobals "PlainStore" = some (some (.ref C_PlainStore))) (pg_PlainStore : PySem.W.plainGet K C_PlainStore Str.empty = true) (hd_PlainStore : PySem.W.hasDictIn K C_PlainStore = true) (po_PlainStore : PySem.W.plainOver K C_PlainStore = true) (sa_PlainStore : PySem.W.findIn K (.ref C_PlainStore) "__setattr__" = some (some (.builtin "object.__setattr__"))) (mk_PlainStore : PySem.W.makesIn K C_PlainStore = true) (kc_PlainStore : PySem.W.keepIn K (.ref C_PlainStore) = true)
    (a56 : PySem.W.findIn K (.ref C_PlainStore) "__init__" = some (some (.ref f56))) (i56 : PySem.W.isFn K (.ref f56) = true) (l56 : K.lookup f56 = some ⟨oc56, od56, .func (PySem.W.fnOf "__init__" "PlainStore.__init__" (defArgs s_PlainStore_init) (defBody s_PlainStore_init) (defScope s_PlainStore_init) .none kV56 dc56 pm56 an56 cd56 ct56), sl56⟩) (c56 : PySem.W.codeIn K cd56 "PlainStore.__init__" = true) (k56 : PySem.W.keepIn K (.ref f56) = true)
    (a57 : PySem.W.findIn K (.ref C_PlainStore) "get" = some (some (.ref f57))) (i57 : PySem.W.isFn K (.ref f57) = true) (l57 : K.lookup f57 = some ⟨oc57, od57, .func (PySem.W.fnOf "get" "PlainStore.get" (defArgs s_PlainStore_get) (defBody s_PlainStore_get) (defScope s_PlainStore_get) .none kV57 dc57 pm57 an57 cd57 ct57), sl57⟩) (c57 : PySem.W.codeIn K cd57 "PlainStore.get" = true) (k57 : PySem.W.keepIn K (.ref f57) = true)
    (a58 : PySem.W.findIn K (.ref C_PlainStore) "put" = some (some (.ref f58))) (i58 : PySem.W.isFn K (.ref f58) = true) (l58 : K.lookup f58 = some ⟨oc58, od58, .func (PySem.W.fnOf "put" "PlainStore.put" (defArgs s_PlainStore_put) (defBody s_PlainStore_put) (defScope s_PlainStore_put) .none kV58 dc58 pm58 an58 cd58 ct58), sl58⟩) (c58 : PySem.W.codeIn K cd58 "PlainStore.put" = true) (k58 : PySem.W.keepIn K (.ref f58) = true)
    (n59 : PySem.W.findIn K (.ref C_PlainStore) "fields" = some none)
    (n60 : PySem.W.findIn K (.ref C_PlainStore) "uses" = some none)
    (aC_Run : PySem.W.nsIn K mainGlobals "Run" = some (some (.ref C_Run))) (pg_Run : PySem.W.plainGet K C_Run Str.empty = true) (hd_Run : PySem.W.hasDictIn K C_Run = true) (po_Run : PySem.W.plainOver K C_Run = true) (sa_Run : PySem.W.findIn K (.ref C_Run) "__setattr__" = some (some (.builtin "object.__setattr__"))) (mk_Run : PySem.W.makesIn K C_Run = true) (kc_Run : PySem.W.keepIn K (.ref C_Run) = true)
    (a62 : PySem.W.findIn K (.ref C_Run) "__init__" = some (some (.ref f62))) (i62 : PySem.W.isFn K (.ref f62) = true) (l62 : K.lookup f62 = some ⟨oc62, od62, .func (PySem.W.fnOf "__init__" "Run.__init__" (defArgs s_Run_init) (defBody s_Run_init) (defScope s_Run_init) .none kV62 dc62 pm62 an62 cd62 ct62), sl62⟩) (c62 : PySem.W.codeIn K cd62 "Run.__init__" = true) (k62 : PySem.W.keepIn K (.ref f62) = true)
    (a63 : PySem.W.findIn K (.ref C_Run) "settle" = some (some (.ref f63))) (i63 : PySem.W.isFn K (.ref f63) = true) (l63 : K.lookup f63 = some ⟨oc63, od63, .func (PySem.W.fnOf "settle" "Run.settle" (defArgs s_Run_settle) (defBody s_Run_settle) (defScope s_Run_settle) .none kV63 dc63 pm63 an63 cd63 ct63), sl63⟩) (c63 : PySem.W.codeIn K cd63 "Run.settle" = true) (k63 : PySem.W.keepIn K (.ref f63) = true)
    (a64 : PySem.W.findIn K (.ref C_Run) "is_left" = some (some (.ref f64))) (i64 : PySem.W.isFn K (.ref f64) = true) (l64 : K.lookup f64 = some ⟨oc64, od64, .func (PySem.W.fnOf "is_left" "Run.is_left" (defArgs s_Run_is_left) (defBody s_Run_is_left) (defScope s_Run_is_left) .none kV64 dc64 pm64 an64 cd64 ct64), sl64⟩) (c64 : PySem.W.codeIn K cd64 "Run.is_left" = true) (k64 : PySem.W.keepIn K (.ref f64) = true)
    (a65 : PySem.W.findIn K (.ref C_Run) "value_of" = some (some (.ref f65))) (i65 : PySem.W.isFn K (.ref f65) = true) (l65 : K.lookup f65 = some ⟨oc65, od65, .func (PySem.W.fnOf "value_of" "Run.value_of" (defArgs s_Run_value_of) (defBody s_Run_value_of) (defScope s_Run_value_of) .none kV65 dc65 pm65 an65 cd65 ct65), sl65⟩) (c65 : PySem.W.codeIn K cd65 "Run.value_of" = true) (k65 : PySem.W.keepIn K (.ref f65) = true)
    (a66 : PySem.W.findIn K (.ref C_Run) "record_of" = some (some (.ref f66))) (i66 : PySem.W.isFn K (.ref f66) = true) (l66 : K.lookup f66 = some ⟨oc66, od66, .func (PySem.W.fnOf "record_of" "Run.record_of" (defArgs s_Run_record_of) (defBody s_Run_record_of) (defScope s_Run_record_of) .none kV66 dc66 pm66 an66 cd66 ct66), sl66⟩) (c66 : PySem.W.codeIn K cd66 "Run.record_of" = true) (k66 : PySem.W.keepIn K (.ref f66) = true)
    (a67 : PySem.W.findIn K (.ref C_Run) "bits_of" = some (some (.ref f67))) (i67 : PySem.W.isFn K (.ref f67) = true) (l67 : K.lookup f67 = some ⟨oc67, od67, .func (PySem.W.fnOf "bits_of" "Run.bits_of" (defArgs s_Run_bits_of) (defBody s_Run_bits_of) (defScope s_Run_bits_of) .none kV67 dc67 pm67 an67 cd67 ct67), sl67⟩) (c67 : PySem.W.codeIn K cd67 "Run.bits_of" = true) (k67 : PySem.W.keepIn K (.ref f67) = true)
    (a68 : PySem.W.findIn K (.ref C_Run) "begin" = some (some (.ref f68))) (i68 : PySem.W.isFn K (.ref f68) = true) (l68 : K.lookup f68 = some ⟨oc68, od68, .func (PySem.W.fnOf "begin" "Run.begin" (defArgs s_Run_begin) (defBody s_Run_begin) (defScope s_Run_begin) .none kV68 dc68 pm68 an68 cd68 ct68), sl68⟩) (c68 : PySem.W.codeIn K cd68 "Run.begin" = true) (k68 : PySem.W.keepIn K (.ref f68) = true)
    (a69 : PySem.W.findIn K (.ref C_Run) "do_row" = some (some (.ref f69))) (i69 : PySem.W.isFn K (.ref f69) = true) (l69 : K.lookup f69 = some ⟨oc69, od69, .func (PySem.W.fnOf "do_row" "Run.do_row" (defArgs s_Run_do_row) (defBody s_Run_do_row) (defScope s_Run_do_row) .none kV69 dc69 pm69 an69 cd69 ct69), sl69⟩) (c69 : PySem.W.codeIn K cd69 "Run.do_row" = true) (k69 : PySem.W.keepIn K (.ref f69) = true)
    (a70 : PySem.W.findIn K (.ref C_Run) "do_step" = some (some (.ref f70))) (i70 : PySem.W.isFn K (.ref f70) = true) (l70 : K.lookup f70 = some ⟨oc70, od70, .func (PySem.W.fnOf "do_step" "Run.do_step" (defArgs s_Run_do_step) (defBody s_Run_do_step) (defScope s_Run_do_step) .none kV70 dc70 pm70 an70 cd70 ct70), sl70⟩) (c70 : PySem.W.codeIn K cd70 "Run.do_step" = true) (k70 : PySem.W.keepIn K (.ref f70) = true)
    (n71 : PySem.W.findIn K (.ref C_Run) "program" = some none)
    (n72 : PySem.W.findIn K (.ref C_Run) "tables" = some none)
    (n73 : PySem.W.findIn K (.ref C_Run) "held" = some none)
    (n74 : PySem.W.findIn K (.ref C_Run) "faces" = some none)
    (n75 : PySem.W.findIn K (.ref C_Run) "store" = some none)
    (n76 : PySem.W.findIn K (.ref C_Run) "said" = some none)
    (n77 : PySem.W.findIn K (.ref C_Run) "trail" = some none)
    (n78 : PySem.W.findIn K (.ref C_Run) "turned" = some none)
    (n79 : PySem.W.findIn K (.ref C_Run) "frames" = some none)
    (z82 : PySem.W.nsIn K mainGlobals "zip" = some none)
    (a85 : PySem.W.nsIn K mainGlobals "run_by" = some (some (.ref f85))) (l85 : K.lookup f85 = some ⟨oc85, od85, .func (PySem.W.fnOf "run_by" "run_by" (defArgs s_run_by) (defBody s_run_by) (defScope s_run_by) .none kV85 dc85 pm85 an85 cd85 ct85), sl85⟩) (c85 : PySem.W.codeIn K cd85 "run_by" = true) (k85 : PySem.W.keepIn K (.ref f85) = true)
    (a86 : PySem.W.nsIn K mainGlobals "need_inputs" = some (some (.ref f86))) (l86 : K.lookup f86 = some ⟨oc86, od86, .func (PySem.W.fnOf "need_inputs" "need_inputs" (defArgs s_need_inputs) (defBody s_need_inputs) (defScope s_need_inputs) .none kV86 dc86 pm86 an86 cd86 ct86), sl86⟩) (c86 : PySem.W.codeIn K cd86 "need_inputs" = true) (k86 : PySem.W.keepIn K (.ref f86) = true)
    (a87 : PySem.W.nsIn K mainGlobals "need_faces" = some (some (.ref f87))) (l87 : K.lookup f87 = some ⟨oc87, od87, .func (PySem.W.fnOf "need_faces" "need_faces" (defArgs s_need_faces) (defBody s_need_faces) (defScope s_need_faces) .none kV87 dc87 pm87 an87 cd87 ct87), sl87⟩) (c87 : PySem.W.codeIn K cd87 "need_faces" = true) (k87 : PySem.W.keepIn K (.ref f87) = true)
    (a88 : PySem.W.nsIn K mainGlobals "need_run" = some (some (.ref f88))) (l88 : K.lookup f88 = some ⟨oc88, od88, .func (PySem.W.fnOf "need_run" "need_run" (defArgs s_need_run) (defBody s_need_run) (defScope s_need_run) .none kV88 dc88 pm88 an88 cd88 ct88), sl88⟩) (c88 : PySem.W.codeIn K cd88 "need_run" = true) (k88 : PySem.W.keepIn K (.ref f88) = true)
    (a89 : PySem.W.nsIn K mainGlobals "_law_cell" = some (some (.ref f89))) (l89 : K.lookup f89 = some ⟨oc89, od89, .func (PySem.W.fnOf "_law_cell" "_law_cell" (defArgs s__law_cell) (defBody s__law_cell) (defScope s__law_cell) .none kV89 dc89 pm89 an89 cd89 ct89), sl89⟩) (c89 : PySem.W.codeIn K cd89 "_law_cell" = true) (k89 : PySem.W.keepIn K (.ref f89) = true)
    (a90 : PySem.W.nsIn K mainGlobals "_law_pen" = some (some (.ref f90))) (l90 : K.lookup f90 = some ⟨oc90, od90, .func (PySem.W.fnOf "_law_pen" "_law_pen" (defArgs s__law_pen) (defBody s__law_pen) (defScope s__law_pen) .none kV90 dc90 pm90 an90 cd90 ct90), sl90⟩) (c90 : PySem.W.codeIn K cd90 "_law_pen" = true) (k90 : PySem.W.keepIn K (.ref f90) = true)
    (a91 : PySem.W.nsIn K mainGlobals "_law_draw" = some (some (.ref f91))) (l91 : K.lookup f91 = some ⟨oc91, od91, .func (PySem.W.fnOf "_law_draw" "_law_draw" (defArgs s__law_draw) (defBody s__law_draw) (defScope s__law_draw) .none kV91 dc91 pm91 an91 cd91 ct91), sl91⟩) (c91 : PySem.W.codeIn K cd91 "_law_draw" = true) (k91 : PySem.W.keepIn K (.ref f91) = true)
    (a92 : PySem.W.nsIn K mainGlobals "_law_reckoned" = some (some (.ref f92))) (l92 : K.lookup f92 = some ⟨oc92, od92, .func (PySem.W.fnOf "_law_reckoned" "_law_reckoned" (defArgs s__law_reckoned) (defBody s__law_reckoned) (defScope s__law_reckoned) .none kV92 dc92 pm92 an92 cd92 ct92), sl92⟩) (c92 : PySem.W.codeIn K cd92 "_law_reckoned" = true) (k92 : PySem.W.keepIn K (.ref f92) = true)
    (a93 : PySem.W.nsIn K mainGlobals "_law_value" = some (some (.ref f93))) (l93 : K.lookup f93 = some ⟨oc93, od93, .func (PySem.W.fnOf "_law_value" "_law_value" (defArgs s__law_value) (defBody s__law_value) (defScope s__law_value) .none kV93 dc93 pm93 an93 cd93 ct93), sl93⟩) (c93 : PySem.W.codeIn K cd93 "_law_value" = true) (k93 : PySem.W.keepIn K (.ref f93) = true)
    (a94 : PySem.W.nsIn K mainGlobals "_law_pick" = some (some (.ref f94))) (l94 : K.lookup f94 = some ⟨oc94, od94, .func (PySem.W.fnOf "_law_pick" "_law_pick" (defArgs s__law_pick) (defBody s__law_pick) (defScope s__law_pick) .none kV94 dc94 pm94 an94 cd94 ct94), sl94⟩) (c94 : PySem.W.codeIn K cd94 "_law_pick" = true) (k94 : PySem.W.keepIn K (.ref f94) = true)
    (a95 : PySem.W.nsIn K mainGlobals "_law_expr" = some (some (.ref f95))) (l95 : K.lookup f95 = some ⟨oc95, od95, .func (PySem.W.fnOf "_law_expr" "_law_expr" (defArgs s__law_expr) (defBody s__law_expr) (defScope s__law_expr) .none kV95 dc95 pm95 an95 cd95 ct95), sl95⟩) (c95 : PySem.W.codeIn K cd95 "_law_expr" = true) (k95 : PySem.W.keepIn K (.ref f95) = true)
    (a96 : PySem.W.nsIn K mainGlobals "run_plain" = some (some (.ref f96))) (l96 : K.lookup f96 = some ⟨oc96, od96, .func (PySem.W.fnOf "run_plain" "run_plain" (defArgs s_run_plain) (defBody s_run_plain) (defScope s_run_plain) (.ref dt96) (.ref dk96) dc96 pm96 an96 cd96 ct96), sl96⟩) (c96 : PySem.W.codeIn K cd96 "run_plain" = true) (k96 : PySem.W.keepIn K (.ref f96) = true) (lT96 : K.lookup dt96 = some ⟨ocT96, odT96, .seq #[.ref e1] nT96, slT96⟩) (l196 : K.lookup e1 = some ⟨.type "tuple", none, .seq #[] n196, sl196⟩) (kw96 : PySem.W.nsIn K dk96 "faces" = some (some (.ref e2))) (l296 : K.lookup e2 = some ⟨.type "tuple", none, .seq #[] n296, sl296⟩)
    (z97 : PySem.W.nsIn K mainGlobals "range" = some none)
    (z98 : PySem.W.nsIn K mainGlobals "repr" = some none)
    (a99 : PySem.W.nsIn K mainGlobals "law" = some (some (.ref f99))) (l99 : K.lookup f99 = some ⟨oc99, od99, .func (PySem.W.fnOf "law" "law" (defArgs s_law) (defBody s_law) (defScope s_law) .none kV99 dc99 pm99 an99 cd99 ct99), sl99⟩) (c99 : PySem.W.codeIn K cd99 "law" = true) (k99 : PySem.W.keepIn K (.ref f99) = true) :
    ∃ fd : FuncData, (∀ (s : Shared) (v : Value), BindsTo s fd ⟨[v], []⟩ [("_law_script", v)]) ∧ ∀ base : Heap, K.In base → base.Ns mainGlobals mg → FnG l.prog w K mg base 27 fa fd ["_law_script"] (spLaw K) := by
  have e := hfa.symm.trans (PySem.W.mg_of X G a99)
  cases e
  have U : UTxt K mg f7 := { 
    d_is_number := defAt_mk X G a1 l1 c1 k1 (fun _ _ _ _ _ _ us hl => match us, hl with | [_], _ => rfl)
    d_is_from := defAt_mk X G a2 l2 c2 k2 (fun _ _ _ _ _ _ us hl => match us, hl with | [_, _, _], _ => rfl)
    d_is_shaped := defAt_mk X G a3 l3 c3 k3 (fun _ _ _ _ _ _ us hl => match us, hl with | [_, _], _ => rfl)
    d_is_headed := defAt_mk X G a4 l4 c4 k4 (fun _ _ _ _ _ _ us hl => match us, hl with | [_, _, _], _ => rfl)
    d_is_name := defAt_mk X G a5 l5 c5 k5 (fun _ _ _ _ _ _ us hl => match us, hl with | [_], _ => rfl)
    d_are_unlike := defAt_mk X G a6 l6 c6 k6 (fun _ _ _ _ _ _ us hl => match us, hl with | [_], _ => rfl)
    d_are_bits := defAt_mk X G a7 l7 c7 k7 (fun _ _ _ _ _ _ us hl => match us, hl with | [_], _ => rfl)
    g_are_bits := PySem.W.mg_of X G a7
    d_are_pairs := defAt_mk X G a8 l8 c8 k8 (fun _ _ _ _ _ _ us hl => match us, hl with | [_, _], _ => rfl)
    d_is_table := defAt_mk X G a9 l9 c9 k9 (fun _ _ _ _ _ _ us hl => match us, hl with | [_], _ => rfl)
    d_is_expression := defAt_mk X G a10 l10 c10 k10 (fun _ _ _ _ _ _ us hl => match us, hl with | [_], _ => rfl)
    d_are_params := defAt_mk X G a11 l11 c11 k11 (fun _ _ _ _ _ _ us hl => match us, hl with | [_], _ => rfl)
    g_MOST_VALUE := ⟨t12, PySem.W.mg_of X G g12⟩
    g_MOST_FIELDS := ⟨t13, PySem.W.mg_of X G g13⟩
    g_MOST_MANY := ⟨t14, PySem.W.mg_of X G g14⟩
    g_MOST_THINGS := ⟨t15, PySem.W.mg_of X G g15⟩
    g_MOST_SIGNS := ⟨t16, PySem.W.mg_of X G g16⟩
    g_MOST_BITS := ⟨t17, PySem.W.mg_of X G g17⟩
    g_LETTERS := ⟨t18, PySem.W.mg_of X G g18⟩
    g_OPERATIONS := ⟨u19, PySem.W.mg_of X G g19, _, _, _, l19, rfl, rfl, rfl, (by show 6 ≤ sizeLine; decide), (.cons ⟨_, rfl⟩ (.cons ⟨_, rfl⟩ (.cons ⟨_, rfl⟩ (.cons ⟨_, rfl⟩ (.cons ⟨_, rfl⟩ (.cons ⟨_, rfl⟩ .nil))))))⟩
    g_WORDS := ⟨u20, PySem.W.mg_of X G g20, _, _, _, l20, rfl, rfl, rfl, (by show 16 ≤ sizeLine; decide), (.cons ⟨_, rfl⟩ (.cons ⟨_, rfl⟩ (.cons ⟨_, rfl⟩ (.cons ⟨_, rfl⟩ (.cons ⟨_, rfl⟩ (.cons ⟨_, rfl⟩ (.cons ⟨_, rfl⟩ (.cons ⟨_, rfl⟩ (.cons ⟨_, rfl⟩ (.cons ⟨_, rfl⟩ (.cons ⟨_, rfl⟩ (.cons ⟨_, rfl⟩ (.cons ⟨_, rfl⟩ (.cons ⟨_, rfl⟩ (.cons ⟨_, rfl⟩ (.cons ⟨_, rfl⟩ .nil))))))))))))))))⟩
    z_isinstance := PySem.W.mg_none_of X G z21
    z_int := PySem.W.mg_none_of X G z22
    z_bool := PySem.W.mg_none_of X G z23
    z_tuple := PySem.W.mg_none_of X G z24
    z_len := PySem.W.mg_none_of X G z25
    z_str := PySem.W.mg_none_of X G z26
    z_all := PySem.W.mg_none_of X G z27
    z_set := PySem.W.mg_none_of X G z28 }
  have S : STxt K mg f7 C_Scope := { U with
    cSc := ⟨pg_Scope, hd_Scope, po_Scope, sa_Scope⟩
    i_Scope := iniAt_mk (PySem.W.mg_of X G aC_Scope) ⟨mk_Scope, a30, i30, kc_Scope⟩ l30 c30 k30 (fun _ _ _ _ _ _ us hl => match us, hl with | [_], _ => rfl)
    m_takes_table := metAt_mk ⟨pg_Scope, hd_Scope, po_Scope, sa_Scope⟩ ⟨a31, i31, k31⟩ l31 c31 k31 (fun _ _ _ _ _ _ us hl => match us, hl with | [_, _], _ => rfl)
    m_takes_view := metAt_mk ⟨pg_Scope, hd_Scope, po_Scope, sa_Scope⟩ ⟨a32, i32, k32⟩ l32 c32 k32 (fun _ _ _ _ _ _ us hl => match us, hl with | [_, _], _ => rfl)
    m_is_over := metAt_mk ⟨pg_Scope, hd_Scope, po_Scope, sa_Scope⟩ ⟨a33, i33, k33⟩ l33 c33 k33 (fun _ _ _ _ _ _ us hl => match us, hl with | [_, _], _ => rfl)
    m_is_field := metAt_mk ⟨pg_Scope, hd_Scope, po_Scope, sa_Scope⟩ ⟨a34, i34, k34⟩ l34 c34 k34 (fun _ _ _ _ _ _ us hl => match us, hl with | [_, _, _], _ => rfl)
    m_is_plain := metAt_mk ⟨pg_Scope, hd_Scope, po_Scope, sa_Scope⟩ ⟨a35, i35, k35⟩ l35 c35 k35 (fun _ _ _ _ _ _ us hl => match us, hl with | [_, _], _ => rfl)
    m_is_row := metAt_mk ⟨pg_Scope, hd_Scope, po_Scope, sa_Scope⟩ ⟨a36, i36, k36⟩ l36 c36 k36 (fun _ _ _ _ _ _ us hl => match us, hl with | [_, _], _ => rfl)
    m_are_rows := metAt_mk ⟨pg_Scope, hd_Scope, po_Scope, sa_Scope⟩ ⟨a37, i37, k37⟩ l37 c37 k37 (fun _ _ _ _ _ _ us hl => match us, hl with | [_, _], _ => rfl)
    nSc_seen := n38
    nSc_tables := n39
    d_is_program := defAt_mk X G a40 l40 c40 k40 (fun _ _ _ _ _ _ us hl => match us, hl with | [_], _ => rfl)
    d_need_program := defAt_mk X G a41 l41 c41 k41 (fun _ _ _ _ _ _ us hl => match us, hl with | [_], _ => rfl) }
  have V : VTxt K mg C_Seen := { 
    cSe := ⟨pg_Seen, hd_Seen, po_Seen, sa_Seen⟩
    i_Seen := iniAt_mk (PySem.W.mg_of X G aC_Seen) ⟨mk_Seen, a43, i43, kc_Seen⟩ l43 c43 k43 (fun _ _ _ _ _ _ us hl => match us, hl with | [_, _], _ => rfl)
    m_led_to := metAt_mk ⟨pg_Seen, hd_Seen, po_Seen, sa_Seen⟩ ⟨a44, i44, k44⟩ l44 c44 k44 (fun _ _ _ _ _ _ us hl => match us, hl with | [_, _, _, _], _ => rfl)
    m_row := metAt_mk ⟨pg_Seen, hd_Seen, po_Seen, sa_Seen⟩ ⟨a45, i45, k45⟩ l45 c45 k45 (fun _ _ _ _ _ _ us hl => match us, hl with | [_, _], _ => rfl)
    m_rows := metAt_mk ⟨pg_Seen, hd_Seen, po_Seen, sa_Seen⟩ ⟨a46, i46, k46⟩ l46 c46 k46 (fun _ _ _ _ _ _ us hl => match us, hl with | [_, _], _ => rfl)
    nSe_many := n47
    nSe_views := n48
    d_led_by := defAt_mk X G a49 l49 c49 k49 (fun _ _ _ _ _ _ us hl => match us, hl with | [_], _ => rfl)
    z_dict := PySem.W.mg_none_of X G z50
    z_tuple := PySem.W.mg_none_of X G z24 }
  have T : LTxt K mg f7 C_PlainStore C_Run C_Seen C_Scope e1 e2 := { U with
    d_reckoned := defAt_mk X G a52 l52 c52 k52 (fun _ _ _ _ _ _ us hl => match us, hl with | [_, _, _], _ => rfl)
    d_are_values := defAt_mk X G a53 l53 c53 k53 (fun _ _ _ _ _ _ us hl => match us, hl with | [_], _ => rfl)
    g_REST := ⟨t54, PySem.W.mg_of X G g54⟩
    cPs := ⟨pg_PlainStore, hd_PlainStore, po_PlainStore, sa_PlainStore⟩
    i_PlainStore := iniAt_mk (PySem.W.mg_of X G aC_PlainStore) ⟨mk_PlainStore, a56, i56, kc_PlainStore⟩ l56 c56 k56 (fun _ _ _ _ _ _ us hl => match us, hl with | [_], _ => rfl)
    m_get := metAt_mk ⟨pg_PlainStore, hd_PlainStore, po_PlainStore, sa_PlainStore⟩ ⟨a57, i57, k57⟩ l57 c57 k57 (fun _ _ _ _ _ _ us hl => match us, hl with | [_, _], _ => rfl)
    m_put := metAt_mk ⟨pg_PlainStore, hd_PlainStore, po_PlainStore, sa_PlainStore⟩ ⟨a58, i58, k58⟩ l58 c58 k58 (fun _ _ _ _ _ _ us hl => match us, hl with | [_, _, _], _ => rfl)
    nPs_fields := n59
    nPs_uses := n60
    cRu := ⟨pg_Run, hd_Run, po_Run, sa_Run⟩
    i_Run := iniAt_mk (PySem.W.mg_of X G aC_Run) ⟨mk_Run, a62, i62, kc_Run⟩ l62 c62 k62 (fun _ _ _ _ _ _ us hl => match us, hl with | [_, _, _, _, _], _ => rfl)
    m_settle := metAt_mk ⟨pg_Run, hd_Run, po_Run, sa_Run⟩ ⟨a63, i63, k63⟩ l63 c63 k63 (fun _ _ _ _ _ _ us hl => match us, hl with | [_], _ => rfl)
    m_is_left := metAt_mk ⟨pg_Run, hd_Run, po_Run, sa_Run⟩ ⟨a64, i64, k64⟩ l64 c64 k64 (fun _ _ _ _ _ _ us hl => match us, hl with | [_, _], _ => rfl)
    m_value_of := metAt_mk ⟨pg_Run, hd_Run, po_Run, sa_Run⟩ ⟨a65, i65, k65⟩ l65 c65 k65 (fun _ _ _ _ _ _ us hl => match us, hl with | [_, _], _ => rfl)
    m_record_of := metAt_mk ⟨pg_Run, hd_Run, po_Run, sa_Run⟩ ⟨a66, i66, k66⟩ l66 c66 k66 (fun _ _ _ _ _ _ us hl => match us, hl with | [_, _, _], _ => rfl)
    m_bits_of := metAt_mk ⟨pg_Run, hd_Run, po_Run, sa_Run⟩ ⟨a67, i67, k67⟩ l67 c67 k67 (fun _ _ _ _ _ _ us hl => match us, hl with | [_, _, _], _ => rfl)
    m_begin := metAt_mk ⟨pg_Run, hd_Run, po_Run, sa_Run⟩ ⟨a68, i68, k68⟩ l68 c68 k68 (fun _ _ _ _ _ _ us hl => match us, hl with | [_, _, _, _], _ => rfl)
    m_do_row := metAt_mk ⟨pg_Run, hd_Run, po_Run, sa_Run⟩ ⟨a69, i69, k69⟩ l69 c69 k69 (fun _ _ _ _ _ _ us hl => match us, hl with | [_, _], _ => rfl)
    m_do_step := metAt_mk ⟨pg_Run, hd_Run, po_Run, sa_Run⟩ ⟨a70, i70, k70⟩ l70 c70 k70 (fun _ _ _ _ _ _ us hl => match us, hl with | [_], _ => rfl)
    nRu_program := n71
    nRu_tables := n72
    nRu_held := n73
    nRu_faces := n74
    nRu_store := n75
    nRu_said := n76
    nRu_trail := n77
    nRu_turned := n78
    nRu_frames := n79
    z_dict := PySem.W.mg_none_of X G z50
    z_len' := PySem.W.mg_none_of X G z25
    z_zip := PySem.W.mg_none_of X G z82
    v := V
    s := S
    d_run_by := defAt_mk X G a85 l85 c85 k85 (fun _ _ _ _ _ _ us hl => match us, hl with | [_, _, _], _ => rfl)
    d_need_inputs := defAt_mk X G a86 l86 c86 k86 (fun _ _ _ _ _ _ us hl => match us, hl with | [_, _], _ => rfl)
    d_need_faces := defAt_mk X G a87 l87 c87 k87 (fun _ _ _ _ _ _ us hl => match us, hl with | [_], _ => rfl)
    d_need_run := defAt_mk X G a88 l88 c88 k88 (fun _ _ _ _ _ _ us hl => match us, hl with | [_, _, _], _ => rfl)
    d__law_cell := defAt_mk X G a89 l89 c89 k89 (fun _ _ _ _ _ _ us hl => match us, hl with | [_, _], _ => rfl)
    d__law_pen := defAt_mk X G a90 l90 c90 k90 (fun _ _ _ _ _ _ us hl => match us, hl with | [_], _ => rfl)
    d__law_draw := defAt_mk X G a91 l91 c91 k91 (fun _ _ _ _ _ _ us hl => match us, hl with | [_, _], _ => rfl)
    d__law_reckoned := defAt_mk X G a92 l92 c92 k92 (fun _ _ _ _ _ _ us hl => match us, hl with | [_, _, _], _ => rfl)
    d__law_value := defAt_mk X G a93 l93 c93 k93 (fun _ _ _ _ _ _ us hl => match us, hl with | [_, _], _ => rfl)
    d__law_pick := defAt_mk X G a94 l94 c94 k94 (fun _ _ _ _ _ _ us hl => match us, hl with | [_, _], _ => rfl)
    d__law_expr := defAt_mk X G a95 l95 c95 k95 (fun _ _ _ _ _ _ us hl => match us, hl with | [_, _], _ => rfl)
    d_run_plain := ⟨f96, _, ⟨⟨_, _, _, _, _, _, _, _, _, _, rfl, l96, c96, .inr ⟨(by simp), dt96, _, [.ref e1], _, rfl, lT96, rfl, .cons rfl .nil⟩, .inr ⟨dk96, rfl, fun q hq => by cases List.mem_singleton.mp hq; exact ⟨_, kw96, rfl⟩⟩⟩, k96⟩, PySem.W.mg_of X G a96⟩
    h_e1 := ⟨_, _, l196, rfl, rfl, rfl⟩
    h_e2 := ⟨_, _, l296, rfl, rfl, rfl⟩
    z_range := PySem.W.mg_none_of X G z97
    z_repr := PySem.W.mg_none_of X G z98 }
  have F := fun_mk (st := s_law) l99 c99 k99
  exact ⟨PySem.W.fnOf "law" "law" (defArgs s_law) (defBody s_law) (defScope s_law) .none kV99 dc99 pm99 an99 cd99 ct99, fun s v => .of_eq rfl, fun base _ _ => ok_law T F⟩
theorem walk {l : PySem.W.OpenLaw} {q : Program} {loose : List Str} {XP : (Str → Option Value) → Heap → Prop} {YP : World → Heap → Prop} {d : DefRec} {K : Params → PySem.W.Frag} (hn : l.most = some 63) (hdf : d.params.defaults = [])
    (hY : ∀ (w : World) (h : Heap), YP w h → (K w.params).In h)
    (F : ∀ (w : World) (mg : Str → Option Value) (fa : Addr) (h : Heap), (K w.params).In h → h.Ns mainGlobals mg → mg d.name = some (.ref fa) →
      ∃ fd : FuncData, (∀ (s : Shared) (u : Value), BindsTo s fd ⟨[u], []⟩ [("_law_script", u)]) ∧ ∀ base : Heap, (K w.params).In base → base.Ns mainGlobals mg → FnG l.prog w (K w.params) mg base 27 fa fd ["_law_script"] (spLaw (K w.params))) :
    PySem.W.WalkO q loose XP YP l.row.toRowW d [] (fun f vs => PySem.call f vs) :=
  B.walk_G (n := 63) (k := 27) (x := "_law_script") (sp := fun w => spLaw (K w.params)) hn (by decide) hdf ⟨rfl, by decide, by decide⟩ hY F (fun _ _ a ns hl _ hS => ⟨a, ns, rfl, hS, hl, fun _ => rfl⟩)
end B
open PySem PySem.W PyProof.Rows
set_option maxRecDepth 100000 in
set_option maxHeartbeats 0 in
theorem PySem.Challenge.cw_nearlay_k01_expressions_reckoned_holds : PySem.Challenge.rw_nearlay_k01_expressions_reckoned.Holds := by
  w_on; o_law; k_head; (case hw => w_witness2)
  k_fill
  refine B.walk (l := PySem.Challenge.rw_nearlay_k01_expressions_reckoned) rfl rfl (fun w h Y => by first | exact PySem.W.kIn_of Y | exact PySem.W.km_in_of Y | exact km_in_of Y) ?F
  case F =>
    intro w mg fa h KX G hmg
    refine' B.all_mk KX G hmg ?a1 ?l1 ?c1 ?k1 ?a2 ?l2 ?c2 ?k2 ?a3 ?l3 ?c3 ?k3 ?a4 ?l4 ?c4 ?k4 ?a5 ?l5 ?c5 ?k5 ?a6 ?l6 ?c6 ?k6 ?a7 ?l7 ?c7 ?k7 ?a8 ?l8 ?c8 ?k8 ?a9 ?l9 ?c9 ?k9 ?a10 ?l10 ?c10 ?k10 ?a11 ?l11 ?c11 ?k11 ?g12 ?g13 ?g14 ?g15 ?g16 ?g17 ?g18 ?g19 ?l19 ?g20 ?l20 ?z21 ?z22 ?z23 ?z24 ?z25 ?z26 ?z27 ?z28 ?aC_Scope ?pg_Scope ?hd_Scope ?po_Scope ?sa_Scope ?mk_Scope ?kc_Scope ?a30 ?i30 ?l30 ?c30 ?k30 ?a31 ?i31 ?l31 ?c31 ?k31 ?a32 ?i32 ?l32 ?c32 ?k32 ?a33 ?i33 ?l33 ?c33 ?k33 ?a34 ?i34 ?l34 ?c34 ?k34 ?a35 ?i35 ?l35 ?c35 ?k35 ?a36 ?i36 ?l36 ?c36 ?k36 ?a37 ?i37 ?l37 ?c37 ?k37 ?n38 ?n39 ?a40 ?l40 ?c40 ?k40 ?a41 ?l41 ?c41 ?k41 ?aC_Seen ?pg_Seen ?hd_Seen ?po_Seen ?sa_Seen ?mk_Seen ?kc_Seen ?a43 ?i43 ?l43 ?c43 ?k43 ?a44 ?i44 ?l44 ?c44 ?k44 ?a45 ?i45 ?l45 ?c45 ?k45 ?a46 ?i46 ?l46 ?c46 ?k46 ?n47 ?n48 ?a49 ?l49 ?c49 ?k49 ?z50 ?a52 ?l52 ?c52 ?k52 ?a53 ?l53 ?c53 ?k53 ?g54 ?aC_PlainStore ?pg_PlainStore ?hd_PlainStore ?po_PlainStore ?sa_PlainStore ?mk_PlainStore ?kc_PlainStore ?a56 ?i56 ?l56 ?c56 ?k56 ?a57 ?i57 ?l57 ?c57 ?k57 ?a58 ?i58 ?l58 ?c58 ?k58 ?n59 ?n60 ?aC_Run ?pg_Run ?hd_Run ?po_Run ?sa_Run ?mk_Run ?kc_Run ?a62 ?i62 ?l62 ?c62 ?k62 ?a63 ?i63 ?l63 ?c63 ?k63 ?a64 ?i64 ?l64 ?c64 ?k64 ?a65 ?i65 ?l65 ?c65 ?k65 ?a66 ?i66 ?l66 ?c66 ?k66 ?a67 ?i67 ?l67 ?c67 ?k67 ?a68 ?i68 ?l68 ?c68 ?k68 ?a69 ?i69 ?l69 ?c69 ?k69 ?a70 ?i70 ?l70 ?c70 ?k70 ?n71 ?n72 ?n73 ?n74 ?n75 ?n76 ?n77 ?n78 ?n79 ?z82 ?a85 ?l85 ?c85 ?k85 ?a86 ?l86 ?c86 ?k86 ?a87 ?l87 ?c87 ?k87 ?a88 ?l88 ?c88 ?k88 ?a89 ?l89 ?c89 ?k89 ?a90 ?l90 ?c90 ?k90 ?a91 ?l91 ?c91 ?k91 ?a92 ?l92 ?c92 ?k92 ?a93 ?l93 ?c93 ?k93 ?a94 ?l94 ?c94 ?k94 ?a95 ?l95 ?c95 ?k95 ?a96 ?l96 ?c96 ?k96 ?lT96 ?l196 ?kw96 ?l296 ?z97 ?z98 ?a99 ?l99 ?c99 ?k99
    (case a1 => k_is)
    (case l1 => k_is)
    (case c1 => k_is)
    (case k1 => k_is)
    (case a2 => k_is)
    (case l2 => k_is)
    (case c2 => k_is)
    (case k2 => k_is)
    (case a3 => k_is)
    (case l3 => k_is)
    (case c3 => k_is)
    (case k3 => k_is)
    (case a4 => k_is)
    (case l4 => k_is)
    (case c4 => k_is)
    (case k4 => k_is)
    (case a5 => k_is)
    (case l5 => k_is)
    (case c5 => k_is)
    (case k5 => k_is)
    (case a6 => k_is)
    (case l6 => k_is)
    (case c6 => k_is)
    (case k6 => k_is)
    (case a7 => k_is)
    (case l7 => k_is)
    (case c7 => k_is)
    (case k7 => k_is)
    (case a8 => k_is)
    (case l8 => k_is)
    (case c8 => k_is)
    (case k8 => k_is)
    (case a9 => k_is)
    (case l9 => k_is)
    (case c9 => k_is)
    (case k9 => k_is)
    (case a10 => k_is)
    (case l10 => k_is)
    (case c10 => k_is)
    (case k10 => k_is)
    (case a11 => k_is)
    (case l11 => k_is)
    (case c11 => k_is)
    (case k11 => k_is)
    (case g12 => k_is)
    (case g13 => k_is)
    (case g14 => k_is)
    (case g15 => k_is)
    (case g16 => k_is)
    (case g17 => k_is)
    (case g18 => k_is)
    (case g19 => k_is)
    (case l19 => k_is)
    (case g20 => k_is)
    (case l20 => k_is)
    (case z21 => k_is)
    (case z22 => k_is)
    (case z23 => k_is)
    (case z24 => k_is)
    (case z25 => k_is)
    (case z26 => k_is)
    (case z27 => k_is)
    (case z28 => k_is)
    (case aC_Scope => k_is)
    (case pg_Scope => k_is)
    (case hd_Scope => k_is)
    (case po_Scope => k_is)
    (case sa_Scope => k_is)
    (case mk_Scope => k_is)
    (case kc_Scope => k_is)
    (case a30 => k_is)
    (case i30 => k_is)
    (case l30 => k_is)
    (case c30 => k_is)
    (case k30 => k_is)
    (case a31 => k_is)
    (case i31 => k_is)
    (case l31 => k_is)
    (case c31 => k_is)
    (case k31 => k_is)
    (case a32 => k_is)
    (case i32 => k_is)
    (case l32 => k_is)
    (case c32 => k_is)
    (case k32 => k_is)
    (case a33 => k_is)
    (case i33 => k_is)
    (case l33 => k_is)
    (case c33 => k_is)
    (case k33 => k_is)
    (case a34 => k_is)
    (case i34 => k_is)
    (case l34 => k_is)
    (case c34 => k_is)
    (case k34 => k_is)
    (case a35 => k_is)
    (case i35 => k_is)
    (case l35 => k_is)
    (case c35 => k_is)
    (case k35 => k_is)
    (case a36 => k_is)
    (case i36 => k_is)
    (case l36 => k_is)
    (case c36 => k_is)
    (case k36 => k_is)
    (case a37 => k_is)
    (case i37 => k_is)
    (case l37 => k_is)
    (case c37 => k_is)
    (case k37 => k_is)
    (case n38 => k_is)
    (case n39 => k_is)
    (case a40 => k_is)
    (case l40 => k_is)
    (case c40 => k_is)
    (case k40 => k_is)
    (case a41 => k_is)
    (case l41 => k_is)
    (case c41 => k_is)
    (case k41 => k_is)
    (case aC_Seen => k_is)
    (case pg_Seen => k_is)
    (case hd_Seen => k_is)
    (case po_Seen => k_is)
    (case sa_Seen => k_is)
    (case mk_Seen => k_is)
    (case kc_Seen => k_is)
    (case a43 => k_is)
    (case i43 => k_is)
    (case l43 => k_is)
    (case c43 => k_is)
    (case k43 => k_is)
    (case a44 => k_is)
    (case i44 => k_is)
    (case l44 => k_is)
    (case c44 => k_is)
    (case k44 => k_is)
    (case a45 => k_is)
    (case i45 => k_is)
    (case l45 => k_is)
    (case c45 => k_is)
    (case k45 => k_is)
    (case a46 => k_is)
    (case i46 => k_is)
    (case l46 => k_is)
    (case c46 => k_is)
    (case k46 => k_is)
    (case n47 => k_is)
    (case n48 => k_is)
    (case a49 => k_is)
    (case l49 => k_is)
    (case c49 => k_is)
    (case k49 => k_is)
    (case z50 => k_is)
    (case a52 => k_is)
    (case l52 => k_is)
    (case c52 => k_is)
    (case k52 => k_is)
    (case a53 => k_is)
    (case l53 => k_is)
    (case c53 => k_is)
    (case k53 => k_is)
    (case g54 => k_is)
    (case aC_PlainStore => k_is)
    (case pg_PlainStore => k_is)
    (case hd_PlainStore => k_is)
    (case po_PlainStore => k_is)
    (case sa_PlainStore => k_is)
    (case mk_PlainStore => k_is)
    (case kc_PlainStore => k_is)
    (case a56 => k_is)
    (case i56 => k_is)
    (case l56 => k_is)
    (case c56 => k_is)
    (case k56 => k_is)
    (case a57 => k_is)
    (case i57 => k_is)
    (case l57 => k_is)
    (case c57 => k_is)
    (case k57 => k_is)
    (case a58 => k_is)
    (case i58 => k_is)
    (case l58 => k_is)
    (case c58 => k_is)
    (case k58 => k_is)
    (case n59 => k_is)
    (case n60 => k_is)
    (case aC_Run => k_is)
    (case pg_Run => k_is)
    (case hd_Run => k_is)
    (case po_Run => k_is)
    (case sa_Run => k_is)
    (case mk_Run => k_is)
    (case kc_Run => k_is)
    (case a62 => k_is)
    (case i62 => k_is)
    (case l62 => k_is)
    (case c62 => k_is)
    (case k62 => k_is)
    (case a63 => k_is)
    (case i63 => k_is)
    (case l63 => k_is)
    (case c63 => k_is)
    (case k63 => k_is)
    (case a64 => k_is)
    (case i64 => k_is)
    (case l64 => k_is)
    (case c64 => k_is)
    (case k64 => k_is)
    (case a65 => k_is)
    (case i65 => k_is)
    (case l65 => k_is)
    (case c65 => k_is)
    (case k65 => k_is)
    (case a66 => k_is)
    (case i66 => k_is)
    (case l66 => k_is)
    (case c66 => k_is)
    (case k66 => k_is)
    (case a67 => k_is)
    (case i67 => k_is)
    (case l67 => k_is)
    (case c67 => k_is)
    (case k67 => k_is)
    (case a68 => k_is)
    (case i68 => k_is)
    (case l68 => k_is)
    (case c68 => k_is)
    (case k68 => k_is)
    (case a69 => k_is)
    (case i69 => k_is)
    (case l69 => k_is)
    (case c69 => k_is)
    (case k69 => k_is)
    (case a70 => k_is)
    (case i70 => k_is)
    (case l70 => k_is)
    (case c70 => k_is)
    (case k70 => k_is)
    (case n71 => k_is)
    (case n72 => k_is)
    (case n73 => k_is)
    (case n74 => k_is)
    (case n75 => k_is)
    (case n76 => k_is)
    (case n77 => k_is)
    (case n78 => k_is)
    (case n79 => k_is)
    (case z82 => k_is)
    (case a85 => k_is)
    (case l85 => k_is)
    (case c85 => k_is)
    (case k85 => k_is)
    (case a86 => k_is)
    (case l86 => k_is)
    (case c86 => k_is)
    (case k86 => k_is)
    (case a87 => k_is)
    (case l87 => k_is)
    (case c87 => k_is)
    (case k87 => k_is)
    (case a88 => k_is)
    (case l88 => k_is)
    (case c88 => k_is)
    (case k88 => k_is)
    (case a89 => k_is)
    (case l89 => k_is)
    (case c89 => k_is)
    (case k89 => k_is)
    (case a90 => k_is)
    (case l90 => k_is)
    (case c90 => k_is)
    (case k90 => k_is)
    (case a91 => k_is)
    (case l91 => k_is)
    (case c91 => k_is)
    (case k91 => k_is)
    (case a92 => k_is)
    (case l92 => k_is)
    (case c92 => k_is)
    (case k92 => k_is)
    (case a93 => k_is)
    (case l93 => k_is)
    (case c93 => k_is)
    (case k93 => k_is)
    (case a94 => k_is)
    (case l94 => k_is)
    (case c94 => k_is)
    (case k94 => k_is)
    (case a95 => k_is)
    (case l95 => k_is)
    (case c95 => k_is)
    (case k95 => k_is)
    (case a96 => k_is)
    (case l96 => k_is)
    (case c96 => k_is)
    (case k96 => k_is)
    (case lT96 => k_is)
    (case l196 => k_is)
    (case kw96 => k_is)
    (case l296 => k_is)
    (case z97 => k_is)
    (case z98 => k_is)
    (case a99 => k_is)
    (case l99 => k_is)
    (case c99 => k_is)
    (case k99 => k_is)
