import PyProof.Rows.All
import Wide.All
import OpenK.AllK
import Wide.FinOn
import HandS.ForMost
import HandS.IsInst
import HandS.TupAny
import HandS.TupMul
import HandS.Zip
import HandS.SetFor
import HandS.Walk
import HandS.Evl
import KE.GoesEnum
import HandS.Style
import PySem.Challenge.RW_nearlay_k51_near_stores_touched
set_option Elab.async false
set_option linter.all false
set_option maxRecDepth 100000
namespace B
open PySem PySem.Spec PyProof.Rows L2

/-! ### the frame: what a piece of code leaves as it was; L: the addresses that it may change -/
structure Fr (L : List Addr) (H H' : Hp) : Prop where
  keep : ∀ b o, H b = some o → (b ∉ L ∨ ¬ Mut (some o)) → H' b = some o
  free : ∀ b, H' b = none → H b = none
theorem Fr.refl (L : List Addr) (H : Hp) : Fr L H H := ⟨fun _ _ h _ => h, fun _ h => h⟩
theorem Fr.trans {L : List Addr} {H H1 H2 : Hp} (a : Fr L H H1) (b : Fr L H1 H2) : Fr L H H2 :=
  ⟨fun c o h k => b.keep c o (a.keep c o h k) k, fun c h => a.free c (b.free c h)⟩
theorem Fr.new {L : List Addr} {H : Hp} {p : Addr} {o : HO} (h : H p = none) : Fr L H (upd H p o) :=
  ⟨fun b u e _ => by rw [upd_ne (ne_of_none e h)]; exact e, fun b e => by
    by_cases hb : b = p
    · subst hb; exact h
    · rw [upd_ne hb] at e; exact e⟩
theorem Fr.wr {L : List Addr} {H : Hp} {p : Addr} {o o' : HO} (h : H p = some o) (m : Mut (some o)) (hl : p ∈ L) : Fr L H (upd H p o') :=
  ⟨fun b u e k => by
    by_cases hb : b = p
    · subst hb
      rw [h] at e
      cases e
      rcases k with k | k
      · exact absurd hl k
      · exact absurd m k
    · rw [upd_ne hb]; exact e, fun b e => by
    by_cases hb : b = p
    · subst hb; rw [upd_same] at e; cases e
    · rw [upd_ne hb] at e; exact e⟩
/-- what came newly may be changed too -/
theorem Fr.cut {L L' : List Addr} {H H1 H2 : Hp} (a : Fr L H H1) (b : Fr L' H1 H2) (n : ∀ l ∈ L', l ∈ L ∨ H l = none) : Fr L H H2 :=
  ⟨fun c o h k => b.keep c o (a.keep c o h k) (by
    rcases k with k | k
    · exact .inl fun hc => by
        rcases n c hc with z | z
        · exact k z
        · rw [h] at z; cases z
    · exact .inr k), fun c h => a.free c (b.free c h)⟩
theorem Fr.mono {L L' : List Addr} {H H' : Hp} (a : Fr L H H') (n : ∀ l ∈ L, l ∈ L' ∨ H l = none) : Fr L' H H' := (Fr.refl L' H).cut a n
theorem Fr.up {L : List Addr} {H H1 : Hp} {p : Addr} {o : HO} (a : Fr L H H1) (h : H1 p = none) : Fr L H (upd H1 p o) := a.trans (.new h)
theorem Fr.put {L : List Addr} {H H1 : Hp} {p : Addr} {o o' : HO} (a : Fr L H H1) (h : H1 p = some o) (m : Mut (some o)) (hl : p ∈ L ∨ H p = none) : Fr L H (upd H1 p o') :=
  a.cut (.wr h m (List.mem_singleton.mpr rfl)) fun l hm => by
    cases List.mem_singleton.mp hm
    exact hl
theorem Fr.rd {L : List Addr} {H H' : Hp} {a : Addr} {o : HO} (f : Fr L H H') (r : Rd H a o) (h : a ∉ L ∨ ¬ Mut (some o)) : Rd H' a o := by
  rcases r with r | ⟨u, r⟩
  · exact .inl (f.keep _ _ r h)
  · exact .inr ⟨u, f.keep _ _ r (.inr fun z => z)⟩
theorem Fr.tup {K : PySem.W.Frag} {L : List Addr} {H H' : Hp} {a : Addr} {xs : List V} (f : Fr L H H') (r : SqT K H a xs) : SqT K H' a xs := by
  rcases r with r | r
  · exact .inl (f.rd r (.inr fun z => z))
  · exact .inr r
theorem Fr.lst {K : PySem.W.Frag} {L : List Addr} {H H' : Hp} {a : Addr} {xs : List V} (f : Fr L H H') (r : SqL K H a xs) (h : a ∉ L) : SqL K H' a xs := by
  rcases r with r | r
  · exact .inl (f.rd r (.inl h))
  · exact .inr r
theorem Fr.at {H H' : Hp} {a : Addr} {o : HO} (f : Fr [] H H') (r : H a = some o) : H' a = some o := f.keep _ _ r (.inl fun z => nomatch z)
theorem Fr.ne {L : List Addr} {H H' : Hp} {a : Addr} {o : HO} (f : Fr L H H') (r : H a = some o) (h : a ∉ L) : H' a = some o := f.keep _ _ r (.inl h)
theorem Fr.same {H H' : Hp} (f : Fr [] H H') : Same H H' := fun _ _ e => f.at e
theorem sqT_of {K : PySem.W.Frag} {H : Hp} {a : Addr} {xs : List V} (h : H a = some (.tup xs)) : SqT K H a xs := .inl (.inl h)
theorem sqL_of {K : PySem.W.Frag} {H : Hp} {a : Addr} {xs : List V} (h : H a = some (.lst xs)) : SqL K H a xs := .inl (.inl h)

/-! ### data that never changes: scalars and tuples of such -/
mutual
def Im (K : PySem.W.Frag) (H : Hp) : PyData → V → Prop
  | .none, v => v = .non
  | .bool b, v => v = .bl b
  | .int i, v => v = .int i
  | .str s, v => v = .str s
  | .tuple ds, v => ∃ a xs, v = .ref a ∧ SqT K H a xs ∧ Ims K H ds xs
  | .list _, _ => False
  | .dict _, _ => False
def Ims (K : PySem.W.Frag) (H : Hp) : List PyData → List V → Prop
  | [], xs => xs = []
  | d :: ds, xs => ∃ x r, xs = x :: r ∧ Im K H d x ∧ Ims K H ds r
end
mutual
theorem Im.mono {K : PySem.W.Frag} {L : List Addr} {H H' : Hp} (f : Fr L H H') : ∀ {d : PyData} {v : V}, Im K H d v → Im K H' d v
  | .none, _, h => h
  | .bool _, _, h => h
  | .int _, _, h => h
  | .str _, _, h => h
  | .tuple ds, _, ⟨a, xs, e, t, r⟩ => ⟨a, xs, e, f.tup t, Ims.mono f r⟩
  | .list _, _, h => h
  | .dict _, _, h => h
theorem Ims.mono {K : PySem.W.Frag} {L : List Addr} {H H' : Hp} (f : Fr L H H') : ∀ {ds : List PyData} {xs : List V}, Ims K H ds xs → Ims K H' ds xs
  | [], _, h => h
  | _ :: _, _, ⟨x, r, e, h1, h2⟩ => ⟨x, r, e, Im.mono f h1, Ims.mono f h2⟩
end
mutual
theorem Im.dp {K : PySem.W.Frag} {H : Hp} : ∀ {d : PyData} {v : V}, Im K H d v → Dp K H v d
  | .none, _, h => by cases h; exact .non
  | .bool _, _, h => by cases h; exact .bl _
  | .int _, _, h => by cases h; exact .int _
  | .str _, _, h => by cases h; exact .str _
  | .tuple ds, _, ⟨a, xs, e, t, r⟩ => by cases e; exact .tup t (Ims.dp r)
  | .list _, _, h => h.elim
  | .dict _, _, h => h.elim
theorem Ims.dp {K : PySem.W.Frag} {H : Hp} : ∀ {ds : List PyData} {xs : List V}, Ims K H ds xs → DpAll K H xs ds
  | [], _, h => by cases h; exact .nil
  | _ :: _, _, ⟨x, r, e, h1, h2⟩ => by cases e; exact .cons (Im.dp h1) (Ims.dp h2)
end
theorem Ims.len {K : PySem.W.Frag} {H : Hp} : ∀ {ds : List PyData} {xs : List V}, Ims K H ds xs → xs.length = ds.length
  | [], _, h => by cases h; rfl
  | _ :: _, _, ⟨x, r, e, h1, h2⟩ => by cases e; show r.length + 1 = _ + 1; rw [Ims.len h2]
theorem Ims.get {K : PySem.W.Frag} {H : Hp} : ∀ {ds : List PyData} {xs : List V} {i : Nat} {x : V}, Ims K H ds xs → xs[i]? = some x → ∃ d, ds[i]? = some d ∧ Im K H d x
  | [], _, i, x, h, g => by cases h; simp at g
  | d :: ds, _, 0, x, ⟨y, r, e, h1, h2⟩, g => by
    cases e
    simp at g
    subst g
    exact ⟨d, rfl, h1⟩
  | d :: ds, _, i + 1, x, ⟨y, r, e, h1, h2⟩, g => by
    cases e
    obtain ⟨d', e', h'⟩ := Ims.get (i := i) h2 (by simpa using g)
    exact ⟨d', by simpa using e', h'⟩
theorem Ims.ints {K : PySem.W.Frag} {H : Hp} : ∀ (ns : List Int), Ims K H (ns.map PyData.int) (ns.map V.int)
  | [] => rfl
  | n :: ns => ⟨_, _, rfl, rfl, Ims.ints ns⟩
theorem Ims.of_ints {K : PySem.W.Frag} {H : Hp} : ∀ {ns : List Int} {xs : List V}, Ims K H (ns.map PyData.int) xs → xs = ns.map V.int
  | [], _, h => h
  | n :: ns, _, ⟨x, r, e, h1, h2⟩ => by
    cases e
    cases (show x = .int n from h1)
    rw [Ims.of_ints h2]
    rfl
theorem Im.tupI {K : PySem.W.Frag} {H : Hp} {a : Addr} {ns : List Int} (h : SqT K H a (ns.map V.int)) : Im K H (.tuple (ns.map PyData.int)) (.ref a) := ⟨a, _, rfl, h, Ims.ints ns⟩

/-! ### a def, a method, a class of the text, as they stand behind the top -/
structure DefAt (K : PySem.W.Frag) (mg : Str → Option Value) (x : Str) (st : Stmt) (ps : List Str) : Prop where
  ex : ∃ (f : Addr) (fd : FuncData), Fun K x x st f fd ∧ mg x = some (.ref f) ∧ Binds K fd ps []
structure MetAt (K : PySem.W.Frag) (C : Addr) (m qual : Str) (st : Stmt) (ps : List Str) : Prop where
  ex : ∃ (f : Addr) (fd : FuncData), Fun K m qual st f fd ∧ Meth K C m f ∧ Cls K C ∧ Binds K fd ps []
structure IniAt (K : PySem.W.Frag) (mg : Str → Option Value) (x : Str) (C : Addr) (qual : Str) (st : Stmt) (ps : List Str) : Prop where
  ex : ∃ (f : Addr) (fd : FuncData), Fun K "__init__" qual st f fd ∧ Mk K C f ∧ mg x = some (.ref C) ∧ Binds K fd ps []
section
variable (P : Program) (w : World) (K : PySem.W.Frag) (mg : Str → Option Value) (base : Heap)
structure Cal (k : Nat) (x : Str) (sp : Sp) : Prop where
  ex : ∃ (f : Addr) (fd : FuncData) (ps : List Str), FnOk P w K mg base CX0 k f fd ps sp ∧ mg x = some (.ref f) ∧ PySem.W.keepIn K (.ref f) = true ∧ Binds K fd ps []
structure Met (k : Nat) (C : Addr) (m : Str) (sp : Sp) : Prop where
  ex : ∃ (f : Addr) (fd : FuncData) (ps : List Str), Cls K C ∧ Meth K C m f ∧ FnOk P w K mg base CX0 k f fd ps sp ∧ Binds K fd ps []
structure Mak (k : Nat) (x : Str) (C : Addr) (sp : Sp) : Prop where
  ex : ∃ (f : Addr) (fd : FuncData) (ps : List Str), Mk K C f ∧ FnOk P w K mg base CX0 k f fd ps sp ∧ mg x = some (.ref C) ∧ Binds K fd ps []
end
section
variable {P : Program} {w : World} {K : PySem.W.Frag} {mg : Str → Option Value} {base : Heap}
theorem DefAt.cal {x : Str} {st : Stmt} {N ps : List Str} {k : Nat} {sp : Sp} (D : DefAt K mg x st ps) (S : FnScope N ps (defScope st)) (len : ∀ vs H Q E, sp vs H Q E → vs.length = ps.length)
    (hbody : ∀ (f : Addr) (cdv : Value) (A : Around) (outer : List Env) (s : Shared) (H : Hp) (vs : List V) (Q : VK) (E : XK), Room k (A.deeper (envOfC x (defScope st) s.heap.objs.size f cdv)) → sp vs H Q E →
      ∃ t, PSs (cxOf CX0 P w K mg base N x (defScope st) f cdv A outer s H E).nox (defBody st) t ∧ t { nx := fun _ H' => Q .non H', rt := Q } (start N vs) H) : Cal P w K mg base (k + 1) x sp := by
  obtain ⟨f, fd, F, m, b⟩ := D.ex
  exact ⟨f, fd, ps, F.ok S len (hbody f), m, F.kp, b⟩
theorem MetAt.met {C : Addr} {m qual : Str} {st : Stmt} {N ps : List Str} {k : Nat} {sp : Sp} (D : MetAt K C m qual st ps) (S : FnScope N ps (defScope st)) (len : ∀ vs H Q E, sp vs H Q E → vs.length = ps.length)
    (hbody : ∀ (f : Addr) (cdv : Value) (A : Around) (outer : List Env) (s : Shared) (H : Hp) (vs : List V) (Q : VK) (E : XK), Room k (A.deeper (envOfC qual (defScope st) s.heap.objs.size f cdv)) → sp vs H Q E →
      ∃ t, PSs (cxOf CX0 P w K mg base N qual (defScope st) f cdv A outer s H E).nox (defBody st) t ∧ t { nx := fun _ H' => Q .non H', rt := Q } (start N vs) H) : Met P w K mg base (k + 1) C m sp := by
  obtain ⟨f, fd, F, me, c, b⟩ := D.ex
  exact ⟨f, fd, ps, c, me, F.ok S len (hbody f), b⟩
theorem IniAt.mak {x : Str} {C : Addr} {qual : Str} {st : Stmt} {N ps : List Str} {k : Nat} {sp : Sp} (D : IniAt K mg x C qual st ps) (S : FnScope N ps (defScope st)) (len : ∀ vs H Q E, sp vs H Q E → vs.length = ps.length)
    (hbody : ∀ (f : Addr) (cdv : Value) (A : Around) (outer : List Env) (s : Shared) (H : Hp) (vs : List V) (Q : VK) (E : XK), Room k (A.deeper (envOfC qual (defScope st) s.heap.objs.size f cdv)) → sp vs H Q E →
      ∃ t, PSs (cxOf CX0 P w K mg base N qual (defScope st) f cdv A outer s H E).nox (defBody st) t ∧ t { nx := fun _ H' => Q .non H', rt := Q } (start N vs) H) : Mak P w K mg base (k + 1) x C sp := by
  obtain ⟨f, fd, F, M, m, b⟩ := D.ex
  exact ⟨f, fd, ps, M, F.ok S len (hbody f), m, b⟩
end
section
variable {X : Cx} {k j : Nat} {C : Addr} {x m : Str} {sp : Sp} {p pos apos : Pos} {e o : Expr} {es : List Expr} {ta : TE} {t : TA}
theorem pe_c (c : Cal X.prog X.w X.K X.mg X.base k x sp) (hr : Room j X.A) (hk : k ≤ j) (hg : Gl X x) (ha : PA X (e :: es) t)
    (hdb : (x == ("__debug__" : Str)) = false := by decide) (he : starEach (e :: es) X.env = (false, eval e X.env) :: starEach es X.env := by rfl) (hpl : (backTo pos (starEach es X.env)).any (·.1) = false := by rfl) :
    PE X (.Call (.Name x p) (e :: es) [] pos) (tCall sp [] E0 t) := by
  obtain ⟨f, fd, ps, F, hm, kp, b⟩ := c.ex
  exact pe_call F (hr.mono hk) hg hm kp b .nil pass0 ha hdb he hpl
theorem pe_mk (c : Mak X.prog X.w X.K X.mg X.base k x C sp) (hr : Room j X.A) (hk : k + 1 ≤ j) (hg : Gl X x) (ha : PA X (e :: es) t)
    (hdb : (x == ("__debug__" : Str)) = false := by decide) (he : starEach (e :: es) X.env = (false, eval e X.env) :: starEach es X.env := by rfl) (hpl : (backTo pos (starEach es X.env)).any (·.1) = false := by rfl) :
    PE X (.Call (.Name x p) (e :: es) [] pos) (tMake C sp [] E0 t) := by
  obtain ⟨f, fd, ps, M, F, hm, b⟩ := c.ex
  exact pe_make M F (hr.mono hk) hg hm b .nil pass0 ha hdb he hpl
theorem pe_mt {pl : Sem Bool} (c : Met X.prog X.w X.K X.mg X.base k C m sp) (hr : Room j X.A) (hk : k ≤ j) (he : PE X o ta) (ha : PA X (e :: es) t)
    (hst : starEach (e :: es) X.env = (false, eval e X.env) :: starEach es X.env := by rfl) (hpl : (backTo pos (starEach es X.env)).any (·.1) = false := by rfl)
    (ht : eval (.Call (.Attribute o m apos) (e :: es) [] pos) X.env = (do
      let ov ← eval o X.env
      standAt apos.atName
      let (f, first) ← holding [ov] (getMethod ov m pl)
      callWith pos f first (backTo pos (starEach (e :: es) X.env)) (backToKw pos (keywordEach [] X.env))) := by rfl) :
    PE X (.Call (.Attribute o m apos) (e :: es) [] pos) (tMeth C m sp [] E0 ta t) := by
  obtain ⟨f, fd, ps, hc, hm, F, b⟩ := c.ex
  exact pe_meth (pl := pl) he hc hm F (hr.mono hk) b .nil pass0 ha hst hpl ht
end

/-! ### isinstance of such data -/
def tyD : PyData → String
  | .none => "NoneType"
  | .bool _ => "bool"
  | .int _ => "int"
  | .str _ => "str"
  | .tuple _ => "tuple"
  | .list _ => "list"
  | .dict _ => "dict"
theorem sqT_ty {K : PySem.W.Frag} {H : Hp} {a : Addr} {xs : List V} (h : SqT K H a xs) : TyX K H (.ref a) (.type "tuple") := by
  rcases h with (h | ⟨o, h⟩) | ⟨o, its, n, h1, h2, _⟩
  · exact .base (.tup h)
  · exact .fTuple h
  · exact .kTuple h1 h2
theorem sqL_ty {K : PySem.W.Frag} {H : Hp} {a : Addr} {xs : List V} (h : SqL K H a xs) : TyX K H (.ref a) (.type "list") := by
  rcases h with (h | ⟨o, h⟩) | ⟨o, its, n, h1, h2, _⟩
  · exact .base (.lst h)
  · exact .base (.frz h)
  · exact .kList h1 h2
theorem Im.ty {K : PySem.W.Frag} {H : Hp} : ∀ {d : PyData} {v : V}, Im K H d v → TyX K H v (.type (tyD d))
  | .none, _, h => by cases h; exact .base .non
  | .bool _, _, h => by cases h; exact .base (.bl _)
  | .int _, _, h => by cases h; exact .base (.int _)
  | .str _, _, h => by cases h; exact .base (.str _)
  | .tuple ds, _, ⟨a, xs, e, t, r⟩ => by cases e; exact sqT_ty t
  | .list _, _, h => h.elim
  | .dict _, _, h => h.elim
theorem kb_int_int : kitB "int" "int" = some true := by decide +kernel
theorem kb_int_bool : kitB "int" "bool" = some false := by decide +kernel
theorem kb_int_tuple : kitB "int" "tuple" = some false := by decide +kernel
theorem kb_int_str : kitB "int" "str" = some false := by decide +kernel
theorem kb_bool_int : kitB "bool" "int" = some true := by decide +kernel
theorem kb_bool_bool : kitB "bool" "bool" = some true := by decide +kernel
theorem kb_bool_tuple : kitB "bool" "tuple" = some false := by decide +kernel
theorem kb_bool_str : kitB "bool" "str" = some false := by decide +kernel
theorem kb_str_int : kitB "str" "int" = some false := by decide +kernel
theorem kb_str_bool : kitB "str" "bool" = some false := by decide +kernel
theorem kb_str_tuple : kitB "str" "tuple" = some false := by decide +kernel
theorem kb_str_str : kitB "str" "str" = some true := by decide +kernel
theorem kb_tuple_int : kitB "tuple" "int" = some false := by decide +kernel
theorem kb_tuple_bool : kitB "tuple" "bool" = some false := by decide +kernel
theorem kb_tuple_tuple : kitB "tuple" "tuple" = some true := by decide +kernel
theorem kb_tuple_str : kitB "tuple" "str" = some false := by decide +kernel
theorem kb_list_int : kitB "list" "int" = some false := by decide +kernel
theorem kb_list_bool : kitB "list" "bool" = some false := by decide +kernel
theorem kb_list_tuple : kitB "list" "tuple" = some false := by decide +kernel
theorem kb_list_str : kitB "list" "str" = some false := by decide +kernel
theorem kb_none_int : kitB "NoneType" "int" = some false := by decide +kernel
theorem kb_none_bool : kitB "NoneType" "bool" = some false := by decide +kernel
theorem kb_none_tuple : kitB "NoneType" "tuple" = some false := by decide +kernel
theorem kb_none_str : kitB "NoneType" "str" = some false := by decide +kernel
theorem kb_dict_int : kitB "dict" "int" = some false := by decide +kernel
theorem kb_dict_bool : kitB "dict" "bool" = some false := by decide +kernel
theorem kb_dict_tuple : kitB "dict" "tuple" = some false := by decide +kernel
theorem kb_dict_str : kitB "dict" "str" = some false := by decide +kernel
def isiInt : PyData → Bool
  | .int _ => true
  | .bool _ => true
  | _ => false
def isiBool : PyData → Bool
  | .bool _ => true
  | _ => false
def isiTup : PyData → Bool
  | .tuple _ => true
  | _ => false
def isiStr : PyData → Bool
  | .str _ => true
  | _ => false
theorem kit_int (K : PySem.W.Frag) (d : PyData) : PySem.W.kitOne K (.type (tyD d)) (.type "int") = some (isiInt d) := by
  cases d with
  | none => exact kit_ty kb_none_int
  | bool b => exact kit_ty kb_bool_int
  | int b => exact kit_ty kb_int_int
  | str b => exact kit_ty kb_str_int
  | tuple b => exact kit_ty kb_tuple_int
  | list b => exact kit_ty kb_list_int
  | dict b => exact kit_ty kb_dict_int
theorem kit_bool (K : PySem.W.Frag) (d : PyData) : PySem.W.kitOne K (.type (tyD d)) (.type "bool") = some (isiBool d) := by
  cases d with
  | none => exact kit_ty kb_none_bool
  | bool b => exact kit_ty kb_bool_bool
  | int b => exact kit_ty kb_int_bool
  | str b => exact kit_ty kb_str_bool
  | tuple b => exact kit_ty kb_tuple_bool
  | list b => exact kit_ty kb_list_bool
  | dict b => exact kit_ty kb_dict_bool
theorem kit_tup (K : PySem.W.Frag) (d : PyData) : PySem.W.kitOne K (.type (tyD d)) (.type "tuple") = some (isiTup d) := by
  cases d with
  | none => exact kit_ty kb_none_tuple
  | bool b => exact kit_ty kb_bool_tuple
  | int b => exact kit_ty kb_int_tuple
  | str b => exact kit_ty kb_str_tuple
  | tuple b => exact kit_ty kb_tuple_tuple
  | list b => exact kit_ty kb_list_tuple
  | dict b => exact kit_ty kb_dict_tuple
theorem kit_str (K : PySem.W.Frag) (d : PyData) : PySem.W.kitOne K (.type (tyD d)) (.type "str") = some (isiStr d) := by
  cases d with
  | none => exact kit_ty kb_none_str
  | bool b => exact kit_ty kb_bool_str
  | int b => exact kit_ty kb_int_str
  | str b => exact kit_ty kb_str_str
  | tuple b => exact kit_ty kb_tuple_str
  | list b => exact kit_ty kb_list_str
  | dict b => exact kit_ty kb_dict_str
/-! ### the built-in names -/
theorem bt_int : bootBuiltins "int" = some (.type "int") := by decide +kernel
theorem bt_bool : bootBuiltins "bool" = some (.type "bool") := by decide +kernel
theorem bt_str : bootBuiltins "str" = some (.type "str") := by decide +kernel
theorem bt_tuple : bootBuiltins "tuple" = some (.type "tuple") := by decide +kernel
theorem bt_list : bootBuiltins "list" = some (.type "list") := by decide +kernel
theorem bt_dict : bootBuiltins "dict" = some (.type "dict") := by decide +kernel
theorem bt_len : bootBuiltins "len" = some (.builtin "len") := by decide +kernel
theorem bt_all : bootBuiltins "all" = some (.builtin "all") := by decide +kernel
theorem bt_any : bootBuiltins "any" = some (.builtin "any") := by decide +kernel
theorem bt_sum : bootBuiltins "sum" = some (.builtin "sum") := by decide +kernel
theorem bt_isinstance : bootBuiltins "isinstance" = some (.builtin "isinstance") := by decide +kernel
theorem bt_repr : bootBuiltins "repr" = some (.builtin "repr") := by decide +kernel
theorem bt_sorted : bootBuiltins "sorted" = some (.builtin "sorted") := by decide +kernel
end B

namespace B
open PySem PySem.Spec PyProof.Rows L2

/-! ### walks -/
section
variable {K : PySem.W.Frag} {a b : Addr} {xs ys : List V}
theorem walk_zipT {n : Nat} (hn : n = min xs.length ys.length) : Walk (RZ.ItzT K a b) n (fun H => SqT K H a xs ∧ SqT K H b ys) (YPair (fun i => xs[i]?) (fun i => ys[i]?)) := by
  subst hn
  refine ⟨fun i _ hi q => ?_, fun _ q => ⟨xs, ys, q.1, q.2, by omega⟩, fun i H v H' _ q y => ?_⟩
  · have h1 : i < xs.length := by omega
    have h2 : i < ys.length := by omega
    exact ⟨xs, ys, xs[i], ys[i], q.1, q.2, by simp [h1], by simp [h2]⟩
  · obtain ⟨T, x, z, h1, h2, h3, h4, h5⟩ := y
    exact ⟨T, x, z, h1, h2, h3, h4 xs q.1, h5 ys q.2⟩
end

/-! ### comprehensions whose elements change nothing: the list of the values -/
section
variable {J : It} {n : Nat} {G : Hp → Prop} {Y : Nat → Hp → V → Hp → Prop} {g : TG} {tt : TT} {te : TE} {vs : List Nat} {σ : L2.St} {H1 : Hp} {D : Addr} {Qd : Hp → Prop}
def kept (c : Nat → Bool) (f : Nat → V) : Nat → List V
  | 0 => []
  | i + 1 => if c i = true then kept c f i ++ [f i] else kept c f i
theorem kept_len (c : Nat → Bool) (f : Nat → V) : ∀ i, (kept c f i).length ≤ i
  | 0 => Nat.le_refl _
  | i + 1 => by
    have h := kept_len c f i
    unfold kept
    split
    · rw [List.length_append]; show _ + 1 ≤ _; omega
    · omega
theorem kept_no {c : Nat → Bool} {f : Nat → V} {i : Nat} (h : c i = false) : kept c f (i + 1) = kept c f i := by
  show (if c i = true then _ else _) = _
  rw [h, if_neg Bool.false_ne_true]
theorem kept_yes {c : Nat → Bool} {f : Nat → V} {i : Nat} (h : c i = true) : kept c f (i + 1) = kept c f i ++ [f i] := by
  show (if c i = true then _ else _) = _
  rw [h, if_pos rfl]
theorem kept_all (f : Nat → V) : ∀ i, kept (fun _ => true) f i = (List.range i).map f
  | 0 => rfl
  | i + 1 => by
    show (if true = true then _ else _) = _
    rw [if_pos rfl, kept_all f i, List.range_succ, List.map_append]
    rfl
theorem lc_when (w : Walk J n G Y) (c : Nat → Bool) (f : Nat → V) (hD : H1 D = none) (hn : n ≤ 1000000) (hG : ∀ H', Fr [] H1 H' → G H')
    (hs : ∀ i x H H' (Z0 : Hp → Prop) (Z1 : V → Hp → Prop), i < n → Fr [] H1 H → Y i H x H' → (c i = false → ∀ H4, Fr [] H' H4 → Z0 H4) → (c i = true → ∀ H4, Fr [] H' H4 → Z1 (f i) H4) →
      g x (wipe σ vs) H' fun σ2 H2 => wipe σ2 vs = wipe σ vs ∧ tt σ2 H2 fun b H3 => if b = true then te σ2 H3 Z1 else Z0 H3)
    (hY : ∀ i H x H', Fr [] H1 H → Y i H x H' → Fr [] H H')
    (hd : ∀ H, Fr [] H1 H → H D = some (.lst (kept c f n)) → Qd H) :
    ∃ W : Nat → Nat → Hp → Prop, (∃ m, W 0 m (upd H1 D (.lst []))) ∧ ∀ i m H, W i m H →
      (J.stop i H ∧ Qd H) ∨ (J.go i H ∧ ∃ Nx : Hp → Prop, (∀ H', Nx H' → ∃ m', m' < m ∧ W (i + 1) m' H') ∧ ∀ x H', J.yld i H x H' → g x (wipe σ vs) H' fun σ2 H2 => wipe σ2 vs = wipe σ vs ∧ tt σ2 H2 fun b H3 =>
        if b = true then te σ2 H3 fun y H4 => ∃ acc, H4 D = some (.lst acc) ∧ acc.length < sizeLine ∧ Nx (upd H4 D (.lst (acc ++ [y]))) else Nx H3) := by
  refine lc_it w (fun i H => Fr [] H1 H ∧ H D = some (.lst (kept c f i))) ⟨.new hD, upd_same⟩ (fun i H _ p => hG H p.1) ?_ (fun H p => hd H p.1 p.2)
  rintro i x H H' hi ⟨fr, hl⟩ hy
  have f0 := hY i H x H' fr hy
  refine hs i x H H' _ _ hi fr hy (fun hc H4 f4 => ?_) (fun hc H4 f4 => ?_)
  · have h4 := (f0.trans f4).at hl
    refine ⟨(fr.trans f0).trans f4, ?_⟩
    rw [kept_no hc]
    exact h4
  · have h4 := (f0.trans f4).at hl
    refine ⟨_, h4, ?_, ((fr.trans f0).trans f4).put h4 trivial (.inr hD), ?_⟩
    · have := kept_len c f i
      have e : sizeLine = 16777216 := sizeLine_eq
      omega
    · rw [kept_yes hc]
      exact upd_same
theorem lc_each (w : Walk J n G Y) (f : Nat → V) (hD : H1 D = none) (hn : n ≤ 1000000) (hG : ∀ H', Fr [] H1 H' → G H')
    (hs : ∀ i x H H' (Z1 : V → Hp → Prop), i < n → Fr [] H1 H → Y i H x H' → (∀ H4, Fr [] H' H4 → Z1 (f i) H4) →
      g x (wipe σ vs) H' fun σ2 H2 => wipe σ2 vs = wipe σ vs ∧ te σ2 H2 Z1)
    (hgm : ∀ x H (Z Z' : L2.St → Hp → Prop), (∀ σ2 H2, Z σ2 H2 → Z' σ2 H2) → g x (wipe σ vs) H Z → g x (wipe σ vs) H Z')
    (hY : ∀ i H x H', Fr [] H1 H → Y i H x H' → Fr [] H H')
    (hd : ∀ H, Fr [] H1 H → H D = some (.lst ((List.range n).map f)) → Qd H) :
    ∃ W : Nat → Nat → Hp → Prop, (∃ m, W 0 m (upd H1 D (.lst []))) ∧ ∀ i m H, W i m H →
      (J.stop i H ∧ Qd H) ∨ (J.go i H ∧ ∃ Nx : Hp → Prop, (∀ H', Nx H' → ∃ m', m' < m ∧ W (i + 1) m' H') ∧ ∀ x H', J.yld i H x H' → g x (wipe σ vs) H' fun σ2 H2 => wipe σ2 vs = wipe σ vs ∧ tYes σ2 H2 fun b H3 =>
        if b = true then te σ2 H3 fun y H4 => ∃ acc, H4 D = some (.lst acc) ∧ acc.length < sizeLine ∧ Nx (upd H4 D (.lst (acc ++ [y]))) else Nx H3) := by
  refine lc_when w (fun _ => true) f hD hn hG (fun i x H H' Z0 Z1 hi fr hy h0 h1 => ?_) hY (fun H fr hl => hd H fr (by rw [kept_all] at hl; exact hl))
  refine hgm _ _ _ _ (fun σ2 H2 z => ⟨z.1, ?_⟩) (hs i x H H' Z1 hi fr hy (h1 rfl))
  show (if true = true then te σ2 H2 Z1 else Z0 H2)
  rw [if_pos rfl]
  exact z.2
theorem gName_mono {j : Nat} {τ : L2.St} (x : V) (H : Hp) (Z Z' : L2.St → Hp → Prop) (m : ∀ σ2 H2, Z σ2 H2 → Z' σ2 H2) (h : gName j x τ H Z) : gName j x τ H Z' := m _ _ h
theorem gTup2_mono {K : PySem.W.Frag} {i j : Nat} {τ : L2.St} (x : V) (H : Hp) (Z Z' : L2.St → Hp → Prop) (m : ∀ σ2 H2, Z σ2 H2 → Z' σ2 H2) (h : gTup K 2 (gCons (gName i) (gCons (gName j) gNil)) x τ H Z) : gTup K 2 (gCons (gName i) (gCons (gName j) gNil)) x τ H Z' := by
  obtain ⟨a, xs, e1, e2, e3, v, r, e4, v2, r2, e5, e6, h⟩ := h
  exact ⟨a, xs, e1, e2, e3, v, r, e4, v2, r2, e5, e6, m _ _ h⟩
theorem gTup3_mono {K : PySem.W.Frag} {i j k : Nat} {τ : L2.St} (x : V) (H : Hp) (Z Z' : L2.St → Hp → Prop) (m : ∀ σ2 H2, Z σ2 H2 → Z' σ2 H2) (h : gTup K 3 (gCons (gName i) (gCons (gName j) (gCons (gName k) gNil))) x τ H Z) : gTup K 3 (gCons (gName i) (gCons (gName j) (gCons (gName k) gNil))) x τ H Z' := by
  obtain ⟨a, xs, e1, e2, e3, v, r, e4, v2, r2, e5, v3, r3, e6, e7, h⟩ := h
  exact ⟨a, xs, e1, e2, e3, v, r, e4, v2, r2, e5, v3, r3, e6, e7, m _ _ h⟩
theorem yat_fr {xs : List V} {i : Nat} {H H' : Hp} {x : V} (y : YAt xs i H x H') : Fr [] H H' := by
  obtain ⟨e, _⟩ := y
  subst e
  exact .refl _ _
theorem yfn_fr {f : Nat → V} {i : Nat} {H H' : Hp} {x : V} (y : YFn f i H x H') : Fr [] H H' := by
  obtain ⟨e, _⟩ := y
  subst e
  exact .refl _ _
theorem ypair_fr {f h : Nat → Option V} {i : Nat} {H H' : Hp} {x : V} (y : YPair f h i H x H') : Fr [] H H' := by
  obtain ⟨T, x, z, _, hT, e, _⟩ := y
  subst e
  exact .new hT
end

/-! ### a pen: a list of two ints -/
def Pen (H : Hp) (p : Addr) : Prop := ∃ x f, H p = some (.lst [.int x, .int f])
theorem Pen.ne {H : Hp} {p q : Addr} (h : Pen H p) (n : H q = none) : p ≠ q := by
  obtain ⟨x, f, h⟩ := h
  exact ne_of_none h n
theorem Pen.up {H : Hp} {p q : Addr} {o : HO} (h : Pen H p) (n : H q = none) : Pen (upd H q o) p := by
  have z := h.ne n
  obtain ⟨x, f, h⟩ := h
  exact ⟨x, f, by rw [upd_ne z]; exact h⟩
theorem Pen.fr {L : List Addr} {H H' : Hp} {p : Addr} (h : Pen H p) (f : Fr L H H') (hp : p ∉ L) : Pen H' p := by
  obtain ⟨x, f', h⟩ := h
  exact ⟨x, f', f.ne h hp⟩
/-! a comprehension whose elements are drawn by a pen; R: what is known of each element, whatever comes newly -/
section
variable {J : It} {n : Nat} {G : Hp → Prop} {Y : Nat → Hp → V → Hp → Prop} {g : TG} {te : TE} {vs : List Nat} {σ : L2.St} {H1 : Hp} {D : Addr} {Qd : Hp → Prop}
theorem lc_pen (w : Walk J n G Y) (p : Addr) (R : Nat → Hp → V → Prop) (hR : ∀ i H H' v, Fr [p, D] H H' → R i H v → R i H' v) (hp : Pen H1 p) (hD : H1 D = none) (hn : n ≤ 1000000) (hG : ∀ H', Fr [p] H1 H' → G H')
    (hs : ∀ i x H H' (Z1 : V → Hp → Prop), i < n → Fr [p] H1 H → Pen H' p → Y i H x H' → (∀ y H4, Fr [p] H' H4 → Pen H4 p → R i H4 y → Z1 y H4) →
      g x (wipe σ vs) H' fun σ2 H2 => wipe σ2 vs = wipe σ vs ∧ te σ2 H2 Z1)
    (hgm : ∀ x H (Z Z' : L2.St → Hp → Prop), (∀ σ2 H2, Z σ2 H2 → Z' σ2 H2) → g x (wipe σ vs) H Z → g x (wipe σ vs) H Z')
    (hY : ∀ i H x H', Fr [p] H1 H → Y i H x H' → Fr [] H H')
    (hd : ∀ H ys, Fr [p] H1 H → Pen H p → H D = some (.lst ys) → ys.length = n → (∀ i y, ys[i]? = some y → R i H y) → Qd H) :
    ∃ W : Nat → Nat → Hp → Prop, (∃ m, W 0 m (upd H1 D (.lst []))) ∧ ∀ i m H, W i m H →
      (J.stop i H ∧ Qd H) ∨ (J.go i H ∧ ∃ Nx : Hp → Prop, (∀ H', Nx H' → ∃ m', m' < m ∧ W (i + 1) m' H') ∧ ∀ x H', J.yld i H x H' → g x (wipe σ vs) H' fun σ2 H2 => wipe σ2 vs = wipe σ vs ∧ tYes σ2 H2 fun b H3 =>
        if b = true then te σ2 H3 fun y H4 => ∃ acc, H4 D = some (.lst acc) ∧ acc.length < sizeLine ∧ Nx (upd H4 D (.lst (acc ++ [y]))) else Nx H3) := by
  have npD : p ≠ D := hp.ne hD
  refine lc_it w (fun i H => Fr [p] H1 H ∧ Pen H p ∧ ∃ ys, H D = some (.lst ys) ∧ ys.length = i ∧ ∀ i y, ys[i]? = some y → R i H y) ⟨.new hD, hp.up hD, [], upd_same, rfl, fun i y e => by simp at e⟩ (fun i H _ q => hG H q.1) ?_
    (fun H ⟨q1, q2, ys, q3, q4, q5⟩ => hd H ys q1 q2 q3 q4 q5)
  rintro i x H H' hi ⟨fr, pn, ys, hl, el, hr⟩ hy
  have f0 := hY i H x H' fr hy
  have key : g x (wipe σ vs) H' fun σ2 H2 => wipe σ2 vs = wipe σ vs ∧ te σ2 H2 (fun y H4 => ∃ acc, H4 D = some (.lst acc) ∧ acc.length < sizeLine ∧ (Fr [p] H1 (upd H4 D (.lst (acc ++ [y]))) ∧ Pen (upd H4 D (.lst (acc ++ [y]))) p ∧ ∃ ys, (upd H4 D (.lst (acc ++ [y]))) D = some (.lst ys) ∧ ys.length = i + 1 ∧ ∀ j y', ys[j]? = some y' → R j (upd H4 D (.lst (acc ++ [y]))) y')) := by
    refine hs i x H H' _ hi fr (pn.fr f0 fun z => nomatch z) hy fun y H4 f4 pn4 r4 => ?_
    · have nD : D ∉ [p] := fun z => npD (List.mem_singleton.mp z).symm
      have h4 := f4.ne (f0.at hl) nD
      have f04 : Fr [p] H H4 := (f0.mono fun l z => nomatch z).trans f4
      have fw : Fr [p, D] H4 (upd H4 D (.lst (ys ++ [y]))) := .wr h4 trivial (by simp)
      refine ⟨ys, h4, ?_, (fr.trans f04).put h4 trivial (.inr hD), ?_, ys ++ [y], upd_same, by rw [List.length_append]; show _ + 1 = _; omega, fun j z ej => ?_⟩
      · have e : sizeLine = 16777216 := sizeLine_eq
        omega
      · obtain ⟨a, b, e⟩ := pn4
        exact ⟨a, b, by rw [upd_ne npD]; exact e⟩
      · by_cases hj : j < ys.length
        · rw [List.getElem?_append_left hj] at ej
          exact hR _ _ _ _ fw (hR _ _ _ _ (f04.mono fun l z => .inl (by cases List.mem_singleton.mp z; simp)) (hr j z ej))
        · have hj2 := (List.getElem?_eq_some_iff.mp ej).1
          rw [List.length_append] at hj2
          have hj3 : j < ys.length + 1 := hj2
          have ej2 : j = ys.length := by omega
          subst ej2
          simp at ej
          subst ej
          rw [el]
          exact hR _ _ _ _ fw r4
  refine hgm _ _ _ _ (fun σ2 H2 z => ⟨z.1, ?_⟩) key
  unfold tYes
  dsimp only
  try rw [if_pos rfl]
  exact z.2
end
/-- the ints of such a list -/
theorem ints_of {ys : List V} {Pr : Int → Prop} : (∀ (i : Nat) (y : V), ys[i]? = some y → ∃ z, y = V.int z ∧ Pr z) → ∃ ns : List Int, ys = ns.map V.int ∧ ∀ z ∈ ns, Pr z := by
  induction ys with
  | nil => exact fun _ => ⟨[], rfl, fun _ h => nomatch h⟩
  | cons y r ih =>
    intro h
    obtain ⟨z, e, hz⟩ := h 0 y rfl
    obtain ⟨ns, e2, h2⟩ := ih fun i x e => h (i + 1) x (by simpa using e)
    refine ⟨z :: ns, by rw [e, e2]; rfl, fun x hx => ?_⟩
    rcases List.mem_cons.mp hx with rfl | hx
    · exact hz
    · exact h2 x hx

section
variable {X : Cx}
theorem pe_gint {x : Str} {i : Int} {pos : Pos} (hg : Gl X x) (hm : ∃ t, X.mg x = some (.int i t)) (hd : (x == ("__debug__" : Str)) = false := by decide) : PE X (.Name x pos) (tC (.int i)) := by
  obtain ⟨t, hm⟩ := hm
  exact pe_glob hg hm ⟨t, rfl⟩ hd
end
theorem tYes_if {σ : L2.St} {H : Hp} {A C : Hp → Prop} (h : A H) : tYes σ H (fun b H3 => if b = true then A H3 else C H3) := by
  unfold tYes
  exact iteT h
theorem ite_b {b : Bool} {A C : Prop} (h1 : b = true → A) (h2 : b = false → C) : if b = true then A else C := by
  cases b with
  | true => exact iteT (h1 rfl)
  | false => exact iteF (h2 rfl)
end B

namespace B
open PySem PySem.Spec PyProof.Rows L2
/-- a target that is an attribute of an instance -/
def gFld (K : PySem.W.Frag) (to : TE) (f : Str) : TG := fun v σ H Q => to σ H fun x H1 => ∃ a C dx fs, x = .ref a ∧ H1 a = some (.ins C dx fs) ∧ Cls K C ∧ NoAttr K C f ∧ fs.length < 1000 ∧ Q σ (upd H1 a (.ins C dx (putF f v fs)))
theorem pg_fld {X : Cx} {o : Expr} {f : Str} {to : TE} {pos : Pos} (ho : PE X o to) : PG X (.Attribute o f pos) (gFld X.K to f) := by
  refine ⟨fun pins s σ H v u Q I r h => ?_⟩
  rw [assign_Attribute]
  refine wpAny_bind (wpAny_holding (thn (ho.run pins s σ H _ I h) fun ov s1 ⟨x, H1, I1, r1, q1⟩ => ?_))
  obtain ⟨a, C, dx, fs, ex, ea, c, n, l, q2⟩ := q1
  subst ex
  obtain rfl : ov = Value.ref a := r1
  exact wpAny_bind (wpAny_standAt (wpAny_bind (wpAny_holding (setattr_ok I1 ea c n l r fun s3 I3 => wpAny_release ⟨σ, _, I3, q2⟩))))
/-- len(set(a list of ints)) -/
def tLenSet (K : PySem.W.Frag) (ta : TE) : TE := fun σ H Q => ta σ H fun x H1 => ∃ (l : Addr) (ns : List Int), x = .ref l ∧ SqL K H1 l (ns.map V.int) ∧ ns.length ≤ 4000 ∧ Q (.int ((PyProof.Rows.firstMet (fun i => ns.getD i 0) ns.length).length : Nat)) H1
theorem pe_lenSet {X : Cx} {a : Expr} {ta : TE} {p p2 q pos : Pos} (hg : Gl X "len") (hm : X.mg "len" = none) (hg2 : Gl X "set") (hm2 : X.mg "set" = none) (ha : PE X a ta) (hc : X.calm = true := by rfl)
    (na : starEach [a] X.env = (false, eval a X.env) :: starEach [] X.env := by rfl) : PE X (.Call (.Name "len" p) [.Call (.Name "set" p2) [a] [] q] [] pos) (tLenSet X.K ta) := by
  refine ⟨fun pins s σ H Q I h => ?_⟩
  refine Call_ (ld_blt I hg hm boot_len ?_)
  refine PyProof.Rows.callWith_builtin1 (PyProof.Rows.args_cons ?_ rfl) rfl rfl
  refine Call_ (ld_blt I hg2 hm2 boot_set ?_)
  refine PyProof.Rows.callWith_type1 (PyProof.Rows.args_cons (thn (ha.run pins s σ H _ I h) fun v s1 ⟨x, H1, I1, r1, q1⟩ => PyProof.Rows.args_nil ?_) na) na rfl
  obtain ⟨l, ns, rfl, hq, hl, q1⟩ := q1
  cases r1
  obtain ⟨its, r, pl, hz⟩ := I1.list hq
  have hlen : its.toArray.size = ns.length := by rw [List.size_toArray, ← r.length, List.length_map]
  have hle := PyProof.Rows.firstMet_length_le (fun i => ns.getD i 0) ns.length
  refine call_set_list (I1.ok.hd hc) pl.isList (by simpa using RZ.intsAre_vals r) (by rw [hlen]; unfold scanBound; omega) fun h' tk hS hk => ?_
  refine PyProof.Rows.args_nil ?_
  rw [hlen] at hS
  obtain ⟨o, es, ep, t, ho, hex, hd, _, _, _, hf, hn⟩ := hS
  have I2 : Inv X pins σ H1 { s1 with heap := h', toks := tk } := I1.kept fun b o e => hk b o (Heap.lt_size e) e
  exact call_len_set ho hex hd hf (by rw [hn] <;> omega) ⟨.int _, H1, I2.tok _, ⟨_, by rw [hn]⟩, q1⟩
end B
namespace B
open PySem PySem.Spec PyProof.Rows L2
section
variable {X : Cx}
theorem pe_lcX {elt tg iter : Expr} {ifs : List Expr} {scope : Scope} (own : List (Str × Nat)) {pos : Pos} {wi : TI} {g : TG} {tt : TT} {te : TE} (hc : X.calm = true) (hN : X.N.Nodup) (hi : PI X tg iter wi) (ok : BlkOk X.N X.env.scope scope own)
    (hg : ∀ (s : Shared) (H : Hp) (C : Addr) (cl : List (Str × Addr)) (fp : List Addr), PG (X.blk s H scope (compEnvC scope cl C X.env) fp) tg g) (ht : ∀ (s : Shared) (H : Hp) (C : Addr) (cl : List (Str × Addr)) (fp : List Addr), PTs (X.blk s H scope (compEnvC scope cl C X.env) fp) ifs tt)
    (he : ∀ (s : Shared) (H : Hp) (C : Addr) (cl : List (Str × Addr)) (fp : List Addr), PE (X.blk s H scope (compEnvC scope cl C X.env) fp) elt te) (hs : ∀ x, foldedSetIterable iter X.env x = pure x) :
    PE X (.ListComp elt [⟨tg, iter, ifs, 0⟩] scope pos) (tLc wi g tt te (own.map (·.2))) := pe_lc hc hN hi ok hg ht he hs
theorem ps_setLcX {y : Str} {py : Pos} {elt tg iter : Expr} {ifs : List Expr} {scope : Scope} (i : Nat) (own : List (Str × Nat)) {pos spos : Pos} {wi : TI} {g : TG} {tt : TT} {te : TE} (hy : X.N[i]? = some y) (hyl : X.env.scope.names.lookup y = some .local)
    (hsw : swapsWith (.ListComp elt [⟨tg, iter, ifs, 0⟩] scope pos) (some (.Name y py)) spos.line X.env = pure true) (hc : X.calm = true) (hN : X.N.Nodup) (hi : PI X tg iter wi) (ok : BlkOk X.N X.env.scope scope own)
    (hg : ∀ (s : Shared) (H : Hp) (C : Addr) (cl : List (Str × Addr)) (fp : List Addr), PG (X.blk s H scope (compEnvC scope cl C X.env) fp) tg g) (ht : ∀ (s : Shared) (H : Hp) (C : Addr) (cl : List (Str × Addr)) (fp : List Addr), PTs (X.blk s H scope (compEnvC scope cl C X.env) fp) ifs tt)
    (he : ∀ (s : Shared) (H : Hp) (C : Addr) (cl : List (Str × Addr)) (fp : List Addr), PE (X.blk s H scope (compEnvC scope cl C X.env) fp) elt te) (hs : ∀ x, foldedSetIterable iter X.env x = pure x) :
    PS X (.Assign [.Name y py] (.ListComp elt [⟨tg, iter, ifs, 0⟩] scope pos) spos) (tAsg (tLc wi g tt te (own.map (·.2))) (gName i)) := ps_setLc hc hN hy hyl hsw hi ok hg ht he hs
theorem pg_tupX {es : List Expr} {k : Nat} {pos : Pos} {t : TGs} {n : Nat} (hc : X.calm = true) (hn : (assignEach es X.env).length = n) (hst : (assignEach es X.env).findIdx? (·.1) = none) (h : PGs X es t) : PG X (.Tuple es k pos) (gTup X.K n t) := pg_tup hc h hn hst
theorem pgs_consX {e : Expr} {es : List Expr} {t : TG} {u : TGs} (hs : (assignEach (e :: es) X.env).map (·.2) = assign e X.env :: (assignEach es X.env).map (·.2)) (h1 : PG X e t) (h2 : PGs X es u) : PGs X (e :: es) (gCons t u) := pgs_cons h1 h2 hs
theorem pg_nameX (i : Nat) {x : Str} {pos : Pos} (hN : X.N.Nodup) (hi : X.N[i]? = some x) (hx : Loc X.env.scope x) (hf : X.fn x = true ∨ X.env.scope.names.lookup x = some .local) : PG X (.Name x pos) (gName i) := pg_name hN hi hx hf
end
end B

namespace B
open PySem PySem.Spec PyProof.Rows L2
/-! ### enumerate(a tuple) -/
set_option maxHeartbeats 1000000 in
theorem meets_enum1 {v : Value} {o : Obj} {H : Heap → Prop} (B : Begins v o H) :
    Meets (Builtin.«enumerate.__new__» ⟨[.type "enumerate", v], []⟩) (fun _ R s => H s.heap ∧
      R (.ok (.ret (.ref (s.heap.push o).objs.size))) { s with heap := (s.heap.push o).push { cls := .type "enumerate", data := .fields #[.none, .bool false, .ref s.heap.objs.size, rawInt 0, .none, .none] } }) :=
  .of_wp fun prog w A R s h => by
    obtain ⟨hp, g, d, tk, os⟩ := s; obtain ⟨h1, h⟩ := h
    have hsub := sub_enumerate
    have q1 : ∀ {A' : Around} {E : Value → Shared → Prop} {Q : Value → Shared → Prop}, Q (.ref hp.objs.size) ⟨hp.push o, g, d, tk, os⟩ → wpAny (model prog w) A' (pyIter v) Q E ⟨hp, g, d, tk, os⟩ :=
      fun q => B.iter prog w _ _ ⟨hp, g, d, tk, os⟩ _ h1 q
    wp_walk using q1
    refine wpAny_stack_any fun st => wpAny_pure ?_
    split
    · rename_i c _ _ _ _ _
      cases (c == Value.type "enumerate")
      · wp_walk using q1
        exact ⟨_, rfl, h⟩
      · wp_walk using q1
        exact ⟨_, rfl, h⟩
    · wp_walk using q1
      exact ⟨_, rfl, h⟩
theorem call_enum1 {prog : Program} {w : World} {A : Around} {E : Value → Shared → Prop} {s : Shared} {v : Value} {o : Obj} {H : Heap → Prop} {Q : Value → Shared → Prop} (B : Begins v o H) (h1 : H s.heap)
    (h : ∀ h', IsEnum h' (s.heap.objs.size + 1) s.heap.objs.size 0 .none → h'.get? s.heap.objs.size = some o → h'.objs.size = s.heap.objs.size + 2 →
      (∀ b o, s.heap.get? b = some o → h'.get? b = some o) → Q (.ref (s.heap.objs.size + 1)) { s with heap := h' }) :
    wpAny (model prog w) A (call (.type "enumerate") [v]) Q E s := by
  refine callType_new F.called_enumerate (by decide) (F.typeCall_enumerate_1 _) (F.newCall_enumerate_1 _) (fun obj => F.args_object_init_2 obj _) F.entry_enumerate_new
    (meets_enum1 B) ⟨h1, ?_⟩
  have hz : (s.heap.push o).objs.size = s.heap.objs.size + 1 := Heap.size_push ..
  show _ ∧ _
  rw [hz]
  have he : IsEnum ((s.heap.push o).push { cls := .type "enumerate", data := .fields #[.none, .bool false, .ref s.heap.objs.size, rawInt 0, .none, .none] }) (s.heap.objs.size + 1) s.heap.objs.size 0 .none := by
    have := Heap.get?_push_size (s.heap.push o) (o := { cls := .type "enumerate", data := .fields #[.none, .bool false, .ref s.heap.objs.size, rawInt 0, .none, .none] }) rfl
    rw [hz] at this; exact this
  refine ⟨⟨_, he, rfl⟩, h _ he (Heap.get?_push_of_some _ (Heap.get?_push_size _ B.free)) (by rw [Heap.size_push, hz]) fun b o x => Heap.get?_push_of_some _ (Heap.get?_push_of_some _ x)⟩
theorem pyNext_enumT_end {prog : Program} {w : World} {A : Around} {E : Value → Shared → Prop} {s : Shared} {e it l : Addr} {i : Nat} {items : Array Value} {old : Value} {Q : Option Value → Shared → Prop} (hh : A.handled = none)
    (he : IsEnum s.heap e it i old) (hit : s.heap.IsTupleIter it l i) (hl : s.heap.IsTuple l items) (hx : items[i]? = none)
    (hQ : ∀ h', Heap.ExtBut it s.heap h' → Q none { s with heap := h' }) : wpAny (model prog w) A (pyNext (.ref e)) Q E s := by
  have hT : s.TypeIs (.ref e) "enumerate" := ⟨_, he, rfl⟩
  unfold pyNext
  refine wpAny_bind (wpAny_attempt (wpAny_callSpecial?_slot (name := Str.ofString "__next__") hT F.slot_enumerate_next
    (wpAny_call_entry F.slot_enumerate_next hT F.entry_enumerate_next ?_ (F.args_enumerate_next_1 _))))
  show wpAny _ _ (field (.ref e) 2 >>= _) _ _ _
  refine wpAny_bind (wpAny_field he rfl (x := .ref it) rfl ?_)
  refine wpAny_bind (wpAny_nextOf_tuple_end hh hit hl hx fun h' x he' hx' => ?_)
  obtain ⟨o, ho, hc⟩ := hx'
  refine wpAny_bind (wpAny_isInstance (T := "StopIteration") (b := true) ⟨o, ho, hc⟩ isSubtype_stop ?_)
  exact wpAny_pure (hQ _ he')
/-- the tuple at a, each item in a new pair -/
def IteT (K : PySem.W.Frag) (a : Addr) : It :=
  ⟨fun i H => ∃ (xs : List V) (x : V), SqT K H a xs ∧ xs[i]? = some x, fun i H v H' => ∃ T x, v = .ref T ∧ H T = none ∧ H' = upd H T (.tup [.int (i : Nat), x]) ∧ ∀ xs, SqT K H a xs → xs[i]? = some x, fun i H => ∃ xs : List V, SqT K H a xs ∧ xs.length ≤ i⟩
theorem turn_enumT {P : Program} {w : World} {K : PySem.W.Frag} {elts : List Expr} {kk : Nat} {tpos : Pos} (a e it : Addr) (hae : a ≠ it) :
    Turn P w K (.Tuple elts kk tpos) (IteT K a) [e, it] e (fun i h => (∃ old, IsEnum h e it ((i : Nat) : Int) old) ∧ h.IsTupleIter it a i ∧ e ≠ it ∧ e ≠ a) where
  mem := by simp
  obj := fun i h st b hb => by
    obtain ⟨⟨old, he⟩, ⟨o, ho, hc, hd⟩, _⟩ := st
    have e' : b = e ∨ b = it := by simpa using hb
    rcases e' with z | z
    · rw [z]; exact ⟨_, he, fun v q => nomatch q⟩
    · rw [z]; exact ⟨o, ho, fun v q => by rw [hd] at q; cases q⟩
  keep := fun i h h' st k => let ⟨⟨old, he⟩, hi, hne⟩ := st; ⟨⟨old, k e (by simp) _ he⟩, hi.at fun o q => k it (by simp) o q, hne⟩
  item := by
    intro X hP hw hK hc i pins s σ H E I hf st hg
    subst hP hw hK
    obtain ⟨⟨old, he⟩, hit, hne, hea⟩ := st
    obtain ⟨xs, x, hq, hx⟩ := hg
    obtain ⟨its, rv, p, hz⟩ := I.tuple hq
    obtain ⟨u, hu, ru⟩ := rv.get hx
    have hel : e < s.heap.objs.size := Heap.lt_size he
    have hil : it < s.heap.objs.size := by obtain ⟨_, q, _⟩ := hit; exact Heap.lt_size q
    have hi : i < its.toArray.size := by
      obtain ⟨z, _⟩ := List.getElem?_eq_some_iff.mp hu
      simpa using z
    refine wpAny_pyNext_enum_itemD (Draws.tuple (A := X.A.in1) (show X.A.in1.handled = none from I.ok.hd hc) it a hae its.toArray) he ⟨hit, p⟩ hi hne (by simp [hne, hea]) fun y h' tk hy ho hit' hT hsz hk => ?_
    have ey : y = u := by
      have hy' : its[i]? = some y := by simpa using hy
      rw [hu] at hy'
      exact (Option.some.inj hy').symm
    subst ey
    refine ⟨_, rfl, wpAny_letOwnedTupleGo_enum (s := { s with heap := h', toks := tk + 1 }) ho fun h'' he' sb => ?_⟩
    have hT2 : h''.get? s.heap.objs.size = some { cls := .type "tuple", data := .seq #[.int i tk, y] } := (sb.2 _ (Nat.ne_of_gt hel)).trans hT
    have new : ObjOk X.prog X.w (upd H s.heap.objs.size (.tup [.int (i : Nat), x])) h'' s.heap.objs.size (.tup [.int (i : Nat), x]) :=
      ⟨by show 2 ≤ sizeLine; decide, [.int i tk, y], .cons ⟨_, rfl⟩ (.cons ru .nil), ⟨_, hT2, rfl, _, rfl⟩⟩
    have I1 : Inv X pins σ (upd H s.heap.objs.size (.tup [.int (i : Nat), x])) { s with heap := h'', toks := tk + 1 } :=
      I.turnedNew (ch := [e, it]) (fun b ob hb q => (sb.2 b (fun z => hb (by simp [z]))).trans (hk b ob (fun z => hb (by simp [z])) (fun z => hb (by simp [z])) q)) hf (Nat.le_refl _) new
    refine ⟨.ref s.heap.objs.size, _, I1, rfl, ⟨_, x, rfl, I.hok.fresh (Nat.le_refl _), rfl, fun ys hy => by rw [I.tuple_inj hy hq]; exact hx⟩, ⟨⟨y, ?_⟩, hit'.1.at fun o q => (sb.2 it (Ne.symm hne)).trans q, hne, hea⟩, fun b hb => ?_⟩
    · have e1 : ((i + 1 : Nat) : Int) = (i : Int) + 1 := by omega
      rw [e1]; exact he'
    · have hb' : b < s.heap.objs.size := by
        have e' : b = e ∨ b = it := by simpa using hb
        rcases e' with z | z
        · rw [z]; exact hel
        · rw [z]; exact hil
      rw [upd_ne (Nat.ne_of_lt hb')]
      exact (hf b hb).1
  done := by
    intro X hP hw hK hc i pins s σ H E I hf st hg
    subst hP hw hK
    obtain ⟨⟨old, he⟩, hit, hne, hea⟩ := st
    obtain ⟨xs, hq, hx⟩ := hg
    obtain ⟨its, rv, p, hz⟩ := I.tuple hq
    obtain ⟨f0, f1, f2, f3, f4, f5⟩ := hf it (by simp)
    have hl := rv.length
    exact pyNext_enumT_end (I.ok.hd hc) he hit p (by simp; omega) fun h' eb => ⟨rfl, I.turned (t' := s.toks) (fun b o hb q => eb b o hb q) f0 f1 f3 f4 f5⟩
  self := fun A i s Q E st h => let ⟨⟨_, he⟩, _⟩ := st; wpAny_pyIter_enum he h
def iEnumT (K : PySem.W.Frag) (ta : TA) : TI := fun σ H R => ta σ H fun vs H1 => ∃ a xs, vs = [.ref a] ∧ SqT K H1 a xs ∧ R (IteT K a) H1
theorem pi_enumT {X : Cx} (K : PySem.W.Frag) {e : Expr} {ta : TA} {p pos tpos : Pos} {elts : List Expr} {kk : Nat} (hK : X.K = K) (hg : Gl X "enumerate") (hm : X.mg "enumerate" = none) (ha : PA X [e] ta) (hs : starEach [e] X.env = [(false, eval e X.env)]) :
    PI X (.Tuple elts kk tpos) (.Call (.Name "enumerate" p) [e] [] pos) (iEnumT K ta) := by
  subst hK
  refine ⟨fun pins s σ H R I h => ?_⟩
  refine Call_ (ld_blt I hg hm boot_enumerate (PyProof.Rows.callWith_type1 (thn (ha.run pos pins s σ H _ I h) fun us s1 ⟨vs, H1, I1, r1, q1⟩ => ?_) hs rfl))
  obtain ⟨a, xs, ex, hq, q⟩ := q1
  subst ex
  cases r1 with
  | cons r rr =>
    cases rr
    cases r
    obtain ⟨its, rv, p', hz⟩ := I1.tuple hq
    have hal : a < s1.heap.objs.size := by obtain ⟨o, e, _⟩ := p'; exact Heap.lt_size e
    refine call_enum1 (begins_tuple a its.toArray) p' fun h' he hit hsz hk => wpAny_pyIter_enum he ?_
    have I2 : Inv X pins σ H1 { s1 with heap := h' } := I1.kept (t' := s1.toks) hk
    refine ⟨s1.heap.objs.size + 1, [s1.heap.objs.size + 1, s1.heap.objs.size], _, _, H1, rfl, I2, turn_enumT a (s1.heap.objs.size + 1) s1.heap.objs.size (Nat.ne_of_lt hal), ⟨⟨.none, he⟩, ⟨_, hit, rfl, rfl⟩, Nat.succ_ne_self _, fun z => Nat.lt_irrefl a (Nat.lt_of_lt_of_le hal (by rw [← z]; exact Nat.le_succ _))⟩, fun b hb => ?_, q⟩
    have e' : b = s1.heap.objs.size + 1 ∨ b = s1.heap.objs.size := by simpa using hb
    have hle : s1.heap.objs.size ≤ b := by
      rcases e' with z | z
      · rw [z]; exact Nat.le_add_right _ _
      · rw [z]; exact Nat.le_refl _
    exact I1.fpOk hle (I1.hok.fresh hle)
theorem walk_enumT {K : PySem.W.Frag} {a : Addr} {xs : List V} : Walk (IteT K a) xs.length (fun H => SqT K H a xs) (YPair (fun i => some (.int (i : Nat))) (fun i => xs[i]?)) := by
  refine ⟨fun i _ hi q => ⟨xs, xs[i], q, by simp [hi]⟩, fun _ q => ⟨xs, q, Nat.le_refl _⟩, fun i H v H' _ q y => ?_⟩
  obtain ⟨T, x, h1, h2, h3, h4⟩ := y
  exact ⟨T, .int (i : Nat), x, h1, h2, h3, rfl, h4 xs q⟩
/-! ### the rules with K by its name, for the inside of comprehensions -/
section
variable {X : Cx} (K : PySem.W.Frag)
theorem ix_listK (h : X.K = K) : IxR X (rIxL K) := by subst h; exact ix_list
theorem ix_tupK (h : X.K = K) : IxR X (rIxT K) := by subst h; exact ix_tup
theorem sl_listK (h : X.K = K) : SlR X (rSlL K) := by subst h; exact sl_list
theorem sl_tupAK (h : X.K = K) : SlR X (rSlA K) := by subst h; exact sl_tupA
theorem op_in_seqK (h : X.K = K) : OpR X (compareOp .In) (rIn K false) := by subst h; exact op_in_seq
theorem op_notIn_seqK (h : X.K = K) : OpR X (compareOp .NotIn) (rIn K true) := by subst h; exact op_notIn_seq
theorem op_catAK (h : X.K = K) : OpR X (binaryOp .Add) (rCatA K) := by subst h; exact op_catA
theorem op_eqDK (h : X.K = K) (hu : X.A.units + 64 < cLine) : OpR X (compareOp .Eq) (rEqD K) := by subst h; exact op_eqD hu
theorem op_neDK (h : X.K = K) (hu : X.A.units + 64 < cLine) : OpR X (compareOp .NotEq) (rNeD K) := by subst h; exact op_neD hu
def rLenS : List V → Hp → VK → Prop := fun xs H Q => ∃ p ys, xs = [.ref p] ∧ (SqL K H p ys ∨ SqT K H p ys) ∧ Q (.int ys.length) H
def rTupOf : List V → Hp → VK → Prop := fun xs H Q => ∃ p ys, xs = [.ref p] ∧ ((SqL K H p ys ∧ ∀ l, H l = none → Q (.ref l) (upd H l (.tup ys))) ∨ (SqT K H p ys ∧ Q (.ref p) H))
def rListOf : List V → Hp → VK → Prop := fun xs H Q => ∃ p ys, xs = [.ref p] ∧ (SqL K H p ys ∨ SqT K H p ys) ∧ ∀ l, H l = none → Q (.ref l) (upd H l (.lst ys))
theorem call_lenK (h : X.K = K) : CallR X (.builtin "len") (rLenS K) := by subst h; exact call_len_seq
theorem call_tupleK (h : X.K = K) : CallR X (.type "tuple") (rTupOf K) := by subst h; exact call_tuple_of
theorem call_listK (h : X.K = K) : CallR X (.type "list") (rListOf K) := by subst h; exact call_list_of
theorem call_isiK' (h : X.K = K) : CallR X (.builtin "isinstance") (rIsi K) := by subst h; exact call_isi
theorem cr_allK (h : X.K = K) (hc : X.calm = true) : CallR X (.builtin "all") (rAll K) := by subst h; exact cr_all hc
theorem cr_anyK (h : X.K = K) (hc : X.calm = true) : CallR X (.builtin "any") (rAny K) := by subst h; exact cr_any hc
theorem cr_sumK (h : X.K = K) (hc : X.calm = true) : CallR X (.builtin "sum") (rSum K) := by subst h; exact cr_sum hc
theorem pe_fldK {e : Expr} {f : Str} {pos : Pos} {ta : TE} (h : X.K = K) (hb : attributeBase e f X.env (eval e X.env) = eval e X.env) (he : PE X e ta) : PE X (.Attribute e f pos) (tFld K ta f) := by subst h; exact pe_fld he hb
theorem pi_listK {tg l : Expr} {tl : TE} (h : X.K = K) (hl : PE X l tl) : PI X tg l (iList K tl) := by subst h; exact pi_list hl
theorem pi_tupK {tg l : Expr} {tl : TE} (h : X.K = K) (hl : PE X l tl) : PI X tg l (iTup K tl) := by subst h; exact pi_tup hl
theorem pi_enumK {e : Expr} {ta : TA} {p pos tpos : Pos} {elts : List Expr} {kk : Nat} (h : X.K = K) (hg : Gl X "enumerate") (hm : X.mg "enumerate" = none) (ha : PA X [e] ta) (hs : starEach [e] X.env = [(false, eval e X.env)]) :
    PI X (.Tuple elts kk tpos) (.Call (.Name "enumerate" p) [e] [] pos) (iEnum K ta) := by subst h; exact pi_enum hg hm ha hs
theorem pi_zipK {e e2 : Expr} {ta : TA} {p pos tpos : Pos} {elts : List Expr} {kk : Nat} (h : X.K = K) (hg : Gl X "zip") (hm : X.mg "zip" = none) (ha : PA X [e, e2] ta)
    (hs : starEach [e, e2] X.env = (false, eval e X.env) :: starEach [e2] X.env) (hpl : (backTo pos (starEach [e2] X.env)).any (·.1) = false) :
    PI X (.Tuple elts kk tpos) (.Call (.Name "zip" p) [e, e2] [] pos) (RZ.iZipA K ta) := by subst h; exact RZ.pi_zipA hg hm ha hs hpl
theorem pg_tupK {es : List Expr} {k : Nat} {pos : Pos} {t : TGs} {n : Nat} (h : X.K = K) (hc : X.calm = true) (hn : (assignEach es X.env).length = n) (hst : (assignEach es X.env).findIdx? (·.1) = none) (hp : PGs X es t) : PG X (.Tuple es k pos) (gTup K n t) := by subst h; exact pg_tup hc hp hn hst
theorem pg_fldK {o : Expr} {f : Str} {to : TE} {pos : Pos} (h : X.K = K) (ho : PE X o to) : PG X (.Attribute o f pos) (gFld K to f) := by subst h; exact pg_fld ho
theorem pe_bmK {T : String} {id : String} {name : Str} {r : V → List V → Hp → VK → Prop} {o : Expr} {e : Expr} {es : List Expr} {to : TE} {t : TA} {apos cpos : Pos} (h : X.K = K) (pa : PlainAttrs T) (slot : Slot T name id) (hty : typeOf (.builtin id) = pure (.type "method_descriptor")) (hm : MtR X id r) (ho : PE X o to) (ha : PA X (e :: es) t)
    (hbase : attributeBase o name X.env (eval o X.env) = eval o X.env := by rfl)
    (hfew : ((backTo cpos (starEach (e :: es) X.env)).all (fun x => !x.1) && (backToKw cpos (keywordEach [] X.env)).all (fun x => x.1.isSome)
      && decide ((e :: es).length + ([] : List Keyword).length + (if ([] : List Keyword).isEmpty then 0 else 1) < 30)) = true := by rfl)
    (hline : (apos.endLine == cpos.line) = true := by rfl) (hs : starEach (e :: es) X.env = (false, eval e X.env) :: starEach es X.env := by rfl) (hplain : (backTo cpos (starEach es X.env)).any (·.1) = false := by rfl) :
    PE X (.Call (.Attribute o name apos) (e :: es) [] cpos) (tBM K T r to t) := by subst h; exact pe_bm pa slot hty hm ho ha hbase hfew hline hs hplain
theorem pe_bm0K {T : String} {id : String} {name : Str} {r : V → List V → Hp → VK → Prop} {o : Expr} {to : TE} {apos cpos : Pos} (h : X.K = K) (pa : PlainAttrs T) (slot : Slot T name id) (hty : typeOf (.builtin id) = pure (.type "method_descriptor")) (hm : MtR X id r) (ho : PE X o to)
    (hbase : attributeBase o name X.env (eval o X.env) = eval o X.env := by rfl) (hline : (apos.endLine == cpos.line) = true := by rfl) : PE X (.Call (.Attribute o name apos) [] [] cpos) (tBM0 K T r to) := by subst h; exact pe_bm0 pa slot hty hm ho hbase hline
end
end B

namespace B
open PySem PySem.Spec PyProof.Rows L2
/-! ### data compared -/
mutual
theorem eqv_self : ∀ d : PyData, d.canLay0 = true → PyData.eqv d d = true
  | .none, _ => by rw [PyData.eqv]
  | .bool b, _ => by rw [PyData.eqv]; exact beq_self_eq_true b
  | .int i, _ => by rw [PyData.eqv]; exact beq_self_eq_true i
  | .str x, _ => by rw [PyData.eqv]; exact beq_self_eq_true x
  | .list xs, h => by rw [PyData.eqv]; exact eqvAll_self xs (by simpa only [PyData.canLay0] using h)
  | .tuple xs, h => by rw [PyData.eqv]; exact eqvAll_self xs (by simpa only [PyData.canLay0] using h)
  | .dict _, h => by simp [PyData.canLay0] at h
theorem eqvAll_self : ∀ ds : List PyData, PyData.canLayAll0 ds = true → PyData.eqvAll ds ds = true
  | [], _ => by rw [PyData.eqvAll]
  | d :: ds, h => by
    have h' : d.canLay0 = true ∧ PyData.canLayAll0 ds = true := by simpa [PyData.canLayAll0] using h
    rw [PyData.eqvAll, eqv_self d h'.1, eqvAll_self ds h'.2]
    rfl
end
theorem canAll_of {ds : List PyData} : (∀ d ∈ ds, d.canLay0 = true) → PyData.canLayAll0 ds = true := by
  induction ds with
  | nil => exact fun _ => by simp [PyData.canLayAll0]
  | cons d ds ih =>
    intro h
    simp only [PyData.canLayAll0, h d (List.mem_cons_self ..), ih fun x hx => h x (List.mem_cons_of_mem _ hx), Bool.and_self]
theorem depthAll_of {ds : List PyData} {n : Nat} : (∀ d ∈ ds, d.depth ≤ n) → PyData.depthAll ds ≤ n := by
  induction ds with
  | nil => exact fun _ => by simp [PyData.depthAll]
  | cons d ds ih =>
    intro h
    have h1 := h d (List.mem_cons_self ..)
    have h2 := ih fun x hx => h x (List.mem_cons_of_mem _ hx)
    simp only [PyData.depthAll]
    omega
/-- data that == may look at, at most n deep -/
def Ok (n : Nat) (d : PyData) : Prop := d.canLay0 = true ∧ d.depth ≤ n
theorem Ok.int (n : Nat) (i : Int) : Ok n (.int i) := ⟨by simp [PyData.canLay0], by simp [PyData.depth]⟩
theorem Ok.bool (n : Nat) (i : Bool) : Ok n (.bool i) := ⟨by simp [PyData.canLay0], by simp [PyData.depth]⟩
theorem Ok.tup {n : Nat} {ds : List PyData} (h : ∀ d ∈ ds, Ok n d) : Ok (n + 1) (.tuple ds) :=
  ⟨by simp only [PyData.canLay0]; exact canAll_of fun d hd => (h d hd).1, by simp only [PyData.depth]; have := depthAll_of fun d hd => (h d hd).2; omega⟩
theorem Ok.lst {n : Nat} {ds : List PyData} (h : ∀ d ∈ ds, Ok n d) : Ok (n + 1) (.list ds) :=
  ⟨by simp only [PyData.canLay0]; exact canAll_of fun d hd => (h d hd).1, by simp only [PyData.depth]; have := depthAll_of fun d hd => (h d hd).2; omega⟩
theorem Ok.ints (ns : List Int) : Ok 1 (.tuple (ns.map PyData.int)) := Ok.tup fun d hd => by
  obtain ⟨i, _, rfl⟩ := List.mem_map.mp hd
  exact Ok.int 0 i
theorem Ok.lints (ns : List Int) : Ok 1 (.list (ns.map PyData.int)) := Ok.lst fun d hd => by
  obtain ⟨i, _, rfl⟩ := List.mem_map.mp hd
  exact Ok.int 0 i
theorem Ok.shaped {n : Nat} {d : PyData} (h : Ok n d) (hn : n ≤ 64 := by decide) : SeqAt.shaped d = true := by
  unfold SeqAt.shaped
  rw [h.1, decide_eq_true (Nat.le_trans h.2 hn)]
  rfl
theorem Ok.self {n : Nat} {d : PyData} (h : Ok n d) : PyData.eqv d d = true := eqv_self d h.1
theorem eqv_int (i j : Int) : PyData.eqv (.int i) (.int j) = (i == j) := by rw [PyData.eqv]
theorem eqvAll_ints : ∀ (a b : List Int), PyData.eqvAll (a.map PyData.int) (b.map PyData.int) = decide (a = b)
  | [], [] => by simp [PyData.eqvAll]
  | [], _ :: _ => by simp [PyData.eqvAll]
  | _ :: _, [] => by simp [PyData.eqvAll]
  | x :: xs, y :: ys => by
    rw [List.map_cons, List.map_cons, PyData.eqvAll, eqvAll_ints xs ys, eqv_int]
    by_cases h1 : x = y <;> by_cases h2 : xs = ys <;> simp [h1, h2]
/-- the tuple of tuples of ints -/
def lotsD (lots : List (List Int)) : PyData := .tuple (lots.map fun l => .tuple (l.map PyData.int))
theorem Ok.lots (lots : List (List Int)) : Ok 2 (lotsD lots) := Ok.tup fun d hd => by
  obtain ⟨l, _, rfl⟩ := List.mem_map.mp hd
  exact Ok.ints l
theorem dp_ints {K : PySem.W.Frag} {H : Hp} {a : Addr} {ns : List Int} (h : SqL K H a (ns.map V.int)) : Dp K H (.ref a) (.list (ns.map PyData.int)) := .lst h (Ims.ints ns).dp
theorem pe_lenSetK {X : Cx} (K : PySem.W.Frag) {a : Expr} {ta : TE} {p p2 q pos : Pos} (h : X.K = K) (hg : Gl X "len") (hm : X.mg "len" = none) (hg2 : Gl X "set") (hm2 : X.mg "set" = none) (ha : PE X a ta) (hc : X.calm = true)
    (na : starEach [a] X.env = (false, eval a X.env) :: starEach [] X.env) : PE X (.Call (.Name "len" p) [.Call (.Name "set" p2) [a] [] q] [] pos) (tLenSet K ta) := by
  subst h
  exact pe_lenSet hg hm hg2 hm2 ha hc na
theorem firstMet_mem (ns : List Int) : ∀ z ∈ PyProof.Rows.firstMet (fun i => ns.getD i 0) ns.length, z ∈ ns := fun z hz => by
  have h := PyProof.Rows.firstMet_any (fun i => ns.getD i 0) ns.length z
  rw [List.any_eq_true.mpr ⟨z, hz, by simp⟩] at h
  obtain ⟨x, hx, e⟩ := List.any_eq_true.mp h.symm
  obtain ⟨i, hi, rfl⟩ := List.mem_map.mp hx
  have hi' := List.mem_range.mp hi
  have e2 : ns.getD i 0 = z := by simpa using e
  rw [← e2, List.getD_eq_getElem?_getD, List.getElem?_eq_getElem hi']
  exact List.getElem_mem hi'
theorem firstMet_nd (val : Nat → Int) : ∀ i, (PyProof.Rows.firstMet val i).Nodup
  | 0 => List.nodup_nil
  | i + 1 => by
    have ih := firstMet_nd val i
    rw [PyProof.Rows.firstMet_succ]
    unfold PyProof.Rows.step_dedup
    split
    · exact ih
    · rename_i h
      rw [List.nodup_append]
      refine ⟨ih, by simp, fun a ha b hb => ?_⟩
      cases List.mem_singleton.mp hb
      intro e
      subst e
      exact h (List.any_eq_true.mpr ⟨_, ha, by simp⟩)
/-! ### tuple + tuple -/
theorem catA_of {K : PySem.W.Frag} {H : Hp} {a b : Addr} {xs ys : List V} {Q : VK} (ha : SqT K H a xs) (hb : SqT K H b ys) (hl : xs.length + ys.length ≤ 1000000) (q : ∀ p H', Fr [] H H' → SqT K H' p (xs ++ ys) → Q (.ref p) H') : rCatA K (.ref a) (.ref b) H Q := by
  refine ⟨a, b, xs, ys, rfl, rfl, ha, hb, Nat.le_trans hl (by decide), fun e => ?_, fun _ e => ?_, fun _ _ p np => ?_⟩
  · subst e
    exact q b H (.refl _ _) hb
  · subst e
    exact q a H (.refl _ _) (by rw [List.append_nil]; exact ha)
  · exact q p _ (.new np) (sqT_of upd_same)
theorem slA_of {K : PySem.W.Frag} {H : Hp} {a : Addr} {xs : List V} {lo hi : Option Int} {Q : VK} (ha : SqT K H a xs) (q : ∀ p H', Fr [] H H' → SqT K H' p (cutV xs lo hi) → Q (.ref p) H') : rSlA K (.ref a) lo hi H Q := by
  refine ⟨a, xs, rfl, ha, fun e => ?_, fun _ p np => q p _ (.new np) (sqT_of upd_same)⟩
  refine q a H (.refl _ _) ?_
  have z : cutV xs lo hi = xs := by
    unfold cutV
    rw [e.1, e.2]
    simp
  rw [z]
  exact ha
/-! ### comprehensions that make data -/
theorem Ims.snoc {K : PySem.W.Frag} {H : Hp} {d : PyData} {y : V} : ∀ {ds : List PyData} {ys : List V}, Ims K H ds ys → Im K H d y → Ims K H (ds ++ [d]) (ys ++ [y])
  | [], _, h, hy => by cases h; exact ⟨y, [], rfl, hy, rfl⟩
  | _ :: _, _, ⟨x, r, e, h1, h2⟩, hy => by cases e; exact ⟨x, r ++ [y], rfl, h1, Ims.snoc h2 hy⟩
section
variable {K : PySem.W.Frag} {J : It} {n : Nat} {G : Hp → Prop} {Y : Nat → Hp → V → Hp → Prop} {g : TG} {tt : TT} {te : TE} {vs : List Nat} {σ : L2.St} {H1 : Hp} {D : Addr} {Qd : Hp → Prop}
theorem lc_dat (w : Walk J n G Y) (d : Nat → PyData) (hD : H1 D = none) (hn : n ≤ 1000000) (hG : ∀ H', Fr [] H1 H' → G H')
    (hs : ∀ i x H H' (Z1 : V → Hp → Prop), i < n → Fr [] H1 H → Y i H x H' → (∀ y H4, Fr [] H' H4 → Im K H4 (d i) y → Z1 y H4) →
      g x (wipe σ vs) H' fun σ2 H2 => wipe σ2 vs = wipe σ vs ∧ te σ2 H2 Z1)
    (hgm : ∀ x H (Z Z' : L2.St → Hp → Prop), (∀ σ2 H2, Z σ2 H2 → Z' σ2 H2) → g x (wipe σ vs) H Z → g x (wipe σ vs) H Z')
    (hY : ∀ i H x H', Fr [] H1 H → Y i H x H' → Fr [] H H')
    (hd : ∀ H ys, Fr [] H1 H → H D = some (.lst ys) → Ims K H ((List.range n).map d) ys → Qd H) :
    ∃ W : Nat → Nat → Hp → Prop, (∃ m, W 0 m (upd H1 D (.lst []))) ∧ ∀ i m H, W i m H →
      (J.stop i H ∧ Qd H) ∨ (J.go i H ∧ ∃ Nx : Hp → Prop, (∀ H', Nx H' → ∃ m', m' < m ∧ W (i + 1) m' H') ∧ ∀ x H', J.yld i H x H' → g x (wipe σ vs) H' fun σ2 H2 => wipe σ2 vs = wipe σ vs ∧ tYes σ2 H2 fun b H3 =>
        if b = true then te σ2 H3 fun y H4 => ∃ acc, H4 D = some (.lst acc) ∧ acc.length < sizeLine ∧ Nx (upd H4 D (.lst (acc ++ [y]))) else Nx H3) := by
  refine lc_it w (fun i H => Fr [] H1 H ∧ ∃ ys, H D = some (.lst ys) ∧ Ims K H ((List.range i).map d) ys) ⟨.new hD, [], upd_same, rfl⟩ (fun i H _ q => hG H q.1) ?_
    (fun H ⟨q1, ys, q3, q4⟩ => hd H ys q1 q3 q4)
  rintro i x H H' hi ⟨fr, ys, hl, hr⟩ hy
  have f0 := hY i H x H' fr hy
  have key : g x (wipe σ vs) H' fun σ2 H2 => wipe σ2 vs = wipe σ vs ∧ te σ2 H2 (fun y H4 => ∃ acc, H4 D = some (.lst acc) ∧ acc.length < sizeLine ∧ (Fr [] H1 (upd H4 D (.lst (acc ++ [y]))) ∧ ∃ ys, (upd H4 D (.lst (acc ++ [y]))) D = some (.lst ys) ∧ Ims K (upd H4 D (.lst (acc ++ [y]))) ((List.range (i + 1)).map d) ys)) := by
    refine hs i x H H' _ hi fr hy fun y H4 f4 r4 => ?_
    have h4 := (f0.trans f4).at hl
    have fw : Fr [D] H4 (upd H4 D (.lst (ys ++ [y]))) := .wr h4 trivial (by simp)
    refine ⟨ys, h4, ?_, ((fr.trans f0).trans f4).put h4 trivial (.inr hD), ys ++ [y], upd_same, ?_⟩
    · have e : sizeLine = 16777216 := sizeLine_eq
      have e2 := hr.len
      rw [List.length_map, List.length_range] at e2
      omega
    · rw [List.range_succ, List.map_append]
      exact ((hr.mono (f0.trans f4)).mono fw).snoc (r4.mono fw)
  refine hgm _ _ _ _ (fun σ2 H2 z => ⟨z.1, ?_⟩) key
  unfold tYes
  dsimp only
  try rw [if_pos rfl]
  exact z.2
end
theorem range_map_getD {α : Type} (xs : List α) (d0 : α) : (List.range xs.length).map (fun i => xs.getD i d0) = xs := by
  apply List.ext_getElem
  · simp
  · intro i h1 h2
    simp [List.getElem?_eq_getElem h2]
theorem range_map_get {α β : Type} (xs : List α) (d0 : α) (f : α → β) : (List.range xs.length).map (fun i => f (xs.getD i d0)) = xs.map f := by
  have h := congrArg (List.map f) (range_map_getD xs d0)
  rw [List.map_map] at h
  exact h
/-- the values kept by a test, of a list of ints -/
theorem kept_ints (c : Int → Bool) (f : Int → Int) (xs : List Int) : ∀ i, i ≤ xs.length → kept (fun i => c (xs.getD i 0)) (fun i => .int (f (xs.getD i 0))) i = (((xs.take i).filter c).map f).map V.int
  | 0, _ => rfl
  | i + 1, h => by
    have ih := kept_ints c f xs i (by omega)
    have e : xs[i]? = some (xs.getD i 0) := by
      rw [List.getD_eq_getElem?_getD, List.getElem?_eq_getElem (by omega)]
      rfl
    have e2 : xs.take (i + 1) = xs.take i ++ [xs.getD i 0] := by
      rw [List.take_add_one, e]
      rfl
    rw [e2, List.filter_append, List.map_append, List.map_append, ← ih]
    cases hc : c (xs.getD i 0) with
    | true =>
      rw [kept_yes hc, List.filter_cons, if_pos hc]
      rfl
    | false =>
      rw [kept_no hc, List.filter_cons, if_neg (by rw [hc]; decide)]
      show _ = _ ++ []
      rw [List.append_nil]
theorem kept_intsAll (c : Int → Bool) (f : Int → Int) (xs : List Int) : kept (fun i => c (xs.getD i 0)) (fun i => .int (f (xs.getD i 0))) xs.length = ((xs.filter c).map f).map V.int := by
  rw [kept_ints c f xs _ (Nat.le_refl _), List.take_length]
theorem getD_of {α : Type} {xs : List α} {i : Nat} {x d0 : α} (h : xs[i]? = some x) : xs.getD i d0 = x := by
  rw [List.getD_eq_getElem?_getD, h]
  rfl
theorem map_at {α β : Type} {f : α → β} {xs : List α} {i : Nat} {y : β} (h : (xs.map f)[i]? = some y) : ∃ x, xs[i]? = some x ∧ y = f x := by
  rw [List.getElem?_map] at h
  cases e : xs[i]? with
  | none => rw [e] at h; cases h
  | some x => rw [e] at h; exact ⟨x, rfl, (Option.some.inj h).symm⟩
end B

namespace B
open PySem PySem.Spec PyProof.Rows L2
section
variable {K : PySem.W.Frag} {mg : Str → Option Value} {h : Heap}
theorem defAt_mk {x : Str} {st : Stmt} {ps : List Str} {f : Addr} {oc : Value} {od an : Option Addr} {sl : Array (Option Value)} {kV dc pm cd ct : Value} (X : K.In h) (G : h.Ns mainGlobals mg) (a : PySem.W.nsIn K mainGlobals x = some (some (.ref f)))
    (l : K.lookup f = some ⟨oc, od, .func (PySem.W.fnOf x x (defArgs st) (defBody st) (defScope st) .none kV dc pm an cd ct), sl⟩) (c : PySem.W.codeIn K cd x = true) (k : PySem.W.keepIn K (.ref f) = true)
    (hb : ∀ (kV doc pm : Value) (an : Option Addr) (cdv ct : Value) (us : List Value), us.length = ps.length → bindArgs (PySem.W.fnOf x x (defArgs st) (defBody st) (defScope st) .none kV doc pm an cdv ct) ⟨us, []⟩ = pure (ps.zip us)) : DefAt K mg x st ps :=
  ⟨f, _, fun_mk l c k, PySem.W.mg_of X G a, (fun_mk (st := st) l c k).binds hb⟩
theorem metAt_mk {C : Addr} {m qual : Str} {st : Stmt} {ps : List Str} {f : Addr} {oc : Value} {od an : Option Addr} {sl : Array (Option Value)} {kV dc pm cd ct : Value} (cl : Cls K C) (me : Meth K C m f)
    (l : K.lookup f = some ⟨oc, od, .func (PySem.W.fnOf m qual (defArgs st) (defBody st) (defScope st) .none kV dc pm an cd ct), sl⟩) (c : PySem.W.codeIn K cd qual = true) (k : PySem.W.keepIn K (.ref f) = true)
    (hb : ∀ (kV doc pm : Value) (an : Option Addr) (cdv ct : Value) (us : List Value), us.length = ps.length → bindArgs (PySem.W.fnOf m qual (defArgs st) (defBody st) (defScope st) .none kV doc pm an cdv ct) ⟨us, []⟩ = pure (ps.zip us)) : MetAt K C m qual st ps :=
  ⟨f, _, fun_mk l c k, me, cl, (fun_mk (st := st) l c k).binds hb⟩
theorem iniAt_mk {x : Str} {C : Addr} {qual : Str} {st : Stmt} {ps : List Str} {f : Addr} {oc : Value} {od an : Option Addr} {sl : Array (Option Value)} {kV dc pm cd ct : Value} (hm : mg x = some (.ref C)) (M : Mk K C f)
    (l : K.lookup f = some ⟨oc, od, .func (PySem.W.fnOf "__init__" qual (defArgs st) (defBody st) (defScope st) .none kV dc pm an cd ct), sl⟩) (c : PySem.W.codeIn K cd qual = true) (k : PySem.W.keepIn K (.ref f) = true)
    (hb : ∀ (kV doc pm : Value) (an : Option Addr) (cdv ct : Value) (us : List Value), us.length = ps.length → bindArgs (PySem.W.fnOf "__init__" qual (defArgs st) (defBody st) (defScope st) .none kV doc pm an cdv ct) ⟨us, []⟩ = pure (ps.zip us)) : IniAt K mg x C qual st ps :=
  ⟨f, _, fun_mk l c k, M, hm, (fun_mk (st := st) l c k).binds hb⟩
end
end B

/-! The near store's mathematics: lots of lines, one touch after another. -/
namespace Lru
def lotPut (ways : Int) (lot : List Int) (z : Int) : List Int :=
  if ((lot.erase z ++ [z]).length : Int) > ways then (lot.erase z ++ [z]).drop 1 else lot.erase z ++ [z]
def at' (lots : List (List Int)) (z : Int) : Nat := (z % (lots.length : Int)).toNat
def lotOf (lots : List (List Int)) (z : Int) : List Int := lots.getD (at' lots z) []
def touch (ways line : Int) (lots : List (List Int)) (o : Int) : List (List Int) := lots.set (at' lots (o / line)) (lotPut ways (lotOf lots (o / line)) (o / line))
def miss (line : Int) (lots : List (List Int)) (o : Int) : Bool := !decide ((o / line) ∈ lotOf lots (o / line))
def fresh (sets : Int) : List (List Int) := List.replicate sets.toNat []
/-- the lots behind the first i touches -/
def after (ways line : Int) (lots : List (List Int)) (os : List Int) (i : Nat) : List (List Int) := (os.take i).foldl (touch ways line) lots
def missAt (ways line : Int) (lots : List (List Int)) (os : List Int) (i : Nat) : Bool := miss line (after ways line lots os i) (os.getD i 0)
theorem touch_len (ways line : Int) (lots : List (List Int)) (o : Int) : (touch ways line lots o).length = lots.length := by
  unfold touch
  rw [List.length_set]
theorem after_zero (ways line : Int) (lots : List (List Int)) (os : List Int) : after ways line lots os 0 = lots := rfl
theorem take_succ {α : Type} : ∀ {l : List α} {i : Nat} {x : α}, l[i]? = some x → l.take (i + 1) = l.take i ++ [x]
  | [], i, x, h => by simp at h
  | a :: l, 0, x, h => by
    have e : a = x := Option.some.inj h
    subst e
    rfl
  | a :: l, i + 1, x, h => by
    have ih := take_succ (l := l) (i := i) (x := x) h
    show a :: l.take (i + 1) = a :: l.take i ++ [x]
    rw [ih]
    rfl
theorem after_succ {ways line : Int} {lots : List (List Int)} {os : List Int} {i : Nat} {o : Int} (h : os[i]? = some o) : after ways line lots os (i + 1) = touch ways line (after ways line lots os i) o := by
  unfold after
  rw [take_succ h, List.foldl_append]
  rfl
theorem after_all (ways line : Int) (lots : List (List Int)) (os : List Int) : after ways line lots os os.length = os.foldl (touch ways line) lots := by
  unfold after
  rw [List.take_length]
theorem fold_len (ways line : Int) : ∀ (os : List Int) (lots : List (List Int)), (os.foldl (touch ways line) lots).length = lots.length
  | [], _ => rfl
  | o :: os, lots => by
    show (os.foldl (touch ways line) (touch ways line lots o)).length = _
    rw [fold_len ways line os, touch_len]
theorem after_len (ways line : Int) (lots : List (List Int)) (os : List Int) (i : Nat) : (after ways line lots os i).length = lots.length := fold_len _ _ _ _
theorem lotPut_len {ways : Int} {lot : List Int} {z : Int} (hw : 1 ≤ ways) (h : (lot.length : Int) ≤ ways) : ((lotPut ways lot z).length : Int) ≤ ways := by
  have h1 := List.length_erase_le (a := z) (l := lot)
  unfold lotPut
  split
  · rw [List.length_drop, List.length_append]
    show ((lot.erase z).length + 1 - 1 : Nat) ≤ ways
    omega
  · omega
/-- each lot has at most ways lines -/
def Few (ways : Int) (lots : List (List Int)) : Prop := ∀ l ∈ lots, (l.length : Int) ≤ ways
theorem Few.fresh {ways sets : Int} (h : 0 ≤ ways) : Few ways (fresh sets) := fun l hl => by
  unfold Lru.fresh at hl
  have := List.eq_of_mem_replicate hl
  subst this
  exact h
theorem getD_mem {lots : List (List Int)} {i : Nat} : lots.getD i [] ∈ lots ∨ lots.getD i [] = [] := by
  rw [List.getD_eq_getElem?_getD]
  cases e : lots[i]? with
  | none => exact .inr rfl
  | some l => exact .inl (List.mem_of_getElem? e)
theorem Few.lot {ways : Int} {lots : List (List Int)} (h : Few ways lots) (hw : 0 ≤ ways) (z : Int) : ((lotOf lots z).length : Int) ≤ ways := by
  rcases getD_mem (lots := lots) (i := at' lots z) with m | e
  · exact h _ m
  · unfold lotOf; rw [e]; exact hw
theorem Few.touch {ways line : Int} {lots : List (List Int)} {o : Int} (hw : 1 ≤ ways) (h : Few ways lots) : Few ways (touch ways line lots o) := fun l hl => by
  rcases List.mem_or_eq_of_mem_set hl with m | e
  · exact h l m
  · subst e
    exact lotPut_len hw (h.lot (by omega) _)
theorem Few.fold {ways line : Int} (hw : 1 ≤ ways) : ∀ (os : List Int) {lots : List (List Int)}, Few ways lots → Few ways (os.foldl (Lru.touch ways line) lots)
  | [], _, h => h
  | o :: os, lots, h => Few.fold hw os (h.touch hw)
theorem Few.after {ways line : Int} {lots : List (List Int)} (hw : 1 ≤ ways) (h : Few ways lots) (os : List Int) (i : Nat) : Few ways (after ways line lots os i) := Few.fold hw _ h
/-- the places missed among the first i touches -/
def missedUp (ways line : Int) (lots : List (List Int)) (os : List Int) (i : Nat) : List Int := ((List.range i).filter (fun j => missAt ways line lots os j)).map (fun j : Nat => (j : Int))
theorem missedUp_yes {ways line : Int} {lots : List (List Int)} {os : List Int} {i : Nat} (h : missAt ways line lots os i = true) : missedUp ways line lots os (i + 1) = missedUp ways line lots os i ++ [(i : Int)] := by
  unfold missedUp
  rw [List.range_succ, List.filter_append, List.map_append, List.filter_cons, if_pos h] <;> rfl
theorem missedUp_no {ways line : Int} {lots : List (List Int)} {os : List Int} {i : Nat} (h : missAt ways line lots os i = false) : missedUp ways line lots os (i + 1) = missedUp ways line lots os i := by
  unfold missedUp
  rw [List.range_succ, List.filter_append, List.map_append, List.filter_cons, if_neg (by rw [h]; decide)]
  show _ ++ [] = _
  rw [List.append_nil]
theorem missedUp_len (ways line : Int) (lots : List (List Int)) (os : List Int) (i : Nat) : (missedUp ways line lots os i).length ≤ i := by
  unfold missedUp
  rw [List.length_map]
  have h := List.length_filter_le (fun j => missAt ways line lots os j) (List.range i)
  rw [List.length_range] at h
  exact h
/-- near's missed, kept -/
def missed (sets ways line : Int) (os : List Int) : List Int := missedUp ways line (fresh sets) os os.length
def kept (sets ways line : Int) (os : List Int) : List (List Int) := os.foldl (touch ways line) (fresh sets)
end Lru

/-! The near store's mathematics, second part: rows one behind the other, what is kept, touched again. -/
namespace Lru
/-- the places missed, k the first place's number -/
def missedR (ways line : Int) : List (List Int) → List Int → Int → List Int
  | _, [], _ => []
  | lots, o :: os, k => if miss line lots o = true then k :: missedR ways line (touch ways line lots o) os (k + 1) else missedR ways line (touch ways line lots o) os (k + 1)
theorem missedR_cons (ways line : Int) (lots : List (List Int)) (o : Int) (os : List Int) (k : Int) : missedR ways line lots (o :: os) k = if miss line lots o = true then k :: missedR ways line (touch ways line lots o) os (k + 1) else missedR ways line (touch ways line lots o) os (k + 1) := by rw [missedR]
theorem after_cons (ways line : Int) (lots : List (List Int)) (o : Int) (os : List Int) (i : Nat) : after ways line lots (o :: os) (i + 1) = after ways line (touch ways line lots o) os i := rfl
theorem missAt_cons (ways line : Int) (lots : List (List Int)) (o : Int) (os : List Int) (i : Nat) : missAt ways line lots (o :: os) (i + 1) = missAt ways line (touch ways line lots o) os i := rfl
theorem missAt_zero (ways line : Int) (lots : List (List Int)) (o : Int) (os : List Int) : missAt ways line lots (o :: os) 0 = miss line lots o := rfl
theorem missedUp_cons (ways line : Int) (lots : List (List Int)) (o : Int) (os : List Int) (n : Nat) :
    missedUp ways line lots (o :: os) (n + 1) = (if miss line lots o = true then [0] else []) ++ (missedUp ways line (touch ways line lots o) os n).map (fun x => x + 1) := by
  unfold missedUp
  rw [List.range_succ_eq_map, List.filter_cons, missAt_zero, List.filter_map]
  have e : ((fun j => missAt ways line lots (o :: os) j) ∘ Nat.succ) = fun j => missAt ways line (touch ways line lots o) os j := rfl
  rw [e]
  split
  · simp [List.map_map]
  · simp [List.map_map]
theorem missedR_shift (ways line : Int) : ∀ (os : List Int) (lots : List (List Int)) (k d : Int), (missedR ways line lots os k).map (fun x => x + d) = missedR ways line lots os (k + d)
  | [], _, _, _ => rfl
  | o :: os, lots, k, d => by
    unfold missedR
    have ih := missedR_shift ways line os (touch ways line lots o) (k + 1) d
    have e : k + 1 + d = k + d + 1 := by omega
    rw [e] at ih
    split
    · rw [List.map_cons, ih]
    · exact ih
theorem missedUp_R (ways line : Int) : ∀ (os : List Int) (lots : List (List Int)), missedUp ways line lots os os.length = missedR ways line lots os 0
  | [], _ => rfl
  | o :: os, lots => by
    show missedUp ways line lots (o :: os) (os.length + 1) = _
    rw [missedUp_cons, missedUp_R ways line os, missedR_shift, missedR_cons]
    split <;> simp
theorem missed_R (sets ways line : Int) (os : List Int) : missed sets ways line os = missedR ways line (fresh sets) os 0 := missedUp_R _ _ _ _
theorem missedR_append (ways line : Int) : ∀ (a b : List Int) (lots : List (List Int)) (k : Int), missedR ways line lots (a ++ b) k = missedR ways line lots a k ++ missedR ways line (a.foldl (touch ways line) lots) b (k + a.length)
  | [], b, lots, k => by simp [missedR]
  | o :: a, b, lots, k => by
    show missedR ways line lots (o :: (a ++ b)) k = _
    have ih := missedR_append ways line a b (touch ways line lots o) (k + 1)
    have e : k + 1 + (a.length : Int) = k + ((o :: a).length : Int) := by rw [List.length_cons]; omega
    rw [e] at ih
    simp only [missedR]
    split
    · rw [ih]; rfl
    · rw [ih]; rfl
theorem missedR_in (ways line : Int) : ∀ (os : List Int) (lots : List (List Int)) (k x : Int), x ∈ missedR ways line lots os k → k ≤ x ∧ x < k + os.length
  | [], _, _, _, h => nomatch h
  | o :: os, lots, k, x, h => by
    have ih := missedR_in ways line os (touch ways line lots o) (k + 1) x
    rw [List.length_cons]
    unfold missedR at h
    split at h
    · rcases List.mem_cons.mp h with rfl | h
      · omega
      · have := ih h; omega
    · have := ih h; omega
theorem missedR_len (ways line : Int) : ∀ (os : List Int) (lots : List (List Int)) (k : Int), (missedR ways line lots os k).length ≤ os.length
  | [], _, _ => Nat.le_refl _
  | o :: os, lots, k => by
    have ih := missedR_len ways line os (touch ways line lots o) (k + 1)
    unfold missedR
    split
    · rw [List.length_cons, List.length_cons]; omega
    · rw [List.length_cons]; omega
theorem kept_append (sets ways line : Int) (a b : List Int) : kept sets ways line (a ++ b) = b.foldl (touch ways line) (kept sets ways line a) := by
  unfold kept
  rw [List.foldl_append]
/-- what is missed behind the first row, counted from there -/
theorem missed_behind (sets ways line : Int) (a b : List Int) :
    ((missed sets ways line (a ++ b)).filter (fun x => decide ((a.length : Int) ≤ x))).map (fun x => x - (a.length : Int)) = missedR ways line (kept sets ways line a) b 0 := by
  rw [missed_R, missedR_append, List.filter_append, List.map_append]
  have e1 : (missedR ways line (fresh sets) a 0).filter (fun x => decide ((a.length : Int) ≤ x)) = [] := by
    rw [List.filter_eq_nil_iff]
    intro x hx
    have := missedR_in _ _ _ _ _ _ hx
    simp
    omega
  have e2 : (missedR ways line (a.foldl (touch ways line) (fresh sets)) b (0 + a.length)).filter (fun x => decide ((a.length : Int) ≤ x)) = missedR ways line (a.foldl (touch ways line) (fresh sets)) b (0 + a.length) := by
    rw [List.filter_eq_self]
    intro x hx
    have := missedR_in _ _ _ _ _ _ hx
    simp
    omega
  rw [e1, e2]
  show [] ++ _ = _
  rw [List.nil_append]
  have e3 : (fun x : Int => x - (a.length : Int)) = fun x => x + (-(a.length : Int)) := by funext x; omega
  rw [e3, missedR_shift]
  have e4 : (0 : Int) + a.length + (-(a.length : Int)) = 0 := by omega
  rw [e4]
  rfl
/-! ### the lots as they are -/
def place (n : Nat) (z : Int) : Nat := (z % (n : Int)).toNat
theorem at_place (lots : List (List Int)) (z : Int) : at' lots z = place lots.length z := rfl
theorem place_lt {n : Nat} (h : 0 < n) (z : Int) : place n z < n := by
  unfold place
  have h1 := Int.emod_nonneg z (show (n : Int) ≠ 0 by omega)
  have h2 := Int.emod_lt_of_pos z (show (0 : Int) < n by omega)
  omega
structure Inv (ways : Int) (lots : List (List Int)) : Prop where
  lot : ∀ (i : Nat) (l : List Int), lots[i]? = some l → l.Nodup ∧ (l.length : Int) ≤ ways ∧ ∀ z ∈ l, place lots.length z = i
theorem Inv.fresh {ways sets : Int} (h : 0 ≤ ways) : Inv ways (fresh sets) := ⟨fun i l e => by
  have := List.eq_of_mem_replicate (List.mem_of_getElem? e)
  subst this
  exact ⟨List.nodup_nil, h, fun z hz => nomatch hz⟩⟩
theorem lotPut_mem {ways : Int} {lot : List Int} {z x : Int} (h : x ∈ lotPut ways lot z) : x = z ∨ x ∈ lot := by
  have h2 : x ∈ lot.erase z ++ [z] := by
    unfold lotPut at h
    split at h
    · exact List.mem_of_mem_drop h
    · exact h
  rcases List.mem_append.mp h2 with h3 | h3
  · exact .inr (List.mem_of_mem_erase h3)
  · exact .inl (List.mem_singleton.mp h3)
theorem put_nodup {lot : List Int} {z : Int} (h : lot.Nodup) : (lot.erase z ++ [z]).Nodup := by
  rw [List.nodup_append]
  exact ⟨h.erase z, by simp, fun a ha b hb => by
    cases List.mem_singleton.mp hb
    intro e
    subst e
    exact (List.Nodup.not_mem_erase h) ha⟩
theorem lotPut_nodup {ways : Int} {lot : List Int} {z : Int} (h : lot.Nodup) : (lotPut ways lot z).Nodup := by
  unfold lotPut
  split
  · exact (List.drop_sublist 1 _).nodup (put_nodup h)
  · exact put_nodup h
theorem lotOf_at {lots : List (List Int)} {z : Int} (h : 0 < lots.length) : lots[at' lots z]? = some (lotOf lots z) := by
  unfold lotOf
  have := place_lt h z
  rw [at_place, List.getD_eq_getElem?_getD, List.getElem?_eq_getElem this]
  rfl
theorem Inv.touch {ways line : Int} {lots : List (List Int)} {o : Int} (hw : 1 ≤ ways) (I : Inv ways lots) (h : 0 < lots.length) : Inv ways (touch ways line lots o) := ⟨fun i l e => by
  rw [touch_len]
  unfold Lru.touch at e
  rw [List.getElem?_set] at e
  split at e
  · rename_i hj
    split at e
    · cases e
      obtain ⟨h1, h2, h3⟩ := I.lot _ _ (lotOf_at (z := o / line) h)
      refine ⟨lotPut_nodup h1, lotPut_len hw h2, fun z hz => ?_⟩
      rcases lotPut_mem hz with rfl | hz
      · rw [← hj]; rfl
      · rw [h3 z hz, hj]
    · cases e
  · exact I.lot i l e⟩
theorem Inv.fold {ways line : Int} (hw : 1 ≤ ways) : ∀ (os : List Int) {lots : List (List Int)}, Inv ways lots → 0 < lots.length → Inv ways (os.foldl (Lru.touch ways line) lots)
  | [], _, I, _ => I
  | o :: os, lots, I, h => Inv.fold hw os (I.touch hw h) (by rw [touch_len]; exact h)
/-- lines that belong to the j-th lot come to it, where there is room and none is there -/
theorem fill_lot {ways line : Int} (hl : 1 ≤ line) (j : Nat) : ∀ (zs : List Int) (lots : List (List Int)) (l0 : List Int) (k : Int), lots[j]? = some l0 → (∀ z ∈ zs, place lots.length z = j) → (l0 ++ zs).Nodup → ((l0 ++ zs).length : Int) ≤ ways →
    (zs.map fun z => z * line).foldl (touch ways line) lots = lots.set j (l0 ++ zs) ∧ (missedR ways line lots (zs.map fun z => z * line) k).length = zs.length
  | [], lots, l0, k, h, _, _, _ => by
    refine ⟨?_, rfl⟩
    rw [List.append_nil]
    show lots = lots.set j l0
    apply List.ext_getElem?
    intro i
    rw [List.getElem?_set]
    split
    · rename_i e
      subst e
      rw [h]
      have := (List.getElem?_eq_some_iff.mp h).1
      simp [this]
    · rfl
  | z :: zs, lots, l0, k, h, hp, nd, hw => by
    have hj := (List.getElem?_eq_some_iff.mp h).1
    have ez : z * line / line = z := Int.mul_ediv_cancel z (by omega)
    have hat : at' lots z = j := by rw [at_place]; exact hp z (List.mem_cons_self ..)
    have elot : lotOf lots z = l0 := by
      unfold lotOf
      rw [hat, List.getD_eq_getElem?_getD, h]
      rfl
    have hnz : z ∉ l0 := by
      have := (List.nodup_append.mp nd).2.2
      intro hz
      exact this z hz z (List.mem_cons_self ..) rfl
    have hput : lotPut ways l0 z = l0 ++ [z] := by
      unfold lotPut
      rw [List.erase_of_not_mem hnz, if_neg]
      rw [List.length_append] at hw ⊢
      rw [List.length_cons] at hw
      show ¬ (((l0.length + 1 : Nat) : Int) > ways)
      omega
    have htouch : touch ways line lots (z * line) = lots.set j (l0 ++ [z]) := by
      unfold touch
      rw [ez, hat, elot, hput]
    have hmiss : miss line lots (z * line) = true := by
      unfold miss
      rw [ez, elot, decide_eq_false hnz]
      rfl
    have h2 : (lots.set j (l0 ++ [z]))[j]? = some (l0 ++ [z]) := by
      rw [List.getElem?_set, if_pos rfl, if_pos hj]
    have ih := fill_lot hl j zs (lots.set j (l0 ++ [z])) (l0 ++ [z]) (k + 1) h2 (fun x hx => by rw [List.length_set]; exact hp x (List.mem_cons_of_mem _ hx)) (by simpa using nd) (by simpa using hw)
    rw [List.set_set] at ih
    refine ⟨?_, ?_⟩
    · show (zs.map fun z => z * line).foldl (touch ways line) (touch ways line lots (z * line)) = _
      rw [htouch, ih.1]
      simp
    · show (missedR ways line lots (z * line :: zs.map fun z => z * line) k).length = _
      unfold missedR
      rw [hmiss, if_pos rfl, htouch, List.length_cons, List.length_cons, ih.2]
def warm (line : Int) (lots : List (List Int)) : List Int := (lots.map fun l => l.map fun z => z * line).flatten
theorem fill_all {ways line : Int} (hl : 1 ≤ line) {n : Nat} : ∀ (rest done : List (List Int)) (k : Int), done.length + rest.length = n →
    (∀ (i : Nat) (l : List Int), rest[i]? = some l → l.Nodup ∧ (l.length : Int) ≤ ways ∧ ∀ z ∈ l, place n z = done.length + i) →
    (warm line rest).foldl (touch ways line) (done ++ List.replicate rest.length []) = done ++ rest ∧ (missedR ways line (done ++ List.replicate rest.length []) (warm line rest) k).length = (warm line rest).length
  | [], done, k, _, _ => by
    refine ⟨rfl, rfl⟩
  | l :: rest, done, k, hn, h => by
    have hlen : (done ++ List.replicate (l :: rest).length ([] : List Int)).length = n := by
      rw [List.length_append, List.length_replicate]
      exact hn
    obtain ⟨h1, h2, h3⟩ := h 0 l rfl
    have hat : (done ++ List.replicate (l :: rest).length ([] : List Int))[done.length]? = some [] := by
      rw [List.getElem?_append_right (Nat.le_refl _), Nat.sub_self]
      rfl
    have f := fill_lot (ways := ways) hl done.length l (done ++ List.replicate (l :: rest).length []) [] k hat (fun z hz => by rw [hlen]; have := h3 z hz; omega) (by simpa using h1) (by simpa using h2)
    have eset : (done ++ List.replicate (l :: rest).length ([] : List Int)).set done.length ([] ++ l) = (done ++ [l]) ++ List.replicate rest.length [] := by
      rw [List.set_append_right _ _ (Nat.le_refl _), Nat.sub_self, List.length_cons, List.replicate_succ, List.set_cons_zero]
      simp
    rw [eset] at f
    have ih := fill_all hl (n := n) rest (done ++ [l]) (k + (l.map fun z => z * line).length) (by rw [List.length_append]; rw [List.length_cons] at hn; show done.length + 1 + _ = _; omega) (fun i x hx => by
      obtain ⟨a, b, c⟩ := h (i + 1) x (by simpa using hx)
      refine ⟨a, b, fun z hz => ?_⟩
      rw [c z hz, List.length_append]
      show _ = done.length + 1 + i
      omega)
    have ew : warm line (l :: rest) = (l.map fun z => z * line) ++ warm line rest := rfl
    refine ⟨?_, ?_⟩
    · rw [ew, List.foldl_append, f.1, ih.1]
      simp
    · rw [ew, missedR_append, List.length_append, f.1, f.2, ih.2, List.length_append, List.length_map]
theorem pos_fresh {sets : Int} (h : 1 ≤ sets) : 0 < (fresh sets).length := by
  unfold fresh
  rw [List.length_replicate]
  omega
/-- k54: the warm touches bring a fresh store to what was kept, and each of them is missed -/
theorem warm_ok {sets ways line : Int} (s1 : 1 ≤ sets) (w1 : 1 ≤ ways) (l1 : 1 ≤ line) (os : List Int) :
    kept sets ways line (warm line (kept sets ways line os)) = kept sets ways line os ∧ (missed sets ways line (warm line (kept sets ways line os))).length = (warm line (kept sets ways line os)).length := by
  have I : Inv ways (kept sets ways line os) := Inv.fold w1 os (Inv.fresh (by omega)) (pos_fresh s1)
  have hl : (kept sets ways line os).length = (fresh sets).length := fold_len _ _ _ _
  have f := fill_all (ways := ways) l1 (n := (kept sets ways line os).length) (kept sets ways line os) [] 0 (by simp) (fun i l e => by
    obtain ⟨a, b, c⟩ := I.lot i l e
    exact ⟨a, b, fun z hz => by rw [c z hz]; simp⟩)
  have ef : ([] : List (List Int)) ++ List.replicate (kept sets ways line os).length [] = fresh sets := by
    rw [hl]
    unfold fresh
    simp
  rw [ef] at f
  refine ⟨?_, ?_⟩
  · exact f.1
  · rw [missed_R]
    exact f.2
end Lru

/-! A promise of a def that runs where no repr is under way (the law's own def, and what it calls): FnG. With it repr(data) is told. -/
namespace B
open PySem PySem.Spec PyProof.Rows L2
section
variable {P : Program} {w : World} {K : PySem.W.Frag} {mg : Str → Option Value} {base : Heap}
/-- nothing guards -/
abbrev Bare (A : Around) : Prop := A.guards = some []
structure FnG (P : Program) (w : World) (K : PySem.W.Frag) (mg : Str → Option Value) (base : Heap) (k : Nat) (f : Addr) (fd : FuncData) (ps : List Str) (sp : Sp) : Prop where
  len : ∀ vs H Q E, sp vs H Q E → vs.length = ps.length
  go : ∀ {A : Around} {outer : List Env} {s : Shared} {H : Hp} {args : Args} {us : List Value} {vs : List V} {Q : VK} {E : XK}, Bare A → Room k A → Env0 P w K mg base A outer s H →
    BindsTo s fd args (ps.zip us) → Vals vs us → sp vs H Q E → codeAny (model P w) A (.call (.ref f) args) (CR CX0 outer P w H s Q E) s
theorem FnG.of {k : Nat} {f : Addr} {fd : FuncData} {ps : List Str} {sp : Sp} (F : FnOk P w K mg base CX0 k f fd ps sp) : FnG P w K mg base k f fd ps sp :=
  ⟨F.len, fun _ hr e b r h => F.run _ _ _ _ _ _ _ _ _ hr e b r h⟩

/-- a def by its body, told that nothing guards -/
theorem fnG_of {k : Nat} {f : Addr} {nm qual : Str} {pr : Arguments} {body : List Stmt} {sc : Scope} {dV kV doc pm cd ct oc : Value} {an od : Option Addr} {sl : Array (Option Value)} {N ps : List Str} {sp : Sp}
    (lk : K.lookup f = some ⟨oc, od, .func (PySem.W.fnOf nm qual pr body sc dV kV doc pm an cd ct), sl⟩) (hc : PySem.W.codeIn K cd qual = true) (S : FnScope N ps sc) (len : ∀ vs H Q E, sp vs H Q E → vs.length = ps.length)
    (hb : ∀ (A : Around) (outer : List Env) (s : Shared) (H : Hp) (vs : List V) (Q : VK) (E : XK), Bare A → Room k (A.deeper (envOfC qual sc s.heap.objs.size f cd)) → sp vs H Q E →
      ∃ t, PSs (cxOf CX0 P w K mg base N qual sc f cd A outer s H E) body t ∧ t { nx := fun _ H1 => Q .non H1, rt := Q } (start N vs) H) :
    FnG P w K mg base (k + 1) f (PySem.W.fnOf nm qual pr body sc dV kV doc pm an cd ct) ps sp := by
  constructor
  · exact len
  intro A outer s H args us vs Q E hG hr e hbd r hs
  obtain ⟨t, ht, hq⟩ := hb A outer s H vs Q E hG (hr.deeper _) hs
  have same : ∀ b o, base.get? b = some o → s.heap.get? b = some o := fun b o z => (e.bs b o z).1
  have KX : K.In s.heap := e.mod.kin.keeps same
  have noL := e.mod.nolimit.keeps same
  have kinds : ∀ y ∈ ps.zip us, sc.names.lookup y.1 = some .local ∨ (sc.names.lookup y.1 = some .cell ∧ ((cellsFrom (s.heap.objs.size + 1) sc.names []).lookup y.1).isSome = true) := by
    rintro ⟨n, v⟩ hy
    refine (S.par n (List.of_mem_zip hy).1).imp id fun z => ⟨z, ?_⟩
    exact PySem.W.cellsFrom_some _ _ _ (.inl z)
  apply codeAny_call_function hr.depth (KX _ _ lk) rfl S.co S.gen rfl (PySem.W.codeRec_of KX hc) (hbd _ _ _ _ _)
  apply wpAny_newFunctionEnv_cells S.kind kinds
  rintro env rfl s1 x
  refine ⟨noL.keeps x.toInCall.keep, codeAny_func (wpAny_mono (ht.run [] s1 (start N vs) H _ (inv_start S hr.hd e (len _ _ _ _ hs) r x) hq) ?_ fun _ _ z => z)⟩
  rintro fl s' z
  have ends : ∀ {σ1 : L2.St} {H1 : Hp} {v : V} {u : Value}, Inv (cxOf CX0 P w K mg base N qual sc f cd A outer s H E) [] σ1 H1 s' → RelV v u → Q v H1 → CE outer P w H s Q u s' := by
    intro σ1 H1 v u J rv q
    exact ⟨v, H1, J.os, J.bare, J.base, J.hok, rv, q⟩
  cases fl with
  | next => obtain ⟨_, _, J, q⟩ := z; exact ends (v := .non) (u := .none) J rfl q
  | ret u => obtain ⟨_, _, _, J, rv, q⟩ := z; exact ends J rv q
  | brk => obtain ⟨_, _, _, q⟩ := z; exact q.elim
  | cont => obtain ⟨_, _, _, q⟩ := z; exact q.elim

theorem bare_deeper {A : Around} (h : Bare A) (env : Env) : (A.deeper env).guards = some [] := by
  first | exact h | rfl | simpa using h
/-- Fun.ok, told that nothing guards -/
theorem okG {x qual : Str} {st : Stmt} {f : Addr} {fd : FuncData} {N ps : List Str} {k : Nat} {sp : Sp} (F : Fun K x qual st f fd) (S : FnScope N ps (defScope st)) (len : ∀ vs H Q E, sp vs H Q E → vs.length = ps.length)
    (hb : ∀ (cdv : Value) (A : Around) (outer : List Env) (s : Shared) (H : Hp) (vs : List V) (Q : VK) (E : XK), (A.deeper (envOfC qual (defScope st) s.heap.objs.size f cdv)).guards = some [] → Room k (A.deeper (envOfC qual (defScope st) s.heap.objs.size f cdv)) → sp vs H Q E →
      ∃ t, PSs (cxOf CX0 P w K mg base N qual (defScope st) f cdv A outer s H E).nox (defBody st) t ∧ t { nx := fun _ H1 => Q .non H1, rt := Q } (start N vs) H) : FnG P w K mg base (k + 1) f fd ps sp := by
  obtain ⟨oc, od, kV, doc, pm, an, cdv, ct, sl, rfl, lk, hc⟩ := F.ex
  refine fnG_of lk hc S len fun A outer s H vs Q E hG hr hs => ?_
  obtain ⟨t, h, q⟩ := hb cdv A outer s H vs Q E (bare_deeper hG _) hr hs
  exact ⟨t, h.nox, q⟩

/-- the ground on which the law's def is called: nothing is tracked but the script (or it is an object of the module) -/
theorem ground {mb : Str → Option Value} {a : Addr} {s : Shared} {vs : List Value} {ns : List Int}
    (KX : K.In s.heap) (G : s.heap.Ns mainGlobals mg) (Gb : s.heap.Ns builtinsNs mb) (bb : ∀ x : Str, x ≠ "__name__" → mb x = bootBuiltins x) (noL : s.heap.NoLimit) (hg : s.gens = #[])
    (ha : s.heap.get? a = some { cls := .type "list", data := .seq vs.toArray }) (hi : IntsAre vs ns) (hl : ns.length ≤ sizeLine) :
    ∃ base H, K.In base ∧ base.Ns mainGlobals mg ∧ Only H ∧ SqL K H a (ns.map V.int) ∧ Env0 P w K mg base callerA [] s H ∧
      ∀ (H' : Hp) (s' : Shared), Un (frs []) [] H H' s.heap s'.heap → HOk P w H' s'.heap → ∀ b o, s.heap.get? b = some o → s'.heap.get? b = some o := by
  have rv := vals_ints hi
  have len := hi.length
  suffices hH : ∃ H : Hp, (∀ b u, H b = some u → b = a ∧ K.lookup a = none ∧ u = .frz { cls := .type "list", data := .seq vs.toArray } (.lst (ns.map V.int))) ∧ SqL K H a (ns.map V.int) ∧ HOk P w H s.heap by
    obtain ⟨H, one, sq, ok⟩ := hH
    have inB : ∀ {b o}, s.heap.get? b = some o → H b = none → (hidT s.heap H).get? b = some o := fun z n => hidT_get z n
    have off : ∀ {b : Addr} {o : Obj} {es : Array DictEntry} {n : Nat}, s.heap.get? b = some o → o.data = .dict es n → H b = none := by
      intro b o es n z d
      match e : H b with
      | none => rfl
      | some u =>
        obtain ⟨rfl, -, -⟩ := one b u e
        rw [ha] at z
        cases z
        exact nomatch (show Data.seq vs.toArray _ = Data.dict es n from d)
    have nsB : ∀ {b : Addr} {m : Str → Option Value}, s.heap.Ns b m → (hidT s.heap H).Ns b m := by
      rintro b m ⟨o, es, n, z, d, rest⟩
      exact ⟨o, es, n, inB z (off z d), d, rest⟩
    have kB : K.In (hidT s.heap H) := by
      intro b o z
      refine inB (KX b o z) ?_
      match e : H b with
      | none => rfl
      | some u =>
        obtain ⟨rfl, n, -⟩ := one b u e
        rw [n] at z
        cases z
    obtain ⟨mc, z1, z2⟩ := noL
    refine ⟨hidT s.heap H, H, kB, nsB G, fun b => ?_, sq, ⟨rfl, ⟨kB, nsB G, ⟨mb, nsB Gb, bb⟩, mc, nsB z1, z2⟩, fun _ _ z => of_hidT z, by rw [hidT_size]; exact Nat.le_refl _, trivial, fun b hb => (nomatch (show b ∈ ([] : List Addr) from hb)), ok, .of_eq hg⟩, ?_⟩
    · match e : H b with
      | none => exact .inl rfl
      | some u =>
        obtain ⟨-, -, rfl⟩ := one b u e
        exact .inr ⟨_, _, rfl⟩
    · intro H' s' un ok' b o z
      match e : H b with
      | none => exact un.keep b o z e (fun h => nomatch (show b ∈ ([] : List Addr) from h)) fun h => nomatch h
      | some u =>
        obtain ⟨rfl, -, rfl⟩ := one b u e
        rw [ha] at z
        cases z
        exact (ok' _ _ (un.frzs _ _ _ e)).1
  match hk : K.lookup a with
  | some o =>
    have z := KX a o hk
    rw [ha] at z
    cases z
    refine ⟨fun _ => none, ⟨fun b u h => ?_, .inr ⟨_, vs.toArray, _, hk, rfl, rfl, rfl, by rw [List.size_toArray, len]; exact hl, by simpa using rv⟩, fun b u h => ?_⟩⟩
    · exact nomatch (show (none : Option HO) = some u from h)
    · exact nomatch (show (none : Option HO) = some u from h)
  | none =>
    have at_ : ∀ b u, (if b = a then some (HO.frz { cls := .type "list", data := .seq vs.toArray } (.lst (ns.map V.int))) else none) = some u → b = a ∧ HO.frz { cls := .type "list", data := .seq vs.toArray } (.lst (ns.map V.int)) = u := by
      intro b u h
      split at h
      · rename_i e
        exact ⟨e, Option.some.inj h⟩
      · cases h
    refine ⟨fun b => if b = a then some (.frz { cls := .type "list", data := .seq vs.toArray } (.lst (ns.map V.int))) else none, fun b u h => ?_, .inl (.inr ⟨_, if_pos rfl⟩), fun b u h => ?_⟩
    · obtain ⟨rfl, rfl⟩ := at_ b u h
      exact ⟨rfl, by first | rfl | exact hk, rfl⟩
    · obtain ⟨rfl, rfl⟩ := at_ b u h
      exact ⟨ha, by rw [List.length_map]; exact hl, vs, _, rv, ha⟩
end

/-- the goal behind k_head, from a promise of the law's def that is told that nothing guards -/
theorem walk_G {l : PySem.W.OpenLaw} {n k : Nat} {q : Program} {loose : List Str} {XP : (Str → Option Value) → Heap → Prop} {YP : World → Heap → Prop} {d : DefRec} {K : Params → PySem.W.Frag} {sp : World → Sp} {x : Str}
    (hn : l.most = some n) (hn2 : n ≤ sizeLine) (hdf : d.params.defaults = []) (hr : Room k callerA) (hY : ∀ (w : World) (h : Heap), YP w h → (K w.params).In h)
    (F : ∀ (w : World) (mg : Str → Option Value) (fa : Addr) (h : Heap), (K w.params).In h → h.Ns mainGlobals mg → mg d.name = some (.ref fa) →
      ∃ fd : FuncData, (∀ (s : Shared) (u : Value), BindsTo s fd ⟨[u], []⟩ [(x, u)]) ∧ ∀ base : Heap, (K w.params).In base → base.Ns mainGlobals mg → FnG l.prog w (K w.params) mg base k fa fd [x] (sp w))
    (hsp : ∀ (w : World) (H : Hp) (a : Addr) (ns : List Int), ns.length ≤ n → Only H → SqL (K w.params) H a (ns.map V.int) → sp w [.ref a] H (fun v _ => v = .bl true) fun _ _ _ => False) :
    PySem.W.WalkO q loose XP YP l.row.toRowW d [] (fun f vs => PySem.call f vs) := by
  apply Att.attach_call hn hdf
  intro w s0 s mg mb fa o pm cd doc a vs ns G Y ho hd hcd hmg hobj hi hl hg
  have KX := hY w _ Y
  obtain ⟨fd, hb, hF⟩ := F w mg fa _ KX G.T.g hmg
  obtain ⟨base, H, kb, nb, on, sq, e, keep⟩ := ground (P := l.prog) (w := w) KX G.T.g G.T.b G.T.builtins G.T.nolimit hg hobj hi (Nat.le_trans hl hn2)
  refine codeAny_mono ((hF base kb nb).go (us := [.ref a]) (vs := [.ref a]) rfl hr e (hb s (.ref a)) (.cons rfl .nil) (hsp w H a ns hl on sq)) fun r s' h => ?_
  match r, h with
  | .ok (.ret u), ⟨v, H', os, bare, un, ok', rv, q⟩ =>
    cases (show v = .bl true from q)
    cases (show u = Value.bool true from rv)
    exact ⟨rfl, OldK.of_keep (keep H' s' un ok'), os, bare⟩
  | .error e, h => exact False.elim h
end B

/-! repr(data), where nothing guards; how long the text may be. -/
namespace B
open PySem PySem.Spec PyProof.Rows L2
/-- data that repr may be asked of: at most n deep, at most m parts in all, numbers below 2^70 -/
structure Sh (n m : Nat) (d : PyData) : Prop where
  able : d.showable = true
  nodict : d.hasDict = false
  short : d.leavesShort 80 = true
  deep : d.depth ≤ n
  few : d.bulk ≤ m
theorem Sh.mono {n m n' m' : Nat} {d : PyData} (h : Sh n m d) (hn : n ≤ n') (hm : m ≤ m') : Sh n' m' d := ⟨h.able, h.nodict, h.short, Nat.le_trans h.deep hn, Nat.le_trans h.few hm⟩
theorem Sh.int {i : Int} (h : i.natAbs.log2 < 70) : Sh 0 0 (.int i) := by
  refine ⟨?_, rfl, ?_, by simp [PyData.depth], by simp [PyData.bulk]⟩
  · have h' : i.natAbs.log2 < 1920 := by omega
    simp only [PyData.showable]
    exact decide_eq_true h'
  · have e := PySem.int_text_length_le (k := 70) (by decide) h
    have e2 : (PyData.shown (.int i)).length ≤ 80 := by
      simp only [PyData.shown]
      rw [show (PySem.Str.ofString (toString i)).length = (toString i).length from PySem.ofString_length _]
      omega
    simp only [PyData.leavesShort]
    exact decide_eq_true e2
theorem Sh.bool (b : Bool) : Sh 0 0 (.bool b) := ⟨rfl, rfl, rfl, by simp [PyData.depth], by simp [PyData.bulk]⟩
theorem Sh.none : Sh 0 0 .none := ⟨rfl, rfl, rfl, by simp [PyData.depth], by simp [PyData.bulk]⟩
theorem shAll {n m : Nat} : ∀ {ds : List PyData}, (∀ d ∈ ds, Sh n m d) → PyData.showableAll ds = true ∧ PyData.hasDictAll ds = false ∧ PyData.leavesShortAll 80 ds = true ∧ PyData.depthAll ds ≤ n ∧ PyData.bulkAll ds ≤ ds.length * (m + 1)
  | [], _ => ⟨rfl, rfl, rfl, by simp [PyData.depthAll], by simp [PyData.bulkAll]⟩
  | d :: ds, h => by
    have h1 := h d (List.mem_cons_self ..)
    obtain ⟨a1, a2, a3, a4, a5⟩ := shAll fun x hx => h x (List.mem_cons_of_mem _ hx)
    refine ⟨?_, ?_, ?_, ?_, ?_⟩
    · simp only [PyData.showableAll, h1.able, a1, Bool.and_self]
    · simp only [PyData.hasDictAll, h1.nodict, a2, Bool.or_self]
    · simp only [PyData.leavesShortAll, h1.short, a3, Bool.and_self]
    · have := h1.deep
      simp only [PyData.depthAll]
      omega
    · have := h1.few
      simp only [PyData.bulkAll, List.length_cons, Nat.add_mul, Nat.one_mul]
      omega
theorem Sh.tup {n m k : Nat} {ds : List PyData} (h : ∀ d ∈ ds, Sh n m d) (hk : ds.length ≤ k) : Sh (n + 1) (k * (m + 1)) (.tuple ds) := by
  obtain ⟨a1, a2, a3, a4, a5⟩ := shAll h
  have := Nat.mul_le_mul_right (m + 1) hk
  refine ⟨by simpa only [PyData.showable] using a1, by simpa only [PyData.hasDict] using a2, by simpa only [PyData.leavesShort] using a3, ?_, ?_⟩
  · simp only [PyData.depth]
    omega
  · simp only [PyData.bulk]
    omega
theorem Sh.lst {n m k : Nat} {ds : List PyData} (h : ∀ d ∈ ds, Sh n m d) (hk : ds.length ≤ k) : Sh (n + 1) (k * (m + 1)) (.list ds) := by
  obtain ⟨a1, a2, a3, a4, a5⟩ := shAll h
  have := Nat.mul_le_mul_right (m + 1) hk
  refine ⟨by simpa only [PyData.showable] using a1, by simpa only [PyData.hasDict] using a2, by simpa only [PyData.leavesShort] using a3, ?_, ?_⟩
  · simp only [PyData.depth]
    omega
  · simp only [PyData.bulk]
    omega
theorem Sh.size {n m : Nat} {d : PyData} (h : Sh n m d) (hm : m ≤ 200000) : d.shown.length ≤ sizeLine := by
  have e := PyData.shown_le_bulk 80 (by decide) d h.short
  have h2 : (80 + 2) * d.bulk ≤ 82 * 200000 := Nat.mul_le_mul (by decide) (Nat.le_trans h.few hm)
  rw [sizeLine_eq]
  omega
theorem log70 {i : Int} (h0 : 0 ≤ i) (h : i < 2 ^ 70) : i.natAbs.log2 < 70 := by
  have h2 : i.natAbs < 2 ^ 70 := by omega
  by_cases e : i.natAbs = 0
  · rw [e]
    decide
  · exact (Nat.log2_lt e).mpr h2
/-- a number that is short to show -/
def Sm (i : Int) : Prop := 0 ≤ i ∧ i < 2 ^ 70
theorem Sh.ints {ns : List Int} {k : Nat} (h : ∀ z ∈ ns, Sm z) (hl : ns.length ≤ k) : Sh 1 k (.tuple (ns.map PyData.int)) := by
  have := Sh.tup (n := 0) (m := 0) (k := k) (ds := ns.map PyData.int) (fun d hd => by
    obtain ⟨i, hi, rfl⟩ := List.mem_map.mp hd
    exact Sh.int (log70 (h i hi).1 (h i hi).2)) (by rw [List.length_map]; exact hl)
  exact this.mono (Nat.le_refl _) (by omega)
theorem Sh.lints {ns : List Int} {k : Nat} (h : ∀ z ∈ ns, Sm z) (hl : ns.length ≤ k) : Sh 1 k (.list (ns.map PyData.int)) := by
  have := Sh.lst (n := 0) (m := 0) (k := k) (ds := ns.map PyData.int) (fun d hd => by
    obtain ⟨i, hi, rfl⟩ := List.mem_map.mp hd
    exact Sh.int (log70 (h i hi).1 (h i hi).2)) (by rw [List.length_map]; exact hl)
  exact this.mono (Nat.le_refl _) (by omega)
theorem str_ne_self {x : Str} : (!decide (V.str x = V.str x)) = false := by simp
section
variable {X : Cx}
/-- repr(x) of a list or a tuple of data -/
def rReprD (K : PySem.W.Frag) : List V → Hp → VK → Prop := fun xs H Q => ∃ (a : Addr) (d : PyData), xs = [.ref a] ∧ Dp K H (.ref a) d ∧ (∃ n m, n ≤ 60 ∧ m ≤ 200000 ∧ Sh n m d) ∧ Q (.str d.shown) H
theorem call_reprD (hg : X.A.guards = some []) (hu : X.A.units + 64 < cLine) : CallR X (.builtin "repr") (rReprD X.K) := by
  intro pins s σ H xs us Q I r h
  obtain ⟨a, d, rfl, hd, ⟨n, m, hn, hm, sh⟩, q⟩ := h
  obtain ⟨u, rfl, e⟩ := vals1 r
  cases e
  obtain ⟨as, rd⟩ := Dp.reads I d (.ref a) (.ref a) hd rfl
  have := sh.deep
  exact repr_of_reads' rd sh.able (fun z => by rw [sh.nodict] at z; cases z) hg (by omega) (fun _ _ z => z) (fun h' u tk keep => ⟨.str d.shown, H, I.kept keep, ⟨_, rfl⟩, q⟩) (sh.size hm)
theorem call_reprDK (K : PySem.W.Frag) (hk : X.K = K) (hg : X.A.guards = some []) (hu : X.A.units + 64 < cLine) : CallR X (.builtin "repr") (rReprD K) := by
  subst hk
  exact call_reprD hg hu
end
end B

/-! t[::-1], t a tuple -/
namespace B
open PySem PySem.Spec PyProof.Rows L2 HT
section
variable {prog : Program} {w : World} {A : Around} {E : Value → Shared → Prop} {s : Shared}
theorem applied_back {sl : Addr} {n : Nat} {u : Tok} {Q : Int × Int × Nat → Shared → Prop} (hs : s.heap.IsSliceOf sl .none .none (.int (-1) u)) (h : Q ((n : Int) - 1, -1, n) s) :
    wpAny (model prog w) A (Builtin.Slice.sliceApplied (.ref sl) (pure (n : Int))) Q E s := by
  obtain ⟨o, ho, hc, hd⟩ := id hs
  unfold Builtin.Slice.sliceApplied
  unfold Builtin.Slice.sliceFields
  refine wpAny_bind (wpAny_bind (wpAny_field ho hd (x := .none) rfl (wpAny_bind (wpAny_field ho hd (x := .none) rfl (wpAny_bind (wpAny_field ho hd (x := .int (-1) u) rfl (wpAny_pure ?_)))))))
  apply wpAny_bind
  apply slicePart_int
  show wpAny _ _ (if ((-1 : Int) == 0) = true then _ else _) _ _ s
  rw [if_neg (by decide)]
  refine wpAny_bind (slicePart_none (wpAny_bind (slicePart_none (wpAny_bind (wpAny_pure ?_)))))
  have e : Builtin.Slice.sliceAdjust none none (-1) (n : Int) = ((n : Int) - 1, -1) := rfl
  have e2 : Builtin.Slice.slicePlaces ((n : Int) - 1) (-1) (-1) = n := by
    unfold Builtin.Slice.slicePlaces
    rw [if_neg (by decide)]
    by_cases h0 : (n : Int) - 1 > -1
    · rw [if_pos h0]
      have : -(-1 : Int) = 1 := rfl
      rw [this, Int.ediv_one]
      omega
    · rw [if_neg h0]
      omega
  have h' : Q ((n : Int) - 1, -1, Builtin.Slice.slicePlaces ((n : Int) - 1) (-1) (-1)) s := by rw [e2]; exact h
  exact wpAny_pure h'
theorem fm_congr {α β : Type} {f g : α → Option β} : ∀ {l : List α}, (∀ x ∈ l, f x = g x) → l.filterMap f = l.filterMap g
  | [], _ => rfl
  | x :: l, h => by
    have e := h x (List.mem_cons_self ..)
    have r := fm_congr fun y hy => h y (List.mem_cons_of_mem _ hy)
    rw [List.filterMap_cons, List.filterMap_cons, e, r]
theorem pick_back (xs : Array Value) : ((List.range xs.size).filterMap fun (k : Nat) => xs[(((xs.size : Int) - 1) + (k : Int) * (-1)).toNat]?).toArray = xs.toList.reverse.toArray := by
  congr 1
  apply List.ext_getElem?
  intro i
  have e : (List.range xs.size).filterMap (fun (k : Nat) => xs[(((xs.size : Int) - 1) + (k : Int) * (-1)).toNat]?) = (List.range xs.size).map fun k => xs.toList.reverse.getD k .none := by
    rw [← List.filterMap_eq_map]
    apply fm_congr
    intro k hk
    have hk' := List.mem_range.mp hk
    have hi : (((xs.size : Int) - 1) + (k : Int) * (-1)).toNat = xs.size - 1 - k := by omega
    have hl : k < xs.toList.reverse.length := by simpa using hk'
    rw [hi]
    show xs[xs.size - 1 - k]? = some (xs.toList.reverse.getD k .none)
    rw [List.getD_eq_getElem?_getD, List.getElem?_eq_getElem hl, Array.getElem?_eq_getElem (by omega)]
    simp
  rw [e]
  by_cases hi : i < xs.size
  · have hl : i < xs.toList.reverse.length := by simpa using hi
    rw [List.getElem?_map, List.getElem?_range hi, List.getElem?_eq_getElem hl]
    simp [List.getElem?_eq_getElem hl]
  · rw [List.getElem?_eq_none (by simpa using hi), List.getElem?_eq_none (by simpa using hi)]
theorem get_back {t sl : Addr} {its : Array Value} {u : Tok} {Q : Value → Shared → Prop} (ht : IsTup s.heap t its) (hs : s.heap.IsSliceOf sl .none .none (.int (-1) u))
    (h : Q (.ref s.heap.objs.size) { s with heap := s.heap.push { cls := .type "tuple", data := .seq its.toList.reverse.toArray } }) (hz : its.size ≤ sizeLine) : wpAny (model prog w) A (getItem (.ref t) (.ref sl)) Q E s := by
  have fit : sizeOk (.seq its.toList.reverse.toArray) := by
    show its.toList.reverse.toArray.size ≤ sizeLine
    simpa using hz
  obtain ⟨o, ho, hc, hd⟩ := id hs
  have T : s.TypeIs (.ref sl) "slice" := ⟨o, ho, hc⟩
  unfold getItem
  try with_reducible refine wpAny_holding ?_
  first | refine wpAny_bind (wpAny_pure ?_) | skip
  apply wpAny_bind
  apply wpAny_sequenceKey ht.typeIs (by decide)
  apply wpAny_bind
  refine wpAny_callSpecial?_slot (name := Str.ofString "__getitem__") ht.typeIs PyProof.Rows.slot_tuple_getitem (wpAny_call_entry PyProof.Rows.slot_tuple_getitem ht.typeIs entry_tuple_getitem ?_ (args_tuple_getitem _ _))
  show wpAny _ _ (Builtin.Tuple.tupleItemsOf (.ref t) >>= _) _ _ s
  apply wpAny_bind
  apply tupleItemsOf_ ht
  apply wpAny_bind
  apply wpAny_typeOf T
  rw [if_pos (by decide)]
  apply wpAny_bind
  apply applied_back hs
  have no : ¬ (((((its.size : Nat) : Int) - 1) == 0 && (-1 : Int) == 1 && its.size == its.size) = true) := by
    rw [show ((-1 : Int) == 1) = false from by decide, Bool.and_false, Bool.false_and]
    decide
  show wpAny _ _ (if (((((its.size : Nat) : Int) - 1) == 0 && (-1 : Int) == 1 && its.size == its.size) = true) then _ else _) _ _ s
  rw [if_neg no, pick_back]
  first
    | exact wpAny_bind (m := Builtin.Tuple.tupleExact _) (wpAny_newObj_type (wpAny_pure ⟨_, rfl, wpAny_pure h⟩) fit)
    | exact wpAny_bind (m := Builtin.Tuple.tupleExact _) (wpAny_newObj_type (wpAny_bind (wpAny_pure (wpAny_pure ⟨_, rfl, wpAny_pure h⟩))) fit)
    | exact wpAny_bind (wpAny_bind (m := Builtin.Tuple.tupleExact _) (wpAny_newObj_type (wpAny_pure (wpAny_pure ⟨_, rfl, wpAny_pure h⟩)) fit))
    | exact wpAny_bind (wpAny_bind (m := Builtin.Tuple.tupleExact _) (wpAny_newObj_type (wpAny_pure ⟨_, rfl, wpAny_pure h⟩) fit))
end
section
variable {X : Cx}
def tRevT (K : PySem.W.Frag) (te : TE) : TE := fun σ H Q => te σ H fun x H1 => ∃ a xs, x = .ref a ∧ SqT K H1 a xs ∧ ∀ p, H1 p = none → Q (.ref p) (upd H1 p (.tup xs.reverse))
theorem pe_revT {e : Expr} {te : TE} {k : Nat} {p1 p2 p3 pos : Pos} (he : PE X e te) : PE X (.Subscript e (.Slice none none (some (.UnaryOp .USub (.Constant (.int 1) k p1) p2)) p3) pos) (tRevT X.K te) := by
  constructor
  intro pins s σ H Q I h
  apply Subscript_
  refine thn (he.run pins s σ H _ I h) ?_
  rintro v s1 ⟨x, H1, I1, r1, a, xs, rfl, hx, q⟩
  cases r1
  have st : PO X (some (.UnaryOp .USub (.Constant (.int 1) k p1) p2)) (tPart (tUn (rU fun i => .int (-i)) (tC (.int 1)))) := po_some (pe_un un_neg pe_int)
  apply wpAny_Slice
  refine thn (po_none.run pins s1 σ H1 (fun o H2 => o = none ∧ H2 = H1) I1 ⟨rfl, rfl⟩) ?_
  rintro vl s2 ⟨l, H2, I2, pl, rfl, rfl⟩
  refine thn (po_none.run pins s2 σ H2 (fun o H3 => o = none ∧ H3 = H2) I2 ⟨rfl, rfl⟩) ?_
  rintro vu s3 ⟨l3, H3, I3, pu, rfl, rfl⟩
  refine thn (st.run pins s3 σ H3 (fun o H4 => o = some (-1) ∧ H4 = H3) I3 ⟨1, rfl, -1, rfl, rfl, rfl⟩) ?_
  rintro vs s4 ⟨l4, H4, I4, ps, rfl, rfl⟩
  cases pl
  cases pu
  cases ps with
  | int _ u =>
    have I5 : Inv X pins σ H4 { s4 with heap := s4.heap.push { cls := .type "slice", data := .fields #[.none, .none, .int (-1) u] } } := I4.kept (t' := s4.toks) fun b ob z => Heap.get?_push_of_some _ z
    obtain ⟨its, r, ht, hz⟩ := I5.tuple hx
    have hl := r.length
    have hz' : its.toArray.size ≤ sizeLine := by rw [List.size_toArray, ← hl]; exact hz
    refine tail_any (ops := [.ref a, .ref s4.heap.objs.size]) ht.typeIs (PyProof.Rows.slot_tuple_getitem.lookup) (get_back ht (Heap.IsSliceOf.new _ _ _ _) ?_ hz') (by with_unfolding_all rfl)
    refine ⟨.ref _, _, I5.laid (t' := s4.toks) (o := .tup xs.reverse) (fun b ob z => Heap.get?_push_of_some _ z) (Nat.le_refl _) ?_, rfl, q _ (I5.hok.fresh (Nat.le_refl _))⟩
    first
      | exact ⟨by rw [List.length_reverse]; exact hz, _, r.reverse, Heap.get?_push_size _ rfl⟩
      | exact ⟨by rw [List.length_reverse]; exact hz, _, _, r.reverse, Heap.get?_push_size _ rfl⟩
      | exact ⟨by rw [List.length_reverse]; exact hz, _, r.reverse, _, Heap.get?_push_size _ rfl, rfl, 0, by simp⟩
theorem pe_revTK (K : PySem.W.Frag) (hK : X.K = K) {e : Expr} {te : TE} {k : Nat} {p1 p2 p3 pos : Pos} (he : PE X e te) : PE X (.Subscript e (.Slice none none (some (.UnaryOp .USub (.Constant (.int 1) k p1) p2)) p3) pos) (tRevT K te) := by
  subst hK
  exact pe_revT he
theorem pe_revLK (K : PySem.W.Frag) (hK : X.K = K) {e : Expr} {te : TE} {k : Nat} {p1 p2 p3 pos : Pos} (he : PE X e te) : PE X (.Subscript e (.Slice none none (some (.UnaryOp .USub (.Constant (.int 1) k p1) p2)) p3) pos) (tRevL K te) := by
  subst hK
  exact pe_revL he
end
end B

/-! What a near store holds, by what was touched last: the first unlike ones, from the last touch back. -/
namespace Lru
/-- the unlike ones, in the order in which they are met -/
def dd : List Int → List Int
  | [] => []
  | z :: l => z :: (dd l).filter fun x => decide (x ≠ z)
theorem dd_mem {x : Int} : ∀ {l : List Int}, x ∈ dd l ↔ x ∈ l
  | [] => Iff.rfl
  | z :: l => by
    have ih := dd_mem (x := x) (l := l)
    rw [dd, List.mem_cons, List.mem_cons, List.mem_filter, ih]
    by_cases h : x = z
    · simp [h]
    · simp [h]
theorem dd_nodup : ∀ l : List Int, (dd l).Nodup
  | [] => List.nodup_nil
  | z :: l => by
    rw [dd, List.nodup_cons]
    exact ⟨fun h => by simp [List.mem_filter] at h, (dd_nodup l).sublist (List.filter_sublist ..)⟩
theorem dd_len : ∀ l : List Int, (dd l).length ≤ l.length
  | [] => Nat.le_refl _
  | z :: l => by
    have := dd_len l
    have h2 := List.length_filter_le (fun x => decide (x ≠ z)) (dd l)
    rw [dd, List.length_cons, List.length_cons]
    omega
theorem dd_snoc (x : Int) : ∀ l : List Int, dd (l ++ [x]) = if x ∈ l then dd l else dd l ++ [x]
  | [] => by simp [dd]
  | z :: l => by
    rw [List.cons_append, dd, dd_snoc x l, dd]
    by_cases h1 : x ∈ l
    · rw [if_pos h1, if_pos (List.mem_cons_of_mem _ h1)]
    · rw [if_neg h1, List.filter_append]
      by_cases h2 : x = z
      · subst h2
        rw [if_pos (List.mem_cons_self ..)]
        simp
      · rw [if_neg (by simp [h1, h2])]
        have : [x].filter (fun x => decide (x ≠ z)) = [x] := by simp [h2]
        rw [this]
        rfl
/-- what is met first stays ahead -/
theorem dd_app : ∀ (m l : List Int), ∃ r, dd (l ++ m) = dd l ++ r ∧ ∀ z ∈ r, z ∉ l
  | [], l => ⟨[], by simp, by simp⟩
  | z :: m, l => by
    obtain ⟨r, e, h⟩ := dd_app m (l ++ [z])
    rw [List.append_assoc, List.singleton_append] at e
    rw [e, dd_snoc]
    by_cases hz : z ∈ l
    · rw [if_pos hz]
      exact ⟨r, rfl, fun x hx hl => h x hx (List.mem_append_left _ hl)⟩
    · rw [if_neg hz]
      refine ⟨z :: r, by simp, fun x hx hl => ?_⟩
      rcases List.mem_cons.mp hx with e | hx
      · exact hz (e ▸ hl)
      · exact h x hx (List.mem_append_left _ hl)
theorem mem_take_at {z : Int} {a r : List Int} {w : Nat} (ha : z ∉ a) : z ∈ (a ++ z :: r).take w ↔ a.length < w := by
  constructor
  · intro h
    by_cases hw : a.length < w
    · exact hw
    · rw [List.take_append_of_le_length (by omega)] at h
      exact absurd (List.mem_of_mem_take h) ha
  · intro h
    obtain ⟨k, rfl⟩ : ∃ k, w = a.length + (k + 1) := ⟨w - a.length - 1, by omega⟩
    rw [List.take_length_add_append]
    simp
/-- held: met, and fewer unlike ones than w ahead of it -/
theorem held_iff (p : Int → Bool) {z : Int} (hz : p z = true) {a : List Int} (ha : z ∉ a) (b : List Int) (w : Nat) : z ∈ (dd ((a ++ z :: b).filter p)).take w ↔ (dd (a.filter p)).length < w := by
  have e : (a ++ z :: b).filter p = (a.filter p ++ [z]) ++ b.filter p := by simp [List.filter_append, List.filter_cons, hz]
  have na : z ∉ a.filter p := fun h => ha (List.mem_filter.mp h).1
  obtain ⟨r, e2, _⟩ := dd_app (b.filter p) (a.filter p ++ [z])
  rw [e, e2, dd_snoc, if_neg na, List.append_assoc, List.singleton_append]
  exact mem_take_at fun h => na (dd_mem.mp h)
theorem take_full {α : Type} {l : List α} {w : Nat} (h : l.length ≤ w) : l.take w = l := List.take_of_length_le h
theorem filter_ne {l : List Int} {z : Int} (h : z ∉ l) : l.filter (fun x => decide (x ≠ z)) = l := List.filter_eq_self.mpr fun x hx => decide_eq_true fun e => h (e ▸ hx)
theorem filter_erase {l : List Int} (nd : l.Nodup) (z : Int) : l.filter (fun x => decide (x ≠ z)) = l.erase z := by
  rw [nd.erase_eq_filter]
  apply List.filter_congr
  intro x _
  by_cases h : x = z
  · simp [h]
  · simp [h]
/-- taking w of what is met, then z ahead: take (w + 1) of z :: .. -/
theorem take_filter {z : Int} {w : Nat} : ∀ {l : List Int}, l.Nodup → z ∈ l.take (w + 1) → (l.filter fun x => decide (x ≠ z)).take w = (l.take (w + 1)).filter fun x => decide (x ≠ z)
  | [], _, _ => by simp
  | x :: l, nd, h => by
    have nd' := List.nodup_cons.mp nd
    rw [List.take_succ_cons] at h ⊢
    by_cases e : x = z
    · subst e
      have : ∀ k, (x :: k).filter (fun y => decide (y ≠ x)) = k.filter fun y => decide (y ≠ x) := fun k => by simp
      rw [this, this, filter_ne nd'.1, filter_ne fun hm => nd'.1 (List.mem_of_mem_take hm)]
    · have hx : ∀ k, (x :: k).filter (fun y => decide (y ≠ z)) = x :: k.filter fun y => decide (y ≠ z) := fun k => by simp [e]
      rw [hx, hx]
      have hm : z ∈ l.take w := by
        rcases List.mem_cons.mp h with h | h
        · exact absurd h.symm e
        · exact h
      cases w with
      | zero => simp at hm
      | succ w => rw [List.take_succ_cons, take_filter nd'.2 hm]
theorem take_filter_no {z : Int} : ∀ {w : Nat} {l : List Int}, z ∉ l.take w → (l.filter fun x => decide (x ≠ z)).take w = l.take w
  | 0, _, _ => by simp
  | _ + 1, [], _ => rfl
  | w + 1, x :: l, h => by
    rw [List.take_succ_cons, List.mem_cons] at h
    have e : ¬ x = z := fun e => h (.inl e.symm)
    have hx : (x :: l).filter (fun y => decide (y ≠ z)) = x :: l.filter fun y => decide (y ≠ z) := by simp [e]
    rw [hx, List.take_succ_cons, List.take_succ_cons, take_filter_no fun hm => h (.inr hm)]
/-- a lot that is touched at z -/
theorem put_recent {w : Nat} {z : Int} (m : List Int) (hw : 1 ≤ w) : lotPut (w : Int) ((dd m).take w).reverse z = ((dd (z :: m)).take w).reverse := by
  obtain ⟨k, rfl⟩ : ∃ k, w = k + 1 := ⟨w - 1, by omega⟩
  have nd := dd_nodup m
  have nt : ((dd m).take (k + 1)).reverse.Nodup := ((List.reverse_perm _).nodup_iff).mpr (nd.sublist (List.take_sublist ..))
  rw [dd, List.take_succ_cons, List.reverse_cons]
  have e : (((dd m).take (k + 1)).reverse.erase z).length ≤ k ∧ ((dd m).take (k + 1)).reverse.erase z = (((dd m).filter fun x => decide (x ≠ z)).take k).reverse ∨
      (((dd m).take (k + 1)).reverse.erase z).length = k + 1 ∧ (((dd m).take (k + 1)).reverse.erase z).drop 1 = (((dd m).filter fun x => decide (x ≠ z)).take k).reverse := by
    by_cases hz : z ∈ (dd m).take (k + 1)
    · left
      have hlen : ((dd m).take (k + 1)).length ≤ k + 1 := by rw [List.length_take]; omega
      constructor
      · rw [List.length_erase_of_mem (List.mem_reverse.mpr hz), List.length_reverse]
        omega
      · rw [take_filter nd hz, ← filter_erase nt, List.filter_reverse]
    · have e1 : ((dd m).take (k + 1)).reverse.erase z = ((dd m).take (k + 1)).reverse := List.erase_of_not_mem fun h => hz (List.mem_reverse.mp h)
      rw [e1]
      have hz' : z ∉ (dd m).take k := fun h => hz (List.mem_of_mem_take (i := k) (by rw [List.take_take, Nat.min_eq_left (by omega)]; exact h))
      rw [take_filter_no hz', List.length_reverse, List.length_take]
      by_cases hl : (dd m).length ≤ k
      · left
        refine ⟨by omega, ?_⟩
        rw [take_full hl, take_full (by omega)]
      · right
        refine ⟨by omega, ?_⟩
        rw [List.drop_reverse]
        congr 1
        rw [List.length_take, List.take_take]
        congr 1
        omega
  unfold lotPut
  rcases e with ⟨e1, e2⟩ | ⟨e1, e2⟩
  · rw [if_neg (by rw [List.length_append, List.length_singleton]; push_cast; omega), e2]
  · rw [if_pos (by rw [List.length_append, List.length_singleton]; push_cast; omega)]
    have : ∀ l : List Int, l.length = k + 1 → (l ++ [z]).drop 1 = l.drop 1 ++ [z] := fun l hl => by
      cases l with
      | nil => simp at hl
      | cons a l => rfl
    rw [this _ e1, e2]
def recents (n w : Nat) (pre : List Int) (r : Nat) : List Int := (dd (pre.filter fun x => decide (place n x = r))).take w
def lotsAt (n w : Nat) (pre : List Int) : List (List Int) := (List.range n).map fun r => (recents n w pre r).reverse
theorem lotsAt_len (n w : Nat) (pre : List Int) : (lotsAt n w pre).length = n := by unfold lotsAt; rw [List.length_map, List.length_range]
theorem lotsAt_get {n w : Nat} {pre : List Int} {r : Nat} (h : r < n) : (lotsAt n w pre)[r]? = some (recents n w pre r).reverse := by
  unfold lotsAt
  rw [List.getElem?_map, List.getElem?_range h]
  rfl
theorem touch_at {n w : Nat} {line o : Int} (hn : 1 ≤ n) (hw : 1 ≤ w) (pre : List Int) : touch (w : Int) line (lotsAt n w pre) o = lotsAt n w ((o / line) :: pre) := by
  generalize hz : o / line = z
  have hp : place n z < n := place_lt (by omega) z
  have e0 : at' (lotsAt n w pre) z = place n z := by rw [at_place, lotsAt_len]
  have e1 : lotOf (lotsAt n w pre) z = (recents n w pre (place n z)).reverse := by
    unfold lotOf
    rw [e0, List.getD_eq_getElem?_getD, lotsAt_get hp]
    rfl
  unfold touch
  rw [hz, e0, e1]
  apply List.ext_getElem?
  intro r
  by_cases hr : r < n
  · rw [lotsAt_get hr, List.getElem?_set]
    by_cases he : place n z = r
    · subst he
      rw [if_pos rfl, if_pos (by rw [lotsAt_len]; exact hp)]
      unfold recents
      rw [put_recent _ hw, List.filter_cons, if_pos (by simp)]
    · rw [if_neg he, lotsAt_get hr]
      unfold recents
      rw [List.filter_cons, if_neg (by simp [he])]
  · rw [List.getElem?_eq_none (by rw [List.length_set, lotsAt_len]; omega), List.getElem?_eq_none (by rw [lotsAt_len]; omega)]
theorem fold_at {n w : Nat} {line : Int} (hn : 1 ≤ n) (hw : 1 ≤ w) : ∀ (os pre : List Int), os.foldl (touch (w : Int) line) (lotsAt n w pre) = lotsAt n w ((os.map fun o => o / line).reverse ++ pre)
  | [], _ => rfl
  | o :: os, pre => by
    rw [List.foldl_cons, touch_at hn hw, fold_at hn hw os, List.map_cons, List.reverse_cons, List.append_assoc]
    rfl
theorem fresh_at (sets : Int) (w : Nat) : fresh sets = lotsAt sets.toNat w [] := by
  unfold fresh lotsAt
  apply List.ext_getElem?
  intro r
  by_cases hr : r < sets.toNat
  · rw [List.getElem?_map, List.getElem?_range hr, List.getElem?_replicate, if_pos hr]
    simp [recents, dd]
  · rw [List.getElem?_eq_none (by rw [List.length_replicate]; omega), List.getElem?_eq_none (by rw [List.length_map, List.length_range]; omega)]
/-- the lines touched behind the first i touches, the last one first -/
def backs (line : Int) (os : List Int) (i : Nat) : List Int := ((os.take i).map fun o => o / line).reverse
theorem after_at {sets ways line : Int} (hn : 1 ≤ sets) (hw : 1 ≤ ways) (os : List Int) (i : Nat) : after ways line (fresh sets) os i = lotsAt sets.toNat ways.toNat (backs line os i) := by
  have e : ways = (ways.toNat : Int) := by omega
  unfold after
  have h := fold_at (n := sets.toNat) (w := ways.toNat) (line := line) (by omega) (by omega) (os.take i) []
  rw [← e, List.append_nil, ← fresh_at sets ways.toNat] at h
  exact h
theorem kept_at {sets ways line : Int} (hn : 1 ≤ sets) (hw : 1 ≤ ways) (os : List Int) : kept sets ways line os = lotsAt sets.toNat ways.toNat ((os.map fun o => o / line).reverse) := by
  have h := after_at (line := line) hn hw os os.length
  unfold after backs at h
  rw [List.take_length] at h
  exact h
/-- a touch of z is missed: z was not met, or as many unlike ones of its set as ways were met behind it -/
theorem missAt_at {sets ways line : Int} (hn : 1 ≤ sets) (hw : 1 ≤ ways) {os : List Int} {i : Nat} {o : Int} (ho : os[i]? = some o) {a r : List Int} (e : backs line os i = a ++ r) (ha : o / line ∉ a)
    (hr : r = [] ∨ ∃ b, r = (o / line) :: b) :
    missAt ways line (fresh sets) os i = (decide (r = []) || decide (ways ≤ ((dd (a.filter fun x => decide (x % sets = (o / line) % sets))).length : Int))) := by
  unfold missAt miss
  rw [after_at hn hw, List.getD_eq_getElem?_getD, ho]
  show (!decide ((o / line) ∈ lotOf (lotsAt sets.toNat ways.toNat (backs line os i)) (o / line))) = _
  generalize o / line = z at e ha hr
  have hp : place sets.toNat z < sets.toNat := place_lt (by omega) z
  have e1 : lotOf (lotsAt sets.toNat ways.toNat (backs line os i)) z = (recents sets.toNat ways.toNat (backs line os i) (place sets.toNat z)).reverse := by
    unfold lotOf
    rw [at_place, lotsAt_len, List.getD_eq_getElem?_getD, lotsAt_get hp]
    rfl
  rw [e1, e]
  have es : (sets.toNat : Int) = sets := by omega
  have ep : ∀ x, decide (place sets.toNat x = place sets.toNat z) = decide (x % sets = z % sets) := by
    intro x
    unfold place
    rw [es]
    have h1 := Int.emod_nonneg x (show sets ≠ 0 by omega)
    have h2 := Int.emod_nonneg z (show sets ≠ 0 by omega)
    by_cases h : x % sets = z % sets
    · rw [h]
      simp
    · rw [decide_eq_false h, decide_eq_false]
      omega
  unfold recents
  simp only [ep, List.mem_reverse]
  rcases hr with rfl | ⟨b, rfl⟩
  · rw [List.append_nil, decide_eq_true (rfl : ([] : List Int) = []), Bool.true_or, decide_eq_false]
    · rfl
    · intro h
      exact ha (List.mem_filter.mp (dd_mem.mp (List.mem_of_mem_take h))).1
  · rw [show decide (z ∈ List.take ways.toNat (dd ((a ++ z :: b).filter fun x => decide (x % sets = z % sets)))) = decide ((dd (a.filter fun x => decide (x % sets = z % sets))).length < ways.toNat) from by rw [decide_eq_decide]; exact held_iff _ (by simp) ha b _]
    rw [decide_eq_false (by simp : ¬ (z :: b) = []), Bool.false_or]
    generalize (dd (a.filter fun x => decide (x % sets = z % sets))).length = m
    by_cases h : m < ways.toNat
    · rw [decide_eq_true h, decide_eq_false (by omega)]
      rfl
    · rw [decide_eq_false h, decide_eq_true (by omega)]
      rfl
theorem recents_snoc {n w : Nat} {l : List Int} {z : Int} : recents n w (l ++ [z]) (place n z) = if z ∉ recents n w l (place n z) ∧ (recents n w l (place n z)).length < w then recents n w l (place n z) ++ [z] else recents n w l (place n z) := by
  unfold recents
  have e : [z].filter (fun x => decide (place n x = place n z)) = [z] := by simp
  rw [List.filter_append, e, dd_snoc]
  generalize l.filter (fun x => decide (place n x = place n z)) = m
  by_cases h : z ∈ m
  · rw [if_pos h]
    have hm := dd_mem.mpr h
    by_cases h2 : z ∈ (dd m).take w
    · rw [if_neg fun q => q.1 h2]
    · rw [if_neg]
      intro q
      rw [List.length_take] at q
      have : (dd m).take w = dd m := take_full (by omega)
      rw [this] at h2
      exact h2 hm
  · rw [if_neg h]
    have h2 : z ∉ (dd m).take w := fun q => h (dd_mem.mp (List.mem_of_mem_take q))
    by_cases h3 : (dd m).length < w
    · have e1 : (dd m).take w = dd m := take_full (by omega)
      rw [e1, if_pos ⟨fun q => h (dd_mem.mp q), h3⟩, take_full (by rw [List.length_append, List.length_singleton]; omega)]
    · rw [if_neg, List.take_append_of_le_length (by omega)]
      intro q
      rw [List.length_take] at q
      omega
theorem recents_other {n w : Nat} {l : List Int} {z : Int} {r : Nat} (h : place n z ≠ r) : recents n w (l ++ [z]) r = recents n w l r := by
  unfold recents
  have e : [z].filter (fun x => decide (place n x = r)) = [] := by simp [h]
  rw [List.filter_append, e, List.append_nil]
theorem recents_len (n w : Nat) (l : List Int) (r : Nat) : (recents n w l r).length ≤ w := by
  unfold recents
  rw [List.length_take]
  omega
theorem kept_in {sets ways line : Int} (hn : 1 ≤ sets) (hw : 1 ≤ ways) {os : List Int} {l : List Int} (hl : l ∈ kept sets ways line os) : l.length ≤ ways.toNat ∧ ∀ z ∈ l, ∃ o ∈ os, z = o / line := by
  rw [kept_at hn hw] at hl
  unfold lotsAt at hl
  obtain ⟨r, _, rfl⟩ := List.mem_map.mp hl
  constructor
  · rw [List.length_reverse]
    exact recents_len ..
  · intro z hz
    have h1 := dd_mem.mp (List.mem_of_mem_take (List.mem_reverse.mp hz))
    have h2 := List.mem_reverse.mp (List.mem_filter.mp h1).1
    obtain ⟨o, ho, rfl⟩ := List.mem_map.mp h2
    exact ⟨o, ho, rfl⟩
end Lru

namespace B
open PySem PySem.Spec PyProof.Rows L2
def topS (i : Nat) : Stmt := PySem.Challenge.pw_nearlay_k51_near_stores_touched.main.body.getD i (.Pass ⟨0, 0, 0, 0⟩)
end B


namespace B
open PySem PySem.Spec PyProof.Rows L2
abbrev s_is_number : Stmt := (topS 5)
theorem sc_is_number : FnScope ["thing"] ["thing"] (defScope s_is_number) := ⟨rfl, rfl, rfl, by decide +kernel, rfl, by decide +kernel, by decide +kernel⟩
abbrev s_is_from : Stmt := (topS 6)
theorem sc_is_from : FnScope ["thing", "least", "most"] ["thing", "least", "most"] (defScope s_is_from) := ⟨rfl, rfl, rfl, by decide +kernel, rfl, by decide +kernel, by decide +kernel⟩
abbrev s_is_near : Stmt := (topS 11)
theorem sc_is_near : FnScope ["thing", "one", "most"] ["thing"] (defScope s_is_near) := ⟨rfl, rfl, rfl, by decide +kernel, rfl, by decide +kernel, by decide +kernel⟩
abbrev s_need_near : Stmt := (topS 12)
theorem sc_need_near : FnScope ["thing"] ["thing"] (defScope s_need_near) := ⟨rfl, rfl, rfl, by decide +kernel, rfl, by decide +kernel, by decide +kernel⟩
abbrev s_need_touches : Stmt := (topS 13)
theorem sc_need_touches : FnScope ["thing", "octet"] ["thing"] (defScope s_need_touches) := ⟨rfl, rfl, rfl, by decide +kernel, rfl, by decide +kernel, by decide +kernel⟩
abbrev s_Store_init : Stmt := (inClass (topS 14) 0)
theorem sc_Store_init : FnScope ["self", "near", "sets", "number"] ["self", "near"] (defScope s_Store_init) := ⟨rfl, rfl, rfl, by decide +kernel, rfl, by decide +kernel, by decide +kernel⟩
abbrev s_Store_touch : Stmt := (inClass (topS 14) 1)
theorem sc_Store_touch : FnScope ["self", "octet", "line", "lot", "missing"] ["self", "octet"] (defScope s_Store_touch) := ⟨rfl, rfl, rfl, by decide +kernel, rfl, by decide +kernel, by decide +kernel⟩
abbrev s_missed_by : Stmt := (topS 15)
theorem sc_missed_by : FnScope ["near", "touches", "store", "place", "octet"] ["near", "touches"] (defScope s_missed_by) := ⟨rfl, rfl, rfl, by decide +kernel, rfl, by decide +kernel, by decide +kernel⟩
abbrev s_misses : Stmt := (topS 16)
theorem sc_misses : FnScope ["near", "touches"] ["near", "touches"] (defScope s_misses) := ⟨rfl, rfl, rfl, by decide +kernel, rfl, by decide +kernel, by decide +kernel⟩
abbrev s_missed : Stmt := (topS 17)
theorem sc_missed : FnScope ["near", "touches"] ["near", "touches"] (defScope s_missed) := ⟨rfl, rfl, rfl, by decide +kernel, rfl, by decide +kernel, by decide +kernel⟩
abbrev s_kept : Stmt := (topS 18)
theorem sc_kept : FnScope ["near", "touches", "store", "octet", "lot"] ["near", "touches"] (defScope s_kept) := ⟨rfl, rfl, rfl, by decide +kernel, rfl, by decide +kernel, by decide +kernel⟩
structure NTxt (K : PySem.W.Frag) (mg : Str → Option Value) (CS : Addr) : Prop where
  d_is_number : DefAt K mg "is_number" s_is_number ["thing"]
  d_is_from : DefAt K mg "is_from" s_is_from ["thing", "least", "most"]
  d_is_near : DefAt K mg "is_near" s_is_near ["thing"]
  d_need_near : DefAt K mg "need_near" s_need_near ["thing"]
  d_need_touches : DefAt K mg "need_touches" s_need_touches ["thing"]
  d_missed_by : DefAt K mg "missed_by" s_missed_by ["near", "touches"]
  d_misses : DefAt K mg "misses" s_misses ["near", "touches"]
  d_missed : DefAt K mg "missed" s_missed ["near", "touches"]
  d_kept : DefAt K mg "kept" s_kept ["near", "touches"]
  i_Store : IniAt K mg "Store" CS "Store.__init__" s_Store_init ["self", "near"]
  m_touch : MetAt K CS "touch" "Store.touch" s_Store_touch ["self", "octet"]
  cl : Cls K CS
  nW : NoAttr K CS "ways"
  nL : NoAttr K CS "line"
  nT : NoAttr K CS "lots"
  g_MOST_SETS : ∃ t, mg "MOST_SETS" = some (.int 4 t)
  g_MOST_WAYS : ∃ t, mg "MOST_WAYS" = some (.int 4 t)
  g_MOST_LINE : ∃ t, mg "MOST_LINE" = some (.int 8 t)
  z_len : mg "len" = none
  z_int : mg "int" = none
  z_bool : mg "bool" = none
  z_tuple : mg "tuple" = none
  z_isinstance : mg "isinstance" = none
  z_all : mg "all" = none
  z_zip : mg "zip" = none
  z_range : mg "range" = none
  z_enumerate : mg "enumerate" = none
/-! ### the mirror -/
def isNum : PyData → Bool
  | .int _ => true
  | _ => false
theorem isNum_eq (d : PyData) : (isiInt d && !isiBool d) = isNum d := by cases d <;> rfl
def isFrom (lo hi : Int) : PyData → Bool
  | .int i => decide (lo ≤ i) && decide (i ≤ hi)
  | _ => false
def isNear : PyData → Bool
  | .tuple [a, b, c] => isFrom 1 4 a && (isFrom 1 4 b && isFrom 1 8 c)
  | _ => false
section
variable {P : Program} {w : World} {K : PySem.W.Frag} {mg : Str → Option Value} {base : Heap} {CS : Addr}
def spIsNumber (K : PySem.W.Frag) : Sp := fun vs H Q _ => ∃ v d, vs = [v] ∧ Im K H d v ∧ Q (.bl (isNum d)) H
theorem cal_is_number (T : NTxt K mg CS) : Cal P w K mg base 1 "is_number" (spIsNumber K) := by
  refine T.d_is_number.cal sc_is_number (fun vs H Q E h => ?_) (fun f cdv A outer s H vs Q E hr h => ?_)
  · obtain ⟨v, d, rfl, _⟩ := h
    rfl
  · obtain ⟨v, d, rfl, hd, q⟩ := h
    refine ⟨_, (pss_one (ps_ret (pe_and (pe_callB (call_isiK' K (by rfl)) (by rfl) T.z_isinstance bt_isinstance (pa_cons (pv 0) (pa_cons (pe_bltn (v := .ty "int") rfl T.z_int bt_int rfl) pa_nil))) (pe_one (pe_not (pe_callB (call_isiK' K (by rfl)) (by rfl) T.z_isinstance bt_isinstance (pa_cons (pv 0) (pa_cons (pe_bltn (v := .ty "bool") rfl T.z_bool bt_bool rfl) pa_nil)))))))), ?_⟩
    have e := isNum_eq d
    refine ⟨v, rfl, v, .ty "int", _, _, _, rfl, .ty _, hd.ty, kit_int K d, _, rfl, ite_b (fun h1 => ?_) (fun h1 => ?_)⟩
    · refine ⟨v, rfl, v, .ty "bool", _, _, _, rfl, .ty _, hd.ty, kit_bool K d, _, rfl, ?_⟩
      rw [h1, Bool.true_and] at e
      rw [e]
      exact q
    · rw [h1, Bool.false_and] at e
      rw [e]
      exact q
def spIsFrom (K : PySem.W.Frag) : Sp := fun vs H Q _ => ∃ v d lo hi, vs = [v, .int lo, .int hi] ∧ Im K H d v ∧ Q (.bl (isFrom lo hi d)) H
theorem cal_is_from (T : NTxt K mg CS) : Cal P w K mg base 2 "is_from" (spIsFrom K) := by
  have c_is_number := cal_is_number (P := P) (w := w) (base := base) T
  refine T.d_is_from.cal sc_is_from (fun vs H Q E h => ?_) (fun f cdv A outer s H vs Q E hr h => ?_)
  · obtain ⟨v, d, lo, hi, rfl, _⟩ := h
    rfl
  · obtain ⟨v, d, lo, hi, rfl, hd, q⟩ := h
    refine ⟨_, (pss_one (ps_ret (pe_and (pe_c c_is_number hr (by decide) (by rfl) (pa_cons (pv 0) pa_nil)) (pe_one (pe_chain op_le op_le (pv 1) (pv 0) (pv 2)))))), ?_⟩
    refine ⟨v, rfl, v, d, rfl, hd, _, rfl, ite_b (fun h1 => ?_) (fun h1 => ?_)⟩
    · cases d with
      | int i =>
        cases hd
        refine ⟨_, rfl, _, rfl, _, _, rfl, rfl, _, rfl, ite_b (fun h2 => ?_) (fun h2 => ?_)⟩
        · refine ⟨_, rfl, _, _, rfl, rfl, ?_⟩
          have e : isFrom lo hi (.int i) = decide (i ≤ hi) := by
            show (decide (lo ≤ i) && decide (i ≤ hi)) = _
            rw [h2, Bool.true_and]
          rw [e] at q
          exact q
        · have e : isFrom lo hi (.int i) = false := by
            show (decide (lo ≤ i) && decide (i ≤ hi)) = _
            rw [h2, Bool.false_and]
          rw [e] at q
          exact q
      | _ => exact nomatch h1
    · cases d with
      | int i => exact nomatch h1
      | _ => exact q
def spIsNear (K : PySem.W.Frag) : Sp := fun vs H Q _ => ∃ v d, vs = [v] ∧ Im K H d v ∧ ∀ H', Fr [] H H' → Q (.bl (isNear d)) H'
theorem isNear_len {ds : List PyData} (h : ds.length ≠ 3) : isNear (.tuple ds) = false := by
  match ds, h with
  | [], _ => rfl
  | [_], _ => rfl
  | [_, _], _ => rfl
  | [_, _, _], h => exact absurd rfl h
  | _ :: _ :: _ :: _ :: _, _ => rfl
theorem cal_is_near (T : NTxt K mg CS) : Cal P w K mg base 3 "is_near" (spIsNear K) := by
  have c_is_from := cal_is_from (P := P) (w := w) (base := base) T
  refine T.d_is_near.cal sc_is_near (fun vs H Q E h => ?_) (fun f cdv A outer s H vs Q E hr h => ?_)
  · obtain ⟨v, d, rfl, _⟩ := h
    rfl
  · obtain ⟨v, d, rfl, hd, q⟩ := h
    refine ⟨_, (pss_cons (ps_if (PW.pt (pw_or (pt_not (pt_val (pe_callB (call_isiK' K (by rfl)) (by rfl) T.z_isinstance bt_isinstance (pa_cons (pv 0) (pa_cons (pe_bltn (v := .ty "tuple") rfl T.z_tuple bt_tuple rfl) pa_nil))))) (pw_or1 (pt_cmpR op_ne (pe_callB (call_lenK K (by rfl)) (by rfl) T.z_len bt_len (pa_cons (pv 0) pa_nil)) pe_int (nomark _)))))
  (pss_one (ps_ret pe_bl))
  pss_nil)
  (pss_one (ps_ret (pe_callB (cr_allK K (by rfl) (by rfl)) (by rfl) T.z_all bt_all (by exact (pa_cons (pe_lcX [("one", 1), ("most", 2)] (by rfl) sc_is_near.nd (pi_zipK K (by rfl) (by rfl) T.z_zip (pa_cons (pv 0) (pa_cons (pe_tup (pa_cons (pe_gint rfl T.g_MOST_SETS) (pa_cons (pe_gint rfl T.g_MOST_WAYS) (pa_cons (pe_gint rfl T.g_MOST_LINE) pa_nil)))) pa_nil)) (by rfl) (by rfl)) (blkOk_by (N := ["thing", "one", "most"]) (sc := defScope s_is_near) (by decide +kernel)) (fun _ _ _ _ _ => by exact (pg_tupK K (n := 2) (by rfl) (by rfl) (by rfl) (by rfl) (pgs_consX (by rfl) (pg_nameX 1 sc_is_near.nd rfl (by first | exact .inl rfl | exact .inr rfl) (by first | exact .inr rfl | exact .inl rfl)) (pgs_consX (by rfl) (pg_nameX 2 sc_is_near.nd rfl (by first | exact .inl rfl | exact .inr rfl) (by first | exact .inr rfl | exact .inl rfl)) pgs_nil)))) (fun _ _ _ _ _ => by exact pts_nil) (fun _ _ _ _ _ => by exact (pe_c c_is_from hr (by decide) (by rfl) (pa_cons (pv 1) (pa_cons pe_int (pa_cons (pv 2) pa_nil))))) (fun _ => rfl)) pa_nil)))))), ?_⟩
    refine ⟨v, rfl, v, .ty "tuple", _, _, _, rfl, .ty _, hd.ty, kit_tup K d, _, rfl, ?_⟩
    cases d with
    | tuple ds =>
      obtain ⟨a, xs, rfl, ht, hx⟩ := hd
      have hl := hx.len
      refine iteF ⟨_, rfl, a, xs, rfl, .inr ht, rfl, _, rfl, ite_b (fun h1 => ?_) (fun h1 => ?_)⟩
      · have h2 : ds.length ≠ 3 := fun z => by
          rw [hl, z] at h1
          exact nomatch h1
        have h3 := q H (.refl _ _)
        rw [isNear_len h2] at h3
        exact h3
      · have h2 : ds.length = 3 := by
          by_cases h : ds.length = 3
          · exact h
          · exfalso
            have e : decide (V.int (xs.length : Int) = .int 3) = false := decide_eq_false fun z => h (by injection z with z; omega)
            rw [e] at h1
            exact nomatch h1
        match ds, h2 with
        | [d1, d2, d3], _ =>
          obtain ⟨x1, r1, rfl, i1, x2, r2, rfl, i2, x3, r3, rfl, i3, rfl⟩ := hx
          refine ⟨_, rfl, (by show 3 ≤ sizeLine; decide), fun t nt => ?_⟩
          have f1 : Fr [] H (upd H t (.tup [.int 4, .int 4, .int 8])) := .new nt
          refine ⟨_, _, _, _, rfl, .inr ⟨f1.tup ht, sqT_of upd_same, fun D nD => ?_⟩⟩
          refine lc_each (walk_zipT (n := 3) rfl) (fun i => .bl (isFrom 1 ([4, 4, 8].getD i 0) ([d1, d2, d3].getD i .none))) nD (by decide) (fun H' fr => ⟨fr.tup (f1.tup ht), fr.tup (sqT_of upd_same)⟩) ?_ gTup2_mono (fun i H x H' _ y => ypair_fr y) ?_
          · rintro i x H2 H3 Z1 hi fr ⟨T0, y1, y2, rfl, hT0, rfl, e1, e2⟩ hz
            have f3 : Fr [] H2 (upd H2 T0 (.tup [y1, y2])) := .new hT0
            have f13 := (f1.trans fr).trans f3
            refine ⟨T0, _, rfl, sqT_of upd_same, rfl, _, _, rfl, _, _, rfl, rfl, rfl, ?_⟩
            match i, hi with
            | 0, _ =>
              cases e1
              cases e2
              exact ⟨_, rfl, _, rfl, x1, d1, 1, 4, rfl, i1.mono f13, hz _ (.refl _ _)⟩
            | 1, _ =>
              cases e1
              cases e2
              exact ⟨_, rfl, _, rfl, x2, d2, 1, 4, rfl, i2.mono f13, hz _ (.refl _ _)⟩
            | 2, _ =>
              cases e1
              cases e2
              exact ⟨_, rfl, _, rfl, x3, d3, 1, 8, rfl, i3.mono f13, hz _ (.refl _ _)⟩
          · intro H2 fr hl2
            refine ⟨D, [isFrom 1 4 d1, isFrom 1 4 d2, isFrom 1 8 d3], rfl, sqL_of hl2, ?_⟩
            have h3 := q H2 (f1.trans fr)
            show Q (.bl (isFrom 1 4 d1 && (isFrom 1 4 d2 && (isFrom 1 8 d3 && true)))) H2
            rw [Bool.and_true]
            exact h3
    | _ => exact iteT (iteT (q H (.refl _ _)))

/-! ### the store -/
theorem kWL : ¬ (("ways" : Str) = "line") := by decide +kernel
theorem kWT : ¬ (("ways" : Str) = "lots") := by decide +kernel
theorem kLT : ¬ (("line" : Str) = "lots") := by decide +kernel
def sflds (ways line : Int) (L : Addr) : List (Str × V) := putF "lots" (.ref L) (putF "line" (.int line) (putF "ways" (.int ways) []))
theorem sflds_ways (ways line : Int) (L : Addr) : (sflds ways line L).lookup ("ways" : Str) = some (.int ways) := by
  unfold sflds
  rw [lookup_putF, if_neg kWT, lookup_putF, if_neg kWL, lookup_putF, if_pos rfl]
theorem sflds_line (ways line : Int) (L : Addr) : (sflds ways line L).lookup ("line" : Str) = some (.int line) := by
  unfold sflds
  rw [lookup_putF, if_neg kLT, lookup_putF, if_pos rfl]
theorem sflds_lots (ways line : Int) (L : Addr) : (sflds ways line L).lookup ("lots" : Str) = some (.ref L) := by
  unfold sflds
  rw [lookup_putF, if_pos rfl]
theorem sflds_no (ways line : Int) (L : Addr) {m : Str} (h1 : ¬ m = "lots") (h2 : ¬ m = "line") (h3 : ¬ m = "ways") : (sflds ways line L).lookup m = none := by
  unfold sflds
  rw [lookup_putF, if_neg h1, lookup_putF, if_neg h2, lookup_putF, if_neg h3]
  all_goals rfl
structure StoreAt (CS : Addr) (H : Hp) (p L : Addr) (ls : List Addr) (ways line : Int) (lots : List (List Int)) : Prop where
  ob : ∃ dx, H p = some (.ins CS dx (sflds ways line L))
  ll : H L = some (.lst (ls.map V.ref))
  len : ls.length = lots.length
  nd : ls.Nodup
  at' : ∀ (i : Nat) (l : Addr) (lot : List Int), ls[i]? = some l → lots[i]? = some lot → H l = some (.lst (lot.map V.int))
  nL : L ∉ ls
  np : p ∉ ls
theorem StoreAt.fr {H H' : Hp} {p L : Addr} {ls M : List Addr} {ways line : Int} {lots : List (List Int)} (S : StoreAt CS H p L ls ways line lots) (f : Fr M H H') (h1 : p ∉ M) (h2 : L ∉ M) (h3 : ∀ l ∈ ls, l ∉ M) : StoreAt CS H' p L ls ways line lots where
  ob := let ⟨dx, e⟩ := S.ob; ⟨dx, f.ne e h1⟩
  ll := f.ne S.ll h2
  len := S.len
  nd := S.nd
  at' := fun i l lot a b => f.ne (S.at' i l lot a b) (h3 l (List.mem_of_getElem? a))
  nL := S.nL
  np := S.np
def spInit (K : PySem.W.Frag) (CS : Addr) : Sp := fun vs H Q _ => ∃ (p dx a : Addr) (sets ways line : Int), vs = [.ref p, .ref a] ∧ H p = some (.ins CS dx []) ∧ SqT K H a [.int sets, .int ways, .int line] ∧ 0 ≤ sets ∧ sets ≤ 4 ∧
  ∀ (L : Addr) (ls : List Addr) (H' : Hp), StoreAt CS H' p L ls ways line (Lru.fresh sets) → Fr [p] H H' → H L = none → (∀ l ∈ ls, H l = none) → Q .non H'
theorem mak_Store (T : NTxt K mg CS) : Mak P w K mg base 1 "Store" CS (spInit K CS) := by
  refine T.i_Store.mak sc_Store_init (fun vs H Q E h => ?_) (fun f cdv A outer s H vs Q E hr h => ?_)
  · obtain ⟨p, dx, a, sets, ways, line, rfl, _⟩ := h
    rfl
  · obtain ⟨p, dx, a, sets, ways, line, rfl, hp, ha, s0, s4, q⟩ := h
    refine ⟨_, (pss_cons (ps_asg (pv 1) (pg_tupK K (n := 3) (by rfl) (by rfl) (by rfl) (by rfl) (pgs_consX (by rfl) (pg_nameX 2 sc_Store_init.nd rfl (by first | exact .inl rfl | exact .inr rfl) (by first | exact .inr rfl | exact .inl rfl)) (pgs_consX (by rfl) (pg_fldK K (by rfl) (pv 0)) (pgs_consX (by rfl) (pg_fldK K (by rfl) (pv 0)) pgs_nil)))))
  (pss_one (ps_fld (pv 0) (pe_lcX [("number", 3)] (by rfl) sc_Store_init.nd (pi_range1 (by rfl) T.z_range (pa_cons (pv 2) pa_nil)) (blkOk_by (N := ["self", "near", "sets", "number"]) (sc := defScope s_Store_init) (by decide +kernel)) (fun _ _ _ _ _ => by exact (pg_nameX 3 sc_Store_init.nd rfl (by first | exact .inl rfl | exact .inr rfl) (by first | exact .inr rfl | exact .inl rfl))) (fun _ _ _ _ _ => by exact pts_nil) (fun _ _ _ _ _ => by exact (pe_lst pa_nil)) (fun _ => rfl)) rfl))), ?_⟩
    have npa : ∀ xs, H p ≠ some (.tup xs) := fun xs z => by rw [hp] at z; cases z
    -- sets, self.ways, self.line = near
    refine ⟨_, rfl, a, _, rfl, ha, rfl, _, _, rfl, _, _, rfl, _, rfl, p, CS, dx, [], rfl, hp, T.cl, T.nW, (by decide), _, _, rfl, _, rfl, p, CS, dx, _, rfl, upd_same, T.cl, T.nL, (by show 1 < 1000; decide), rfl, ?_⟩
    have f1 : Fr [p] H (upd H p (.ins CS dx (putF "ways" (.int ways) []))) := .wr hp trivial (by simp)
    have f2 : Fr [p] H (upd (upd H p (.ins CS dx (putF "ways" (.int ways) []))) p (.ins CS dx (putF "line" (.int line) (putF "ways" (.int ways) [])))) := f1.put upd_same trivial (.inl (by simp))
    -- self.lots = [[] for number in range(sets)]
    refine ⟨_, rfl, sets, rfl, by omega, by omega, fun D nD => ?_⟩
    have npD : p ≠ D := ne_of_none upd_same nD
    have nD0 : H D = none := f2.free _ nD
    refine lc_it walk_range (fun i H2 => ∃ ls : List Addr, ls.length = i ∧ ls.Nodup ∧ H2 D = some (.lst (ls.map V.ref)) ∧ (∀ l ∈ ls, H2 l = some (.lst []) ∧ H l = none ∧ l ≠ D ∧ l ≠ p) ∧ Fr [] (upd (upd H p (.ins CS dx (putF "ways" (.int ways) []))) p (.ins CS dx (putF "line" (.int line) (putF "ways" (.int ways) [])))) H2)
      ⟨[], rfl, List.nodup_nil, upd_same, (fun l hl => nomatch hl), .new nD⟩ (fun _ _ _ _ => trivial) ?_ ?_
    · rintro i x H2 H3 hi ⟨ls, el, nd, hD, hl, fr⟩ ⟨rfl, rfl⟩
      refine ⟨rfl, tYes_if ⟨Nat.zero_le _, fun o no => ?_⟩⟩
      have noD : D ≠ o := ne_of_none hD no
      have nop : p ≠ o := ne_of_none (fr.at upd_same) no
      have nol : ∀ l ∈ ls, l ≠ o := fun l hm => ne_of_none (hl l hm).1 no
      refine ⟨_, (by rw [upd_ne noD]; exact hD), (by rw [List.length_map, el]; have e := sizeLine_eq; omega), ls ++ [o], by rw [List.length_append, el]; rfl, ?_, ?_, ?_, ?_⟩
      · rw [List.nodup_append]
        exact ⟨nd, by simp, fun a ha b hb => by cases List.mem_singleton.mp hb; exact nol a ha⟩
      · rw [upd_same, List.map_append]
        rfl
      · intro l hm
        rcases List.mem_append.mp hm with hm | hm
        · obtain ⟨z1, z2, z3, z4⟩ := hl l hm
          exact ⟨by rw [upd_ne z3, upd_ne (nol l hm)]; exact z1, z2, z3, z4⟩
        · cases List.mem_singleton.mp hm
          exact ⟨by rw [upd_ne (Ne.symm noD), upd_same], f2.free _ (fr.free _ no), Ne.symm noD, Ne.symm nop⟩
      · exact (fr.up no).put (o := .lst (ls.map V.ref)) (by rw [upd_ne noD]; exact hD) trivial (.inr nD)
    · rintro H2 ⟨ls, el, nd, hD, hl, fr⟩
      refine ⟨_, rfl, p, CS, dx, _, rfl, fr.at upd_same, T.cl, T.nT, (by show 2 < 1000; decide), ?_⟩
      have f3 : Fr [p] H H2 := f2.trans (fr.mono fun l z => nomatch z)
      refine q D ls _ ⟨⟨dx, upd_same⟩, (by rw [upd_ne (Ne.symm npD)]; exact hD), (by unfold Lru.fresh; rw [List.length_replicate, el]), nd, ?_, fun z => (hl D z).2.2.1 rfl, fun z => (hl p z).2.2.2 rfl⟩ (f3.put (fr.at upd_same) trivial (.inl (by simp))) nD0 fun l hm => (hl l hm).2.1
      intro i l lot hi hlot
      have hm := List.mem_of_getElem? hi
      have e : lot = [] := by
        unfold Lru.fresh at hlot
        exact List.eq_of_mem_replicate (List.mem_of_getElem? hlot)
      rw [e, upd_ne (hl l hm).2.2.2]
      exact (hl l hm).1

theorem inV_int (z : Int) : ∀ ns : List Int, inV (.int z) (ns.map V.int) = decide (z ∈ ns)
  | [] => rfl
  | n :: ns => by
    have ih := inV_int z ns
    unfold inV at ih ⊢
    rw [List.map_cons, List.any_cons, ih]
    have e : eqV (.int n) (.int z) = decide (n = z) := rfl
    rw [e]
    by_cases h : n = z
    · subst h
      simp
    · have h2 : ¬ z = n := fun q => h q.symm
      simp [h, h2]
theorem flat_ints : ∀ ns : List Int, (ns.map V.int).all flatV = true
  | [] => rfl
  | n :: ns => by
    rw [List.map_cons, List.all_cons, flat_ints ns]
    rfl
theorem erase_at {ns : List Int} {z : Int} (h : z ∈ ns) : ∃ j, ns[j]? = some z ∧ (∀ m : Nat, m < j → ns[m]? ≠ some z) ∧ ns.eraseIdx j = ns.erase z := by
  induction ns with
  | nil => exact nomatch h
  | cons n ns ih =>
    by_cases e : n = z
    · subst e
      exact ⟨0, rfl, fun m hm => absurd hm (Nat.not_lt_zero m), by simp⟩
    · have h2 : z ∈ ns := by
        rcases List.mem_cons.mp h with q | q
        · exact absurd q.symm e
        · exact q
      obtain ⟨j, h3, h4, h5⟩ := ih h2
      refine ⟨j + 1, by simpa using h3, fun m hm => ?_, ?_⟩
      · cases m with
        | zero => simpa using e
        | succ m => simpa using h4 m (by omega)
      · have e2 : (n == z) = false := by simpa using e
        rw [List.eraseIdx_cons_succ, h5, List.erase_cons, e2]
        rfl
def spTouch (CS : Addr) : Sp := fun vs H Q _ => ∃ (p L : Addr) (ls : List Addr) (ways line : Int) (lots : List (List Int)) (o : Int), vs = [.ref p, .int o] ∧ StoreAt CS H p L ls ways line lots ∧ 1 ≤ line ∧ line ≤ 8 ∧ lots ≠ [] ∧ Lru.Few ways lots ∧ 1 ≤ ways ∧ ways ≤ 4 ∧
  ∀ H', Fr ls H H' → StoreAt CS H' p L ls ways line (Lru.touch ways line lots o) → Q (.bl (Lru.miss line lots o)) H'
theorem met_touch (T : NTxt K mg CS) : Met P w K mg base 1 CS "touch" (spTouch CS) := by
  refine T.m_touch.met sc_Store_touch (fun vs H Q E h => ?_) (fun f cdv A outer s H vs Q E hr h => ?_)
  · obtain ⟨p, L, ls, ways, line, lots, o, rfl, _⟩ := h
    rfl
  · obtain ⟨p, L, ls, ways, line, lots, o, rfl, S, l1, l8, ne, few, w1, w4, q⟩ := h
    refine ⟨_, (pss_cons (ps_set (i := 2) sc_Store_touch.nd rfl (by first | exact .inl rfl | exact .inr rfl) (pe_op op_fdiv (pv 1) (pe_fldK K (by rfl) (by rfl) (pv 0))))
  (pss_cons (ps_set (i := 3) sc_Store_touch.nd rfl (by first | exact .inl rfl | exact .inr rfl) (pe_ix (ix_listK K (by rfl)) (pe_fldK K (by rfl) (by rfl) (pv 0)) (pe_op op_mod (pv 2) (pe_callB (call_lenK K (by rfl)) (by rfl) T.z_len bt_len (pa_cons (pe_fldK K (by rfl) (by rfl) (pv 0)) pa_nil))) (fun _ _ => rfl)))
  (pss_cons (ps_set (i := 4) sc_Store_touch.nd rfl (by first | exact .inl rfl | exact .inr rfl) (pe_cmpR (op_notIn_seqK K (by rfl)) (pv 2) (pv 3) (by rfl)))
  (pss_cons (ps_if (pt_not (pt_val (pv 4)))
  (pss_one (ps_expr (pe_bmK K (by rfl) PySem.F.plainAttrs_list PySem.F.slot_list_remove PySem.F.type_list_remove mt_remove (pv 3) (pa_cons (pv 2) pa_nil))))
  pss_nil)
  (pss_cons (ps_expr (pe_bmK K (by rfl) PySem.F.plainAttrs_list PySem.F.slot_list_append PySem.F.type_list_append mt_append (pv 3) (pa_cons (pv 2) pa_nil)))
  (pss_cons (ps_if (pt_cmpR op_gt (pe_callB (call_lenK K (by rfl)) (by rfl) T.z_len bt_len (pa_cons (pv 3) pa_nil)) (pe_fldK K (by rfl) (by rfl) (pv 0)) (nomark _))
  (pss_one (ps_expr (pe_bmK K (by rfl) PySem.F.plainAttrs_list PySem.F.slot_list_pop PySem.F.type_list_pop mt_popAt (pv 3) (pa_cons pe_int pa_nil))))
  pss_nil)
  (pss_one (ps_ret (pv 4))))))))), ?_⟩
    obtain ⟨dx, hp⟩ := S.ob
    have hlen : 0 < lots.length := by
      cases lots with
      | nil => exact absurd rfl ne
      | cons _ _ => exact Nat.succ_pos _
    have hll : ls.length = lots.length := S.len
    -- the place of the lot
    have hz0 : 0 ≤ (o / line) % (lots.length : Int) := Int.emod_nonneg _ (by omega)
    have hz1 : (o / line) % (lots.length : Int) < lots.length := Int.emod_lt_of_pos _ (by omega)
    have hj : Lru.at' lots (o / line) < lots.length := by unfold Lru.at'; omega
    have hzj : (o / line) % ((ls.map V.ref).length : Int) = ((Lru.at' lots (o / line) : Nat) : Int) := by
      rw [List.length_map, hll]
      unfold Lru.at'
      omega
    generalize ej : Lru.at' lots (o / line) = j at hj hzj
    have hjl : j < ls.length := by omega
    obtain ⟨l, hl⟩ : ∃ l, ls[j]? = some l := ⟨_, List.getElem?_eq_getElem hjl⟩
    obtain ⟨lot, hlot⟩ : ∃ lot, lots[j]? = some lot := ⟨_, List.getElem?_eq_getElem hj⟩
    have elot : Lru.lotOf lots (o / line) = lot := by
      unfold Lru.lotOf
      rw [ej, List.getD_eq_getElem?_getD, hlot]
      rfl
    have hml : l ∈ ls := List.mem_of_getElem? hl
    have nlL : l ≠ L := fun z => S.nL (z ▸ hml)
    have nlp : l ≠ p := fun z => S.np (z ▸ hml)
    have hH := S.at' j l lot hl hlot
    have hlw : (lot.length : Int) ≤ ways := by rw [← elot]; exact few.lot (by omega) _
    have emiss : Lru.miss line lots o = !decide ((o / line) ∈ lot) := by
      unfold Lru.miss
      rw [elot]
    have etouch : Lru.touch ways line lots o = lots.set j (Lru.lotPut ways lot (o / line)) := by
      unfold Lru.touch
      rw [elot, ej]
    -- what the end gives
    have fin : ∀ H', Fr ls H H' → H' L = some (.lst (ls.map V.ref)) → H' p = some (.ins CS dx (sflds ways line L)) → H' l = some (.lst ((Lru.lotPut ways lot (o / line)).map V.int)) → (∀ b ∈ ls, b ≠ l → H' b = H b) → Q (.bl (Lru.miss line lots o)) H' := by
      intro H' fr h1 h2 h3 h4
      refine q H' fr ⟨⟨dx, h2⟩, h1, by rw [Lru.touch_len, hll], S.nd, fun i b lt hi hlt => ?_, S.nL, S.np⟩
      rw [etouch, List.getElem?_set] at hlt
      by_cases e : j = i
      · subst e
        rw [if_pos rfl, if_pos hj] at hlt
        cases hlt
        rw [hl] at hi
        cases hi
        exact h3
      · rw [if_neg e] at hlt
        have nb : b ≠ l := fun z => e (by
          rw [z] at hi
          exact nd_ix S.nd hl hi)
        rw [h4 b (List.mem_of_getElem? hi) nb]
        exact S.at' i b lt hi hlt
    -- line = octet // self.line
    refine ⟨_, rfl, _, rfl, p, CS, dx, _, _, rfl, hp, T.cl, T.nL, sflds_line _ _ _, _, _, rfl, rfl, ⟨by omega, by omega⟩, ?_⟩
    -- lot = self.lots[line % len(self.lots)]
    refine ⟨_, rfl, p, CS, dx, _, _, rfl, hp, T.cl, T.nT, sflds_lots _ _ _, _, rfl, _, rfl, p, CS, dx, _, _, rfl, hp, T.cl, T.nT, sflds_lots _ _ _, L, _, rfl, .inl (sqL_of S.ll), _, _, rfl, rfl, (by rw [List.length_map]; omega), L, _, _, .ref l, rfl, rfl, sqL_of S.ll, at_of hzj (by rw [List.getElem?_map, hl]; rfl), ?_⟩
    -- missing = line not in lot
    refine ⟨_, rfl, _, rfl, l, _, rfl, .inl (sqL_of hH), rfl, flat_ints _, ?_⟩
    show tSeq _ _ _ (List.set _ _ (some (V.bl (!inV (.int (o / line)) (lot.map V.int))))) H
    rw [inV_int]
    -- if not missing: lot.remove(line)
    have hsl := sizeLine_eq
    have done : ∀ (H2 : Hp) (m : Bool), m = (!decide ((o / line) ∈ lot)) → H2 l = some (.lst ((lot.erase (o / line)).map V.int)) → (∀ b, b ≠ l → H2 b = H b) →
        tSeq (tDrop (tBM K "list" rAppend (tVar 3) (tCons (tVar 2) tNil))) (tSeq (tIfS (tTest (tOp (rI0 fun i j => .bl (decide (j < i))) (tCB (rLenS K) (tCons (tVar 3) tNil)) (tFld K (tVar 0) "ways"))) (tDrop (tBM K "list" rPopAt (tVar 3) (tCons (tC (.int 0)) tNil))) tNext) (tRet (tVar 4)))
          { nx := fun _ H' => Q .non H', rt := Q } [some (.ref p), some (.int o), some (.int (o / line)), some (.ref l), some (.bl m)] H2 := by
      intro H2 m em h2 h3
      have h2p : H2 p = some (.ins CS dx (sflds ways line L)) := by rw [h3 p (Ne.symm nlp)]; exact hp
      have h2L : H2 L = some (.lst (ls.map V.ref)) := by rw [h3 L (Ne.symm nlL)]; exact S.ll
      have hel := List.length_erase_le (a := o / line) (l := lot)
      refine ⟨.ref l, rfl, .inl ⟨rfl, _, sqL_of h2⟩, _, rfl, l, _, _, rfl, rfl, h2, by rw [List.length_map]; omega, ?_⟩
      generalize eH3 : upd H2 l (.lst ((lot.erase (o / line)).map V.int ++ [.int (o / line)])) = H3
      have h3l : H3 l = some (.lst (((lot.erase (o / line)) ++ [o / line]).map V.int)) := by
        rw [← eH3, upd_same, List.map_append]
        rfl
      have h3b : ∀ b, b ≠ l → H3 b = H b := fun b nb => by
        rw [← eH3, upd_ne nb]
        exact h3 b nb
      have h3p : H3 p = some (.ins CS dx (sflds ways line L)) := by rw [h3b p (Ne.symm nlp)]; exact hp
      refine ⟨_, rfl, l, _, rfl, .inl (sqL_of h3l), _, rfl, p, CS, dx, _, _, rfl, h3p, T.cl, T.nW, sflds_ways _ _ _, _, _, rfl, rfl, _, rfl, ?_⟩
      rw [List.length_map]
      have frm : ∀ H4 : Hp, (∀ b, b ≠ l → H4 b = H b) → (∃ o, H4 l = some o) → Fr ls H H4 := fun H4 h4 ⟨o4, h5⟩ => ⟨fun b ob e k => by
        have nb : b ≠ l := fun z => by
          subst z
          rcases k with k | k
          · exact k hml
          · rw [hH] at e
            cases e
            exact k trivial
        rw [h4 b nb]
        exact e, fun b e => by
        by_cases nb : b = l
        · subst nb
          rw [h5] at e
          cases e
        · rw [h4 b nb] at e
          exact e⟩
      have hfin : ∀ H4 : Hp, H4 l = some (.lst ((Lru.lotPut ways lot (o / line)).map V.int)) → (∀ b, b ≠ l → H4 b = H b) → Q (.bl m) H4 := fun H4 h4 h5 => by
        rw [em, ← emiss]
        exact fin H4 (frm H4 h5 ⟨_, h4⟩) (by rw [h5 L (Ne.symm nlL)]; exact S.ll) (by rw [h5 p (Ne.symm nlp)]; exact hp) h4 fun b _ nb => h5 b nb
      refine ite_b (fun c => ?_) (fun c => ?_)
      · have c' := of_decide_eq_true c
        refine ⟨.ref l, rfl, .inl ⟨rfl, _, sqL_of h3l⟩, l, _, 0, 0, (V.int ((lot.erase (o / line) ++ [o / line]).head (by simp))), rfl, rfl, h3l, by decide, by decide, ?_, ?_, _, rfl, ?_⟩
        · unfold seqIndex?
          rw [List.length_map, List.length_append]
          simp
        · rw [List.getElem?_map, ← List.head?_eq_getElem?, List.head?_eq_some_head (by simp)]
          rfl
        · refine hfin _ ?_ fun b nb => by rw [upd_ne nb]; exact h3b b nb
          unfold Lru.lotPut
          rw [if_pos c', upd_same]
          simp [List.map_drop]
      · have c' := of_decide_eq_false c
        refine ⟨_, rfl, ?_⟩
        refine hfin _ ?_ h3b
        unfold Lru.lotPut
        rw [if_neg c']
        exact h3l
    by_cases hm : (o / line) ∈ lot
    · rw [decide_eq_true hm]
      refine ⟨_, rfl, _, rfl, iteT ?_⟩
      obtain ⟨k, k1, k2, k3⟩ := erase_at hm
      refine ⟨.ref l, rfl, .inl ⟨rfl, _, sqL_of hH⟩, _, rfl, l, lot, _, k, rfl, rfl, hH, k1, k2, ?_⟩
      exact done _ false (by rw [decide_eq_true hm]; rfl) (by rw [upd_same, k3]) fun b nb => upd_ne nb
    · rw [decide_eq_false hm]
      refine ⟨_, rfl, _, rfl, iteF ?_⟩
      exact done H true (by rw [decide_eq_false hm]; rfl) (by rw [List.erase_of_not_mem hm]; exact hH) fun b _ => rfl

/-! ### missed_by, misses, missed, kept -/
structure GoodN (sets ways line : Int) : Prop where
  s1 : 1 ≤ sets
  s4 : sets ≤ 4
  w1 : 1 ≤ ways
  w4 : ways ≤ 4
  l1 : 1 ≤ line
  l8 : line ≤ 8
theorem GoodN.near {sets ways line : Int} (g : GoodN sets ways line) : isNear (.tuple [.int sets, .int ways, .int line]) = true := by
  obtain ⟨h1, h2, h3, h4, h5, h6⟩ := g
  show ((decide (1 ≤ sets) && decide (sets ≤ 4)) && ((decide (1 ≤ ways) && decide (ways ≤ 4)) && (decide (1 ≤ line) && decide (line ≤ 8)))) = true
  simp [h1, h2, h3, h4, h5, h6]
theorem GoodN.ne {sets ways line : Int} (g : GoodN sets ways line) : Lru.fresh sets ≠ [] := fun z => by
  have h := congrArg List.length z
  unfold Lru.fresh at h
  rw [List.length_replicate] at h
  have := g.s1
  simp at h
  omega
theorem after_ne {ways line : Int} {lots : List (List Int)} {os : List Int} {i : Nat} (h : lots ≠ []) : Lru.after ways line lots os i ≠ [] := fun z => by
  have e := Lru.after_len ways line lots os i
  rw [z] at e
  exact h (List.length_eq_zero_iff.mp e.symm)
def spMissedBy (K : PySem.W.Frag) : Sp := fun vs H Q _ => ∃ (a b : Addr) (sets ways line : Int) (os : List Int), vs = [.ref a, .ref b] ∧ SqT K H a [.int sets, .int ways, .int line] ∧ SqT K H b (os.map V.int) ∧ GoodN sets ways line ∧ os.length ≤ 100000 ∧
  ∀ (p : Addr) (H' : Hp), H p = none → Fr [] H H' → H' p = some (.lst ((Lru.missed sets ways line os).map V.int)) → Q (.ref p) H'
theorem cal_missed_by (T : NTxt K mg CS) : Cal P w K mg base 3 "missed_by" (spMissedBy K) := by
  have m_Store := mak_Store (P := P) (w := w) (base := base) T
  have mt_Store_touch := met_touch (P := P) (w := w) (base := base) T
  refine T.d_missed_by.cal sc_missed_by (fun vs H Q E h => ?_) (fun f cdv A outer s H vs Q E hr h => ?_)
  · obtain ⟨a, b, sets, ways, line, os, rfl, _⟩ := h
    rfl
  · obtain ⟨a, b, sets, ways, line, os, rfl, ha, hb, g, hlen, q⟩ := h
    refine ⟨_, (pss_cons (ps_set (i := 2) sc_missed_by.nd rfl (by first | exact .inl rfl | exact .inr rfl) (pe_mk m_Store hr (by decide) (by rfl) (pa_cons (pv 0) pa_nil)))
  (pss_one (ps_ret (pe_lcX [("place", 3), ("octet", 4)] (by rfl) sc_missed_by.nd (pi_enumT K (by rfl) (by rfl) T.z_enumerate (pa_cons (pv 1) pa_nil) (by rfl)) (blkOk_by (N := ["near", "touches", "store", "place", "octet"]) (sc := defScope s_missed_by) (by decide +kernel)) (fun _ _ _ _ _ => by exact (pg_tupK K (n := 2) (by rfl) (by rfl) (by rfl) (by rfl) (pgs_consX (by rfl) (pg_nameX 3 sc_missed_by.nd rfl (by first | exact .inl rfl | exact .inr rfl) (by first | exact .inr rfl | exact .inl rfl)) (pgs_consX (by rfl) (pg_nameX 4 sc_missed_by.nd rfl (by first | exact .inl rfl | exact .inr rfl) (by first | exact .inr rfl | exact .inl rfl)) pgs_nil)))) (fun _ _ _ _ _ => by exact (pts_one (pt_val (pe_mt mt_Store_touch hr (by decide) (pv 2) (pa_cons (pv 4) pa_nil))))) (fun _ _ _ _ _ => by exact (pv 3)) (fun _ => rfl))))), ?_⟩
    -- store = Store(near)
    refine ⟨_, rfl, fun x dx nx ndx nex => ?_⟩
    have f1 : Fr [] H (upd (upd H dx (.own x)) x (.ins CS dx [])) := (Fr.new ndx).up (by rw [upd_ne (Ne.symm nex)]; exact nx)
    refine ⟨x, dx, a, sets, ways, line, rfl, upd_same, f1.tup ha, by have := g.s1; omega, g.s4, fun L ls H1 S f2 nL nls => ⟨rfl, ?_⟩⟩
    have f3 : Fr [] H H1 := f1.cut f2 fun l hl => by cases List.mem_singleton.mp hl; exact .inr nx
    -- the comprehension
    refine ⟨_, rfl, b, _, rfl, f3.tup hb, fun D nD => ?_⟩
    have hL1 : ∀ l ∈ ls, ∃ o, H1 l = some o := fun l hl => by
      obtain ⟨i, hi⟩ := List.getElem?_of_mem hl
      have hlt := (List.getElem?_eq_some_iff.mp hi).1
      rw [S.len] at hlt
      exact ⟨_, S.at' i l _ hi (List.getElem?_eq_getElem hlt)⟩
    have nDl : D ∉ ls := fun z => by
      obtain ⟨o, e⟩ := hL1 D z
      rw [nD] at e
      cases e
    have nDx : x ≠ D := let ⟨_, hq⟩ := S.ob; ne_of_none hq nD
    have nDL : L ≠ D := ne_of_none S.ll nD
    refine lc_it walk_enumT (fun i H2 => Fr ls H1 H2 ∧ StoreAt CS H2 x L ls ways line (Lru.after ways line (Lru.fresh sets) os i) ∧ H2 D = some (.lst ((Lru.missedUp ways line (Lru.fresh sets) os i).map V.int)))
      ⟨.new nD, S.fr (.new (L := []) nD) (fun z => nomatch z) (fun z => nomatch z) (fun l _ z => nomatch z), upd_same⟩ (fun i H2 _ p => p.1.tup (f3.tup hb)) ?_ ?_
    · rintro i y H2 H3 hi ⟨fr, S2, hD⟩ ⟨T0, y1, y2, rfl, hT0, rfl, e1, e2⟩
      have hi' : i < os.length := by simpa using hi
      obtain ⟨o, ho⟩ : ∃ o, os[i]? = some o := ⟨_, List.getElem?_eq_getElem hi'⟩
      have e2' : y2 = .int o := by
        have e2b : (os.map V.int)[i]? = some y2 := e2
        rw [List.getElem?_map, ho] at e2b
        exact (Option.some.inj e2b).symm
      subst e2'
      cases e1
      have hgd : os.getD i 0 = o := by rw [List.getD_eq_getElem?_getD, ho]; rfl
      have f4 : Fr ls H2 (upd H2 T0 (.tup [.int (i : Nat), .int o])) := .new hT0
      have S3 : StoreAt CS (upd H2 T0 (.tup [.int (i : Nat), .int o])) x L ls ways line (Lru.after ways line (Lru.fresh sets) os i) := S2.fr (.new (L := []) hT0) (fun z => nomatch z) (fun z => nomatch z) (fun l _ z => nomatch z)
      obtain ⟨dx3, h3x⟩ := S3.ob
      refine ⟨T0, _, rfl, sqT_of upd_same, rfl, _, _, rfl, _, _, rfl, rfl, rfl, ?_⟩
      refine ⟨_, rfl, x, dx3, _, rfl, h3x, sflds_no _ _ _ (by decide +kernel) (by decide +kernel) (by decide +kernel), _, rfl, ?_⟩
      have nDT : D ≠ T0 := ne_of_none hD hT0
      have hD3 : (upd H2 T0 (.tup [.int (i : Nat), .int o])) D = some (.lst ((Lru.missedUp ways line (Lru.fresh sets) os i).map V.int)) := by rw [upd_ne nDT]; exact hD
      refine ⟨x, L, ls, ways, line, _, o, rfl, S3, g.l1, g.l8, after_ne g.ne, (Lru.Few.fresh (by have := g.w1; omega)).after g.w1 os i, g.w1, g.w4, fun H4 f5 S4 => ?_⟩
      rw [← Lru.after_succ ho] at S4
      have hD4 := f5.ne hD3 nDl
      have fr4 := (fr.trans f4).trans f5
      have hm : Lru.missAt ways line (Lru.fresh sets) os i = Lru.miss line (Lru.after ways line (Lru.fresh sets) os i) o := by
        unfold Lru.missAt
        rw [hgd]
      refine ⟨_, rfl, ite_b (fun c => ?_) (fun c => ?_)⟩
      · rw [← hm] at c
        have hl5 := Lru.missedUp_len ways line (Lru.fresh sets) os i
        refine ⟨_, rfl, _, hD4, (by rw [List.length_map]; have e := sizeLine_eq; omega), fr4.put hD4 trivial (.inr nD), ?_, ?_⟩
        · exact S4.fr (M := [D]) (.wr hD4 trivial (by simp)) (fun z => nDx (List.mem_singleton.mp z)) (fun z => nDL (List.mem_singleton.mp z)) (fun l hl z => nDl (List.mem_singleton.mp z ▸ hl))
        · rw [upd_same, Lru.missedUp_yes c, List.map_append]
          rfl
      · rw [← hm] at c
        refine ⟨fr4, S4, ?_⟩
        rw [Lru.missedUp_no c]
        exact hD4
    · rintro H2 ⟨fr, S2, hD⟩
      have e : (os.map V.int).length = os.length := List.length_map _
      rw [e] at hD
      exact q D H2 (f3.free _ nD) (f3.cut fr fun l hl => .inr (f1.free _ (nls l hl))) hD
def spNeedNear (K : PySem.W.Frag) : Sp := fun vs H Q _ => ∃ v d, vs = [v] ∧ Im K H d v ∧ isNear d = true ∧ ∀ H', Fr [] H H' → Q .non H'
theorem cal_need_near (T : NTxt K mg CS) : Cal P w K mg base 4 "need_near" (spNeedNear K) := by
  have c_is_near := cal_is_near (P := P) (w := w) (base := base) T
  refine T.d_need_near.cal sc_need_near (fun vs H Q E h => ?_) (fun f cdv A outer s H vs Q E hr h => ?_)
  · obtain ⟨v, d, rfl, _⟩ := h
    rfl
  · obtain ⟨v, d, rfl, hd, hn, q⟩ := h
    refine ⟨_, (pss_one (ps_if (pt_not (pt_val (pe_c c_is_near hr (by decide) (by rfl) (pa_cons (pv 0) pa_nil))))
  (pss_one ps_never)
  pss_nil)), ?_⟩
    refine ⟨_, rfl, v, d, rfl, hd, fun H1 f1 => ⟨_, rfl, ?_⟩⟩
    rw [hn]
    exact iteF (q H1 f1)
def spNeedTouches (K : PySem.W.Frag) : Sp := fun vs H Q _ => ∃ (b : Addr) (os : List Int), vs = [.ref b] ∧ SqT K H b (os.map V.int) ∧ (∀ o ∈ os, 0 ≤ o) ∧ os.length ≤ 100000 ∧ ∀ H', Fr [] H H' → Q .non H'
theorem cal_need_touches (T : NTxt K mg CS) : Cal P w K mg base 2 "need_touches" (spNeedTouches K) := by
  have c_is_number := cal_is_number (P := P) (w := w) (base := base) T
  refine T.d_need_touches.cal sc_need_touches (fun vs H Q E h => ?_) (fun f cdv A outer s H vs Q E hr h => ?_)
  · obtain ⟨b, os, rfl, _⟩ := h
    rfl
  · obtain ⟨b, os, rfl, hb, hp, hlen, q⟩ := h
    refine ⟨_, (pss_one (ps_if (PW.pt (pw_or (pt_not (pt_val (pe_callB (call_isiK' K (by rfl)) (by rfl) T.z_isinstance bt_isinstance (pa_cons (pv 0) (pa_cons (pe_bltn (v := .ty "tuple") rfl T.z_tuple bt_tuple rfl) pa_nil))))) (pw_or1 (pt_not (pt_val (pe_callB (cr_allK K (by rfl) (by rfl)) (by rfl) T.z_all bt_all (by exact (pa_cons (pe_lcX [("octet", 1)] (by rfl) sc_need_touches.nd (pi_tupK K (by rfl) (pv 0)) (blkOk_by (N := ["thing", "octet"]) (sc := defScope s_need_touches) (by decide +kernel)) (fun _ _ _ _ _ => by exact (pg_nameX 1 sc_need_touches.nd rfl (by first | exact .inl rfl | exact .inr rfl) (by first | exact .inr rfl | exact .inl rfl))) (fun _ _ _ _ _ => by exact pts_nil) (fun _ _ _ _ _ => by exact (pe_and (pe_c c_is_number hr (by decide) (by rfl) (pa_cons (pv 1) pa_nil)) (pe_one (pe_cmpR op_ge (pv 1) pe_int (nomark _))))) (fun _ => rfl)) pa_nil))))))))
  (pss_one ps_never)
  pss_nil)), ?_⟩
    refine ⟨_, rfl, _, .ty "tuple", _, _, _, rfl, .ty _, sqT_ty hb, kit_ty kb_tuple_tuple, _, rfl, iteF ?_⟩
    refine ⟨_, rfl, b, rfl, ⟨_, hb⟩, fun D nD => ?_⟩
    refine lc_each walk_tup (fun _ => .bl true) nD (by rw [List.length_map]; omega) (fun H' fr => fr.tup hb) ?_ gName_mono (fun i H x H' _ y => yat_fr y) ?_
    · rintro i x H2 H3 Z1 hi fr ⟨rfl, ex⟩ hz
      obtain ⟨o, ho, rfl⟩ : ∃ o, o ∈ os ∧ x = V.int o := by
        rw [List.getElem?_map] at ex
        cases e : os[i]? with
        | none => rw [e] at ex; cases ex
        | some o => rw [e] at ex; exact ⟨o, List.mem_of_getElem? e, (Option.some.inj ex).symm⟩
      refine ⟨rfl, _, rfl, _, .int o, rfl, rfl, _, rfl, iteT ⟨_, rfl, _, _, rfl, rfl, ?_⟩⟩
      show Z1 (.bl (decide (0 ≤ o))) H3
      rw [decide_eq_true (hp o ho)]
      exact hz _ (.refl _ _)
    · intro H2 fr hl
      refine ⟨D, (List.range (os.map V.int).length).map (fun _ => true), rfl, sqL_of (by rw [hl, List.map_map]; rfl), _, rfl, ?_⟩
      have e : ((List.range (os.map V.int).length).map (fun _ => true)).all id = true := by
        rw [List.all_map]
        exact List.all_eq_true.mpr fun _ _ => rfl
      rw [e]
      exact iteF (q H2 fr)
def spMisses (K : PySem.W.Frag) : Sp := fun vs H Q _ => ∃ (a b : Addr) (sets ways line : Int) (os : List Int), vs = [.ref a, .ref b] ∧ SqT K H a [.int sets, .int ways, .int line] ∧ SqT K H b (os.map V.int) ∧ GoodN sets ways line ∧ os.length ≤ 100000 ∧ (∀ o ∈ os, 0 ≤ o) ∧
  ∀ (H' : Hp), Fr [] H H' → Q (.int ((Lru.missed sets ways line os).length : Int)) H'
theorem near_im {H : Hp} {a : Addr} {sets ways line : Int} (h : SqT K H a [.int sets, .int ways, .int line]) : Im K H (.tuple [.int sets, .int ways, .int line]) (.ref a) := Im.tupI (ns := [sets, ways, line]) h
theorem cal_misses (T : NTxt K mg CS) : Cal P w K mg base 5 "misses" (spMisses K) := by
  have c_need_near := cal_need_near (P := P) (w := w) (base := base) T
  have c_need_touches := cal_need_touches (P := P) (w := w) (base := base) T
  have c_missed_by := cal_missed_by (P := P) (w := w) (base := base) T
  refine T.d_misses.cal sc_misses (fun vs H Q E h => ?_) (fun f cdv A outer s H vs Q E hr h => ?_)
  · obtain ⟨a, b, sets, ways, line, os, rfl, _⟩ := h
    rfl
  · obtain ⟨a, b, sets, ways, line, os, rfl, ha, hb, g, hlen, hp, q⟩ := h
    refine ⟨_, (pss_cons (ps_expr (pe_c c_need_near hr (by decide) (by rfl) (pa_cons (pv 0) pa_nil)))
  (pss_cons (ps_expr (pe_c c_need_touches hr (by decide) (by rfl) (pa_cons (pv 1) pa_nil)))
  (pss_one (ps_ret (pe_callB (call_lenK K (by rfl)) (by rfl) T.z_len bt_len (pa_cons (pe_c c_missed_by hr (by decide) (by rfl) (pa_cons (pv 0) (pa_cons (pv 1) pa_nil))) pa_nil)))))), ?_⟩
    refine ⟨_, rfl, _, _, rfl, near_im ha, g.near, fun H1 f1 => ?_⟩
    refine ⟨_, rfl, b, os, rfl, f1.tup hb, hp, hlen, fun H2 f2 => ?_⟩
    have f12 := f1.trans f2
    refine ⟨_, rfl, _, rfl, a, b, sets, ways, line, os, rfl, f12.tup ha, f12.tup hb, g, hlen, fun p H3 np f3 hl => ?_⟩
    refine ⟨p, _, rfl, .inl (sqL_of hl), ?_⟩
    have h := q H3 (f12.trans f3)
    rw [List.length_map]
    exact h
def spMissed (K : PySem.W.Frag) : Sp := fun vs H Q _ => ∃ (a b : Addr) (sets ways line : Int) (os : List Int), vs = [.ref a, .ref b] ∧ SqT K H a [.int sets, .int ways, .int line] ∧ SqT K H b (os.map V.int) ∧ GoodN sets ways line ∧ os.length ≤ 100000 ∧ (∀ o ∈ os, 0 ≤ o) ∧
  ∀ (p : Addr) (H' : Hp), Fr [] H H' → H' p = some (.tup ((Lru.missed sets ways line os).map V.int)) → Q (.ref p) H'
theorem cal_missed (T : NTxt K mg CS) : Cal P w K mg base 5 "missed" (spMissed K) := by
  have c_need_near := cal_need_near (P := P) (w := w) (base := base) T
  have c_need_touches := cal_need_touches (P := P) (w := w) (base := base) T
  have c_missed_by := cal_missed_by (P := P) (w := w) (base := base) T
  refine T.d_missed.cal sc_missed (fun vs H Q E h => ?_) (fun f cdv A outer s H vs Q E hr h => ?_)
  · obtain ⟨a, b, sets, ways, line, os, rfl, _⟩ := h
    rfl
  · obtain ⟨a, b, sets, ways, line, os, rfl, ha, hb, g, hlen, hp, q⟩ := h
    refine ⟨_, (pss_cons (ps_expr (pe_c c_need_near hr (by decide) (by rfl) (pa_cons (pv 0) pa_nil)))
  (pss_cons (ps_expr (pe_c c_need_touches hr (by decide) (by rfl) (pa_cons (pv 1) pa_nil)))
  (pss_one (ps_ret (pe_callTy (call_tupleK K (by rfl)) (by rfl) T.z_tuple bt_tuple (pa_cons (pe_c c_missed_by hr (by decide) (by rfl) (pa_cons (pv 0) (pa_cons (pv 1) pa_nil))) pa_nil)))))), ?_⟩
    refine ⟨_, rfl, _, _, rfl, near_im ha, g.near, fun H1 f1 => ?_⟩
    refine ⟨_, rfl, b, os, rfl, f1.tup hb, hp, hlen, fun H2 f2 => ?_⟩
    have f12 := f1.trans f2
    refine ⟨_, rfl, _, rfl, a, b, sets, ways, line, os, rfl, f12.tup ha, f12.tup hb, g, hlen, fun p H3 np f3 hl => ?_⟩
    exact ⟨p, _, rfl, .inl ⟨sqL_of hl, fun l nl => q l _ ((f12.trans f3).up nl) upd_same⟩⟩
end
end B


namespace B
open PySem PySem.Spec PyProof.Rows L2
section
variable {P : Program} {w : World} {K : PySem.W.Frag} {mg : Str → Option Value} {base : Heap} {CS : Addr}
def spKept (K : PySem.W.Frag) : Sp := fun vs H Q _ => ∃ (a b : Addr) (sets ways line : Int) (os : List Int), vs = [.ref a, .ref b] ∧ SqT K H a [.int sets, .int ways, .int line] ∧ SqT K H b (os.map V.int) ∧ GoodN sets ways line ∧ os.length ≤ 100000 ∧ (∀ o ∈ os, 0 ≤ o) ∧
  ∀ (p : Addr) (H' : Hp), Fr [] H H' → Im K H' (lotsD (Lru.kept sets ways line os)) (.ref p) → Q (.ref p) H'
theorem cal_kept (T : NTxt K mg CS) : Cal P w K mg base 5 "kept" (spKept K) := by
  have c_need_near := cal_need_near (P := P) (w := w) (base := base) T
  have c_need_touches := cal_need_touches (P := P) (w := w) (base := base) T
  have m_Store := mak_Store (P := P) (w := w) (base := base) T
  have mt_Store_touch := met_touch (P := P) (w := w) (base := base) T
  refine T.d_kept.cal sc_kept (fun vs H Q E h => ?_) (fun f cdv A outer s H vs Q E hr h => ?_)
  · obtain ⟨a, b, sets, ways, line, os, rfl, _⟩ := h
    rfl
  · obtain ⟨a, b, sets, ways, line, os, rfl, ha, hb, g, hlen, hp, q⟩ := h
    refine ⟨_, (pss_cons (ps_expr (pe_c c_need_near hr (by decide) (by rfl) (pa_cons (pv 0) pa_nil)))
  (pss_cons (ps_expr (pe_c c_need_touches hr (by decide) (by rfl) (pa_cons (pv 1) pa_nil)))
  (pss_cons (ps_set (i := 2) sc_kept.nd rfl (by first | exact .inl rfl | exact .inr rfl) (pe_mk m_Store hr (by decide) (by rfl) (pa_cons (pv 0) pa_nil)))
  (pss_cons (ps_for PassesOwn.never rfl (pi_tupK K (by rfl) (pv 1)) (pg_nameX 3 sc_kept.nd rfl (by first | exact .inl rfl | exact .inr rfl) (by first | exact .inr rfl | exact .inl rfl))
  (pss_one (ps_expr (pe_mt mt_Store_touch hr (by decide) (pv 2) (pa_cons (pv 3) pa_nil)))))
  (pss_one (ps_ret (pe_callTy (call_tupleK K (by rfl)) (by rfl) T.z_tuple bt_tuple (by exact (pa_cons (pe_lcX [("lot", 4)] (by rfl) sc_kept.nd (pi_listK K (by rfl) (pe_fldK K (by rfl) (by rfl) (pv 2))) (blkOk_by (N := ["near", "touches", "store", "octet", "lot"]) (sc := defScope s_kept) (by decide +kernel)) (fun _ _ _ _ _ => by exact (pg_nameX 4 sc_kept.nd rfl (by first | exact .inl rfl | exact .inr rfl) (by first | exact .inr rfl | exact .inl rfl))) (fun _ _ _ _ _ => by exact pts_nil) (fun _ _ _ _ _ => by exact (pe_callTy (call_tupleK K (by rfl)) (by rfl) T.z_tuple bt_tuple (pa_cons (pv 4) pa_nil))) (fun _ => rfl)) pa_nil))))))))), ?_⟩
    refine ⟨_, rfl, _, _, rfl, near_im ha, g.near, fun H1 f1 => ?_⟩
    refine ⟨_, rfl, b, os, rfl, f1.tup hb, hp, hlen, fun H2 f2 => ?_⟩
    have f12 := f1.trans f2
    -- store = Store(near)
    refine ⟨_, rfl, fun x dx nx ndx nex => ?_⟩
    have f3 : Fr [] H2 (upd (upd H2 dx (.own x)) x (.ins CS dx [])) := (Fr.new ndx).up (by rw [upd_ne (Ne.symm nex)]; exact nx)
    refine ⟨x, dx, a, sets, ways, line, rfl, upd_same, (f12.trans f3).tup ha, by have := g.s1; omega, g.s4, fun L ls H3 S f4 nL nls => ⟨rfl, ?_⟩⟩
    have f13 : Fr [] H H3 := f12.trans (f3.cut f4 fun l hl => by cases List.mem_singleton.mp hl; exact .inr nx)
    -- for octet in touches: store.touch(octet)
    refine ⟨_, rfl, b, rfl, ⟨_, f13.tup hb⟩, for_tup (xs := os.map V.int) (fun i σ H4 => ∃ v, σ = [some (.ref a), some (.ref b), some (.ref x), v, none] ∧ Fr ls H3 H4 ∧ StoreAt CS H4 x L ls ways line (Lru.after ways line (Lru.fresh sets) os i))
      ⟨none, rfl, .refl _ _, S⟩ (fun i σ H4 _ ⟨_, _, fr, _⟩ => fr.tup (f13.tup hb)) ?_ ?_⟩
    · rintro i y σ H4 hy ⟨v, rfl, fr, S2⟩
      obtain ⟨o, ho, rfl⟩ := map_at hy
      obtain ⟨dx3, h3x⟩ := S2.ob
      refine ⟨_, rfl, x, dx3, _, rfl, h3x, sflds_no _ _ _ (by decide +kernel) (by decide +kernel) (by decide +kernel), _, rfl, ?_⟩
      refine ⟨x, L, ls, ways, line, _, o, rfl, S2, g.l1, g.l8, after_ne g.ne, (Lru.Few.fresh (by have := g.w1; omega)).after g.w1 os i, g.w1, g.w4, fun H5 f5 S3 => ?_⟩
      rw [← Lru.after_succ ho] at S3
      exact ⟨_, rfl, fr.trans f5, S3⟩
    · rintro σ H4 ⟨v, rfl, fr, S2⟩
      rw [List.length_map, Lru.after_all] at S2
      obtain ⟨dx3, h3x⟩ := S2.ob
      -- tuple([tuple(lot) for lot in store.lots])
      refine ⟨_, rfl, x, CS, dx3, _, _, rfl, h3x, T.cl, T.nT, sflds_lots _ _ _, L, rfl, ⟨_, sqL_of S2.ll⟩, fun D nD => ?_⟩
      have hll : (ls.map V.ref).length = (Lru.kept sets ways line os).length := by rw [List.length_map]; exact S2.len
      have h4 : (Lru.kept sets ways line os).length ≤ 4 := by
        unfold Lru.kept
        rw [Lru.fold_len]
        unfold Lru.fresh
        rw [List.length_replicate]
        have := g.s4
        omega
      have fH4 : Fr [] H H4 := f13.cut fr fun l hl => .inr (f12.free _ (f3.free _ (nls l hl)))
      refine lc_dat (K := K) walk_list (fun i => .tuple (((Lru.kept sets ways line os).getD i []).map PyData.int)) nD (by rw [hll]; omega) (fun H' fr' => fr'.lst (sqL_of S2.ll) (fun z => nomatch z)) ?_ gName_mono (fun i H x H' _ y => yat_fr y) ?_
      · rintro i y H5 H6 Z1 hi fr5 ⟨rfl, ey⟩ hz
        obtain ⟨l, hl, rfl⟩ := map_at ey
        rw [hll] at hi
        have hlot := S2.at' i l _ hl (List.getElem?_eq_getElem hi)
        refine ⟨rfl, _, rfl, l, _, rfl, .inl ⟨sqL_of (fr5.at hlot), fun t nt => hz _ _ (.new nt) ?_⟩⟩
        have eg : (Lru.kept sets ways line os).getD i [] = (Lru.kept sets ways line os)[i] := getD_of (List.getElem?_eq_getElem hi)
        rw [eg]
        exact Im.tupI (sqT_of upd_same)
      · intro H5 ys fr5 hD hys
        refine ⟨D, ys, rfl, .inl ⟨sqL_of hD, fun t nt => ?_⟩⟩
        refine q t _ ((fH4.trans fr5).up nt) ⟨t, ys, rfl, sqT_of upd_same, ?_⟩
        have h6 := hys.mono (Fr.new (L := []) (o := .tup ys) nt)
        rw [hll, range_map_get (Lru.kept sets ways line os) [] (fun l => PyData.tuple (l.map PyData.int))] at h6
        exact h6
end
end B


namespace B
open PySem PySem.Spec PyProof.Rows L2
abbrev s__law_cell : Stmt := (topS 20)
theorem sc__law_cell : FnScope ["_law_script", "_law_k"] ["_law_script", "_law_k"] (defScope s__law_cell) := ⟨rfl, rfl, rfl, by decide +kernel, rfl, by decide +kernel, by decide +kernel⟩
abbrev s__law_pen : Stmt := (topS 21)
theorem sc__law_pen : FnScope ["_law_cell_here"] ["_law_cell_here"] (defScope s__law_pen) := ⟨rfl, rfl, rfl, by decide +kernel, rfl, by decide +kernel, by decide +kernel⟩
abbrev s__law_draw : Stmt := (topS 22)
theorem sc__law_draw : FnScope ["_law_pen_here", "_law_many", "_law_digit"] ["_law_pen_here", "_law_many"] (defScope s__law_draw) := ⟨rfl, rfl, rfl, by decide +kernel, rfl, by decide +kernel, by decide +kernel⟩
structure PTxt (K : PySem.W.Frag) (mg : Str → Option Value) : Prop where
  d__law_cell : DefAt K mg "_law_cell" s__law_cell ["_law_script", "_law_k"]
  d__law_pen : DefAt K mg "_law_pen" s__law_pen ["_law_cell_here"]
  d__law_draw : DefAt K mg "_law_draw" s__law_draw ["_law_pen_here", "_law_many"]
  z_len : mg "len" = none
  z_int : mg "int" = none
section
variable {P : Program} {w : World} {K : PySem.W.Frag} {mg : Str → Option Value} {base : Heap}
/-! ### the law's own small defs -/
def spCell' (K : PySem.W.Frag) : Sp := fun vs H Q _ => ∃ (a : Addr) (ns : List Int) (k : Nat), vs = [.ref a, .int (k : Int)] ∧ SqL K H a (ns.map V.int) ∧ ∀ z, Q (.int z) H
theorem cal_cell (T : PTxt K mg) : Cal P w K mg base 1 "_law_cell" (spCell' K) := by
  refine T.d__law_cell.cal sc__law_cell (fun vs H Q E h => ?_) (fun f cdv A outer s H vs Q E hr h => ?_)
  · obtain ⟨a, ns, k, rfl, _⟩ := h
    rfl
  · obtain ⟨a, ns, k, rfl, ha, q⟩ := h
    refine ⟨_, (pss_cons (ps_if (pt_cmpR op_lt (pv 1) (pe_callB (call_lenK K (by rfl)) (by rfl) T.z_len bt_len (pa_cons (pv 0) pa_nil)) (nomark _))
  (pss_one (ps_ret (pe_ix (ix_listK K (by rfl)) (pv 0) (pv 1) (fun _ _ => rfl))))
  pss_nil)
  (pss_one (ps_ret pe_int))), ?_⟩
    refine ⟨_, rfl, _, rfl, a, _, rfl, .inl ha, _, _, rfl, rfl, _, rfl, ite_b (fun c => ?_) (fun c => ?_)⟩
    · have c' : k < ns.length := by
        have h := of_decide_eq_true c
        rw [List.length_map] at h
        omega
      refine ⟨_, rfl, _, rfl, a, _, _, .int ns[k], rfl, rfl, ha, atI_nat (by rw [List.getElem?_map, List.getElem?_eq_getElem c']; rfl), q _⟩
    · exact q _
def spPen : Sp := fun vs H Q _ => ∃ (x : Int), vs = [.int x] ∧ ∀ p H', H p = none → Fr [] H H' → Pen H' p → Q (.ref p) H'
theorem cal_pen (T : PTxt K mg) : Cal P w K mg base 1 "_law_pen" spPen := by
  refine T.d__law_pen.cal sc__law_pen (fun vs H Q E h => ?_) (fun f cdv A outer s H vs Q E hr h => ?_)
  · obtain ⟨x, rfl, _⟩ := h
    rfl
  · obtain ⟨x, rfl, q⟩ := h
    refine ⟨_, (pss_one (ps_ret (pe_lst (pa_cons (pv 0) (pa_cons (pe_callTy call_int1 (by rfl) T.z_int bt_int (pa_cons (pe_cmpR op_ge (pv 0) (pe_op op_pow pe_int pe_int) (nomark _)) pa_nil)) pa_nil))))), ?_⟩
    refine ⟨_, rfl, _, rfl, _, _, rfl, rfl, ⟨by decide, by decide, by decide⟩, _, _, rfl, rfl, .inr ⟨_, rfl, (by show 2 ≤ sizeLine; decide), fun p np => ?_⟩⟩
    exact q p _ np (.new np) ⟨_, _, upd_same⟩
def spDraw : Sp := fun vs H Q _ => ∃ (p : Addr) (m : Int), vs = [.ref p, .int m] ∧ Pen H p ∧ 1 ≤ m ∧ m ≤ 1000000 ∧ ∀ d H', 0 ≤ d → d < m → Fr [p] H H' → Pen H' p → Q (.int d) H'
theorem cal_draw (T : PTxt K mg) : Cal P w K mg base 1 "_law_draw" spDraw := by
  refine T.d__law_draw.cal sc__law_draw (fun vs H Q E h => ?_) (fun f cdv A outer s H vs Q E hr h => ?_)
  · obtain ⟨p, m, rfl, _⟩ := h
    rfl
  · obtain ⟨p, m, rfl, ⟨x, fl, hp⟩, m1, m2, q⟩ := h
    refine ⟨_, (pss_cons (ps_if (pt_cmpR op_eq (pe_ix (ix_listK K (by rfl)) (pv 0) pe_int (fun _ _ => rfl)) pe_int (nomark _))
  (pss_cons (ps_set (i := 2) sc__law_draw.nd rfl (by first | exact .inl rfl | exact .inr rfl) (pe_op op_mod (pe_ix (ix_listK K (by rfl)) (pv 0) pe_int (fun _ _ => rfl)) (pv 1)))
  (pss_cons (ps_asg (pe_op op_fdiv (pe_ix (ix_listK K (by rfl)) (pv 0) pe_int (fun _ _ => rfl)) (pv 1)) (pg_sub (pv 0) pe_int set_list))
  (pss_one (ps_ret (pv 2)))))
  pss_nil)
  (pss_cons (ps_asg (pe_op op_mod (pe_op op_add (pe_op op_mul (pe_op op_mod (pe_ix (ix_listK K (by rfl)) (pv 0) pe_int (fun _ _ => rfl)) pe_int) pe_int) pe_int) pe_int) (pg_sub (pv 0) pe_int set_list))
  (pss_one (ps_ret (pe_op op_mod (pe_op op_fdiv (pe_op op_mod (pe_op op_add (pe_op op_mul (pe_ix (ix_listK K (by rfl)) (pv 0) pe_int (fun _ _ => rfl)) (pe_ix (ix_listK K (by rfl)) (pv 0) pe_int (fun _ _ => rfl))) (pe_op op_mul pe_int (pe_ix (ix_listK K (by rfl)) (pv 0) pe_int (fun _ _ => rfl)))) pe_int) pe_int) (pv 1)))))), ?_⟩
    have g0 : ∀ (u v : V), atI [u, v] 0 = some u := fun _ _ => rfl
    have g1 : ∀ (u v : V), atI [u, v] 1 = some v := fun _ _ => rfl
    refine ⟨_, rfl, p, _, _, _, rfl, rfl, sqL_of hp, g1 _ _, rfl, _, rfl, ite_b (fun c => ?_) (fun c => ?_)⟩
    · refine ⟨_, rfl, p, _, _, _, rfl, rfl, sqL_of hp, g0 _ _, _, rfl, _, _, rfl, rfl, by omega, ?_⟩
      refine ⟨_, rfl, p, _, _, _, rfl, rfl, sqL_of hp, g0 _ _, _, rfl, _, _, rfl, rfl, ⟨by omega, by omega⟩, _, rfl, p, _, _, 0, rfl, rfl, hp, rfl, ?_⟩
      refine ⟨_, rfl, ?_⟩
      exact q _ _ (Int.emod_nonneg _ (by omega)) (Int.emod_lt_of_pos _ (by omega)) (.wr hp trivial (by simp)) ⟨_, _, upd_same⟩
    · have b1 := Int.emod_nonneg x (show (2147483629 : Int) ≠ 0 by decide)
      have b2 := Int.emod_lt_of_pos x (show (0 : Int) < 2147483629 by decide)
      refine ⟨_, rfl, p, _, _, _, rfl, rfl, sqL_of hp, g0 _ _, _, _, rfl, rfl, (by show (0 : Int) < 2147483629; decide), _, _, rfl, rfl, .inl ⟨by omega, by omega⟩, _, _, rfl, rfl, _, _, rfl, rfl, (by show (0 : Int) < 2147483629; decide), ?_⟩
      refine ⟨_, rfl, p, _, _, 0, rfl, rfl, hp, rfl, ?_⟩
      have b3 := Int.emod_nonneg (x % 2147483629 * 48271 + 11) (show (2147483629 : Int) ≠ 0 by decide)
      have b4 := Int.emod_lt_of_pos (x % 2147483629 * 48271 + 11) (show (0 : Int) < 2147483629 by decide)
      have fr : Fr [p] H (upd H p (.lst [.int ((x % 2147483629 * 48271 + 11) % 2147483629), .int fl])) := .wr hp trivial (by simp)
      have hp' : (upd H p (.lst [.int ((x % 2147483629 * 48271 + 11) % 2147483629), .int fl])) p = some (.lst [.int ((x % 2147483629 * 48271 + 11) % 2147483629), .int fl]) := upd_same
      refine ⟨_, rfl, p, _, _, _, rfl, rfl, sqL_of hp', g0 _ _, _, rfl, p, _, _, _, rfl, rfl, sqL_of hp', g0 _ _, _, _, rfl, rfl, .inl ⟨by omega, by omega⟩, ?_⟩
      refine ⟨_, rfl, p, _, _, _, rfl, rfl, sqL_of hp', g0 _ _, _, _, rfl, rfl, .inl ⟨by decide, by decide⟩, _, _, rfl, rfl, _, _, rfl, rfl, (by show (0 : Int) < 2147483647; decide), _, _, rfl, rfl, ⟨by decide, by decide⟩, _, rfl, _, _, rfl, rfl, by omega, ?_⟩
      exact q _ _ (Int.emod_nonneg _ (by omega)) (Int.emod_lt_of_pos _ (by omega)) fr ⟨_, _, hp'⟩
end
end B


namespace B
open PySem PySem.Spec PyProof.Rows L2
abbrev s__law_near : Stmt := (topS 23)
theorem sc__law_near : FnScope ["_law_pen_here"] ["_law_pen_here"] (defScope s__law_near) := ⟨rfl, rfl, rfl, by decide +kernel, rfl, by decide +kernel, by decide +kernel⟩
structure QTxt (K : PySem.W.Frag) (mg : Str → Option Value) : Prop extends PTxt K mg where
  d__law_near : DefAt K mg "_law_near" s__law_near ["_law_pen_here"]
section
variable {P : Program} {w : World} {K : PySem.W.Frag} {mg : Str → Option Value} {base : Heap}
def spLawNear (K : PySem.W.Frag) : Sp := fun vs H Q _ => ∃ (p : Addr), vs = [.ref p] ∧ Pen H p ∧ ∀ a H' sets ways line, Fr [p] H H' → Pen H' p → SqT K H' a [.int sets, .int ways, .int line] → GoodN sets ways line → Q (.ref a) H'
theorem cal_law_near (T : QTxt K mg) : Cal P w K mg base 2 "_law_near" (spLawNear K) := by
  have c__law_draw := cal_draw (P := P) (w := w) (base := base) T.toPTxt
  refine T.d__law_near.cal sc__law_near (fun vs H Q E h => ?_) (fun f cdv A outer s H vs Q E hr h => ?_)
  · obtain ⟨p, rfl, _⟩ := h
    rfl
  · obtain ⟨p, rfl, pn, q⟩ := h
    refine ⟨_, (pss_one (ps_ret (pe_tup (pa_cons (pe_op op_add pe_int (pe_c c__law_draw hr (by decide) (by rfl) (pa_cons (pv 0) (pa_cons pe_int pa_nil)))) (pa_cons (pe_op op_add pe_int (pe_c c__law_draw hr (by decide) (by rfl) (pa_cons (pv 0) (pa_cons pe_int pa_nil)))) (pa_cons (pe_op op_add pe_int (pe_c c__law_draw hr (by decide) (by rfl) (pa_cons (pv 0) (pa_cons pe_int pa_nil)))) pa_nil)))))), ?_⟩
    refine ⟨_, rfl, p, 4, rfl, pn, by decide, by decide, fun d1 H1 a1 b1 f1 pn1 => ⟨_, _, rfl, rfl, ?_⟩⟩
    refine ⟨_, rfl, p, 4, rfl, pn1, by decide, by decide, fun d2 H2 a2 b2 f2 pn2 => ⟨_, _, rfl, rfl, ?_⟩⟩
    refine ⟨_, rfl, p, 8, rfl, pn2, by decide, by decide, fun d3 H3 a3 b3 f3 pn3 => ⟨_, _, rfl, rfl, (by show 3 ≤ sizeLine; decide), fun t nt => ?_⟩⟩
    exact q t _ _ _ _ (((f1.trans f2).trans f3).up nt) (pn3.up nt) (sqT_of upd_same) ⟨by omega, by omega, by omega, by omega, by omega, by omega⟩
end
end B


namespace B
open PySem PySem.Spec PyProof.Rows L2
/-- touches that bring a store to where it stands -/
def warmL (line : Int) (lots : List (List Int)) : List Int := (lots.map fun l => l.map fun z => z * line).flatten
theorem warm_take {line : Int} {lots : List (List Int)} {i : Nat} {l : List Int} (h : lots[i]? = some l) : warmL line (lots.take (i + 1)) = warmL line (lots.take i) ++ l.map (fun z => z * line) := by
  unfold warmL
  rw [Lru.take_succ h, List.map_append, List.flatten_append]
  simp
theorem warm_len {line ways : Int} {n : Nat} : ∀ {lots : List (List Int)}, Lru.Few ways lots → ways ≤ 4 → lots.length ≤ n → (warmL line lots).length ≤ 4 * n
  | [], _, _, _ => Nat.zero_le _
  | l :: r, h, h4, hn => by
    have h1 := h l (List.mem_cons_self ..)
    cases n with
    | zero => simp at hn
    | succ n =>
      have h2 := warm_len (line := line) (n := n) (lots := r) (fun x hx => h x (List.mem_cons_of_mem _ hx)) h4 (by simp at hn; omega)
      show (l.map (fun z => z * line) ++ warmL line r).length ≤ _
      rw [List.length_append, List.length_map]
      omega
theorem few_kept {sets ways line : Int} (g : GoodN sets ways line) (os : List Int) : Lru.Few ways (Lru.kept sets ways line os) := Lru.Few.fold g.w1 os (Lru.Few.fresh (by have := g.w1; omega))
theorem len_kept {sets ways line : Int} (g : GoodN sets ways line) (os : List Int) : (Lru.kept sets ways line os).length ≤ 4 := by
  unfold Lru.kept
  rw [Lru.fold_len]
  unfold Lru.fresh
  rw [List.length_replicate]
  have := g.s4
  omega
theorem Few.take {ways : Int} {lots : List (List Int)} (h : Lru.Few ways lots) (i : Nat) : Lru.Few ways (lots.take i) := fun l hl => h l (List.mem_of_mem_take hl)
theorem cut_ints (ns : List Int) (lo hi : Option Int) : cutV (ns.map V.int) lo hi = (((ns.drop (HT.sIx ns.length 0 lo)).take (HT.sIx ns.length ns.length hi - HT.sIx ns.length 0 lo))).map V.int := by
  unfold cutV
  rw [List.length_map, List.map_take, List.map_drop]
theorem menu3 {d : Int} (a b c : V) (h0 : 0 ≤ d) (h3 : d < 3) : ∃ v, (v = a ∨ v = b ∨ v = c) ∧ atI [a, b, c] d = some v := by
  have h : d = 0 ∨ d = 1 ∨ d = 2 := by omega
  rcases h with rfl | rfl | rfl
  · exact ⟨a, .inl rfl, rfl⟩
  · exact ⟨b, .inr (.inl rfl), rfl⟩
  · exact ⟨c, .inr (.inr rfl), rfl⟩
theorem warm_nn {ways line : Int} (l1 : 1 ≤ line) {lots : List (List Int)} (h : ∀ l ∈ lots, ∀ z ∈ l, 0 ≤ z) : ∀ o ∈ warmL line lots, 0 ≤ o := fun o ho => by
  unfold warmL at ho
  obtain ⟨l, hl, ho⟩ := List.mem_flatten.mp ho
  obtain ⟨l2, hl2, rfl⟩ := List.mem_map.mp hl
  obtain ⟨z, hz, rfl⟩ := List.mem_map.mp ho
  exact Int.mul_nonneg (h l2 hl2 z hz) (by omega)
theorem kept_nn {ways line : Int} (l1 : 1 ≤ line) : ∀ (os : List Int) (lots : List (List Int)), (∀ o ∈ os, 0 ≤ o) → (∀ l ∈ lots, ∀ z ∈ l, 0 ≤ z) → ∀ l ∈ os.foldl (Lru.touch ways line) lots, ∀ z ∈ l, 0 ≤ z
  | [], _, _, h => h
  | o :: os, lots, ho, h => by
    refine kept_nn l1 os (Lru.touch ways line lots o) (fun x hx => ho x (List.mem_cons_of_mem _ hx)) fun l hl z hz => ?_
    unfold Lru.touch at hl
    rcases List.mem_or_eq_of_mem_set hl with m | e
    · exact h l m z hz
    · subst e
      rcases Lru.lotPut_mem hz with e2 | hz
      · subst e2
        exact Int.ediv_nonneg (ho o (List.mem_cons_self ..)) (by omega)
      · rcases Lru.getD_mem (lots := lots) (i := Lru.at' lots (o / line)) with m | e
        · exact h _ m z hz
        · unfold Lru.lotOf at hz
          rw [e] at hz
          exact nomatch hz
end B


namespace B
open PySem PySem.Spec PyProof.Rows L2
abbrev s__law_missed : Stmt := (topS 24)
theorem sc__law_missed : FnScope ["_law_near_here", "_law_touches", "_law_sets", "_law_ways", "_law_line", "_law_lines", "_law_found", "_law_octet", "_law_at", "_law_one", "_law_others", "_law_back"] ["_law_near_here", "_law_touches"] (defScope s__law_missed) := ⟨rfl, rfl, rfl, by decide +kernel, rfl, by decide +kernel, by decide +kernel⟩
abbrev s__law_left : Stmt := (topS 25)
theorem sc__law_left : FnScope ["_law_near_here", "_law_touches", "_law_sets", "_law_ways", "_law_line", "_law_found", "_law_number", "_law_octet", "_law_one", "_law_some"] ["_law_near_here", "_law_touches"] (defScope s__law_left) := ⟨rfl, rfl, rfl, by decide +kernel, rfl, by decide +kernel, by decide +kernel⟩
structure MTxt (K : PySem.W.Frag) (mg : Str → Option Value) (CS : Addr) : Prop extends NTxt K mg CS, QTxt K mg where
  d__law_missed : DefAt K mg "_law_missed" s__law_missed ["_law_near_here", "_law_touches"]
  d__law_left : DefAt K mg "_law_left" s__law_left ["_law_near_here", "_law_touches"]
  z_repr : mg "repr" = none
theorem menu4 {d : Int} (a b c e : V) (h0 : 0 ≤ d) (h4 : d < 4) : ∃ v, (v = a ∨ v = b ∨ v = c ∨ v = e) ∧ atI [a, b, c, e] d = some v := by
  have h : d = 0 ∨ d = 1 ∨ d = 2 ∨ d = 3 := by omega
  rcases h with rfl | rfl | rfl | rfl
  · exact ⟨a, .inl rfl, rfl⟩
  · exact ⟨b, .inr (.inl rfl), rfl⟩
  · exact ⟨c, .inr (.inr (.inl rfl)), rfl⟩
  · exact ⟨e, .inr (.inr (.inr rfl)), rfl⟩
theorem ediv_small {o line : Int} (h : Sm o) (hl : 1 ≤ line) : Sm (o / line) := by
  refine ⟨Int.ediv_nonneg h.1 (by omega), ?_⟩
  have h1 : o / line ≤ o := Int.ediv_le_self _ h.1
  have h2 := h.2
  omega
/-- (near, touches) -/
def askD (sets ways line : Int) (os : List Int) : PyData := .tuple [.tuple ([sets, ways, line].map PyData.int), .tuple (os.map PyData.int)]
theorem sh_ask {sets ways line : Int} {os : List Int} (g : GoodN sets ways line) (h : ∀ o ∈ os, Sm o) (hl : os.length ≤ 100) : Sh 2 202 (askD sets ways line os) := by
  have h1 := Sh.ints (ns := [sets, ways, line]) (k := 100) (fun z hz => by
    have h1 := g.s1; have h2 := g.s4; have h3 := g.w1; have h4 := g.w4; have h5 := g.l1; have h6 := g.l8
    have h7 : z = sets ∨ z = ways ∨ z = line := by simpa using hz
    unfold Sm
    rcases h7 with rfl | rfl | rfl <;> omega) (by show 3 ≤ 100; decide)
  have h2 := Sh.ints (ns := os) (k := 100) h hl
  exact Sh.tup (n := 1) (m := 100) (k := 2) (fun d hd => by
    have h7 : d = .tuple ([sets, ways, line].map PyData.int) ∨ d = .tuple (os.map PyData.int) := by simpa using hd
    rcases h7 with rfl | rfl
    · exact h1
    · exact h2) (by show 2 ≤ 2; decide)
theorem im_ask {K : PySem.W.Frag} {H : Hp} {u an t : Addr} {sets ways line : Int} {os : List Int} (hu : H u = some (.tup [.ref an, .ref t])) (ha : SqT K H an [.int sets, .int ways, .int line]) (ht : SqT K H t (os.map V.int)) : Dp K H (.ref u) (askD sets ways line os) :=
  Im.dp (d := askD sets ways line os) ⟨u, _, rfl, sqT_of hu, _, _, rfl, near_im ha, _, _, rfl, Im.tupI ht, rfl⟩
/-- [how many, which] -/
def toldD (ns : List Int) : PyData := .list [.int ns.length, .tuple (ns.map PyData.int)]
theorem sh_told {ns : List Int} (h : ∀ z ∈ ns, Sm z) (hl : ns.length ≤ 100) : Sh 2 202 (toldD ns) := by
  have h2 := Sh.ints (ns := ns) (k := 100) h hl
  have h1 : Sh 1 100 (.int (ns.length : Int)) := (Sh.int (log70 (by omega) (by omega))).mono (by decide) (by decide)
  exact Sh.lst (n := 1) (m := 100) (k := 2) (fun d hd => by
    have h7 : d = .int (ns.length : Int) ∨ d = .tuple (ns.map PyData.int) := by simpa using hd
    rcases h7 with rfl | rfl
    · exact h1
    · exact h2) (by show 2 ≤ 2; decide)
theorem dp_told {K : PySem.W.Frag} {H : Hp} {u t : Addr} {ns : List Int} {n : Int} (hu : H u = some (.lst [.int n, .ref t])) (hn : n = ns.length) (ht : SqT K H t (ns.map V.int)) : Dp K H (.ref u) (toldD ns) := by
  subst hn
  exact .lst (sqL_of hu) (Ims.dp (ds := [.int (ns.length : Int), .tuple (ns.map PyData.int)]) ⟨_, _, rfl, rfl, _, _, rfl, Im.tupI ht, rfl⟩)
theorem sh_kept {sets ways line : Int} {os : List Int} (g : GoodN sets ways line) (h : ∀ o ∈ os, Sm o) : Sh 2 20 (lotsD (Lru.kept sets ways line os)) := by
  refine (Sh.tup (n := 1) (m := 4) (k := 4) (fun d hd => ?_) ?_).mono (Nat.le_refl _) (by decide)
  · obtain ⟨l, hl, rfl⟩ := List.mem_map.mp hd
    obtain ⟨h1, h2⟩ := Lru.kept_in g.s1 g.w1 hl
    refine Sh.ints (fun z hz => ?_) (by have := g.w4; omega)
    obtain ⟨o, ho, rfl⟩ := h2 z hz
    exact ediv_small (h o ho) g.l1
  · have h1 := congrArg List.length (Lru.kept_at (line := line) g.s1 g.w1 os)
    rw [Lru.lotsAt_len] at h1
    have := g.s4
    rw [List.length_map, h1]
    omega
section
variable {P : Program} {w : World} {K : PySem.W.Frag} {mg : Str → Option Value} {base : Heap} {CS : Addr}
def spLMissed (K : PySem.W.Frag) : Sp := fun vs H Q _ => ∃ (an b : Addr) (sets ways line : Int) (os : List Int), vs = [.ref an, .ref b] ∧ SqT K H an [.int sets, .int ways, .int line] ∧ SqT K H b (os.map V.int) ∧ GoodN sets ways line ∧
  os.length ≤ 1000 ∧ ∀ (p : Addr) (H' : Hp), H p = none → Fr [] H H' → H' p = some (.lst ((Lru.missed sets ways line os).map V.int)) → Q (.ref p) H'
theorem cal_lmissed (T : MTxt K mg CS) : Cal P w K mg base 5 "_law_missed" (spLMissed K) := by
  refine T.d__law_missed.cal sc__law_missed (fun vs H Q E h => ?_) (fun f cdv A outer s H vs Q E hr h => ?_)
  · obtain ⟨an, b, sets, ways, line, os, rfl, _⟩ := h
    rfl
  · obtain ⟨an, b, sets, ways, line, os, rfl, han, hb, g, hlen, q⟩ := h
    refine ⟨_, (pss_cons (ps_asg (pv 0) (pg_tupK K (n := 3) (by rfl) (by rfl) (by rfl) (by rfl) (pgs_consX (by rfl) (pg_nameX 2 sc__law_missed.nd rfl (by first | exact .inl rfl | exact .inr rfl) (by first | exact .inr rfl | exact .inl rfl)) (pgs_consX (by rfl) (pg_nameX 3 sc__law_missed.nd rfl (by first | exact .inl rfl | exact .inr rfl) (by first | exact .inr rfl | exact .inl rfl)) (pgs_consX (by rfl) (pg_nameX 4 sc__law_missed.nd rfl (by first | exact .inl rfl | exact .inr rfl) (by first | exact .inr rfl | exact .inl rfl)) pgs_nil)))))
  (pss_cons (ps_par (i := 5) (j := 6) rfl sc__law_missed.nd rfl rfl (by decide) rfl rfl (by exact (pa_cons (pe_lcX [("_law_octet", 7)] (by rfl) sc__law_missed.nd (pi_tupK K (by rfl) (pv 1)) (blkOk_by (N := ["_law_near_here", "_law_touches", "_law_sets", "_law_ways", "_law_line", "_law_lines", "_law_found", "_law_octet", "_law_at", "_law_one", "_law_others", "_law_back"]) (sc := defScope s__law_missed) (by decide +kernel)) (fun _ _ _ _ _ => by exact (pg_nameX 7 sc__law_missed.nd rfl (by first | exact .inl rfl | exact .inr rfl) (by first | exact .inr rfl | exact .inl rfl))) (fun _ _ _ _ _ => by exact pts_nil) (fun _ _ _ _ _ => by exact (pe_op op_fdiv (pv 7) (pv 4))) (fun _ => rfl)) (pa_cons (pe_lst pa_nil) pa_nil))) rfl)
  (pss_cons (ps_for PassesOwn.never rfl (pi_enumK K (by rfl) (by rfl) T.z_enumerate (pa_cons (pv 5) pa_nil) (by rfl)) (pg_tupK K (n := 2) (by rfl) (by rfl) (by rfl) (by rfl) (pgs_consX (by rfl) (pg_nameX 8 sc__law_missed.nd rfl (by first | exact .inl rfl | exact .inr rfl) (by first | exact .inr rfl | exact .inl rfl)) (pgs_consX (by rfl) (pg_nameX 9 sc__law_missed.nd rfl (by first | exact .inl rfl | exact .inr rfl) (by first | exact .inr rfl | exact .inl rfl)) pgs_nil)))
  (pss_cons (ps_par (i := 10) (j := 11) rfl sc__law_missed.nd rfl rfl (by decide) rfl rfl (pa_cons (pe_lst pa_nil) (pa_cons (pe_op op_sub (pv 8) pe_int) pa_nil)) rfl)
  (pss_cons (ps_while PassesOwn.never (PW.pt (pw_and (pt_cmpR op_ge (pv 11) pe_int (nomark _)) (pw_and1 (pt_cmpR op_ne (pe_ix (ix_listK K (by rfl)) (pv 5) (pv 11) (fun _ _ => rfl)) (pv 9) (nomark _)))))
  (pss_cons (ps_if (PW.pt (pw_and (pt_cmpR op_eq (pe_op op_mod (pe_ix (ix_listK K (by rfl)) (pv 5) (pv 11) (fun _ _ => rfl)) (pv 2)) (pe_op op_mod (pv 9) (pv 2)) (nomark _)) (pw_and1 (pt_cmpR (op_notIn_seqK K (by rfl)) (pe_ix (ix_listK K (by rfl)) (pv 5) (pv 11) (fun _ _ => rfl)) (pv 10) (by rfl)))))
  (pss_one (ps_expr (pe_bmK K (by rfl) PySem.F.plainAttrs_list PySem.F.slot_list_append PySem.F.type_list_append mt_append (pv 10) (pa_cons (pe_ix (ix_listK K (by rfl)) (pv 5) (pv 11) (fun _ _ => rfl)) pa_nil))))
  pss_nil)
  (pss_one (ps_set (i := 11) sc__law_missed.nd rfl (by first | exact .inl rfl | exact .inr rfl) (pe_op op_sub (pv 11) pe_int)))))
  (pss_one (ps_if (PW.pt (pw_or (pt_cmpR op_lt (pv 11) pe_int (nomark _)) (pw_or1 (pt_cmpR op_ge (pe_callB (call_lenK K (by rfl)) (by rfl) T.z_len bt_len (pa_cons (pv 10) pa_nil)) (pv 3) (nomark _)))))
  (pss_one (ps_expr (pe_bmK K (by rfl) PySem.F.plainAttrs_list PySem.F.slot_list_append PySem.F.type_list_append mt_append (pv 6) (pa_cons (pv 8) pa_nil))))
  pss_nil)))))
  (pss_one (ps_ret (pv 6)))))), ?_⟩
    refine ⟨_, rfl, an, _, rfl, han, rfl, _, _, rfl, _, _, rfl, _, _, rfl, rfl, ?_⟩
    have hml : (os.map V.int).length = os.length := List.length_map ..
    refine ⟨_, rfl, b, rfl, ⟨_, hb⟩, fun D nD => ?_⟩
    refine lc_dat (K := K) (walk_tup (xs := os.map V.int)) (fun i => .int (os.getD i 0 / line)) nD (by rw [hml]; omega) (fun H' fr' => fr'.tup hb) ?_ gName_mono (fun i H x H' _ y => yat_fr y) ?_
    · rintro i y H5 H6 Z1 hi fr5 ⟨rfl, ey⟩ hz
      obtain ⟨o, ho, rfl⟩ := map_at ey
      refine ⟨rfl, _, rfl, _, rfl, _, _, rfl, rfl, ⟨by have := g.l1; omega, by have := g.l8; omega⟩, hz _ _ (.refl _ _) ?_⟩
      rw [getD_of ho]
      rfl
    · intro H1 ys f1 hD1 him
      rw [hml, range_map_get os 0 (fun o => PyData.int (o / line))] at him
      generalize elines : (os.map fun o => o / line) = lines
      have hys : ys = lines.map V.int := Ims.of_ints (ns := lines) (by rw [← elines, List.map_map]; exact him)
      subst hys
      have hll : lines.length = os.length := by rw [← elines, List.length_map]
      have hsl := sizeLine_eq
      refine ⟨Nat.zero_le _, fun F nF => ⟨_, _, rfl, ?_⟩⟩
      have nDF : D ≠ F := ne_of_none hD1 nF
      have nFH : H F = none := f1.free _ nF
      refine ⟨_, rfl, D, _, rfl, sqL_of (by rw [upd_ne nDF]; exact hD1), for_it (walk_enum (xs := lines.map V.int))
        (fun i σ H2 => ∃ v7 v8 v9 v10 v11, σ = [some (.ref an), some (.ref b), some (.int sets), some (.int ways), some (.int line), some (.ref D), some (.ref F), v7, v8, v9, v10, v11] ∧
          Fr [] H H2 ∧ H2 D = some (.lst (lines.map V.int)) ∧ H2 F = some (.lst ((Lru.missedUp ways line (Lru.fresh sets) os i).map V.int)))
        ⟨none, none, none, none, none, rfl, f1.up nF, by rw [upd_ne nDF]; exact hD1, upd_same⟩ (fun i σ H2 _ ⟨_, _, _, _, _, _, _, hL, _⟩ => sqL_of hL) ?_ ?_⟩
      rotate_left
      · rintro σ H2 ⟨v7, v8, v9, v10, v11, rfl, fr, hL, hF⟩
        rw [List.length_map, hll] at hF
        exact ⟨_, rfl, q F H2 nFH fr hF⟩
      rintro i x σ H2 H3 hi ⟨v7, v8, v9, v10, v11, rfl, fr, hL, hF⟩ ⟨T0, y1, y2, rfl, hT0, rfl, e1, e2⟩
      cases e1
      have hi' : i < os.length := by rw [List.length_map, hll] at hi; exact hi
      obtain ⟨o, ho⟩ : ∃ o, os[i]? = some o := ⟨_, List.getElem?_eq_getElem hi'⟩
      have hlo : lines[i]? = some (o / line) := by rw [← elines, List.getElem?_map, ho]; rfl
      have e2' : y2 = .int (o / line) := by
        have e2b : (lines.map V.int)[i]? = some y2 := e2
        rw [List.getElem?_map, hlo] at e2b
        exact (Option.some.inj e2b).symm
      subst e2'
      refine ⟨T0, _, rfl, sqT_of upd_same, rfl, _, _, rfl, _, _, rfl, rfl, ?_⟩
      refine ⟨Nat.zero_le _, fun O nO => ⟨_, rfl, _, _, rfl, rfl, _, _, rfl, ?_⟩⟩
      have nDT : D ≠ T0 := ne_of_none hL hT0
      have nFT : F ≠ T0 := ne_of_none hF hT0
      have nO2 : H2 O = none := by
        by_cases z : O = T0
        · subst z; exact hT0
        · rw [upd_ne z] at nO; exact nO
      have nDO : D ≠ O := ne_of_none hL nO2
      have nFO : F ≠ O := ne_of_none hF nO2
      have fr4 : Fr [] H (upd (upd H2 T0 (.tup [.int (i : Nat), .int (o / line)])) O (.lst [])) := (fr.up hT0).up nO
      have hL4 : (upd (upd H2 T0 (.tup [.int (i : Nat), .int (o / line)])) O (.lst [])) D = some (.lst (lines.map V.int)) := by rw [upd_ne nDO, upd_ne nDT]; exact hL
      have hF4 : (upd (upd H2 T0 (.tup [.int (i : Nat), .int (o / line)])) O (.lst [])) F = some (.lst ((Lru.missedUp ways line (Lru.fresh sets) os i).map V.int)) := by rw [upd_ne nFO, upd_ne nFT]; exact hF
      have hO4 : (upd (upd H2 T0 (.tup [.int (i : Nat), .int (o / line)])) O (.lst [])) O = some (.lst []) := upd_same
      have nHO : H O = none := fr.free _ nO2
      generalize upd (upd H2 T0 (.tup [.int (i : Nat), .int (o / line)])) O (.lst []) = H4 at fr4 hL4 hF4 hO4
      clear fr hL hF
      have epre : Lru.backs line os i = (lines.take i).reverse := by
        unfold Lru.backs
        rw [← elines, List.map_take]
      have lpre : (lines.take i).reverse.length = i := by rw [List.length_reverse, List.length_take]; omega
      have apre : ∀ k, k < i → ∃ zk, (lines.take i).reverse[k]? = some zk ∧ atI (lines.map V.int) ((i : Int) - 1 - (k : Nat)) = some (.int zk) := by
        intro k hk
        have h1 : i - 1 - k < lines.length := by omega
        refine ⟨lines[i - 1 - k], ?_, ?_⟩
        · rw [List.getElem?_reverse (by rw [List.length_take]; omega), List.length_take, List.getElem?_take, show min i lines.length - 1 - k = i - 1 - k by omega, if_pos (by omega)]
          exact List.getElem?_eq_getElem h1
        · rw [show ((i : Int) - 1 - (k : Nat)) = ((i - 1 - k : Nat) : Int) by omega]
          exact atI_nat (by rw [List.getElem?_map, List.getElem?_eq_getElem h1]; rfl)
      rw [← epre] at lpre apre
      generalize epz : Lru.backs line os i = pre at epre lpre apre
      generalize ez : o / line = z at *
      -- what the end asks
      have FIN : ∀ (H5 : Hp) (v7 v11 : Option V) (hit : Bool), Lru.missAt ways line (Lru.fresh sets) os i = hit → Fr [] H H5 → H5 D = some (.lst (lines.map V.int)) → H5 F = some (.lst ((Lru.missedUp ways line (Lru.fresh sets) os i).map V.int)) →
          if hit = true then tDrop (tBM K "list" rAppend (tVar 6) (tCons (tVar 8) tNil))
            { nx := fun σ H2 => ∃ v7 v8 v9 v10 v11, σ = [some (.ref an), some (.ref b), some (.int sets), some (.int ways), some (.int line), some (.ref D), some (.ref F), v7, v8, v9, v10, v11] ∧
                Fr [] H H2 ∧ H2 D = some (.lst (lines.map V.int)) ∧ H2 F = some (.lst ((Lru.missedUp ways line (Lru.fresh sets) os (i + 1)).map V.int)), rt := Q }
            [some (.ref an), some (.ref b), some (.int sets), some (.int ways), some (.int line), some (.ref D), some (.ref F), v7, some (.int (i : Nat)), some (.int z), some (.ref O), v11] H5
          else ∃ w7 w8 w9 w10 w11, [some (.ref an), some (.ref b), some (.int sets), some (.int ways), some (.int line), some (.ref D), some (.ref F), v7, some (.int (i : Nat)), some (.int z), some (.ref O), v11] = [some (.ref an), some (.ref b), some (.int sets), some (.int ways), some (.int line), some (.ref D), some (.ref F), w7, w8, w9, w10, w11] ∧
                Fr [] H H5 ∧ H5 D = some (.lst (lines.map V.int)) ∧ H5 F = some (.lst ((Lru.missedUp ways line (Lru.fresh sets) os (i + 1)).map V.int)) := by
        intro H5 v7 v11 hit hm fr5 hL5 hF5
        have lm := Lru.missedUp_len ways line (Lru.fresh sets) os i
        cases hit with
        | true =>
          rw [if_pos rfl]
          refine ⟨_, rfl, .inl ⟨rfl, _, sqL_of hF5⟩, _, rfl, F, _, _, rfl, rfl, hF5, (by rw [List.length_map]; omega), ?_⟩
          refine ⟨_, _, _, _, _, rfl, fr5.put hF5 trivial (.inr nFH), by rw [upd_ne nDF]; exact hL5, ?_⟩
          rw [Lru.missedUp_yes hm, List.map_append]
          exact upd_same
        | false =>
          rw [if_neg (by decide)]
          refine ⟨_, _, _, _, _, rfl, fr5, hL5, ?_⟩
          rw [Lru.missedUp_no hm]
          exact hF5
      have WT : ∀ (l : List Int) (zk : Int), Lru.dd ((l ++ [zk]).filter fun x => decide (x % sets = z % sets)) = if zk % sets = z % sets ∧ zk ∉ Lru.dd (l.filter fun x => decide (x % sets = z % sets)) then Lru.dd (l.filter fun x => decide (x % sets = z % sets)) ++ [zk] else Lru.dd (l.filter fun x => decide (x % sets = z % sets)) := by
        intro l zk
        rw [List.filter_append]
        by_cases h1 : zk % sets = z % sets
        · have e : [zk].filter (fun x => decide (x % sets = z % sets)) = [zk] := by simp [h1]
          rw [e, Lru.dd_snoc]
          by_cases h2 : zk ∈ l.filter fun x => decide (x % sets = z % sets)
          · rw [if_pos h2, if_neg fun h => h.2 (Lru.dd_mem.mpr h2)]
          · rw [if_neg h2, if_pos ⟨h1, fun h => h2 (Lru.dd_mem.mp h)⟩]
        · have e : [zk].filter (fun x => decide (x % sets = z % sets)) = [] := by simp [h1]
          rw [e, List.append_nil, if_neg fun h => h1 h.1]
      have ld : ∀ k, (Lru.dd ((pre.take k).filter fun x => decide (x % sets = z % sets))).length ≤ 1000 := fun k => by
        have h1 := Lru.dd_len ((pre.take k).filter fun x => decide (x % sets = z % sets))
        have h2 := List.length_filter_le (fun x => decide (x % sets = z % sets)) (pre.take k)
        have h3 := List.length_take_le' k pre
        omega
      have hs1 := g.s1
      have hs4 := g.s4
      refine ⟨fun m σ H5 => ∃ (k : Nat) (v7 : Option V), m = i - k ∧ k ≤ i ∧ z ∉ pre.take k ∧
        σ = [some (.ref an), some (.ref b), some (.int sets), some (.int ways), some (.int line), some (.ref D), some (.ref F), v7, some (.int (i : Nat)), some (.int z), some (.ref O), some (.int ((i : Int) - 1 - (k : Nat)))] ∧
        Fr [] H H5 ∧ H5 D = some (.lst (lines.map V.int)) ∧ H5 F = some (.lst ((Lru.missedUp ways line (Lru.fresh sets) os i).map V.int)) ∧ H5 O = some (.lst ((Lru.dd ((pre.take k).filter fun x => decide (x % sets = z % sets))).map V.int)),
        ⟨i, 0, v7, by simp, Nat.zero_le _, by simp, by simp, fr4, hL4, hF4, by simpa [Lru.dd] using hO4⟩, ?_⟩
      rintro m σ H5 ⟨k, v7, rfl, hk, hz, rfl, fr5, hL5, hF5, hO5⟩
      -- behind the loop
      have TAIL : ∀ (hit : Bool), Lru.missAt ways line (Lru.fresh sets) os i = hit → (hit = (decide ((i : Int) - 1 - (k : Nat) < 0) || decide (ways ≤ ((Lru.dd ((pre.take k).filter fun x => decide (x % sets = z % sets))).length : Int)))) →
          tIfS (tOr (tTest (tOp (rI0 fun i j => .bl (decide (i < j))) (tVar 11) (tC (.int 0)))) (tTest (tOp (rI0 fun i j => .bl (decide (j ≤ i))) (tCB (rLenS K) (tCons (tVar 10) tNil)) (tVar 3)))) (tDrop (tBM K "list" rAppend (tVar 6) (tCons (tVar 8) tNil))) tNext
            { nx := fun σ H2 => ∃ v7 v8 v9 v10 v11, σ = [some (.ref an), some (.ref b), some (.int sets), some (.int ways), some (.int line), some (.ref D), some (.ref F), v7, v8, v9, v10, v11] ∧
                Fr [] H H2 ∧ H2 D = some (.lst (lines.map V.int)) ∧ H2 F = some (.lst ((Lru.missedUp ways line (Lru.fresh sets) os (i + 1)).map V.int)), rt := Q }
            [some (.ref an), some (.ref b), some (.int sets), some (.int ways), some (.int line), some (.ref D), some (.ref F), v7, some (.int (i : Nat)), some (.int z), some (.ref O), some (.int ((i : Int) - 1 - (k : Nat)))] H5 := by
        intro hit hm eh
        refine ⟨_, rfl, _, _, rfl, rfl, _, rfl, ite_b (fun c => ?_) (fun c => ?_)⟩
        · rw [c, Bool.true_or] at eh
          subst eh
          exact FIN H5 v7 _ true hm fr5 hL5 hF5
        · rw [c, Bool.false_or] at eh
          refine ⟨_, rfl, O, _, rfl, .inl (sqL_of hO5), _, rfl, _, _, rfl, rfl, _, rfl, ?_⟩
          rw [List.length_map, ← eh]
          exact FIN H5 v7 _ hit hm fr5 hL5 hF5
      refine ⟨_, rfl, _, _, rfl, rfl, _, rfl, ite_b (fun c => ?_) (fun c => ?_)⟩
      rotate_left
      · -- the beginning is met
        refine iteF ?_
        have hki : k = i := by
          have := of_decide_eq_false c
          omega
        subst hki
        have e0 : pre.take k = pre := List.take_of_length_le (by omega)
        have hm := Lru.missAt_at (a := pre) (r := []) g.s1 g.w1 ho (by rw [epz, List.append_nil]) (by rw [ez]; rw [e0] at hz; exact hz) (.inl rfl)
        rw [decide_eq_true (rfl : ([] : List Int) = []), Bool.true_or] at hm
        exact TAIL true hm (by rw [decide_eq_true (by omega : (k : Int) - 1 - (k : Nat) < 0), Bool.true_or])
      have hki : k < i := by
        have := of_decide_eq_true c
        omega
      obtain ⟨zk, hzk, hat⟩ := apre k hki
      refine ⟨_, rfl, _, rfl, D, _, _, .int zk, rfl, rfl, sqL_of hL5, hat, _, rfl, rfl, _, rfl, ite_b (fun c2 => ?_) (fun c2 => ?_)⟩
      rotate_left
      · -- the line is met
        have ezk : zk = z := by simpa using c2
        subst ezk
        have e0 : pre = pre.take k ++ zk :: pre.drop (k + 1) := by
          have h1 := List.take_append_drop k pre
          rw [List.drop_eq_getElem_cons (by omega : k < pre.length)] at h1
          have h2 : pre[k]'(by omega) = zk := by
            have := List.getElem?_eq_getElem (by omega : k < pre.length)
            rw [hzk] at this
            exact (Option.some.inj this).symm
          rw [h2] at h1
          exact h1.symm
        have hm := Lru.missAt_at (a := pre.take k) (r := zk :: pre.drop (k + 1)) g.s1 g.w1 ho (by rw [epz]; exact e0) (by rw [ez]; exact hz) (.inr ⟨_, by rw [ez]⟩)
        rw [decide_eq_false (by simp : ¬ (zk :: pre.drop (k + 1)) = []), Bool.false_or, ez] at hm
        exact TAIL _ hm (by rw [decide_eq_false (by omega : ¬ (i : Int) - 1 - (k : Nat) < 0), Bool.false_or])
      -- one more line back
      have nez : zk ≠ z := by simpa using c2
      have e1 : pre.take (k + 1) = pre.take k ++ [zk] := Lru.take_succ hzk
      have hz1 : z ∉ pre.take (k + 1) := by
        rw [e1]
        intro h
        rcases List.mem_append.mp h with h | h
        · exact hz h
        · exact nez (List.mem_singleton.mp h).symm
      have w1 := WT (pre.take k) zk
      rw [← e1] at w1
      refine ⟨fun σ' H' => ∃ (v7 : Option V), σ' = [some (.ref an), some (.ref b), some (.int sets), some (.int ways), some (.int line), some (.ref D), some (.ref F), v7, some (.int (i : Nat)), some (.int z), some (.ref O), some (.int ((i : Int) - 1 - ((k + 1 : Nat) : Int)))] ∧
        Fr [] H H' ∧ H' D = some (.lst (lines.map V.int)) ∧ H' F = some (.lst ((Lru.missedUp ways line (Lru.fresh sets) os i).map V.int)) ∧ H' O = some (.lst ((Lru.dd ((pre.take (k + 1)).filter fun x => decide (x % sets = z % sets))).map V.int)),
        fun σ' H' ⟨v7, h1, h2, h3, h4, h5⟩ => ⟨i - (k + 1), by omega, k + 1, v7, rfl, hki, hz1, h1, h2, h3, h4, h5⟩, ?_⟩
      have ek : ((i : Int) - 1 - (k : Nat) - 1) = (i : Int) - 1 - ((k + 1 : Nat) : Int) := by omega
      have STEP : ∀ H6, Fr [] H H6 → H6 D = some (.lst (lines.map V.int)) → H6 F = some (.lst ((Lru.missedUp ways line (Lru.fresh sets) os i).map V.int)) → H6 O = some (.lst ((Lru.dd ((pre.take (k + 1)).filter fun x => decide (x % sets = z % sets))).map V.int)) →
          tAsg (tOp (rI0 fun i j => .int (i - j)) (tVar 11) (tC (.int 1))) (gName 11)
          { nx := fun σ' H' => ∃ (v7 : Option V), σ' = [some (.ref an), some (.ref b), some (.int sets), some (.int ways), some (.int line), some (.ref D), some (.ref F), v7, some (.int (i : Nat)), some (.int z), some (.ref O), some (.int ((i : Int) - 1 - ((k + 1 : Nat) : Int)))] ∧
            Fr [] H H' ∧ H' D = some (.lst (lines.map V.int)) ∧ H' F = some (.lst ((Lru.missedUp ways line (Lru.fresh sets) os i).map V.int)) ∧ H' O = some (.lst ((Lru.dd ((pre.take (k + 1)).filter fun x => decide (x % sets = z % sets))).map V.int)), rt := Q }
          [some (.ref an), some (.ref b), some (.int sets), some (.int ways), some (.int line), some (.ref D), some (.ref F), v7, some (.int (i : Nat)), some (.int z), some (.ref O), some (.int ((i : Int) - 1 - (k : Nat)))] H6 := by
        intro H6 fr6 hL6 hF6 hO6
        refine ⟨_, rfl, _, _, rfl, rfl, ?_⟩
        refine ⟨v7, ?_, fr6, hL6, hF6, hO6⟩
        show [_, _, _, _, _, _, _, _, _, _, _, some (V.int ((i : Int) - 1 - (k : Nat) - 1))] = _
        rw [ek]
      refine ⟨_, rfl, _, rfl, D, _, _, .int zk, rfl, rfl, sqL_of hL5, hat, _, rfl, _, _, rfl, rfl, (by omega), _, rfl, _, rfl, _, _, rfl, rfl, (by omega), rfl, _, rfl, ite_b (fun c3 => ?_) (fun c3 => ?_)⟩
      · have c3' : zk % sets = z % sets := by simpa using c3
        refine ⟨_, rfl, _, rfl, D, _, _, .int zk, rfl, rfl, sqL_of hL5, hat, _, rfl, O, _, rfl, .inl (sqL_of hO5), rfl, flat_ints _, _, rfl, ite_b (fun c4 => ?_) (fun c4 => ?_)⟩
        · rw [inV_int] at c4
          have c4' : zk ∉ Lru.dd ((pre.take k).filter fun x => decide (x % sets = z % sets)) := by simpa using c4
          rw [if_pos ⟨c3', c4'⟩] at w1
          have := ld k
          refine ⟨_, rfl, .inl ⟨rfl, _, sqL_of hO5⟩, _, rfl, _, rfl, D, _, _, .int zk, rfl, rfl, sqL_of hL5, hat, O, _, _, rfl, rfl, hO5, (by rw [List.length_map]; omega), ?_⟩
          refine STEP _ (fr5.put hO5 trivial (.inr nHO)) (by rw [upd_ne nDO]; exact hL5) (by rw [upd_ne nFO]; exact hF5) ?_
          rw [w1, List.map_append]
          exact upd_same
        · rw [inV_int] at c4
          have c4' : zk ∈ Lru.dd ((pre.take k).filter fun x => decide (x % sets = z % sets)) := by simpa using c4
          rw [if_neg fun h => h.2 c4'] at w1
          exact STEP _ fr5 hL5 hF5 (by rw [w1]; exact hO5)
      · have c3' : ¬ zk % sets = z % sets := by simpa using c3
        rw [if_neg fun h => c3' h.1] at w1
        exact iteF (STEP _ fr5 hL5 hF5 (by rw [w1]; exact hO5))
/-- lists of ints at the addresses that D's list holds -/
structure LotsAt (H0 H : Hp) (D : Addr) (ls : List Addr) (n : Nat) (f : Nat → List Int) : Prop where
  ll : H D = some (.lst (ls.map V.ref))
  len : ls.length = n
  nd : ls.Nodup
  at' : ∀ (i : Nat) (l : Addr), ls[i]? = some l → H l = some (.lst ((f i).map V.int))
  out : ∀ l ∈ ls, H0 l = none ∧ l ≠ D
  nD : H0 D = none
def spLLeft (K : PySem.W.Frag) : Sp := fun vs H Q _ => ∃ (an b : Addr) (sets ways line : Int) (os : List Int), vs = [.ref an, .ref b] ∧ SqT K H an [.int sets, .int ways, .int line] ∧ SqT K H b (os.map V.int) ∧ GoodN sets ways line ∧
  os.length ≤ 1000 ∧ ∀ (p : Addr) (H' : Hp), Fr [] H H' → Im K H' (lotsD (Lru.kept sets ways line os)) (.ref p) → Q (.ref p) H'
theorem cal_lleft (T : MTxt K mg CS) : Cal P w K mg base 5 "_law_left" (spLLeft K) := by
  refine T.d__law_left.cal sc__law_left (fun vs H Q E h => ?_) (fun f cdv A outer s H vs Q E hr h => ?_)
  · obtain ⟨an, b, sets, ways, line, os, rfl, _⟩ := h
    rfl
  · obtain ⟨an, b, sets, ways, line, os, rfl, han, hb, g, hlen, q⟩ := h
    refine ⟨_, (pss_cons (ps_asg (pv 0) (pg_tupK K (n := 3) (by rfl) (by rfl) (by rfl) (by rfl) (pgs_consX (by rfl) (pg_nameX 2 sc__law_left.nd rfl (by first | exact .inl rfl | exact .inr rfl) (by first | exact .inr rfl | exact .inl rfl)) (pgs_consX (by rfl) (pg_nameX 3 sc__law_left.nd rfl (by first | exact .inl rfl | exact .inr rfl) (by first | exact .inr rfl | exact .inl rfl)) (pgs_consX (by rfl) (pg_nameX 4 sc__law_left.nd rfl (by first | exact .inl rfl | exact .inr rfl) (by first | exact .inr rfl | exact .inl rfl)) pgs_nil)))))
  (pss_cons (ps_setLcX 5 [("_law_number", 6)] rfl rfl (sw_true rfl rfl rfl (by decide +kernel)) (by rfl) sc__law_left.nd (pi_range1 (by rfl) T.z_range (pa_cons (pv 2) pa_nil)) (blkOk_by (N := ["_law_near_here", "_law_touches", "_law_sets", "_law_ways", "_law_line", "_law_found", "_law_number", "_law_octet", "_law_one", "_law_some"]) (sc := defScope s__law_left) (by decide +kernel)) (fun _ _ _ _ _ => by exact (pg_nameX 6 sc__law_left.nd rfl (by first | exact .inl rfl | exact .inr rfl) (by first | exact .inr rfl | exact .inl rfl))) (fun _ _ _ _ _ => by exact pts_nil) (fun _ _ _ _ _ => by exact (pe_lst pa_nil)) (fun _ => rfl))
  (pss_cons (ps_for PassesOwn.never rfl (pi_tupK K (by rfl) (pe_revTK K (by rfl) (pv 1))) (pg_nameX 7 sc__law_left.nd rfl (by first | exact .inl rfl | exact .inr rfl) (by first | exact .inr rfl | exact .inl rfl))
  (pss_cons (ps_set (i := 8) sc__law_left.nd rfl (by first | exact .inl rfl | exact .inr rfl) (pe_op op_fdiv (pv 7) (pv 4)))
  (pss_one (ps_if (PW.pt (pw_and (pt_cmpR (op_notIn_seqK K (by rfl)) (pv 8) (pe_ix (ix_listK K (by rfl)) (pv 5) (pe_op op_mod (pv 8) (pv 2)) (fun _ _ => rfl)) (by rfl)) (pw_and1 (pt_cmpR op_lt (pe_callB (call_lenK K (by rfl)) (by rfl) T.z_len bt_len (pa_cons (pe_ix (ix_listK K (by rfl)) (pv 5) (pe_op op_mod (pv 8) (pv 2)) (fun _ _ => rfl)) pa_nil)) (pv 3) (nomark _)))))
  (pss_one (ps_expr (pe_bmK K (by rfl) PySem.F.plainAttrs_list PySem.F.slot_list_append PySem.F.type_list_append mt_append (pe_ix (ix_listK K (by rfl)) (pv 5) (pe_op op_mod (pv 8) (pv 2)) (fun _ _ => rfl)) (pa_cons (pv 8) pa_nil))))
  pss_nil))))
  (pss_one (ps_ret (pe_callTy (call_tupleK K (by rfl)) (by rfl) T.z_tuple bt_tuple (by exact (pa_cons (pe_lcX [("_law_some", 9)] (by rfl) sc__law_left.nd (pi_listK K (by rfl) (pv 5)) (blkOk_by (N := ["_law_near_here", "_law_touches", "_law_sets", "_law_ways", "_law_line", "_law_found", "_law_number", "_law_octet", "_law_one", "_law_some"]) (sc := defScope s__law_left) (by decide +kernel)) (fun _ _ _ _ _ => by exact (pg_nameX 9 sc__law_left.nd rfl (by first | exact .inl rfl | exact .inr rfl) (by first | exact .inr rfl | exact .inl rfl))) (fun _ _ _ _ _ => by exact pts_nil) (fun _ _ _ _ _ => by exact (pe_callTy (call_tupleK K (by rfl)) (by rfl) T.z_tuple bt_tuple (pa_cons (pe_revLK K (by rfl) (pv 9)) pa_nil))) (fun _ => rfl)) pa_nil)))))))), ?_⟩
    have hs1 := g.s1
    have hs4 := g.s4
    have hw1 := g.w1
    have hw4 := g.w4
    refine ⟨_, rfl, an, _, rfl, han, rfl, _, _, rfl, _, _, rfl, _, _, rfl, rfl, ?_⟩
    -- found = [[] for number in range(sets)]
    refine ⟨_, rfl, sets, rfl, by omega, by omega, fun D nD => ?_⟩
    refine lc_it walk_range (fun i H2 => ∃ ls : List Addr, LotsAt H H2 D ls i (fun _ => []) ∧ Fr [] H H2)
      ⟨[], ⟨upd_same, rfl, List.nodup_nil, (fun i l h => nomatch h), (fun l h => nomatch h), nD⟩, .new nD⟩ (fun _ _ _ _ => trivial) ?_ ?_
    · rintro i x H2 H3 hi ⟨ls, S, fr⟩ ⟨rfl, rfl⟩
      refine ⟨rfl, tYes_if ⟨Nat.zero_le _, fun o no => ?_⟩⟩
      have noD : D ≠ o := ne_of_none S.ll no
      have nol : ∀ l ∈ ls, l ≠ o := fun l hm => by
        obtain ⟨j, hj⟩ := List.getElem?_of_mem hm
        exact ne_of_none (S.at' j l hj) no
      have nHo : H o = none := fr.free _ no
      refine ⟨_, (by rw [upd_ne noD]; exact S.ll), (by rw [List.length_map, S.len]; have e := sizeLine_eq; omega), ls ++ [o], ⟨?_, ?_, ?_, ?_, ?_, nD⟩, (fr.up no).put (o := .lst (ls.map V.ref)) (by rw [upd_ne noD]; exact S.ll) trivial (.inr nD)⟩
      · rw [upd_same, List.map_append]
        rfl
      · rw [List.length_append, S.len]
        rfl
      · rw [List.nodup_append]
        exact ⟨S.nd, by simp, fun a ha b hb => by cases List.mem_singleton.mp hb; exact nol a ha⟩
      · intro j l hj
        have hm := List.mem_of_getElem? hj
        rcases List.mem_append.mp hm with hm | hm
        · obtain ⟨j', hj'⟩ := List.getElem?_of_mem hm
          rw [upd_ne (S.out l hm).2, upd_ne (nol l hm)]
          exact S.at' j' l hj'
        · cases List.mem_singleton.mp hm
          rw [upd_ne (Ne.symm noD)]
          exact upd_same
      · intro l hm
        rcases List.mem_append.mp hm with hm | hm
        · exact S.out l hm
        · cases List.mem_singleton.mp hm
          exact ⟨nHo, Ne.symm noD⟩
    rintro H2 ⟨ls, S, fr2⟩
    -- for octet in touches[::-1]
    refine ⟨_, rfl, b, _, rfl, fr2.tup hb, fun t nt => ?_⟩
    have eN : (os.map V.int).reverse = os.reverse.map V.int := by rw [List.map_reverse]
    rw [eN]
    have S3 : LotsAt H (upd H2 t (.tup (os.reverse.map V.int))) D ls sets.toNat (fun r => Lru.recents sets.toNat ways.toNat [] r) := by
      refine ⟨by rw [upd_ne (ne_of_none S.ll nt)]; exact S.ll, S.len, S.nd, fun i l hi => ?_, S.out, S.nD⟩
      have h := S.at' i l hi
      have e : Lru.recents sets.toNat ways.toNat [] i = [] := by simp [Lru.recents, Lru.dd]
      rw [upd_ne (ne_of_none h nt), h, e]
    have fr3 : Fr [] H (upd H2 t (.tup (os.reverse.map V.int))) := fr2.up nt
    have nHt : H t = none := fr2.free _ nt
    have ht : (upd H2 t (.tup (os.reverse.map V.int))) t = some (.tup (os.reverse.map V.int)) := upd_same
    generalize upd H2 t (.tup (os.reverse.map V.int)) = H3 at S3 fr3 ht
    generalize elines : (os.reverse.map fun o => o / line) = lines
    have hll : lines.length = os.length := by rw [← elines, List.length_map, List.length_reverse]
    have hsl := sizeLine_eq
    refine ⟨t, rfl, ⟨_, sqT_of ht⟩, for_tup (K := K) (xs := os.reverse.map V.int) (fun i σ H4 => ∃ v6 v7 v8, σ = [some (.ref an), some (.ref b), some (.int sets), some (.int ways), some (.int line), some (.ref D), v6, v7, v8, none] ∧
      Fr [] H H4 ∧ H4 t = some (.tup (os.reverse.map V.int)) ∧ LotsAt H H4 D ls sets.toNat (fun r => Lru.recents sets.toNat ways.toNat (lines.take i) r))
      ⟨none, none, none, rfl, fr3, ht, S3⟩ (fun i σ H4 _ ⟨_, _, _, _, _, h, _⟩ => sqT_of h) ?_ ?_⟩
    · rintro i y σ H4 hy ⟨v6, v7, v8, rfl, fr, h4t, S4⟩
      obtain ⟨o, ho, rfl⟩ := map_at hy
      have hlo : lines[i]? = some (o / line) := by rw [← elines, List.getElem?_map, ho]; rfl
      have e1 : lines.take (i + 1) = lines.take i ++ [o / line] := Lru.take_succ hlo
      refine ⟨_, rfl, _, rfl, _, _, rfl, rfl, ⟨by have := g.l1; omega, by have := g.l8; omega⟩, ?_⟩
      have hp : Lru.place sets.toNat (o / line) < sets.toNat := Lru.place_lt (by omega) (o / line)
      obtain ⟨l, hl⟩ : ∃ l, ls[Lru.place sets.toNat (o / line)]? = some l := ⟨_, List.getElem?_eq_getElem (by rw [S4.len]; exact hp)⟩
      have hml := List.mem_of_getElem? hl
      have hlot := S4.at' _ l hl
      have hat : atI (ls.map V.ref) ((o / line) % sets) = some (.ref l) := by
        have e : (o / line) % sets = ((Lru.place sets.toNat (o / line) : Nat) : Int) := by
          have h1 := Int.emod_nonneg (o / line) (show sets ≠ 0 by omega)
          unfold Lru.place
          rw [show ((sets.toNat : Nat) : Int) = sets by omega]
          omega
        rw [e]
        exact atI_nat (by rw [List.getElem?_map, hl]; rfl)
      have hrl := Lru.recents_len sets.toNat ways.toNat (lines.take i) (Lru.place sets.toNat (o / line))
      have rs := Lru.recents_snoc (n := sets.toNat) (w := ways.toNat) (l := lines.take i) (z := o / line)
      rw [← e1] at rs
      -- what stays
      have SAME : ¬ ((o / line) ∉ Lru.recents sets.toNat ways.toNat (lines.take i) (Lru.place sets.toNat (o / line)) ∧ (Lru.recents sets.toNat ways.toNat (lines.take i) (Lru.place sets.toNat (o / line))).length < ways.toNat) →
          LotsAt H H4 D ls sets.toNat (fun r => Lru.recents sets.toNat ways.toNat (lines.take (i + 1)) r) := by
        intro h
        rw [if_neg h] at rs
        refine ⟨S4.ll, S4.len, S4.nd, fun j m hj => ?_, S4.out, S4.nD⟩
        by_cases e : Lru.place sets.toNat (o / line) = j
        · subst e
          rw [rs]
          exact S4.at' _ m hj
        · rw [e1, Lru.recents_other e]
          exact S4.at' j m hj
      refine ⟨_, rfl, _, rfl, _, rfl, _, rfl, _, _, rfl, rfl, (by omega), D, _, _, .ref l, rfl, rfl, sqL_of S4.ll, hat, l, _, rfl, .inl (sqL_of hlot), rfl, flat_ints _, _, rfl, ite_b (fun c => ?_) (fun c => ?_)⟩
      · rw [inV_int] at c
        have c1 : (o / line) ∉ Lru.recents sets.toNat ways.toNat (lines.take i) (Lru.place sets.toNat (o / line)) := by simpa using c
        refine ⟨_, rfl, _, rfl, _, rfl, _, _, rfl, rfl, (by omega), D, _, _, .ref l, rfl, rfl, sqL_of S4.ll, hat, l, _, rfl, .inl (sqL_of hlot), _, rfl, _, _, rfl, rfl, _, rfl, ite_b (fun c2 => ?_) (fun c2 => ?_)⟩
        · rw [List.length_map] at c2
          have c2' := of_decide_eq_true c2
          rw [if_pos ⟨c1, by omega⟩] at rs
          refine ⟨_, rfl, _, rfl, _, rfl, _, _, rfl, rfl, (by omega), D, _, _, .ref l, rfl, rfl, sqL_of S4.ll, hat, .inl ⟨rfl, _, sqL_of hlot⟩, _, rfl, l, _, _, rfl, rfl, hlot, (by rw [List.length_map]; omega), ?_⟩
          have nDl := (S4.out l hml).2
          have ntl : t ≠ l := fun e => by
            rw [e, hlot] at h4t
            cases h4t
          refine ⟨_, _, _, rfl, fr.put hlot trivial (.inr (S4.out l hml).1), by rw [upd_ne ntl]; exact h4t, by rw [upd_ne (Ne.symm nDl)]; exact S4.ll, S4.len, S4.nd, fun j m hj => ?_, S4.out, S4.nD⟩
          · by_cases e : Lru.place sets.toNat (o / line) = j
            · subst e
              rw [hl] at hj
              cases hj
              rw [rs, List.map_append]
              exact upd_same
            · have nm : m ≠ l := fun e2 => e (nd_ix S4.nd hl (by rw [← e2]; exact hj))
              rw [upd_ne nm, e1, Lru.recents_other e]
              exact S4.at' j m hj
        · rw [List.length_map] at c2
          have c2' := of_decide_eq_false c2
          exact ⟨_, _, _, rfl, fr, h4t, SAME fun h => by have := h.2; omega⟩
      · rw [inV_int] at c
        have c1 : (o / line) ∈ Lru.recents sets.toNat ways.toNat (lines.take i) (Lru.place sets.toNat (o / line)) := by simpa using c
        exact iteF ⟨_, _, _, rfl, fr, h4t, SAME fun h => h.1 c1⟩
    · rintro σ H4 ⟨v6, v7, v8, rfl, fr, h4t, S4⟩
      rw [List.length_map, List.length_reverse, ← hll, List.take_length] at S4
      have ek : Lru.kept sets ways line os = Lru.lotsAt sets.toNat ways.toNat lines := by rw [Lru.kept_at hs1 hw1, ← elines, List.map_reverse]
      have hkl : (Lru.kept sets ways line os).length = sets.toNat := by rw [ek, Lru.lotsAt_len]
      have hll2 : (ls.map V.ref).length = (Lru.kept sets ways line os).length := by rw [List.length_map, S4.len, hkl]
      refine ⟨_, rfl, D, rfl, ⟨_, sqL_of S4.ll⟩, fun U nU => ?_⟩
      refine lc_dat (K := K) (walk_list (xs := ls.map V.ref)) (fun i => .tuple (((Lru.kept sets ways line os).getD i []).map PyData.int)) nU (by rw [hll2, hkl]; omega) (fun H' fr' => fr'.lst (sqL_of S4.ll) (fun z => nomatch z)) ?_ gName_mono (fun i H x H' _ y => yat_fr y) ?_
      · rintro i y H5 H6 Z1 hi fr5 ⟨rfl, ey⟩ hz
        obtain ⟨l, hl, rfl⟩ := map_at ey
        rw [hll2, hkl] at hi
        have hlot := S4.at' i l hl
        have eg : (Lru.kept sets ways line os).getD i [] = (Lru.recents sets.toNat ways.toNat lines i).reverse := getD_of (by rw [ek]; exact Lru.lotsAt_get hi)
        refine ⟨rfl, _, rfl, l, _, rfl, sqL_of (fr5.at hlot), fun r nr => ⟨r, _, rfl, .inl ⟨sqL_of upd_same, fun t nt => hz _ _ ((Fr.new nr).up nt) ?_⟩⟩⟩
        rw [eg, ← List.map_reverse]
        exact Im.tupI (sqT_of upd_same)
      · intro H5 ys fr5 hD hys
        refine ⟨U, ys, rfl, .inl ⟨sqL_of hD, fun t nt => ?_⟩⟩
        refine q t _ ((fr.trans fr5).up nt) ⟨t, ys, rfl, sqT_of upd_same, ?_⟩
        have h6 := hys.mono (Fr.new (L := []) (o := .tup ys) nt)
        rw [hll2, range_map_get (Lru.kept sets ways line os) [] (fun l => PyData.tuple (l.map PyData.int))] at h6
        exact h6
end
abbrev s_law : Stmt := (topS 26)
theorem sc_law : FnScope ["_law_script", "_law_cell_here", "_law_pen_here", "_law_lap", "_law_near_here", "_law_far", "_law_some", "_law_turn", "_law_touches", "_law_due", "_law_before"] ["_law_script"] (defScope s_law) := ⟨rfl, rfl, rfl, by decide +kernel, rfl, by decide +kernel, by decide +kernel⟩
section
variable {P : Program} {w : World} {K : PySem.W.Frag} {mg : Str → Option Value} {base : Heap} {CS : Addr}
def spLaw (K : PySem.W.Frag) : Sp := fun vs H Q _ => ∃ (a : Addr) (ns : List Int), vs = [.ref a] ∧ SqL K H a (ns.map V.int) ∧ ns.length ≤ 63 ∧ ∀ H', Q (.bl true) H'
theorem ok_law {fa : Addr} {fd : FuncData} (T : MTxt K mg CS) (F : Fun K "law" "law" s_law fa fd) : FnG P w K mg base 8 fa fd ["_law_script"] (spLaw K) := by
  have c__law_cell := cal_cell (P := P) (w := w) (base := base) T.toPTxt
  have c__law_pen := cal_pen (P := P) (w := w) (base := base) T.toPTxt
  have c__law_draw := cal_draw (P := P) (w := w) (base := base) T.toPTxt
  have c__law_near := cal_law_near (P := P) (w := w) (base := base) T.toQTxt
  have c__law_missed := cal_lmissed (P := P) (w := w) (base := base) T
  have c__law_left := cal_lleft (P := P) (w := w) (base := base) T
  have c_kept := cal_kept (P := P) (w := w) (base := base) T.toNTxt
  have c_missed := cal_missed (P := P) (w := w) (base := base) T.toNTxt
  have c_misses := cal_misses (P := P) (w := w) (base := base) T.toNTxt
  refine okG F sc_law (fun vs H Q E h => ?_) (fun cdv A outer s H vs Q E hG hr h => ?_)
  · obtain ⟨a, ns, rfl, _⟩ := h
    rfl
  · obtain ⟨a, ns, rfl, hS, hlen, q⟩ := h
    refine ⟨_, (pss_cons (ps_for PassesOwn.never rfl (pi_listK K (by rfl) (pe_op op_cat (pe_lst (pa_cons (pe_c c__law_cell hr (by decide) (by rfl) (pa_cons (pv 0) (pa_cons pe_int pa_nil))) pa_nil)) (pe_slice (sl_listK K (by rfl)) (pv 0) (po_some pe_int) (po_some pe_int)))) (pg_nameX 1 sc_law.nd rfl (by first | exact .inl rfl | exact .inr rfl) (by first | exact .inr rfl | exact .inl rfl))
  (pss_cons (ps_set (i := 2) sc_law.nd rfl (by first | exact .inl rfl | exact .inr rfl) (pe_c c__law_pen hr (by decide) (by rfl) (pa_cons (pv 1) pa_nil)))
  (pss_one (ps_for PassesOwn.never rfl (pi_range1 (by rfl) T.z_range (pa_cons pe_int pa_nil)) (pg_nameX 3 sc_law.nd rfl (by first | exact .inl rfl | exact .inr rfl) (by first | exact .inr rfl | exact .inl rfl))
  (pss_cons (ps_asg (pe_tup (pa_cons (pe_c c__law_near hr (by decide) (by rfl) (pa_cons (pv 2) pa_nil)) (pa_cons (pe_ix (ix_listK K (by rfl)) (pe_lst (pa_cons pe_int (pa_cons pe_int (pa_cons pe_int (pa_cons pe_int pa_nil))))) (pe_c c__law_draw hr (by decide) (by rfl) (pa_cons (pv 2) (pa_cons pe_int pa_nil))) (fun _ _ => rfl)) pa_nil))) (pg_tupK K (n := 2) (by rfl) (by rfl) (by rfl) (by rfl) (pgs_consX (by rfl) (pg_nameX 4 sc_law.nd rfl (by first | exact .inl rfl | exact .inr rfl) (by first | exact .inr rfl | exact .inl rfl)) (pgs_consX (by rfl) (pg_nameX 5 sc_law.nd rfl (by first | exact .inl rfl | exact .inr rfl) (by first | exact .inr rfl | exact .inl rfl)) pgs_nil))))
  (pss_cons (ps_setLcX 6 [("_law_turn", 7)] rfl rfl (sw_true rfl rfl rfl (by decide +kernel)) (by rfl) sc_law.nd (pi_range1 (by rfl) T.z_range (pa_cons (pe_c c__law_draw hr (by decide) (by rfl) (pa_cons (pv 2) (pa_cons pe_int pa_nil))) pa_nil)) (blkOk_by (N := ["_law_script", "_law_cell_here", "_law_pen_here", "_law_lap", "_law_near_here", "_law_far", "_law_some", "_law_turn", "_law_touches", "_law_due", "_law_before"]) (sc := defScope s_law) (by decide +kernel)) (fun _ _ _ _ _ => by exact (pg_nameX 7 sc_law.nd rfl (by first | exact .inl rfl | exact .inr rfl) (by first | exact .inr rfl | exact .inl rfl))) (fun _ _ _ _ _ => by exact pts_nil) (fun _ _ _ _ _ => by exact (pe_c c__law_draw hr (by decide) (by rfl) (pa_cons (pv 2) (pa_cons (pv 5) pa_nil)))) (fun _ => rfl))
  (pss_cons (ps_set (i := 6) sc_law.nd rfl (by first | exact .inl rfl | exact .inr rfl) (pe_op op_cat (pv 6) (pe_lcX [("_law_turn", 7)] (by rfl) sc_law.nd (pi_range1 (by rfl) T.z_range (pa_cons (pe_c c__law_draw hr (by decide) (by rfl) (pa_cons (pv 2) (pa_cons pe_int pa_nil))) pa_nil)) (blkOk_by (N := ["_law_script", "_law_cell_here", "_law_pen_here", "_law_lap", "_law_near_here", "_law_far", "_law_some", "_law_turn", "_law_touches", "_law_due", "_law_before"]) (sc := defScope s_law) (by decide +kernel)) (fun _ _ _ _ _ => by exact (pg_nameX 7 sc_law.nd rfl (by first | exact .inl rfl | exact .inr rfl) (by first | exact .inr rfl | exact .inl rfl))) (fun _ _ _ _ _ => by exact pts_nil) (fun _ _ _ _ _ => by exact (pe_ix (ix_listK K (by rfl)) (pe_lst (pa_cons (pe_op op_pow pe_int pe_int) (pa_cons pe_int (pa_cons (pe_op op_add (pe_op op_pow pe_int pe_int) pe_int) pa_nil)))) (pe_c c__law_draw hr (by decide) (by rfl) (pa_cons (pv 2) (pa_cons pe_int pa_nil))) (fun _ _ => rfl))) (fun _ => rfl))))
  (pss_cons (ps_set (i := 8) sc_law.nd rfl (by first | exact .inl rfl | exact .inr rfl) (pe_callTy (call_tupleK K (by rfl)) (by rfl) T.z_tuple bt_tuple (pa_cons (pv 6) pa_nil)))
  (pss_cons (ps_par (i := 9) (j := 10) rfl sc_law.nd rfl rfl (by decide) rfl rfl (pa_cons (pe_c c__law_missed hr (by decide) (by rfl) (pa_cons (pv 4) (pa_cons (pv 8) pa_nil))) (pa_cons (pe_callB (call_reprDK K (by rfl) hG hr.units) (by rfl) T.z_repr bt_repr (pa_cons (pe_tup (pa_cons (pv 4) (pa_cons (pv 8) pa_nil))) pa_nil)) pa_nil)) rfl)
  (pss_cons (ps_if (pt_cmpR op_ne (pe_callB (call_reprDK K (by rfl) hG hr.units) (by rfl) T.z_repr bt_repr (pa_cons (pe_lst (pa_cons (pe_c c_misses hr (by decide) (by rfl) (pa_cons (pv 4) (pa_cons (pv 8) pa_nil))) (pa_cons (pe_c c_missed hr (by decide) (by rfl) (pa_cons (pv 4) (pa_cons (pv 8) pa_nil))) pa_nil))) pa_nil)) (pe_callB (call_reprDK K (by rfl) hG hr.units) (by rfl) T.z_repr bt_repr (pa_cons (pe_lst (pa_cons (pe_callB (call_lenK K (by rfl)) (by rfl) T.z_len bt_len (pa_cons (pv 9) pa_nil)) (pa_cons (pe_callTy (call_tupleK K (by rfl)) (by rfl) T.z_tuple bt_tuple (pa_cons (pv 9) pa_nil)) pa_nil))) pa_nil)) (nomark _))
  (pss_one (ps_ret pe_bl))
  pss_nil)
  (pss_one (ps_if (PW.pt (pw_or (pt_cmpR op_ne (pe_callB (call_reprDK K (by rfl) hG hr.units) (by rfl) T.z_repr bt_repr (pa_cons (pe_c c_kept hr (by decide) (by rfl) (pa_cons (pv 4) (pa_cons (pv 8) pa_nil))) pa_nil)) (pe_callB (call_reprDK K (by rfl) hG hr.units) (by rfl) T.z_repr bt_repr (pa_cons (pe_c c__law_left hr (by decide) (by rfl) (pa_cons (pv 4) (pa_cons (pv 8) pa_nil))) pa_nil)) (nomark _)) (pw_or1 (pt_cmpR op_ne (pe_callB (call_reprDK K (by rfl) hG hr.units) (by rfl) T.z_repr bt_repr (pa_cons (pe_tup (pa_cons (pv 4) (pa_cons (pv 8) pa_nil))) pa_nil)) (pv 10) (nomark _)))))
  (pss_one (ps_ret pe_bl))
  pss_nil))))))))))))
  (pss_one (ps_ret pe_bl))), ?_⟩
    -- [_law_cell(script, 0)] + script[1:3]
    refine ⟨_, rfl, a, ns, 0, rfl, hS, fun z0 => ⟨(by show 1 ≤ sizeLine; decide), fun l0 nl0 => ?_⟩⟩
    have fa : Fr [] H (upd H l0 (.lst [.int z0])) := .new nl0
    refine ⟨_, rfl, 1, rfl, 3, rfl, a, _, rfl, fa.lst hS (fun z => nomatch z), fun l1 nl1 => ?_⟩
    rw [cut_ints]
    generalize hcut : (((ns.drop (HT.sIx ns.length 0 (some 1))).take (HT.sIx ns.length ns.length (some 3) - HT.sIx ns.length 0 (some 1)))) = ms
    have hms : ms.length ≤ 63 := by
      rw [← hcut]
      have h1 := List.length_take_le (HT.sIx ns.length ns.length (some 3) - HT.sIx ns.length 0 (some 1)) (ns.drop (HT.sIx ns.length 0 (some 1)))
      have h2 := List.length_take_le' (HT.sIx ns.length ns.length (some 3) - HT.sIx ns.length 0 (some 1)) (ns.drop (HT.sIx ns.length 0 (some 1)))
      rw [List.length_drop] at h2
      omega
    have hszl := sizeLine_eq
    have h01 : l0 ≠ l1 := ne_of_none upd_same nl1
    refine ⟨l0, l1, [.int z0], ms.map V.int, rfl, rfl, (by rw [upd_ne h01]; exact upd_same), upd_same, (by rw [List.length_map]; show 1 + _ ≤ _; omega), fun l2 nl2 => ?_⟩
    have exs : ([V.int z0] ++ ms.map V.int) = (z0 :: ms).map V.int := rfl
    rw [exs]
    generalize eHl : upd (upd (upd H l0 (.lst [.int z0])) l1 (.lst (ms.map V.int))) l2 (.lst ((z0 :: ms).map V.int)) = Hl
    have hl2 : Hl l2 = some (.lst ((z0 :: ms).map V.int)) := by rw [← eHl]; exact upd_same
    refine ⟨l2, rfl, ⟨_, sqL_of hl2⟩, for_list (K := K) (a := l2) (xs := (z0 :: ms).map V.int) (fun i σ H1 => ∃ v1 v2 v3 v4 v5 v6 v7 v8 v9 v10, σ = [some (.ref a), v1, v2, v3, v4, v5, v6, v7, v8, v9, v10] ∧ Fr [] Hl H1)
      ⟨none, none, none, none, none, none, none, none, none, none, rfl, .refl _ _⟩ (fun i σ H1 _ ⟨_, _, _, _, _, _, _, _, _, _, _, fr⟩ => sqL_of (fr.at hl2)) ?_ (fun σ H1 _ => q H1)⟩
    rintro i x σ H1 hx ⟨v1, v2, v3, v4, v5, v6, v7, v8, v9, v10, rfl, frl⟩
    obtain ⟨zc, _, rfl⟩ := map_at hx
    -- pen = _law_pen(cell)
    refine ⟨_, rfl, zc, rfl, fun p Hq np fp pnp => ?_⟩
    have frlp : Fr [] Hl Hq := frl.trans fp
    -- for lap in range(5)
    refine ⟨5, rfl, by decide, by decide, for_range (lo := 0) (n := 5) (fun i σ H2 => ∃ v3 v4 v5 v6 v7 v8 v9 v10, σ = [some (.ref a), some (.int zc), some (.ref p), v3, v4, v5, v6, v7, v8, v9, v10] ∧ Fr [p] Hq H2 ∧ Pen H2 p)
      ⟨v3, v4, v5, v6, v7, v8, v9, v10, rfl, .refl _ _, pnp⟩ ?_ ?_⟩
    rotate_left
    · rintro σ H2 ⟨v3, v4, v5, v6, v7, v8, v9, v10, rfl, fr, pn⟩
      exact ⟨_, _, _, _, _, _, _, _, _, _, rfl, frlp.cut fr fun l hl => by cases List.mem_singleton.mp hl; exact .inr (frl.free _ np)⟩
    rintro k σ H2 hk ⟨v3, v4, v5, v6, v7, v8, v9, v10, rfl, frp, pn⟩
    -- near, far = _law_near(pen), [4, 12, 40, 160][_law_draw(pen, 4)]
    refine ⟨_, rfl, p, rfl, pn, fun an H3 sets ways line f3 pn3 han g => ⟨(by show 4 ≤ sizeLine; decide), fun lm nlm => ?_⟩⟩
    have f3m : Fr [p] H3 (upd H3 lm (.lst [.int 4, .int 12, .int 40, .int 160])) := .new nlm
    refine ⟨_, rfl, p, 4, rfl, pn3.up nlm, by decide, by decide, fun d H4 d0 d3 f4 pn4 => ?_⟩
    obtain ⟨vf, hvf, hat⟩ := menu4 (.int 4) (.int 12) (.int 40) (.int 160) d0 d3
    obtain ⟨far, far1, far2, rfl⟩ : ∃ far : Int, 1 ≤ far ∧ far ≤ 160 ∧ vf = .int far := by
      rcases hvf with h | h | h | h
      · exact ⟨4, by decide, by decide, h⟩
      · exact ⟨12, by decide, by decide, h⟩
      · exact ⟨40, by decide, by decide, h⟩
      · exact ⟨160, by decide, by decide, h⟩
    have nplm : lm ∉ [p] := fun z => (pn3.ne nlm) (List.mem_singleton.mp z).symm
    refine ⟨lm, _, d, _, rfl, rfl, sqL_of (f4.ne upd_same nplm), hat, (by show 2 ≤ sizeLine; decide), fun tt ntt => ?_⟩
    have f2_5 : Fr [p] H2 (upd H4 tt (.tup [.ref an, .int far])) := ((f3.trans f3m).trans f4).up ntt
    have pn5 := pn4.up (o := .tup [.ref an, .int far]) ntt
    have han5 : SqT K (upd H4 tt (.tup [.ref an, .int far])) an [.int sets, .int ways, .int line] := ((f3m.trans f4).up ntt).tup han
    refine ⟨tt, _, rfl, sqT_of upd_same, rfl, _, _, rfl, _, _, rfl, rfl, ?_⟩
    generalize upd H4 tt (.tup [.ref an, .int far]) = H5 at f2_5 pn5 han5
    -- some = [_law_draw(pen, far) for turn in range(_law_draw(pen, 61))]
    refine ⟨_, rfl, p, 61, rfl, pn5, by decide, by decide, fun n1 H6 n10 n11 f6 pn6 => ⟨n1, rfl, by omega, by omega, fun D nD => ?_⟩⟩
    refine lc_pen walk_range p (fun _ _ y => ∃ z, y = V.int z ∧ Sm z) (fun _ _ _ _ _ h => h) pn6 nD (by omega) (fun _ _ => trivial) ?_ gName_mono (fun i H x H' _ y => yfn_fr y) ?_
    · rintro j y H7 H8 Z1 hj f7 pn8 ⟨rfl, rfl⟩ hz
      exact ⟨rfl, _, rfl, _, rfl, p, far, rfl, pn8, far1, by omega, fun d' H9 e0 e1 f9 pn9 => hz _ _ f9 pn9 ⟨d', rfl, e0, by omega⟩⟩
    intro H7 ys f7 pn7 hD7 len7 hys
    obtain ⟨one, rfl, onn⟩ := ints_of hys
    rw [List.length_map] at len7
    have npD : D ≠ p := fun e => by
      obtain ⟨x, y, e2⟩ := pn6
      rw [← e, nD] at e2
      cases e2
    -- some + [.. for turn in range(_law_draw(pen, 4))]
    refine ⟨_, rfl, _, rfl, p, 4, rfl, pn7, by decide, by decide, fun n2 H8 n20 n21 f8 pn8 => ⟨n2, rfl, by omega, by omega, fun D2 nD2 => ?_⟩⟩
    refine lc_pen walk_range p (fun _ _ y => ∃ z, y = V.int z ∧ Sm z) (fun _ _ _ _ _ h => h) pn8 nD2 (by omega) (fun _ _ => trivial) ?_ gName_mono (fun i H x H' _ y => yfn_fr y) ?_
    · rintro j y H9 H10 Z1 hj f9 pn10 ⟨rfl, rfl⟩ hz
      refine ⟨rfl, _, _, rfl, rfl, ⟨by decide, by decide, by decide⟩, _, _, rfl, rfl, ⟨by decide, by decide, by decide⟩, _, _, rfl, rfl, (by show 3 ≤ sizeLine; decide), fun lq nlq => ?_⟩
      refine ⟨_, rfl, p, 3, rfl, pn10.up nlq, by decide, by decide, fun e H11 e0 e1 f11 pn11 => ?_⟩
      obtain ⟨vf, hvf, hatq⟩ := menu3 (.int (10 ^ (20 : Int).toNat)) (.int 0) (.int (10 ^ (20 : Int).toNat + 8)) e0 e1
      have nplq : lq ∉ [p] := fun z => (pn10.ne nlq) (List.mem_singleton.mp z).symm
      refine ⟨lq, _, e, vf, rfl, rfl, sqL_of (f11.ne upd_same nplq), hatq, hz _ _ ((Fr.new nlq).trans f11) pn11 ?_⟩
      rcases hvf with h | h | h
      · exact ⟨_, h, by decide, by decide⟩
      · exact ⟨_, h, by decide, by decide⟩
      · exact ⟨_, h, by decide, by decide⟩
    intro H9 ys2 f9 pn9 hD9 len9 hys2
    obtain ⟨two, rfl, twn⟩ := ints_of hys2
    rw [List.length_map] at len9
    have hDp : D ∉ [p] := fun z => npD (List.mem_singleton.mp z)
    refine ⟨D, D2, one.map V.int, two.map V.int, rfl, rfl, (f8.trans f9).ne hD7 hDp, hD9, (by rw [List.length_map, List.length_map]; omega), fun D3 nD3 => ?_⟩
    rw [← List.map_append]
    generalize eos : one ++ two = os
    have osl : os.length ≤ 63 := by rw [← eos, List.length_append]; omega
    have osn : ∀ o ∈ os, Sm o := by
      intro o ho
      rw [← eos] at ho
      exact (List.mem_append.mp ho).elim (onn o) (twn o)
    have osp : ∀ o ∈ os, 0 ≤ o := fun o ho => (osn o ho).1
    -- touches = tuple(some)
    refine ⟨_, rfl, D3, _, rfl, .inl ⟨sqL_of upd_same, fun t nt => ?_⟩⟩
    have f5_10 : Fr [p] H5 (upd (upd H9 D3 (.lst (os.map V.int))) t (.tup (os.map V.int))) := ((((f6.trans f7).trans f8).trans f9).up nD3).up nt
    have pn10 := (pn9.up (o := .lst (os.map V.int)) nD3).up (o := .tup (os.map V.int)) nt
    have ht10 : (upd (upd H9 D3 (.lst (os.map V.int))) t (.tup (os.map V.int))) t = some (.tup (os.map V.int)) := upd_same
    have han10 := f5_10.tup han5
    have frA := (frp.trans f2_5).trans f5_10
    generalize upd (upd H9 D3 (.lst (os.map V.int))) t (.tup (os.map V.int)) = HA at f5_10 pn10 ht10 han10 frA
    -- due, before = _law_missed(near, touches), repr((near, touches))
    refine ⟨_, rfl, _, rfl, an, t, sets, ways, line, os, rfl, han10, sqT_of ht10, g, by omega, fun due HB ndue fB hdue => ?_⟩
    refine ⟨_, rfl, _, rfl, (by show 2 ≤ sizeLine; decide), fun u nu => ⟨u, askD sets ways line os, rfl, ?_, ⟨2, 202, by decide, by decide, sh_ask g osn (by omega)⟩, _, _, rfl, ?_⟩⟩
    · exact im_ask upd_same ((fB.up nu).tup han10) (sqT_of ((fB.up nu).at ht10))
    have fAC : Fr [] HA (upd HB u (.tup [.ref an, .ref t])) := fB.up nu
    have hdueC : (upd HB u (.tup [.ref an, .ref t])) due = some (.lst ((Lru.missed sets ways line os).map V.int)) := by rw [upd_ne (ne_of_none hdue nu)]; exact hdue
    generalize upd HB u (.tup [.ref an, .ref t]) = HC at fAC hdueC
    -- repr([misses(near, touches), missed(near, touches)]) != repr([len(due), tuple(due)])
    refine ⟨_, rfl, _, rfl, an, t, sets, ways, line, os, rfl, fAC.tup han10, sqT_of (fAC.at ht10), g, by omega, osp, fun HD fD => ?_⟩
    have fAD := fAC.trans fD
    refine ⟨_, rfl, _, rfl, an, t, sets, ways, line, os, rfl, fAD.tup han10, sqT_of (fAD.at ht10), g, by omega, osp, fun m1 HE fE hm1 => ?_⟩
    have fAE := fAD.trans fE
    have mln : ∀ z ∈ Lru.missed sets ways line os, Sm z := by
      intro z hz
      rw [Lru.missed_R] at hz
      have h1 := Lru.missedR_in ways line os _ _ _ hz
      unfold Sm
      omega
    have mll := Lru.missedUp_len ways line (Lru.fresh sets) os os.length
    change (Lru.missed sets ways line os).length ≤ os.length at mll
    generalize Lru.missed sets ways line os = ml at *
    refine ⟨by show 2 ≤ sizeLine; decide, fun lA nlA => ⟨lA, toldD ml, rfl, ?_, ⟨2, 202, by decide, by decide, sh_told mln (by omega)⟩, ?_⟩⟩
    · exact dp_told upd_same rfl (sqT_of (by rw [upd_ne (ne_of_none hm1 nlA)]; exact hm1))
    have fAF := fAE.up (o := .lst [.int (ml.length : Int), .ref m1]) nlA
    have hdueF := ((fD.trans fE).up (o := .lst [.int (ml.length : Int), .ref m1]) nlA).at hdueC
    generalize upd HE lA (.lst [.int (ml.length : Int), .ref m1]) = HF at fAF hdueF
    refine ⟨_, rfl, due, _, rfl, .inl (sqL_of hdueF), _, rfl, due, _, rfl, .inl ⟨sqL_of hdueF, fun t2 nt2 => ⟨by show 2 ≤ sizeLine; decide, fun lB nlB => ⟨lB, toldD ml, rfl, ?_, ⟨2, 202, by decide, by decide, sh_told mln (by omega)⟩, rfl, _, rfl, ite_b (fun c => absurd c (by rw [str_ne_self]; decide)) fun _ => ?_⟩⟩⟩⟩
    · exact dp_told upd_same (by rw [List.length_map]) (sqT_of (by rw [upd_ne (ne_of_none upd_same nlB)]; exact upd_same))
    have fAG := (fAF.up (o := .tup (ml.map V.int)) nt2).up (o := .lst [.int ((ml.map V.int).length : Int), .ref t2]) nlB
    generalize upd (upd HF t2 (.tup (ml.map V.int))) lB (.lst [.int ((ml.map V.int).length : Int), .ref t2]) = HG at fAG
    -- repr(kept(..)) != repr(_law_left(..)) or repr((near, touches)) != before
    refine ⟨_, rfl, _, rfl, an, t, sets, ways, line, os, rfl, fAG.tup han10, sqT_of (fAG.at ht10), g, by omega, osp, fun k1 HI fI imI => ?_⟩
    have fAI := fAG.trans fI
    refine ⟨k1, _, rfl, imI.dp, ⟨2, 20, by decide, by decide, sh_kept g osn⟩, ?_⟩
    refine ⟨_, rfl, _, rfl, an, t, sets, ways, line, os, rfl, fAI.tup han10, sqT_of (fAI.at ht10), g, by omega, fun k2 HJ fJ imJ => ?_⟩
    have fAJ := fAI.trans fJ
    refine ⟨k2, _, rfl, imJ.dp, ⟨2, 20, by decide, by decide, sh_kept g osn⟩, rfl, _, rfl, ite_b (fun c => absurd c (by rw [str_ne_self]; decide)) fun _ => ?_⟩
    refine ⟨_, rfl, _, rfl, by show 2 ≤ sizeLine; decide, fun u2 nu2 => ⟨u2, askD sets ways line os, rfl, ?_, ⟨2, 202, by decide, by decide, sh_ask g osn (by omega)⟩, _, rfl, rfl, _, rfl, ite_b (fun c => absurd c (by rw [str_ne_self]; decide)) fun _ => ?_⟩⟩
    · exact im_ask upd_same ((fAJ.up nu2).tup han10) (sqT_of ((fAJ.up nu2).at ht10))
    have fAK := fAJ.up (o := .tup [.ref an, .ref t]) nu2
    exact ⟨_, _, _, _, _, _, _, _, rfl, frA.trans (fAK.mono fun l z => nomatch z), pn10.fr fAK fun z => nomatch z⟩
end
theorem all_mk {l : PySem.W.OpenLaw} {w : World} {K : PySem.W.Frag} {h : Heap} {mg : Str → Option Value} {fa f1 f2 f3 f4 f5 C_Store f7 f8 f12 f13 f14 f15 f29 f30 f31 f32 f33 f34 f35 : Addr} (X : K.In h) (G : h.Ns mainGlobals mg) (hfa : mg "law" = some (.ref fa))
    {od1 an1 : Option Addr} {sl1 : Array (Option Value)} {oc1 kV1 dc1 pm1 cd1 ct1 : Value} {od2 an2 : Option Addr} {sl2 : Array (Option Value)} {oc2 kV2 dc2 pm2 cd2 ct2 : Value} {od3 an3 : Option Addr} {sl3 : Array (Option Value)} {oc3 kV3 dc3 pm3 cd3 ct3 : Value} {od4 an4 : Option Addr} {sl4 : Array (Option Value)} {oc4 kV4 dc4 pm4 cd4 ct4 : Value} {od5 an5 : Option Addr} {sl5 : Array (Option Value)} {oc5 kV5 dc5 pm5 cd5 ct5 : Value} {od7 an7 : Option Addr} {sl7 : Array (Option Value)} {oc7 kV7 dc7 pm7 cd7 ct7 : Value} {od8 an8 : Option Addr} {sl8 : Array (Option Value)} {oc8 kV8 dc8 pm8 cd8 ct8 : Value} {od12 an12 : Option Addr} {sl12 : Array (Option Value)} {oc12 kV12 dc12 pm12 cd12 ct12 : Value} {od13 an13 : Option Addr} {sl13 : Array (Option Value)} {oc13 kV13 dc13 pm13 cd13 ct13 : Value} {od14 an14 : Option Addr} {sl14 : Array (Option Value)} {oc14 kV14 dc14 pm14 cd14 ct14 : Value} {od15 an15 : Option Addr} {sl15 : Array (Option Value)} {oc15 kV15 dc15 pm15 cd15 ct15 : Value} {t16 : Tok} {t17 : Tok} {t18 : Tok} {od29 an29 : Option Addr} {sl29 : Array (Option Value)} {oc29 kV29 dc29 pm29 cd29 ct29 : Value} {od30 an30 : Option Addr} {sl30 : Array (Option Value)} {oc30 kV30 dc30 pm30 cd30 ct30 : Value} {od31 an31 : Option Addr} {sl31 : Array (Option Value)} {oc31 kV31 dc31 pm31 cd31 ct31 : Value} {od32 an32 : Option Addr} {sl32 : Array (Option Value)} {oc32 kV32 dc32 pm32 cd32 ct32 : Value} {od33 an33 : Option Addr} {sl33 : Array (Option Value)} {oc33 kV33 dc33 pm33 cd33 ct33 : Value} {od34 an34 : Option Addr} {sl34 : Array (Option Value)} {oc34 kV34 dc34 pm34 cd34 ct34 : Value} {od35 an35 : Option Addr} {sl35 : Array (Option Value)} {oc35 kV35 dc35 pm35 cd35 ct35 : Value}
    (a1 : PySem.W.nsIn K mainGlobals "is_number" = some (some (.ref f1))) (l1 : K.lookup f1 = some ⟨oc1, od1, .func (PySem.W.fnOf "is_number" "is_number" (defArgs s_is_number) (defBody s_is_number) (defScope s_is_number) .none kV1 dc1 pm1 an1 cd1 ct1), sl1⟩) (c1 : PySem.W.codeIn K cd1 "is_number" = true) (k1 : PySem.W.keepIn K (.ref f1) = true)
    (a2 : PySem.W.nsIn K mainGlobals "is_from" = some (some (.ref f2))) (l2 : K.lookup f2 = some ⟨oc2, od2, .func (PySem.W.fnOf "is_from" "is_from" (defArgs s_is_from) (defBody s_is_from) (defScope s_is_from) .none kV2 dc2 pm2 an2 cd2 ct2), sl2⟩) (c2 : PySem.W.codeIn K cd2 "is_from" = true) (k2 : PySem.W.keepIn K (.ref f2) = true)
    (a3 : PySem.W.nsIn K mainGlobals "is_near" = some (some (.ref f3))) (l3 : K.lookup f3 = some ⟨oc3, od3, .func (PySem.W.fnOf "is_near" "is_near" (defArgs s_is_near) (defBody s_is_near) (defScope s_is_near) .none kV3 dc3 pm3 an3 cd3 ct3), sl3⟩) (c3 : PySem.W.codeIn K cd3 "is_near" = true) (k3 : PySem.W.keepIn K (.ref f3) = true)
    (a4 : PySem.W.nsIn K mainGlobals "need_near" = some (some (.ref f4))) (l4 : K.lookup f4 = some ⟨oc4, od4, .func (PySem.W.fnOf "need_near" "need_near" (defArgs s_need_near) (defBody s_need_near) (defScope s_need_near) .none kV4 dc4 pm4 an4 cd4 ct4), sl4⟩) (c4 : PySem.W.codeIn K cd4 "need_near" = true) (k4 : PySem.W.keepIn K (.ref f4) = true)
    (a5 : PySem.W.nsIn K mainGlobals "need_touches" = some (some (.ref f5))) (l5 : K.lookup f5 = some ⟨oc5, od5, .func (PySem.W.fnOf "need_touches" "need_touches" (defArgs s_need_touches) (defBody s_need_touches) (defScope s_need_touches) .none kV5 dc5 pm5 an5 cd5 ct5), sl5⟩) (c5 : PySem.W.codeIn K cd5 "need_touches" = true) (k5 : PySem.W.keepIn K (.ref f5) = true)
    (aC_Store : PySem.W.nsIn K mainGlobals "Store" = some (some (.ref C_Store))) (pg_Store : PySem.W.plainGet K C_Store Str.empty = true) (hd_Store : PySem.W.hasDictIn K C_Store = true) (po_Store : PySem.W.plainOver K C_Store = true) (sa_Store : PySem.W.findIn K (.ref C_Store) "__setattr__" = some (some (.builtin "object.__setattr__"))) (mk_Store : PySem.W.makesIn K C_Store = true) (kc_Store : PySem.W.keepIn K (.ref C_Store) = true)
    (a7 : PySem.W.findIn K (.ref C_Store) "__init__" = some (some (.ref f7))) (i7 : PySem.W.isFn K (.ref f7) = true) (l7 : K.lookup f7 = some ⟨oc7, od7, .func (PySem.W.fnOf "__init__" "Store.__init__" (defArgs s_Store_init) (defBody s_Store_init) (defScope s_Store_init) .none kV7 dc7 pm7 an7 cd7 ct7), sl7⟩) (c7 : PySem.W.codeIn K cd7 "Store.__init__" = true) (k7 : PySem.W.keepIn K (.ref f7) = true)
    (a8 : PySem.W.findIn K (.ref C_Store) "touch" = some (some (.ref f8))) (i8 : PySem.W.isFn K (.ref f8) = true) (l8 : K.lookup f8 = some ⟨oc8, od8, .func (PySem.W.fnOf "touch" "Store.touch" (defArgs s_Store_touch) (defBody s_Store_touch) (defScope s_Store_touch) .none kV8 dc8 pm8 an8 cd8 ct8), sl8⟩) (c8 : PySem.W.codeIn K cd8 "Store.touch" = true) (k8 : PySem.W.keepIn K (.ref f8) = true)
    (n9 : PySem.W.findIn K (.ref C_Store) "ways" = some none)
    (n10 : PySem.W.findIn K (.ref C_Store) "line" = some none)
    (n11 : PySem.W.findIn K (.ref C_Store) "lots" = some none)
    (a12 : PySem.W.nsIn K mainGlobals "missed_by" = some (some (.ref f12))) (l12 : K.lookup f12 = some ⟨oc12, od12, .func (PySem.W.fnOf "missed_by" "missed_by" (defArgs s_missed_by) (defBody s_missed_by) (defScope s_missed_by) .none kV12 dc12 pm12 an12 cd12 ct12), sl12⟩) (c12 : PySem.W.codeIn K cd12 "missed_by" = true) (k12 : PySem.W.keepIn K (.ref f12) = true)
    (a13 : PySem.W.nsIn K mainGlobals "misses" = some (some (.ref f13))) (l13 : K.lookup f13 = some ⟨oc13, od13, .func (PySem.W.fnOf "misses" "misses" (defArgs s_misses) (defBody s_misses) (defScope s_misses) .none kV13 dc13 pm13 an13 cd13 ct13), sl13⟩) (c13 : PySem.W.codeIn K cd13 "misses" = true) (k13 : PySem.W.keepIn K (.ref f13) = true)
    (a14 : PySem.W.nsIn K mainGlobals "missed" = some (some (.ref f14))) (l14 : K.lookup f14 = some ⟨oc14, od14, .func (PySem.W.fnOf "missed" "missed" (defArgs s_missed) (defBody s_missed) (defScope s_missed) .none kV14 dc14 pm14 an14 cd14 ct14), sl14⟩) (c14 : PySem.W.codeIn K cd14 "missed" = true) (k14 : PySem.W.keepIn K (.ref f14) = true)
    (a15 : PySem.W.nsIn K mainGlobals "kept" = some (some (.ref f15))) (l15 : K.lookup f15 = some ⟨oc15, od15, .func (PySem.W.fnOf "kept" "kept" (defArgs s_kept) (defBody s_kept) (defScope s_kept) .none kV15 dc15 pm15 an15 cd15 ct15), sl15⟩) (c15 : PySem.W.codeIn K cd15 "kept" = true) (k15 : PySem.W.keepIn K (.ref f15) = true)
    (g16 : PySem.W.nsIn K mainGlobals "MOST_SETS" = some (some (.int 4 t16)))
    (g17 : PySem.W.nsIn K mainGlobals "MOST_WAYS" = some (some (.int 4 t17)))
    (g18 : PySem.W.nsIn K mainGlobals "MOST_LINE" = some (some (.int 8 t18)))
    (z19 : PySem.W.nsIn K mainGlobals "len" = some none)
    (z20 : PySem.W.nsIn K mainGlobals "int" = some none)
    (z21 : PySem.W.nsIn K mainGlobals "bool" = some none)
    (z22 : PySem.W.nsIn K mainGlobals "tuple" = some none)
    (z23 : PySem.W.nsIn K mainGlobals "isinstance" = some none)
    (z24 : PySem.W.nsIn K mainGlobals "all" = some none)
    (z25 : PySem.W.nsIn K mainGlobals "zip" = some none)
    (z26 : PySem.W.nsIn K mainGlobals "range" = some none)
    (z27 : PySem.W.nsIn K mainGlobals "enumerate" = some none)
    (z28 : PySem.W.nsIn K mainGlobals "repr" = some none)
    (a29 : PySem.W.nsIn K mainGlobals "_law_cell" = some (some (.ref f29))) (l29 : K.lookup f29 = some ⟨oc29, od29, .func (PySem.W.fnOf "_law_cell" "_law_cell" (defArgs s__law_cell) (defBody s__law_cell) (defScope s__law_cell) .none kV29 dc29 pm29 an29 cd29 ct29), sl29⟩) (c29 : PySem.W.codeIn K cd29 "_law_cell" = true) (k29 : PySem.W.keepIn K (.ref f29) = true)
    (a30 : PySem.W.nsIn K mainGlobals "_law_pen" = some (some (.ref f30))) (l30 : K.lookup f30 = some ⟨oc30, od30, .func (PySem.W.fnOf "_law_pen" "_law_pen" (defArgs s__law_pen) (defBody s__law_pen) (defScope s__law_pen) .none kV30 dc30 pm30 an30 cd30 ct30), sl30⟩) (c30 : PySem.W.codeIn K cd30 "_law_pen" = true) (k30 : PySem.W.keepIn K (.ref f30) = true)
    (a31 : PySem.W.nsIn K mainGlobals "_law_draw" = some (some (.ref f31))) (l31 : K.lookup f31 = some ⟨oc31, od31, .func (PySem.W.fnOf "_law_draw" "_law_draw" (defArgs s__law_draw) (defBody s__law_draw) (defScope s__law_draw) .none kV31 dc31 pm31 an31 cd31 ct31), sl31⟩) (c31 : PySem.W.codeIn K cd31 "_law_draw" = true) (k31 : PySem.W.keepIn K (.ref f31) = true)
    (a32 : PySem.W.nsIn K mainGlobals "_law_near" = some (some (.ref f32))) (l32 : K.lookup f32 = some ⟨oc32, od32, .func (PySem.W.fnOf "_law_near" "_law_near" (defArgs s__law_near) (defBody s__law_near) (defScope s__law_near) .none kV32 dc32 pm32 an32 cd32 ct32), sl32⟩) (c32 : PySem.W.codeIn K cd32 "_law_near" = true) (k32 : PySem.W.keepIn K (.ref f32) = true)
    (a33 : PySem.W.nsIn K mainGlobals "_law_missed" = some (some (.ref f33))) (l33 : K.lookup f33 = some ⟨oc33, od33, .func (PySem.W.fnOf "_law_missed" "_law_missed" (defArgs s__law_missed) (defBody s__law_missed) (defScope s__law_missed) .none kV33 dc33 pm33 an33 cd33 ct33), sl33⟩) (c33 : PySem.W.codeIn K cd33 "_law_missed" = true) (k33 : PySem.W.keepIn K (.ref f33) = true)
    (a34 : PySem.W.nsIn K mainGlobals "_law_left" = some (some (.ref f34))) (l34 : K.lookup f34 = some ⟨oc34, od34, .func (PySem.W.fnOf "_law_left" "_law_left" (defArgs s__law_left) (defBody s__law_left) (defScope s__law_left) .none kV34 dc34 pm34 an34 cd34 ct34), sl34⟩) (c34 : PySem.W.codeIn K cd34 "_law_left" = true) (k34 : PySem.W.keepIn K (.ref f34) = true)
    (a35 : PySem.W.nsIn K mainGlobals "law" = some (some (.ref f35))) (l35 : K.lookup f35 = some ⟨oc35, od35, .func (PySem.W.fnOf "law" "law" (defArgs s_law) (defBody s_law) (defScope s_law) .none kV35 dc35 pm35 an35 cd35 ct35), sl35⟩) (c35 : PySem.W.codeIn K cd35 "law" = true) (k35 : PySem.W.keepIn K (.ref f35) = true) :
    ∃ fd : FuncData, (∀ (s : Shared) (v : Value), BindsTo s fd ⟨[v], []⟩ [("_law_script", v)]) ∧ ∀ base : Heap, K.In base → base.Ns mainGlobals mg → FnG l.prog w K mg base 8 fa fd ["_law_script"] (spLaw K) := by
  have e := hfa.symm.trans (PySem.W.mg_of X G a35)
  cases e
  have T : MTxt K mg C_Store := {
    d_is_number := defAt_mk X G a1 l1 c1 k1 (fun _ _ _ _ _ _ us hl => match us, hl with | [_], _ => rfl)
    d_is_from := defAt_mk X G a2 l2 c2 k2 (fun _ _ _ _ _ _ us hl => match us, hl with | [_, _, _], _ => rfl)
    d_is_near := defAt_mk X G a3 l3 c3 k3 (fun _ _ _ _ _ _ us hl => match us, hl with | [_], _ => rfl)
    d_need_near := defAt_mk X G a4 l4 c4 k4 (fun _ _ _ _ _ _ us hl => match us, hl with | [_], _ => rfl)
    d_need_touches := defAt_mk X G a5 l5 c5 k5 (fun _ _ _ _ _ _ us hl => match us, hl with | [_], _ => rfl)
    cl := ⟨pg_Store, hd_Store, po_Store, sa_Store⟩
    i_Store := iniAt_mk (PySem.W.mg_of X G aC_Store) ⟨mk_Store, a7, i7, kc_Store⟩ l7 c7 k7 (fun _ _ _ _ _ _ us hl => match us, hl with | [_, _], _ => rfl)
    m_touch := metAt_mk ⟨pg_Store, hd_Store, po_Store, sa_Store⟩ ⟨a8, i8, k8⟩ l8 c8 k8 (fun _ _ _ _ _ _ us hl => match us, hl with | [_, _], _ => rfl)
    nW := n9
    nL := n10
    nT := n11
    d_missed_by := defAt_mk X G a12 l12 c12 k12 (fun _ _ _ _ _ _ us hl => match us, hl with | [_, _], _ => rfl)
    d_misses := defAt_mk X G a13 l13 c13 k13 (fun _ _ _ _ _ _ us hl => match us, hl with | [_, _], _ => rfl)
    d_missed := defAt_mk X G a14 l14 c14 k14 (fun _ _ _ _ _ _ us hl => match us, hl with | [_, _], _ => rfl)
    d_kept := defAt_mk X G a15 l15 c15 k15 (fun _ _ _ _ _ _ us hl => match us, hl with | [_, _], _ => rfl)
    g_MOST_SETS := ⟨t16, PySem.W.mg_of X G g16⟩
    g_MOST_WAYS := ⟨t17, PySem.W.mg_of X G g17⟩
    g_MOST_LINE := ⟨t18, PySem.W.mg_of X G g18⟩
    z_len := PySem.W.mg_none_of X G z19
    z_int := PySem.W.mg_none_of X G z20
    z_bool := PySem.W.mg_none_of X G z21
    z_tuple := PySem.W.mg_none_of X G z22
    z_isinstance := PySem.W.mg_none_of X G z23
    z_all := PySem.W.mg_none_of X G z24
    z_zip := PySem.W.mg_none_of X G z25
    z_range := PySem.W.mg_none_of X G z26
    z_enumerate := PySem.W.mg_none_of X G z27
    z_repr := PySem.W.mg_none_of X G z28
    d__law_cell := defAt_mk X G a29 l29 c29 k29 (fun _ _ _ _ _ _ us hl => match us, hl with | [_, _], _ => rfl)
    d__law_pen := defAt_mk X G a30 l30 c30 k30 (fun _ _ _ _ _ _ us hl => match us, hl with | [_], _ => rfl)
    d__law_draw := defAt_mk X G a31 l31 c31 k31 (fun _ _ _ _ _ _ us hl => match us, hl with | [_, _], _ => rfl)
    d__law_near := defAt_mk X G a32 l32 c32 k32 (fun _ _ _ _ _ _ us hl => match us, hl with | [_], _ => rfl)
    d__law_missed := defAt_mk X G a33 l33 c33 k33 (fun _ _ _ _ _ _ us hl => match us, hl with | [_, _], _ => rfl)
    d__law_left := defAt_mk X G a34 l34 c34 k34 (fun _ _ _ _ _ _ us hl => match us, hl with | [_, _], _ => rfl) }
  have F := fun_mk (st := s_law) l35 c35 k35
  exact ⟨PySem.W.fnOf "law" "law" (defArgs s_law) (defBody s_law) (defScope s_law) .none kV35 dc35 pm35 an35 cd35 ct35, fun s v => .of_eq rfl, fun base _ _ => ok_law T F⟩
theorem walk {l : PySem.W.OpenLaw} {q : Program} {loose : List Str} {XP : (Str → Option Value) → Heap → Prop} {YP : World → Heap → Prop} {d : DefRec} {K : Params → PySem.W.Frag} (hn : l.most = some 63) (hdf : d.params.defaults = [])
    (hY : ∀ (w : World) (h : Heap), YP w h → (K w.params).In h)
    (F : ∀ (w : World) (mg : Str → Option Value) (fa : Addr) (h : Heap), (K w.params).In h → h.Ns mainGlobals mg → mg d.name = some (.ref fa) →
      ∃ fd : FuncData, (∀ (s : Shared) (u : Value), BindsTo s fd ⟨[u], []⟩ [("_law_script", u)]) ∧ ∀ base : Heap, (K w.params).In base → base.Ns mainGlobals mg → FnG l.prog w (K w.params) mg base 8 fa fd ["_law_script"] (spLaw (K w.params))) :
    PySem.W.WalkO q loose XP YP l.row.toRowW d [] (fun f vs => PySem.call f vs) :=
  B.walk_G (n := 63) (k := 8) (x := "_law_script") (sp := fun w => spLaw (K w.params)) hn (by decide) hdf ⟨rfl, by decide, by decide⟩ hY F (fun _ _ a ns hl _ hS => ⟨a, ns, rfl, hS, hl, fun _ => rfl⟩)
end B
open PySem PySem.W PyProof.Rows
set_option maxRecDepth 100000 in
set_option maxHeartbeats 0 in
theorem PySem.Challenge.cw_nearlay_k51_near_stores_touched_holds : PySem.Challenge.rw_nearlay_k51_near_stores_touched.Holds := by
  w_on; o_law; k_head; (case hw => w_witness2)
  k_fill
  refine B.walk (l := PySem.Challenge.rw_nearlay_k51_near_stores_touched) rfl rfl (fun w h Y => PySem.W.kIn_of Y) ?F
  case F =>
    intro w mg fa h KX G hmg
    refine' B.all_mk KX G hmg ?a1 ?l1 ?c1 ?k1 ?a2 ?l2 ?c2 ?k2 ?a3 ?l3 ?c3 ?k3 ?a4 ?l4 ?c4 ?k4 ?a5 ?l5 ?c5 ?k5 ?aC_Store ?pg_Store ?hd_Store ?po_Store ?sa_Store ?mk_Store ?kc_Store ?a7 ?i7 ?l7 ?c7 ?k7 ?a8 ?i8 ?l8 ?c8 ?k8 ?n9 ?n10 ?n11 ?a12 ?l12 ?c12 ?k12 ?a13 ?l13 ?c13 ?k13 ?a14 ?l14 ?c14 ?k14 ?a15 ?l15 ?c15 ?k15 ?g16 ?g17 ?g18 ?z19 ?z20 ?z21 ?z22 ?z23 ?z24 ?z25 ?z26 ?z27 ?z28 ?a29 ?l29 ?c29 ?k29 ?a30 ?l30 ?c30 ?k30 ?a31 ?l31 ?c31 ?k31 ?a32 ?l32 ?c32 ?k32 ?a33 ?l33 ?c33 ?k33 ?a34 ?l34 ?c34 ?k34 ?a35 ?l35 ?c35 ?k35
    (case a1 => k_is)
    (case l1 => k_is)
    (case c1 => k_is)
    (case k1 => k_is)
    (case a2 => k_is)
    (case l2 => k_is)
    (case c2 => k_is)
    (case k2 => k_is)
    (case a3 => k_is)
    (case l3 => k_is)
    (case c3 => k_is)
    (case k3 => k_is)
    (case a4 => k_is)
    (case l4 => k_is)
    (case c4 => k_is)
    (case k4 => k_is)
    (case a5 => k_is)
    (case l5 => k_is)
    (case c5 => k_is)
    (case k5 => k_is)
    (case aC_Store => k_is)
    (case pg_Store => k_is)
    (case hd_Store => k_is)
    (case po_Store => k_is)
    (case sa_Store => k_is)
    (case mk_Store => k_is)
    (case kc_Store => k_is)
    (case a7 => k_is)
    (case i7 => k_is)
    (case l7 => k_is)
    (case c7 => k_is)
    (case k7 => k_is)
    (case a8 => k_is)
    (case i8 => k_is)
    (case l8 => k_is)
    (case c8 => k_is)
    (case k8 => k_is)
    (case n9 => k_is)
    (case n10 => k_is)
    (case n11 => k_is)
    (case a12 => k_is)
    (case l12 => k_is)
    (case c12 => k_is)
    (case k12 => k_is)
    (case a13 => k_is)
    (case l13 => k_is)
    (case c13 => k_is)
    (case k13 => k_is)
    (case a14 => k_is)
    (case l14 => k_is)
    (case c14 => k_is)
    (case k14 => k_is)
    (case a15 => k_is)
    (case l15 => k_is)
    (case c15 => k_is)
    (case k15 => k_is)
    (case g16 => k_is)
    (case g17 => k_is)
    (case g18 => k_is)
    (case z19 => k_is)
    (case z20 => k_is)
    (case z21 => k_is)
    (case z22 => k_is)
    (case z23 => k_is)
    (case z24 => k_is)
    (case z25 => k_is)
    (case z26 => k_is)
    (case z27 => k_is)
    (case z28 => k_is)
    (case a29 => k_is)
    (case l29 => k_is)
    (case c29 => k_is)
    (case k29 => k_is)
    (case a30 => k_is)
    (case l30 => k_is)
    (case c30 => k_is)
    (case k30 => k_is)
    (case a31 => k_is)
    (case l31 => k_is)
    (case c31 => k_is)
    (case k31 => k_is)
    (case a32 => k_is)
    (case l32 => k_is)
    (case c32 => k_is)
    (case k32 => k_is)
    (case a33 => k_is)
    (case l33 => k_is)
    (case c33 => k_is)
    (case k33 => k_is)
    (case a34 => k_is)
    (case l34 => k_is)
    (case c34 => k_is)
    (case k34 => k_is)
    (case a35 => k_is)
    (case l35 => k_is)
    (case c35 => k_is)
    (case k35 => k_is)
