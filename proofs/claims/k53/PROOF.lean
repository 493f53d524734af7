import PyProof.Rows.All
import Wide.All
import OpenK.AllK
import Wide.FinOn
import HandS.ForMost
import HandS.IsInst
import HandS.TupAny
import HandS.TupMul
import HandS.Zip
import HandS.SetFor
import HandS.Walk
import HandS.Evl
import KE.GoesEnum
import PySem.Challenge.RW_nearlay_k53_whole_near_stores
set_option Elab.async false
set_option linter.all false
set_option maxRecDepth 100000
namespace B
open PySem PySem.Spec PyProof.Rows L2

/-! ### the frame: what a piece of code leaves as it was; L: the addresses that it may change -/
structure Fr (L : List Addr) (H H' : Hp) : Prop where
  keep : ∀ b o, H b = some o → (b ∉ L ∨ ¬ Mut (some o)) → H' b = some o
  free : ∀ b, H' b = none → H b = none
theorem Fr.refl (L : List Addr) (H : Hp) : Fr L H H := ⟨fun _ _ h _ => h, fun _ h => h⟩
theorem Fr.trans {L : List Addr} {H H1 H2 : Hp} (a : Fr L H H1) (b : Fr L H1 H2) : Fr L H H2 :=
  ⟨fun c o h k => b.keep c o (a.keep c o h k) k, fun c h => a.free c (b.free c h)⟩
theorem Fr.new {L : List Addr} {H : Hp} {p : Addr} {o : HO} (h : H p = none) : Fr L H (upd H p o) :=
  ⟨fun b u e _ => by rw [upd_ne (ne_of_none e h)]; exact e, fun b e => by
    by_cases hb : b = p
    · subst hb; exact h
    · rw [upd_ne hb] at e; exact e⟩
theorem Fr.wr {L : List Addr} {H : Hp} {p : Addr} {o o' : HO} (h : H p = some o) (m : Mut (some o)) (hl : p ∈ L) : Fr L H (upd H p o') :=
  ⟨fun b u e k => by
    by_cases hb : b = p
    · subst hb
      rw [h] at e
      cases e
      rcases k with k | k
      · exact absurd hl k
      · exact absurd m k
    · rw [upd_ne hb]; exact e, fun b e => by
    by_cases hb : b = p
    · subst hb; rw [upd_same] at e; cases e
    · rw [upd_ne hb] at e; exact e⟩
/-- what came newly may be changed too -/
theorem Fr.cut {L L' : List Addr} {H H1 H2 : Hp} (a : Fr L H H1) (b : Fr L' H1 H2) (n : ∀ l ∈ L', l ∈ L ∨ H l = none) : Fr L H H2 :=
  ⟨fun c o h k => b.keep c o (a.keep c o h k) (by
    rcases k with k | k
    · exact .inl fun hc => by
        rcases n c hc with z | z
        · exact k z
        · rw [h] at z; cases z
    · exact .inr k), fun c h => a.free c (b.free c h)⟩
theorem Fr.mono {L L' : List Addr} {H H' : Hp} (a : Fr L H H') (n : ∀ l ∈ L, l ∈ L' ∨ H l = none) : Fr L' H H' := (Fr.refl L' H).cut a n
theorem Fr.up {L : List Addr} {H H1 : Hp} {p : Addr} {o : HO} (a : Fr L H H1) (h : H1 p = none) : Fr L H (upd H1 p o) := a.trans (.new h)
theorem Fr.put {L : List Addr} {H H1 : Hp} {p : Addr} {o o' : HO} (a : Fr L H H1) (h : H1 p = some o) (m : Mut (some o)) (hl : p ∈ L ∨ H p = none) : Fr L H (upd H1 p o') :=
  a.cut (.wr h m (List.mem_singleton.mpr rfl)) fun l hm => by
    cases List.mem_singleton.mp hm
    exact hl
theorem Fr.rd {L : List Addr} {H H' : Hp} {a : Addr} {o : HO} (f : Fr L H H') (r : Rd H a o) (h : a ∉ L ∨ ¬ Mut (some o)) : Rd H' a o := by
  rcases r with r | ⟨u, r⟩
  · exact .inl (f.keep _ _ r h)
  · exact .inr ⟨u, f.keep _ _ r (.inr fun z => z)⟩
theorem Fr.tup {K : PySem.W.Frag} {L : List Addr} {H H' : Hp} {a : Addr} {xs : List V} (f : Fr L H H') (r : SqT K H a xs) : SqT K H' a xs := by
  rcases r with r | r
  · exact .inl (f.rd r (.inr fun z => z))
  · exact .inr r
theorem Fr.lst {K : PySem.W.Frag} {L : List Addr} {H H' : Hp} {a : Addr} {xs : List V} (f : Fr L H H') (r : SqL K H a xs) (h : a ∉ L) : SqL K H' a xs := by
  rcases r with r | r
  · exact .inl (f.rd r (.inl h))
  · exact .inr r
theorem Fr.at {H H' : Hp} {a : Addr} {o : HO} (f : Fr [] H H') (r : H a = some o) : H' a = some o := f.keep _ _ r (.inl fun z => nomatch z)
theorem Fr.ne {L : List Addr} {H H' : Hp} {a : Addr} {o : HO} (f : Fr L H H') (r : H a = some o) (h : a ∉ L) : H' a = some o := f.keep _ _ r (.inl h)
theorem Fr.same {H H' : Hp} (f : Fr [] H H') : Same H H' := fun _ _ e => f.at e
theorem sqT_of {K : PySem.W.Frag} {H : Hp} {a : Addr} {xs : List V} (h : H a = some (.tup xs)) : SqT K H a xs := .inl (.inl h)
theorem sqL_of {K : PySem.W.Frag} {H : Hp} {a : Addr} {xs : List V} (h : H a = some (.lst xs)) : SqL K H a xs := .inl (.inl h)

/-! ### data that never changes: scalars and tuples of such -/
mutual
def Im (K : PySem.W.Frag) (H : Hp) : PyData → V → Prop
  | .none, v => v = .non
  | .bool b, v => v = .bl b
  | .int i, v => v = .int i
  | .str s, v => v = .str s
  | .tuple ds, v => ∃ a xs, v = .ref a ∧ SqT K H a xs ∧ Ims K H ds xs
  | .list _, _ => False
  | .dict _, _ => False
def Ims (K : PySem.W.Frag) (H : Hp) : List PyData → List V → Prop
  | [], xs => xs = []
  | d :: ds, xs => ∃ x r, xs = x :: r ∧ Im K H d x ∧ Ims K H ds r
end
mutual
theorem Im.mono {K : PySem.W.Frag} {L : List Addr} {H H' : Hp} (f : Fr L H H') : ∀ {d : PyData} {v : V}, Im K H d v → Im K H' d v
  | .none, _, h => h
  | .bool _, _, h => h
  | .int _, _, h => h
  | .str _, _, h => h
  | .tuple ds, _, ⟨a, xs, e, t, r⟩ => ⟨a, xs, e, f.tup t, Ims.mono f r⟩
  | .list _, _, h => h
  | .dict _, _, h => h
theorem Ims.mono {K : PySem.W.Frag} {L : List Addr} {H H' : Hp} (f : Fr L H H') : ∀ {ds : List PyData} {xs : List V}, Ims K H ds xs → Ims K H' ds xs
  | [], _, h => h
  | _ :: _, _, ⟨x, r, e, h1, h2⟩ => ⟨x, r, e, Im.mono f h1, Ims.mono f h2⟩
end
mutual
theorem Im.dp {K : PySem.W.Frag} {H : Hp} : ∀ {d : PyData} {v : V}, Im K H d v → Dp K H v d
  | .none, _, h => by cases h; exact .non
  | .bool _, _, h => by cases h; exact .bl _
  | .int _, _, h => by cases h; exact .int _
  | .str _, _, h => by cases h; exact .str _
  | .tuple ds, _, ⟨a, xs, e, t, r⟩ => by cases e; exact .tup t (Ims.dp r)
  | .list _, _, h => h.elim
  | .dict _, _, h => h.elim
theorem Ims.dp {K : PySem.W.Frag} {H : Hp} : ∀ {ds : List PyData} {xs : List V}, Ims K H ds xs → DpAll K H xs ds
  | [], _, h => by cases h; exact .nil
  | _ :: _, _, ⟨x, r, e, h1, h2⟩ => by cases e; exact .cons (Im.dp h1) (Ims.dp h2)
end
theorem Ims.len {K : PySem.W.Frag} {H : Hp} : ∀ {ds : List PyData} {xs : List V}, Ims K H ds xs → xs.length = ds.length
  | [], _, h => by cases h; rfl
  | _ :: _, _, ⟨x, r, e, h1, h2⟩ => by cases e; show r.length + 1 = _ + 1; rw [Ims.len h2]
theorem Ims.get {K : PySem.W.Frag} {H : Hp} : ∀ {ds : List PyData} {xs : List V} {i : Nat} {x : V}, Ims K H ds xs → xs[i]? = some x → ∃ d, ds[i]? = some d ∧ Im K H d x
  | [], _, i, x, h, g => by cases h; simp at g
  | d :: ds, _, 0, x, ⟨y, r, e, h1, h2⟩, g => by
    cases e
    simp at g
    subst g
    exact ⟨d, rfl, h1⟩
  | d :: ds, _, i + 1, x, ⟨y, r, e, h1, h2⟩, g => by
    cases e
    obtain ⟨d', e', h'⟩ := Ims.get (i := i) h2 (by simpa using g)
    exact ⟨d', by simpa using e', h'⟩
theorem Ims.ints {K : PySem.W.Frag} {H : Hp} : ∀ (ns : List Int), Ims K H (ns.map PyData.int) (ns.map V.int)
  | [] => rfl
  | n :: ns => ⟨_, _, rfl, rfl, Ims.ints ns⟩
theorem Ims.of_ints {K : PySem.W.Frag} {H : Hp} : ∀ {ns : List Int} {xs : List V}, Ims K H (ns.map PyData.int) xs → xs = ns.map V.int
  | [], _, h => h
  | n :: ns, _, ⟨x, r, e, h1, h2⟩ => by
    cases e
    cases (show x = .int n from h1)
    rw [Ims.of_ints h2]
    rfl
theorem Im.tupI {K : PySem.W.Frag} {H : Hp} {a : Addr} {ns : List Int} (h : SqT K H a (ns.map V.int)) : Im K H (.tuple (ns.map PyData.int)) (.ref a) := ⟨a, _, rfl, h, Ims.ints ns⟩

/-! ### a def, a method, a class of the text, as they stand behind the top -/
structure DefAt (K : PySem.W.Frag) (mg : Str → Option Value) (x : Str) (st : Stmt) (ps : List Str) : Prop where
  ex : ∃ (f : Addr) (fd : FuncData), Fun K x x st f fd ∧ mg x = some (.ref f) ∧ Binds K fd ps []
structure MetAt (K : PySem.W.Frag) (C : Addr) (m qual : Str) (st : Stmt) (ps : List Str) : Prop where
  ex : ∃ (f : Addr) (fd : FuncData), Fun K m qual st f fd ∧ Meth K C m f ∧ Cls K C ∧ Binds K fd ps []
structure IniAt (K : PySem.W.Frag) (mg : Str → Option Value) (x : Str) (C : Addr) (qual : Str) (st : Stmt) (ps : List Str) : Prop where
  ex : ∃ (f : Addr) (fd : FuncData), Fun K "__init__" qual st f fd ∧ Mk K C f ∧ mg x = some (.ref C) ∧ Binds K fd ps []
section
variable (P : Program) (w : World) (K : PySem.W.Frag) (mg : Str → Option Value) (base : Heap)
structure Cal (k : Nat) (x : Str) (sp : Sp) : Prop where
  ex : ∃ (f : Addr) (fd : FuncData) (ps : List Str), FnOk P w K mg base CX0 k f fd ps sp ∧ mg x = some (.ref f) ∧ PySem.W.keepIn K (.ref f) = true ∧ Binds K fd ps []
structure Met (k : Nat) (C : Addr) (m : Str) (sp : Sp) : Prop where
  ex : ∃ (f : Addr) (fd : FuncData) (ps : List Str), Cls K C ∧ Meth K C m f ∧ FnOk P w K mg base CX0 k f fd ps sp ∧ Binds K fd ps []
structure Mak (k : Nat) (x : Str) (C : Addr) (sp : Sp) : Prop where
  ex : ∃ (f : Addr) (fd : FuncData) (ps : List Str), Mk K C f ∧ FnOk P w K mg base CX0 k f fd ps sp ∧ mg x = some (.ref C) ∧ Binds K fd ps []
end
section
variable {P : Program} {w : World} {K : PySem.W.Frag} {mg : Str → Option Value} {base : Heap}
theorem DefAt.cal {x : Str} {st : Stmt} {N ps : List Str} {k : Nat} {sp : Sp} (D : DefAt K mg x st ps) (S : FnScope N ps (defScope st)) (len : ∀ vs H Q E, sp vs H Q E → vs.length = ps.length)
    (hbody : ∀ (f : Addr) (cdv : Value) (A : Around) (outer : List Env) (s : Shared) (H : Hp) (vs : List V) (Q : VK) (E : XK), Room k (A.deeper (envOfC x (defScope st) s.heap.objs.size f cdv)) → sp vs H Q E →
      ∃ t, PSs (cxOf CX0 P w K mg base N x (defScope st) f cdv A outer s H E).nox (defBody st) t ∧ t { nx := fun _ H' => Q .non H', rt := Q } (start N vs) H) : Cal P w K mg base (k + 1) x sp := by
  obtain ⟨f, fd, F, m, b⟩ := D.ex
  exact ⟨f, fd, ps, F.ok S len (hbody f), m, F.kp, b⟩
theorem MetAt.met {C : Addr} {m qual : Str} {st : Stmt} {N ps : List Str} {k : Nat} {sp : Sp} (D : MetAt K C m qual st ps) (S : FnScope N ps (defScope st)) (len : ∀ vs H Q E, sp vs H Q E → vs.length = ps.length)
    (hbody : ∀ (f : Addr) (cdv : Value) (A : Around) (outer : List Env) (s : Shared) (H : Hp) (vs : List V) (Q : VK) (E : XK), Room k (A.deeper (envOfC qual (defScope st) s.heap.objs.size f cdv)) → sp vs H Q E →
      ∃ t, PSs (cxOf CX0 P w K mg base N qual (defScope st) f cdv A outer s H E).nox (defBody st) t ∧ t { nx := fun _ H' => Q .non H', rt := Q } (start N vs) H) : Met P w K mg base (k + 1) C m sp := by
  obtain ⟨f, fd, F, me, c, b⟩ := D.ex
  exact ⟨f, fd, ps, c, me, F.ok S len (hbody f), b⟩
theorem IniAt.mak {x : Str} {C : Addr} {qual : Str} {st : Stmt} {N ps : List Str} {k : Nat} {sp : Sp} (D : IniAt K mg x C qual st ps) (S : FnScope N ps (defScope st)) (len : ∀ vs H Q E, sp vs H Q E → vs.length = ps.length)
    (hbody : ∀ (f : Addr) (cdv : Value) (A : Around) (outer : List Env) (s : Shared) (H : Hp) (vs : List V) (Q : VK) (E : XK), Room k (A.deeper (envOfC qual (defScope st) s.heap.objs.size f cdv)) → sp vs H Q E →
      ∃ t, PSs (cxOf CX0 P w K mg base N qual (defScope st) f cdv A outer s H E).nox (defBody st) t ∧ t { nx := fun _ H' => Q .non H', rt := Q } (start N vs) H) : Mak P w K mg base (k + 1) x C sp := by
  obtain ⟨f, fd, F, M, m, b⟩ := D.ex
  exact ⟨f, fd, ps, M, F.ok S len (hbody f), m, b⟩
end
section
variable {X : Cx} {k j : Nat} {C : Addr} {x m : Str} {sp : Sp} {p pos apos : Pos} {e o : Expr} {es : List Expr} {ta : TE} {t : TA}
theorem pe_c (c : Cal X.prog X.w X.K X.mg X.base k x sp) (hr : Room j X.A) (hk : k ≤ j) (hg : Gl X x) (ha : PA X (e :: es) t)
    (hdb : (x == ("__debug__" : Str)) = false := by decide) (he : starEach (e :: es) X.env = (false, eval e X.env) :: starEach es X.env := by rfl) (hpl : (backTo pos (starEach es X.env)).any (·.1) = false := by rfl) :
    PE X (.Call (.Name x p) (e :: es) [] pos) (tCall sp [] E0 t) := by
  obtain ⟨f, fd, ps, F, hm, kp, b⟩ := c.ex
  exact pe_call F (hr.mono hk) hg hm kp b .nil pass0 ha hdb he hpl
theorem pe_mk (c : Mak X.prog X.w X.K X.mg X.base k x C sp) (hr : Room j X.A) (hk : k + 1 ≤ j) (hg : Gl X x) (ha : PA X (e :: es) t)
    (hdb : (x == ("__debug__" : Str)) = false := by decide) (he : starEach (e :: es) X.env = (false, eval e X.env) :: starEach es X.env := by rfl) (hpl : (backTo pos (starEach es X.env)).any (·.1) = false := by rfl) :
    PE X (.Call (.Name x p) (e :: es) [] pos) (tMake C sp [] E0 t) := by
  obtain ⟨f, fd, ps, M, F, hm, b⟩ := c.ex
  exact pe_make M F (hr.mono hk) hg hm b .nil pass0 ha hdb he hpl
theorem pe_mt {pl : Sem Bool} (c : Met X.prog X.w X.K X.mg X.base k C m sp) (hr : Room j X.A) (hk : k ≤ j) (he : PE X o ta) (ha : PA X (e :: es) t)
    (hst : starEach (e :: es) X.env = (false, eval e X.env) :: starEach es X.env := by rfl) (hpl : (backTo pos (starEach es X.env)).any (·.1) = false := by rfl)
    (ht : eval (.Call (.Attribute o m apos) (e :: es) [] pos) X.env = (do
      let ov ← eval o X.env
      standAt apos.atName
      let (f, first) ← holding [ov] (getMethod ov m pl)
      callWith pos f first (backTo pos (starEach (e :: es) X.env)) (backToKw pos (keywordEach [] X.env))) := by rfl) :
    PE X (.Call (.Attribute o m apos) (e :: es) [] pos) (tMeth C m sp [] E0 ta t) := by
  obtain ⟨f, fd, ps, hc, hm, F, b⟩ := c.ex
  exact pe_meth (pl := pl) he hc hm F (hr.mono hk) b .nil pass0 ha hst hpl ht
end

/-! ### isinstance of such data -/
def tyD : PyData → String
  | .none => "NoneType"
  | .bool _ => "bool"
  | .int _ => "int"
  | .str _ => "str"
  | .tuple _ => "tuple"
  | .list _ => "list"
  | .dict _ => "dict"
theorem sqT_ty {K : PySem.W.Frag} {H : Hp} {a : Addr} {xs : List V} (h : SqT K H a xs) : TyX K H (.ref a) (.type "tuple") := by
  rcases h with (h | ⟨o, h⟩) | ⟨o, its, n, h1, h2, _⟩
  · exact .base (.tup h)
  · exact .fTuple h
  · exact .kTuple h1 h2
theorem sqL_ty {K : PySem.W.Frag} {H : Hp} {a : Addr} {xs : List V} (h : SqL K H a xs) : TyX K H (.ref a) (.type "list") := by
  rcases h with (h | ⟨o, h⟩) | ⟨o, its, n, h1, h2, _⟩
  · exact .base (.lst h)
  · exact .base (.frz h)
  · exact .kList h1 h2
theorem Im.ty {K : PySem.W.Frag} {H : Hp} : ∀ {d : PyData} {v : V}, Im K H d v → TyX K H v (.type (tyD d))
  | .none, _, h => by cases h; exact .base .non
  | .bool _, _, h => by cases h; exact .base (.bl _)
  | .int _, _, h => by cases h; exact .base (.int _)
  | .str _, _, h => by cases h; exact .base (.str _)
  | .tuple ds, _, ⟨a, xs, e, t, r⟩ => by cases e; exact sqT_ty t
  | .list _, _, h => h.elim
  | .dict _, _, h => h.elim
theorem kb_int_int : kitB "int" "int" = some true := by decide +kernel
theorem kb_int_bool : kitB "int" "bool" = some false := by decide +kernel
theorem kb_int_tuple : kitB "int" "tuple" = some false := by decide +kernel
theorem kb_int_str : kitB "int" "str" = some false := by decide +kernel
theorem kb_bool_int : kitB "bool" "int" = some true := by decide +kernel
theorem kb_bool_bool : kitB "bool" "bool" = some true := by decide +kernel
theorem kb_bool_tuple : kitB "bool" "tuple" = some false := by decide +kernel
theorem kb_bool_str : kitB "bool" "str" = some false := by decide +kernel
theorem kb_str_int : kitB "str" "int" = some false := by decide +kernel
theorem kb_str_bool : kitB "str" "bool" = some false := by decide +kernel
theorem kb_str_tuple : kitB "str" "tuple" = some false := by decide +kernel
theorem kb_str_str : kitB "str" "str" = some true := by decide +kernel
theorem kb_tuple_int : kitB "tuple" "int" = some false := by decide +kernel
theorem kb_tuple_bool : kitB "tuple" "bool" = some false := by decide +kernel
theorem kb_tuple_tuple : kitB "tuple" "tuple" = some true := by decide +kernel
theorem kb_tuple_str : kitB "tuple" "str" = some false := by decide +kernel
theorem kb_list_int : kitB "list" "int" = some false := by decide +kernel
theorem kb_list_bool : kitB "list" "bool" = some false := by decide +kernel
theorem kb_list_tuple : kitB "list" "tuple" = some false := by decide +kernel
theorem kb_list_str : kitB "list" "str" = some false := by decide +kernel
theorem kb_none_int : kitB "NoneType" "int" = some false := by decide +kernel
theorem kb_none_bool : kitB "NoneType" "bool" = some false := by decide +kernel
theorem kb_none_tuple : kitB "NoneType" "tuple" = some false := by decide +kernel
theorem kb_none_str : kitB "NoneType" "str" = some false := by decide +kernel
theorem kb_dict_int : kitB "dict" "int" = some false := by decide +kernel
theorem kb_dict_bool : kitB "dict" "bool" = some false := by decide +kernel
theorem kb_dict_tuple : kitB "dict" "tuple" = some false := by decide +kernel
theorem kb_dict_str : kitB "dict" "str" = some false := by decide +kernel
def isiInt : PyData → Bool
  | .int _ => true
  | .bool _ => true
  | _ => false
def isiBool : PyData → Bool
  | .bool _ => true
  | _ => false
def isiTup : PyData → Bool
  | .tuple _ => true
  | _ => false
def isiStr : PyData → Bool
  | .str _ => true
  | _ => false
theorem kit_int (K : PySem.W.Frag) (d : PyData) : PySem.W.kitOne K (.type (tyD d)) (.type "int") = some (isiInt d) := by
  cases d with
  | none => exact kit_ty kb_none_int
  | bool b => exact kit_ty kb_bool_int
  | int b => exact kit_ty kb_int_int
  | str b => exact kit_ty kb_str_int
  | tuple b => exact kit_ty kb_tuple_int
  | list b => exact kit_ty kb_list_int
  | dict b => exact kit_ty kb_dict_int
theorem kit_bool (K : PySem.W.Frag) (d : PyData) : PySem.W.kitOne K (.type (tyD d)) (.type "bool") = some (isiBool d) := by
  cases d with
  | none => exact kit_ty kb_none_bool
  | bool b => exact kit_ty kb_bool_bool
  | int b => exact kit_ty kb_int_bool
  | str b => exact kit_ty kb_str_bool
  | tuple b => exact kit_ty kb_tuple_bool
  | list b => exact kit_ty kb_list_bool
  | dict b => exact kit_ty kb_dict_bool
theorem kit_tup (K : PySem.W.Frag) (d : PyData) : PySem.W.kitOne K (.type (tyD d)) (.type "tuple") = some (isiTup d) := by
  cases d with
  | none => exact kit_ty kb_none_tuple
  | bool b => exact kit_ty kb_bool_tuple
  | int b => exact kit_ty kb_int_tuple
  | str b => exact kit_ty kb_str_tuple
  | tuple b => exact kit_ty kb_tuple_tuple
  | list b => exact kit_ty kb_list_tuple
  | dict b => exact kit_ty kb_dict_tuple
theorem kit_str (K : PySem.W.Frag) (d : PyData) : PySem.W.kitOne K (.type (tyD d)) (.type "str") = some (isiStr d) := by
  cases d with
  | none => exact kit_ty kb_none_str
  | bool b => exact kit_ty kb_bool_str
  | int b => exact kit_ty kb_int_str
  | str b => exact kit_ty kb_str_str
  | tuple b => exact kit_ty kb_tuple_str
  | list b => exact kit_ty kb_list_str
  | dict b => exact kit_ty kb_dict_str
/-! ### the built-in names -/
theorem bt_int : bootBuiltins "int" = some (.type "int") := by decide +kernel
theorem bt_bool : bootBuiltins "bool" = some (.type "bool") := by decide +kernel
theorem bt_str : bootBuiltins "str" = some (.type "str") := by decide +kernel
theorem bt_tuple : bootBuiltins "tuple" = some (.type "tuple") := by decide +kernel
theorem bt_list : bootBuiltins "list" = some (.type "list") := by decide +kernel
theorem bt_dict : bootBuiltins "dict" = some (.type "dict") := by decide +kernel
theorem bt_len : bootBuiltins "len" = some (.builtin "len") := by decide +kernel
theorem bt_all : bootBuiltins "all" = some (.builtin "all") := by decide +kernel
theorem bt_any : bootBuiltins "any" = some (.builtin "any") := by decide +kernel
theorem bt_sum : bootBuiltins "sum" = some (.builtin "sum") := by decide +kernel
theorem bt_isinstance : bootBuiltins "isinstance" = some (.builtin "isinstance") := by decide +kernel
theorem bt_repr : bootBuiltins "repr" = some (.builtin "repr") := by decide +kernel
theorem bt_sorted : bootBuiltins "sorted" = some (.builtin "sorted") := by decide +kernel
end B

namespace B
open PySem PySem.Spec PyProof.Rows L2

/-! ### walks -/
section
variable {K : PySem.W.Frag} {a b : Addr} {xs ys : List V}
theorem walk_zipT {n : Nat} (hn : n = min xs.length ys.length) : Walk (RZ.ItzT K a b) n (fun H => SqT K H a xs ∧ SqT K H b ys) (YPair (fun i => xs[i]?) (fun i => ys[i]?)) := by
  subst hn
  refine ⟨fun i _ hi q => ?_, fun _ q => ⟨xs, ys, q.1, q.2, by omega⟩, fun i H v H' _ q y => ?_⟩
  · have h1 : i < xs.length := by omega
    have h2 : i < ys.length := by omega
    exact ⟨xs, ys, xs[i], ys[i], q.1, q.2, by simp [h1], by simp [h2]⟩
  · obtain ⟨T, x, z, h1, h2, h3, h4, h5⟩ := y
    exact ⟨T, x, z, h1, h2, h3, h4 xs q.1, h5 ys q.2⟩
end

/-! ### comprehensions whose elements change nothing: the list of the values -/
section
variable {J : It} {n : Nat} {G : Hp → Prop} {Y : Nat → Hp → V → Hp → Prop} {g : TG} {tt : TT} {te : TE} {vs : List Nat} {σ : L2.St} {H1 : Hp} {D : Addr} {Qd : Hp → Prop}
def kept (c : Nat → Bool) (f : Nat → V) : Nat → List V
  | 0 => []
  | i + 1 => if c i = true then kept c f i ++ [f i] else kept c f i
theorem kept_len (c : Nat → Bool) (f : Nat → V) : ∀ i, (kept c f i).length ≤ i
  | 0 => Nat.le_refl _
  | i + 1 => by
    have h := kept_len c f i
    unfold kept
    split
    · rw [List.length_append]; show _ + 1 ≤ _; omega
    · omega
theorem kept_no {c : Nat → Bool} {f : Nat → V} {i : Nat} (h : c i = false) : kept c f (i + 1) = kept c f i := by
  show (if c i = true then _ else _) = _
  rw [h, if_neg Bool.false_ne_true]
theorem kept_yes {c : Nat → Bool} {f : Nat → V} {i : Nat} (h : c i = true) : kept c f (i + 1) = kept c f i ++ [f i] := by
  show (if c i = true then _ else _) = _
  rw [h, if_pos rfl]
theorem kept_all (f : Nat → V) : ∀ i, kept (fun _ => true) f i = (List.range i).map f
  | 0 => rfl
  | i + 1 => by
    show (if true = true then _ else _) = _
    rw [if_pos rfl, kept_all f i, List.range_succ, List.map_append]
    rfl
theorem lc_when (w : Walk J n G Y) (c : Nat → Bool) (f : Nat → V) (hD : H1 D = none) (hn : n ≤ 1000000) (hG : ∀ H', Fr [] H1 H' → G H')
    (hs : ∀ i x H H' (Z0 : Hp → Prop) (Z1 : V → Hp → Prop), i < n → Fr [] H1 H → Y i H x H' → (c i = false → ∀ H4, Fr [] H' H4 → Z0 H4) → (c i = true → ∀ H4, Fr [] H' H4 → Z1 (f i) H4) →
      g x (wipe σ vs) H' fun σ2 H2 => wipe σ2 vs = wipe σ vs ∧ tt σ2 H2 fun b H3 => if b = true then te σ2 H3 Z1 else Z0 H3)
    (hY : ∀ i H x H', Fr [] H1 H → Y i H x H' → Fr [] H H')
    (hd : ∀ H, Fr [] H1 H → H D = some (.lst (kept c f n)) → Qd H) :
    ∃ W : Nat → Nat → Hp → Prop, (∃ m, W 0 m (upd H1 D (.lst []))) ∧ ∀ i m H, W i m H →
      (J.stop i H ∧ Qd H) ∨ (J.go i H ∧ ∃ Nx : Hp → Prop, (∀ H', Nx H' → ∃ m', m' < m ∧ W (i + 1) m' H') ∧ ∀ x H', J.yld i H x H' → g x (wipe σ vs) H' fun σ2 H2 => wipe σ2 vs = wipe σ vs ∧ tt σ2 H2 fun b H3 =>
        if b = true then te σ2 H3 fun y H4 => ∃ acc, H4 D = some (.lst acc) ∧ acc.length < sizeLine ∧ Nx (upd H4 D (.lst (acc ++ [y]))) else Nx H3) := by
  refine lc_it w (fun i H => Fr [] H1 H ∧ H D = some (.lst (kept c f i))) ⟨.new hD, upd_same⟩ (fun i H _ p => hG H p.1) ?_ (fun H p => hd H p.1 p.2)
  rintro i x H H' hi ⟨fr, hl⟩ hy
  have f0 := hY i H x H' fr hy
  refine hs i x H H' _ _ hi fr hy (fun hc H4 f4 => ?_) (fun hc H4 f4 => ?_)
  · have h4 := (f0.trans f4).at hl
    refine ⟨(fr.trans f0).trans f4, ?_⟩
    rw [kept_no hc]
    exact h4
  · have h4 := (f0.trans f4).at hl
    refine ⟨_, h4, ?_, ((fr.trans f0).trans f4).put h4 trivial (.inr hD), ?_⟩
    · have := kept_len c f i
      have e : sizeLine = 16777216 := sizeLine_eq
      omega
    · rw [kept_yes hc]
      exact upd_same
theorem lc_each (w : Walk J n G Y) (f : Nat → V) (hD : H1 D = none) (hn : n ≤ 1000000) (hG : ∀ H', Fr [] H1 H' → G H')
    (hs : ∀ i x H H' (Z1 : V → Hp → Prop), i < n → Fr [] H1 H → Y i H x H' → (∀ H4, Fr [] H' H4 → Z1 (f i) H4) →
      g x (wipe σ vs) H' fun σ2 H2 => wipe σ2 vs = wipe σ vs ∧ te σ2 H2 Z1)
    (hgm : ∀ x H (Z Z' : L2.St → Hp → Prop), (∀ σ2 H2, Z σ2 H2 → Z' σ2 H2) → g x (wipe σ vs) H Z → g x (wipe σ vs) H Z')
    (hY : ∀ i H x H', Fr [] H1 H → Y i H x H' → Fr [] H H')
    (hd : ∀ H, Fr [] H1 H → H D = some (.lst ((List.range n).map f)) → Qd H) :
    ∃ W : Nat → Nat → Hp → Prop, (∃ m, W 0 m (upd H1 D (.lst []))) ∧ ∀ i m H, W i m H →
      (J.stop i H ∧ Qd H) ∨ (J.go i H ∧ ∃ Nx : Hp → Prop, (∀ H', Nx H' → ∃ m', m' < m ∧ W (i + 1) m' H') ∧ ∀ x H', J.yld i H x H' → g x (wipe σ vs) H' fun σ2 H2 => wipe σ2 vs = wipe σ vs ∧ tYes σ2 H2 fun b H3 =>
        if b = true then te σ2 H3 fun y H4 => ∃ acc, H4 D = some (.lst acc) ∧ acc.length < sizeLine ∧ Nx (upd H4 D (.lst (acc ++ [y]))) else Nx H3) := by
  refine lc_when w (fun _ => true) f hD hn hG (fun i x H H' Z0 Z1 hi fr hy h0 h1 => ?_) hY (fun H fr hl => hd H fr (by rw [kept_all] at hl; exact hl))
  refine hgm _ _ _ _ (fun σ2 H2 z => ⟨z.1, ?_⟩) (hs i x H H' Z1 hi fr hy (h1 rfl))
  show (if true = true then te σ2 H2 Z1 else Z0 H2)
  rw [if_pos rfl]
  exact z.2
theorem gName_mono {j : Nat} {τ : L2.St} (x : V) (H : Hp) (Z Z' : L2.St → Hp → Prop) (m : ∀ σ2 H2, Z σ2 H2 → Z' σ2 H2) (h : gName j x τ H Z) : gName j x τ H Z' := m _ _ h
theorem gTup2_mono {K : PySem.W.Frag} {i j : Nat} {τ : L2.St} (x : V) (H : Hp) (Z Z' : L2.St → Hp → Prop) (m : ∀ σ2 H2, Z σ2 H2 → Z' σ2 H2) (h : gTup K 2 (gCons (gName i) (gCons (gName j) gNil)) x τ H Z) : gTup K 2 (gCons (gName i) (gCons (gName j) gNil)) x τ H Z' := by
  obtain ⟨a, xs, e1, e2, e3, v, r, e4, v2, r2, e5, e6, h⟩ := h
  exact ⟨a, xs, e1, e2, e3, v, r, e4, v2, r2, e5, e6, m _ _ h⟩
theorem gTup3_mono {K : PySem.W.Frag} {i j k : Nat} {τ : L2.St} (x : V) (H : Hp) (Z Z' : L2.St → Hp → Prop) (m : ∀ σ2 H2, Z σ2 H2 → Z' σ2 H2) (h : gTup K 3 (gCons (gName i) (gCons (gName j) (gCons (gName k) gNil))) x τ H Z) : gTup K 3 (gCons (gName i) (gCons (gName j) (gCons (gName k) gNil))) x τ H Z' := by
  obtain ⟨a, xs, e1, e2, e3, v, r, e4, v2, r2, e5, v3, r3, e6, e7, h⟩ := h
  exact ⟨a, xs, e1, e2, e3, v, r, e4, v2, r2, e5, v3, r3, e6, e7, m _ _ h⟩
theorem yat_fr {xs : List V} {i : Nat} {H H' : Hp} {x : V} (y : YAt xs i H x H') : Fr [] H H' := by
  obtain ⟨e, _⟩ := y
  subst e
  exact .refl _ _
theorem yfn_fr {f : Nat → V} {i : Nat} {H H' : Hp} {x : V} (y : YFn f i H x H') : Fr [] H H' := by
  obtain ⟨e, _⟩ := y
  subst e
  exact .refl _ _
theorem ypair_fr {f h : Nat → Option V} {i : Nat} {H H' : Hp} {x : V} (y : YPair f h i H x H') : Fr [] H H' := by
  obtain ⟨T, x, z, _, hT, e, _⟩ := y
  subst e
  exact .new hT
end

/-! ### a pen: a list of two ints -/
def Pen (H : Hp) (p : Addr) : Prop := ∃ x f, H p = some (.lst [.int x, .int f])
theorem Pen.ne {H : Hp} {p q : Addr} (h : Pen H p) (n : H q = none) : p ≠ q := by
  obtain ⟨x, f, h⟩ := h
  exact ne_of_none h n
theorem Pen.up {H : Hp} {p q : Addr} {o : HO} (h : Pen H p) (n : H q = none) : Pen (upd H q o) p := by
  have z := h.ne n
  obtain ⟨x, f, h⟩ := h
  exact ⟨x, f, by rw [upd_ne z]; exact h⟩
theorem Pen.fr {L : List Addr} {H H' : Hp} {p : Addr} (h : Pen H p) (f : Fr L H H') (hp : p ∉ L) : Pen H' p := by
  obtain ⟨x, f', h⟩ := h
  exact ⟨x, f', f.ne h hp⟩
/-! a comprehension whose elements are drawn by a pen; R: what is known of each element, whatever comes newly -/
section
variable {J : It} {n : Nat} {G : Hp → Prop} {Y : Nat → Hp → V → Hp → Prop} {g : TG} {te : TE} {vs : List Nat} {σ : L2.St} {H1 : Hp} {D : Addr} {Qd : Hp → Prop}
theorem lc_pen (w : Walk J n G Y) (p : Addr) (R : Nat → Hp → V → Prop) (hR : ∀ i H H' v, Fr [p, D] H H' → R i H v → R i H' v) (hp : Pen H1 p) (hD : H1 D = none) (hn : n ≤ 1000000) (hG : ∀ H', Fr [p] H1 H' → G H')
    (hs : ∀ i x H H' (Z1 : V → Hp → Prop), i < n → Fr [p] H1 H → Pen H' p → Y i H x H' → (∀ y H4, Fr [p] H' H4 → Pen H4 p → R i H4 y → Z1 y H4) →
      g x (wipe σ vs) H' fun σ2 H2 => wipe σ2 vs = wipe σ vs ∧ te σ2 H2 Z1)
    (hgm : ∀ x H (Z Z' : L2.St → Hp → Prop), (∀ σ2 H2, Z σ2 H2 → Z' σ2 H2) → g x (wipe σ vs) H Z → g x (wipe σ vs) H Z')
    (hY : ∀ i H x H', Fr [p] H1 H → Y i H x H' → Fr [] H H')
    (hd : ∀ H ys, Fr [p] H1 H → Pen H p → H D = some (.lst ys) → ys.length = n → (∀ i y, ys[i]? = some y → R i H y) → Qd H) :
    ∃ W : Nat → Nat → Hp → Prop, (∃ m, W 0 m (upd H1 D (.lst []))) ∧ ∀ i m H, W i m H →
      (J.stop i H ∧ Qd H) ∨ (J.go i H ∧ ∃ Nx : Hp → Prop, (∀ H', Nx H' → ∃ m', m' < m ∧ W (i + 1) m' H') ∧ ∀ x H', J.yld i H x H' → g x (wipe σ vs) H' fun σ2 H2 => wipe σ2 vs = wipe σ vs ∧ tYes σ2 H2 fun b H3 =>
        if b = true then te σ2 H3 fun y H4 => ∃ acc, H4 D = some (.lst acc) ∧ acc.length < sizeLine ∧ Nx (upd H4 D (.lst (acc ++ [y]))) else Nx H3) := by
  have npD : p ≠ D := hp.ne hD
  refine lc_it w (fun i H => Fr [p] H1 H ∧ Pen H p ∧ ∃ ys, H D = some (.lst ys) ∧ ys.length = i ∧ ∀ i y, ys[i]? = some y → R i H y) ⟨.new hD, hp.up hD, [], upd_same, rfl, fun i y e => by simp at e⟩ (fun i H _ q => hG H q.1) ?_
    (fun H ⟨q1, q2, ys, q3, q4, q5⟩ => hd H ys q1 q2 q3 q4 q5)
  rintro i x H H' hi ⟨fr, pn, ys, hl, el, hr⟩ hy
  have f0 := hY i H x H' fr hy
  have key : g x (wipe σ vs) H' fun σ2 H2 => wipe σ2 vs = wipe σ vs ∧ te σ2 H2 (fun y H4 => ∃ acc, H4 D = some (.lst acc) ∧ acc.length < sizeLine ∧ (Fr [p] H1 (upd H4 D (.lst (acc ++ [y]))) ∧ Pen (upd H4 D (.lst (acc ++ [y]))) p ∧ ∃ ys, (upd H4 D (.lst (acc ++ [y]))) D = some (.lst ys) ∧ ys.length = i + 1 ∧ ∀ j y', ys[j]? = some y' → R j (upd H4 D (.lst (acc ++ [y]))) y')) := by
    refine hs i x H H' _ hi fr (pn.fr f0 fun z => nomatch z) hy fun y H4 f4 pn4 r4 => ?_
    · have nD : D ∉ [p] := fun z => npD (List.mem_singleton.mp z).symm
      have h4 := f4.ne (f0.at hl) nD
      have f04 : Fr [p] H H4 := (f0.mono fun l z => nomatch z).trans f4
      have fw : Fr [p, D] H4 (upd H4 D (.lst (ys ++ [y]))) := .wr h4 trivial (by simp)
      refine ⟨ys, h4, ?_, (fr.trans f04).put h4 trivial (.inr hD), ?_, ys ++ [y], upd_same, by rw [List.length_append]; show _ + 1 = _; omega, fun j z ej => ?_⟩
      · have e : sizeLine = 16777216 := sizeLine_eq
        omega
      · obtain ⟨a, b, e⟩ := pn4
        exact ⟨a, b, by rw [upd_ne npD]; exact e⟩
      · by_cases hj : j < ys.length
        · rw [List.getElem?_append_left hj] at ej
          exact hR _ _ _ _ fw (hR _ _ _ _ (f04.mono fun l z => .inl (by cases List.mem_singleton.mp z; simp)) (hr j z ej))
        · have hj2 := (List.getElem?_eq_some_iff.mp ej).1
          rw [List.length_append] at hj2
          have hj3 : j < ys.length + 1 := hj2
          have ej2 : j = ys.length := by omega
          subst ej2
          simp at ej
          subst ej
          rw [el]
          exact hR _ _ _ _ fw r4
  refine hgm _ _ _ _ (fun σ2 H2 z => ⟨z.1, ?_⟩) key
  unfold tYes
  dsimp only
  try rw [if_pos rfl]
  exact z.2
end
/-- the ints of such a list -/
theorem ints_of {ys : List V} {Pr : Int → Prop} : (∀ (i : Nat) (y : V), ys[i]? = some y → ∃ z, y = V.int z ∧ Pr z) → ∃ ns : List Int, ys = ns.map V.int ∧ ∀ z ∈ ns, Pr z := by
  induction ys with
  | nil => exact fun _ => ⟨[], rfl, fun _ h => nomatch h⟩
  | cons y r ih =>
    intro h
    obtain ⟨z, e, hz⟩ := h 0 y rfl
    obtain ⟨ns, e2, h2⟩ := ih fun i x e => h (i + 1) x (by simpa using e)
    refine ⟨z :: ns, by rw [e, e2]; rfl, fun x hx => ?_⟩
    rcases List.mem_cons.mp hx with rfl | hx
    · exact hz
    · exact h2 x hx

section
variable {X : Cx}
theorem pe_gint {x : Str} {i : Int} {pos : Pos} (hg : Gl X x) (hm : ∃ t, X.mg x = some (.int i t)) (hd : (x == ("__debug__" : Str)) = false := by decide) : PE X (.Name x pos) (tC (.int i)) := by
  obtain ⟨t, hm⟩ := hm
  exact pe_glob hg hm ⟨t, rfl⟩ hd
end
theorem tYes_if {σ : L2.St} {H : Hp} {A C : Hp → Prop} (h : A H) : tYes σ H (fun b H3 => if b = true then A H3 else C H3) := by
  unfold tYes
  exact iteT h
theorem ite_b {b : Bool} {A C : Prop} (h1 : b = true → A) (h2 : b = false → C) : if b = true then A else C := by
  cases b with
  | true => exact iteT (h1 rfl)
  | false => exact iteF (h2 rfl)
end B

namespace B
open PySem PySem.Spec PyProof.Rows L2
/-- a target that is an attribute of an instance -/
def gFld (K : PySem.W.Frag) (to : TE) (f : Str) : TG := fun v σ H Q => to σ H fun x H1 => ∃ a C dx fs, x = .ref a ∧ H1 a = some (.ins C dx fs) ∧ Cls K C ∧ NoAttr K C f ∧ fs.length < 1000 ∧ Q σ (upd H1 a (.ins C dx (putF f v fs)))
theorem pg_fld {X : Cx} {o : Expr} {f : Str} {to : TE} {pos : Pos} (ho : PE X o to) : PG X (.Attribute o f pos) (gFld X.K to f) := by
  refine ⟨fun pins s σ H v u Q I r h => ?_⟩
  rw [assign_Attribute]
  refine wpAny_bind (wpAny_holding (thn (ho.run pins s σ H _ I h) fun ov s1 ⟨x, H1, I1, r1, q1⟩ => ?_))
  obtain ⟨a, C, dx, fs, ex, ea, c, n, l, q2⟩ := q1
  subst ex
  obtain rfl : ov = Value.ref a := r1
  exact wpAny_bind (wpAny_standAt (wpAny_bind (wpAny_holding (setattr_ok I1 ea c n l r fun s3 I3 => wpAny_release ⟨σ, _, I3, q2⟩))))
/-- len(set(a list of ints)) -/
def tLenSet (K : PySem.W.Frag) (ta : TE) : TE := fun σ H Q => ta σ H fun x H1 => ∃ (l : Addr) (ns : List Int), x = .ref l ∧ SqL K H1 l (ns.map V.int) ∧ ns.length ≤ 4000 ∧ Q (.int ((PyProof.Rows.firstMet (fun i => ns.getD i 0) ns.length).length : Nat)) H1
theorem pe_lenSet {X : Cx} {a : Expr} {ta : TE} {p p2 q pos : Pos} (hg : Gl X "len") (hm : X.mg "len" = none) (hg2 : Gl X "set") (hm2 : X.mg "set" = none) (ha : PE X a ta) (hc : X.calm = true := by rfl)
    (na : starEach [a] X.env = (false, eval a X.env) :: starEach [] X.env := by rfl) : PE X (.Call (.Name "len" p) [.Call (.Name "set" p2) [a] [] q] [] pos) (tLenSet X.K ta) := by
  refine ⟨fun pins s σ H Q I h => ?_⟩
  refine Call_ (ld_blt I hg hm boot_len ?_)
  refine PyProof.Rows.callWith_builtin1 (PyProof.Rows.args_cons ?_ rfl) rfl rfl
  refine Call_ (ld_blt I hg2 hm2 boot_set ?_)
  refine PyProof.Rows.callWith_type1 (PyProof.Rows.args_cons (thn (ha.run pins s σ H _ I h) fun v s1 ⟨x, H1, I1, r1, q1⟩ => PyProof.Rows.args_nil ?_) na) na rfl
  obtain ⟨l, ns, rfl, hq, hl, q1⟩ := q1
  cases r1
  obtain ⟨its, r, pl, hz⟩ := I1.list hq
  have hlen : its.toArray.size = ns.length := by rw [List.size_toArray, ← r.length, List.length_map]
  have hle := PyProof.Rows.firstMet_length_le (fun i => ns.getD i 0) ns.length
  refine call_set_list (I1.ok.hd hc) pl.isList (by simpa using RZ.intsAre_vals r) (by rw [hlen]; unfold scanBound; omega) fun h' tk hS hk => ?_
  refine PyProof.Rows.args_nil ?_
  rw [hlen] at hS
  obtain ⟨o, es, ep, t, ho, hex, hd, _, _, _, hf, hn⟩ := hS
  have I2 : Inv X pins σ H1 { s1 with heap := h', toks := tk } := I1.kept fun b o e => hk b o (Heap.lt_size e) e
  exact call_len_set ho hex hd hf (by rw [hn] <;> omega) ⟨.int _, H1, I2.tok _, ⟨_, by rw [hn]⟩, q1⟩
end B
namespace B
open PySem PySem.Spec PyProof.Rows L2
section
variable {X : Cx}
theorem pe_lcX {elt tg iter : Expr} {ifs : List Expr} {scope : Scope} (own : List (Str × Nat)) {pos : Pos} {wi : TI} {g : TG} {tt : TT} {te : TE} (hc : X.calm = true) (hN : X.N.Nodup) (hi : PI X tg iter wi) (ok : BlkOk X.N X.env.scope scope own)
    (hg : ∀ (s : Shared) (H : Hp) (C : Addr) (cl : List (Str × Addr)) (fp : List Addr), PG (X.blk s H scope (compEnvC scope cl C X.env) fp) tg g) (ht : ∀ (s : Shared) (H : Hp) (C : Addr) (cl : List (Str × Addr)) (fp : List Addr), PTs (X.blk s H scope (compEnvC scope cl C X.env) fp) ifs tt)
    (he : ∀ (s : Shared) (H : Hp) (C : Addr) (cl : List (Str × Addr)) (fp : List Addr), PE (X.blk s H scope (compEnvC scope cl C X.env) fp) elt te) (hs : ∀ x, foldedSetIterable iter X.env x = pure x) :
    PE X (.ListComp elt [⟨tg, iter, ifs, 0⟩] scope pos) (tLc wi g tt te (own.map (·.2))) := pe_lc hc hN hi ok hg ht he hs
theorem ps_setLcX {y : Str} {py : Pos} {elt tg iter : Expr} {ifs : List Expr} {scope : Scope} (i : Nat) (own : List (Str × Nat)) {pos spos : Pos} {wi : TI} {g : TG} {tt : TT} {te : TE} (hy : X.N[i]? = some y) (hyl : X.env.scope.names.lookup y = some .local)
    (hsw : swapsWith (.ListComp elt [⟨tg, iter, ifs, 0⟩] scope pos) (some (.Name y py)) spos.line X.env = pure true) (hc : X.calm = true) (hN : X.N.Nodup) (hi : PI X tg iter wi) (ok : BlkOk X.N X.env.scope scope own)
    (hg : ∀ (s : Shared) (H : Hp) (C : Addr) (cl : List (Str × Addr)) (fp : List Addr), PG (X.blk s H scope (compEnvC scope cl C X.env) fp) tg g) (ht : ∀ (s : Shared) (H : Hp) (C : Addr) (cl : List (Str × Addr)) (fp : List Addr), PTs (X.blk s H scope (compEnvC scope cl C X.env) fp) ifs tt)
    (he : ∀ (s : Shared) (H : Hp) (C : Addr) (cl : List (Str × Addr)) (fp : List Addr), PE (X.blk s H scope (compEnvC scope cl C X.env) fp) elt te) (hs : ∀ x, foldedSetIterable iter X.env x = pure x) :
    PS X (.Assign [.Name y py] (.ListComp elt [⟨tg, iter, ifs, 0⟩] scope pos) spos) (tAsg (tLc wi g tt te (own.map (·.2))) (gName i)) := ps_setLc hc hN hy hyl hsw hi ok hg ht he hs
theorem pg_tupX {es : List Expr} {k : Nat} {pos : Pos} {t : TGs} {n : Nat} (hc : X.calm = true) (hn : (assignEach es X.env).length = n) (hst : (assignEach es X.env).findIdx? (·.1) = none) (h : PGs X es t) : PG X (.Tuple es k pos) (gTup X.K n t) := pg_tup hc h hn hst
theorem pgs_consX {e : Expr} {es : List Expr} {t : TG} {u : TGs} (hs : (assignEach (e :: es) X.env).map (·.2) = assign e X.env :: (assignEach es X.env).map (·.2)) (h1 : PG X e t) (h2 : PGs X es u) : PGs X (e :: es) (gCons t u) := pgs_cons h1 h2 hs
theorem pg_nameX (i : Nat) {x : Str} {pos : Pos} (hN : X.N.Nodup) (hi : X.N[i]? = some x) (hx : Loc X.env.scope x) (hf : X.fn x = true ∨ X.env.scope.names.lookup x = some .local) : PG X (.Name x pos) (gName i) := pg_name hN hi hx hf
end
end B

namespace B
open PySem PySem.Spec PyProof.Rows L2
/-! ### enumerate(a tuple) -/
set_option maxHeartbeats 1000000 in
theorem meets_enum1 {v : Value} {o : Obj} {H : Heap → Prop} (B : Begins v o H) :
    Meets (Builtin.«enumerate.__new__» ⟨[.type "enumerate", v], []⟩) (fun _ R s => H s.heap ∧
      R (.ok (.ret (.ref (s.heap.push o).objs.size))) { s with heap := (s.heap.push o).push { cls := .type "enumerate", data := .fields #[.none, .bool false, .ref s.heap.objs.size, rawInt 0, .none, .none] } }) :=
  .of_wp fun prog w A R s h => by
    obtain ⟨hp, g, d, tk, os⟩ := s; obtain ⟨h1, h⟩ := h
    have hsub := sub_enumerate
    have q1 : ∀ {A' : Around} {E : Value → Shared → Prop} {Q : Value → Shared → Prop}, Q (.ref hp.objs.size) ⟨hp.push o, g, d, tk, os⟩ → wpAny (model prog w) A' (pyIter v) Q E ⟨hp, g, d, tk, os⟩ :=
      fun q => B.iter prog w _ _ ⟨hp, g, d, tk, os⟩ _ h1 q
    wp_walk using q1
    refine wpAny_stack_any fun st => wpAny_pure ?_
    split
    · rename_i c _ _ _ _ _
      cases (c == Value.type "enumerate")
      · wp_walk using q1
        exact ⟨_, rfl, h⟩
      · wp_walk using q1
        exact ⟨_, rfl, h⟩
    · wp_walk using q1
      exact ⟨_, rfl, h⟩
theorem call_enum1 {prog : Program} {w : World} {A : Around} {E : Value → Shared → Prop} {s : Shared} {v : Value} {o : Obj} {H : Heap → Prop} {Q : Value → Shared → Prop} (B : Begins v o H) (h1 : H s.heap)
    (h : ∀ h', IsEnum h' (s.heap.objs.size + 1) s.heap.objs.size 0 .none → h'.get? s.heap.objs.size = some o → h'.objs.size = s.heap.objs.size + 2 →
      (∀ b o, s.heap.get? b = some o → h'.get? b = some o) → Q (.ref (s.heap.objs.size + 1)) { s with heap := h' }) :
    wpAny (model prog w) A (call (.type "enumerate") [v]) Q E s := by
  refine callType_new F.called_enumerate (by decide) (F.typeCall_enumerate_1 _) (F.newCall_enumerate_1 _) (fun obj => F.args_object_init_2 obj _) F.entry_enumerate_new
    (meets_enum1 B) ⟨h1, ?_⟩
  have hz : (s.heap.push o).objs.size = s.heap.objs.size + 1 := Heap.size_push ..
  show _ ∧ _
  rw [hz]
  have he : IsEnum ((s.heap.push o).push { cls := .type "enumerate", data := .fields #[.none, .bool false, .ref s.heap.objs.size, rawInt 0, .none, .none] }) (s.heap.objs.size + 1) s.heap.objs.size 0 .none := by
    have := Heap.get?_push_size (s.heap.push o) (o := { cls := .type "enumerate", data := .fields #[.none, .bool false, .ref s.heap.objs.size, rawInt 0, .none, .none] }) rfl
    rw [hz] at this; exact this
  refine ⟨⟨_, he, rfl⟩, h _ he (Heap.get?_push_of_some _ (Heap.get?_push_size _ B.free)) (by rw [Heap.size_push, hz]) fun b o x => Heap.get?_push_of_some _ (Heap.get?_push_of_some _ x)⟩
theorem pyNext_enumT_end {prog : Program} {w : World} {A : Around} {E : Value → Shared → Prop} {s : Shared} {e it l : Addr} {i : Nat} {items : Array Value} {old : Value} {Q : Option Value → Shared → Prop} (hh : A.handled = none)
    (he : IsEnum s.heap e it i old) (hit : s.heap.IsTupleIter it l i) (hl : s.heap.IsTuple l items) (hx : items[i]? = none)
    (hQ : ∀ h', Heap.ExtBut it s.heap h' → Q none { s with heap := h' }) : wpAny (model prog w) A (pyNext (.ref e)) Q E s := by
  have hT : s.TypeIs (.ref e) "enumerate" := ⟨_, he, rfl⟩
  unfold pyNext
  refine wpAny_bind (wpAny_attempt (wpAny_callSpecial?_slot (name := Str.ofString "__next__") hT F.slot_enumerate_next
    (wpAny_call_entry F.slot_enumerate_next hT F.entry_enumerate_next ?_ (F.args_enumerate_next_1 _))))
  show wpAny _ _ (field (.ref e) 2 >>= _) _ _ _
  refine wpAny_bind (wpAny_field he rfl (x := .ref it) rfl ?_)
  refine wpAny_bind (wpAny_nextOf_tuple_end hh hit hl hx fun h' x he' hx' => ?_)
  obtain ⟨o, ho, hc⟩ := hx'
  refine wpAny_bind (wpAny_isInstance (T := "StopIteration") (b := true) ⟨o, ho, hc⟩ isSubtype_stop ?_)
  exact wpAny_pure (hQ _ he')
/-- the tuple at a, each item in a new pair -/
def IteT (K : PySem.W.Frag) (a : Addr) : It :=
  ⟨fun i H => ∃ (xs : List V) (x : V), SqT K H a xs ∧ xs[i]? = some x, fun i H v H' => ∃ T x, v = .ref T ∧ H T = none ∧ H' = upd H T (.tup [.int (i : Nat), x]) ∧ ∀ xs, SqT K H a xs → xs[i]? = some x, fun i H => ∃ xs : List V, SqT K H a xs ∧ xs.length ≤ i⟩
theorem turn_enumT {P : Program} {w : World} {K : PySem.W.Frag} {elts : List Expr} {kk : Nat} {tpos : Pos} (a e it : Addr) (hae : a ≠ it) :
    Turn P w K (.Tuple elts kk tpos) (IteT K a) [e, it] e (fun i h => (∃ old, IsEnum h e it ((i : Nat) : Int) old) ∧ h.IsTupleIter it a i ∧ e ≠ it ∧ e ≠ a) where
  mem := by simp
  obj := fun i h st b hb => by
    obtain ⟨⟨old, he⟩, ⟨o, ho, hc, hd⟩, _⟩ := st
    have e' : b = e ∨ b = it := by simpa using hb
    rcases e' with z | z
    · rw [z]; exact ⟨_, he, fun v q => nomatch q⟩
    · rw [z]; exact ⟨o, ho, fun v q => by rw [hd] at q; cases q⟩
  keep := fun i h h' st k => let ⟨⟨old, he⟩, hi, hne⟩ := st; ⟨⟨old, k e (by simp) _ he⟩, hi.at fun o q => k it (by simp) o q, hne⟩
  item := by
    intro X hP hw hK hc i pins s σ H E I hf st hg
    subst hP hw hK
    obtain ⟨⟨old, he⟩, hit, hne, hea⟩ := st
    obtain ⟨xs, x, hq, hx⟩ := hg
    obtain ⟨its, rv, p, hz⟩ := I.tuple hq
    obtain ⟨u, hu, ru⟩ := rv.get hx
    have hel : e < s.heap.objs.size := Heap.lt_size he
    have hil : it < s.heap.objs.size := by obtain ⟨_, q, _⟩ := hit; exact Heap.lt_size q
    have hi : i < its.toArray.size := by
      obtain ⟨z, _⟩ := List.getElem?_eq_some_iff.mp hu
      simpa using z
    refine wpAny_pyNext_enum_itemD (Draws.tuple (A := X.A.in1) (show X.A.in1.handled = none from I.ok.hd hc) it a hae its.toArray) he ⟨hit, p⟩ hi hne (by simp [hne, hea]) fun y h' tk hy ho hit' hT hsz hk => ?_
    have ey : y = u := by
      have hy' : its[i]? = some y := by simpa using hy
      rw [hu] at hy'
      exact (Option.some.inj hy').symm
    subst ey
    refine ⟨_, rfl, wpAny_letOwnedTupleGo_enum (s := { s with heap := h', toks := tk + 1 }) ho fun h'' he' sb => ?_⟩
    have hT2 : h''.get? s.heap.objs.size = some { cls := .type "tuple", data := .seq #[.int i tk, y] } := (sb.2 _ (Nat.ne_of_gt hel)).trans hT
    have new : ObjOk X.prog X.w (upd H s.heap.objs.size (.tup [.int (i : Nat), x])) h'' s.heap.objs.size (.tup [.int (i : Nat), x]) :=
      ⟨by show 2 ≤ sizeLine; decide, [.int i tk, y], .cons ⟨_, rfl⟩ (.cons ru .nil), ⟨_, hT2, rfl, _, rfl⟩⟩
    have I1 : Inv X pins σ (upd H s.heap.objs.size (.tup [.int (i : Nat), x])) { s with heap := h'', toks := tk + 1 } :=
      I.turnedNew (ch := [e, it]) (fun b ob hb q => (sb.2 b (fun z => hb (by simp [z]))).trans (hk b ob (fun z => hb (by simp [z])) (fun z => hb (by simp [z])) q)) hf (Nat.le_refl _) new
    refine ⟨.ref s.heap.objs.size, _, I1, rfl, ⟨_, x, rfl, I.hok.fresh (Nat.le_refl _), rfl, fun ys hy => by rw [I.tuple_inj hy hq]; exact hx⟩, ⟨⟨y, ?_⟩, hit'.1.at fun o q => (sb.2 it (Ne.symm hne)).trans q, hne, hea⟩, fun b hb => ?_⟩
    · have e1 : ((i + 1 : Nat) : Int) = (i : Int) + 1 := by omega
      rw [e1]; exact he'
    · have hb' : b < s.heap.objs.size := by
        have e' : b = e ∨ b = it := by simpa using hb
        rcases e' with z | z
        · rw [z]; exact hel
        · rw [z]; exact hil
      rw [upd_ne (Nat.ne_of_lt hb')]
      exact (hf b hb).1
  done := by
    intro X hP hw hK hc i pins s σ H E I hf st hg
    subst hP hw hK
    obtain ⟨⟨old, he⟩, hit, hne, hea⟩ := st
    obtain ⟨xs, hq, hx⟩ := hg
    obtain ⟨its, rv, p, hz⟩ := I.tuple hq
    obtain ⟨f0, f1, f2, f3, f4, f5⟩ := hf it (by simp)
    have hl := rv.length
    exact pyNext_enumT_end (I.ok.hd hc) he hit p (by simp; omega) fun h' eb => ⟨rfl, I.turned (t' := s.toks) (fun b o hb q => eb b o hb q) f0 f1 f3 f4 f5⟩
  self := fun A i s Q E st h => let ⟨⟨_, he⟩, _⟩ := st; wpAny_pyIter_enum he h
def iEnumT (K : PySem.W.Frag) (ta : TA) : TI := fun σ H R => ta σ H fun vs H1 => ∃ a xs, vs = [.ref a] ∧ SqT K H1 a xs ∧ R (IteT K a) H1
theorem pi_enumT {X : Cx} (K : PySem.W.Frag) {e : Expr} {ta : TA} {p pos tpos : Pos} {elts : List Expr} {kk : Nat} (hK : X.K = K) (hg : Gl X "enumerate") (hm : X.mg "enumerate" = none) (ha : PA X [e] ta) (hs : starEach [e] X.env = [(false, eval e X.env)]) :
    PI X (.Tuple elts kk tpos) (.Call (.Name "enumerate" p) [e] [] pos) (iEnumT K ta) := by
  subst hK
  refine ⟨fun pins s σ H R I h => ?_⟩
  refine Call_ (ld_blt I hg hm boot_enumerate (PyProof.Rows.callWith_type1 (thn (ha.run pos pins s σ H _ I h) fun us s1 ⟨vs, H1, I1, r1, q1⟩ => ?_) hs rfl))
  obtain ⟨a, xs, ex, hq, q⟩ := q1
  subst ex
  cases r1 with
  | cons r rr =>
    cases rr
    cases r
    obtain ⟨its, rv, p', hz⟩ := I1.tuple hq
    have hal : a < s1.heap.objs.size := by obtain ⟨o, e, _⟩ := p'; exact Heap.lt_size e
    refine call_enum1 (begins_tuple a its.toArray) p' fun h' he hit hsz hk => wpAny_pyIter_enum he ?_
    have I2 : Inv X pins σ H1 { s1 with heap := h' } := I1.kept (t' := s1.toks) hk
    refine ⟨s1.heap.objs.size + 1, [s1.heap.objs.size + 1, s1.heap.objs.size], _, _, H1, rfl, I2, turn_enumT a (s1.heap.objs.size + 1) s1.heap.objs.size (Nat.ne_of_lt hal), ⟨⟨.none, he⟩, ⟨_, hit, rfl, rfl⟩, Nat.succ_ne_self _, fun z => Nat.lt_irrefl a (Nat.lt_of_lt_of_le hal (by rw [← z]; exact Nat.le_succ _))⟩, fun b hb => ?_, q⟩
    have e' : b = s1.heap.objs.size + 1 ∨ b = s1.heap.objs.size := by simpa using hb
    have hle : s1.heap.objs.size ≤ b := by
      rcases e' with z | z
      · rw [z]; exact Nat.le_add_right _ _
      · rw [z]; exact Nat.le_refl _
    exact I1.fpOk hle (I1.hok.fresh hle)
theorem walk_enumT {K : PySem.W.Frag} {a : Addr} {xs : List V} : Walk (IteT K a) xs.length (fun H => SqT K H a xs) (YPair (fun i => some (.int (i : Nat))) (fun i => xs[i]?)) := by
  refine ⟨fun i _ hi q => ⟨xs, xs[i], q, by simp [hi]⟩, fun _ q => ⟨xs, q, Nat.le_refl _⟩, fun i H v H' _ q y => ?_⟩
  obtain ⟨T, x, h1, h2, h3, h4⟩ := y
  exact ⟨T, .int (i : Nat), x, h1, h2, h3, rfl, h4 xs q⟩
/-! ### the rules with K by its name, for the inside of comprehensions -/
section
variable {X : Cx} (K : PySem.W.Frag)
theorem ix_listK (h : X.K = K) : IxR X (rIxL K) := by subst h; exact ix_list
theorem ix_tupK (h : X.K = K) : IxR X (rIxT K) := by subst h; exact ix_tup
theorem sl_listK (h : X.K = K) : SlR X (rSlL K) := by subst h; exact sl_list
theorem sl_tupAK (h : X.K = K) : SlR X (rSlA K) := by subst h; exact sl_tupA
theorem op_in_seqK (h : X.K = K) : OpR X (compareOp .In) (rIn K false) := by subst h; exact op_in_seq
theorem op_notIn_seqK (h : X.K = K) : OpR X (compareOp .NotIn) (rIn K true) := by subst h; exact op_notIn_seq
theorem op_catAK (h : X.K = K) : OpR X (binaryOp .Add) (rCatA K) := by subst h; exact op_catA
theorem op_eqDK (h : X.K = K) (hu : X.A.units + 64 < cLine) : OpR X (compareOp .Eq) (rEqD K) := by subst h; exact op_eqD hu
theorem op_neDK (h : X.K = K) (hu : X.A.units + 64 < cLine) : OpR X (compareOp .NotEq) (rNeD K) := by subst h; exact op_neD hu
def rLenS : List V → Hp → VK → Prop := fun xs H Q => ∃ p ys, xs = [.ref p] ∧ (SqL K H p ys ∨ SqT K H p ys) ∧ Q (.int ys.length) H
def rTupOf : List V → Hp → VK → Prop := fun xs H Q => ∃ p ys, xs = [.ref p] ∧ ((SqL K H p ys ∧ ∀ l, H l = none → Q (.ref l) (upd H l (.tup ys))) ∨ (SqT K H p ys ∧ Q (.ref p) H))
def rListOf : List V → Hp → VK → Prop := fun xs H Q => ∃ p ys, xs = [.ref p] ∧ (SqL K H p ys ∨ SqT K H p ys) ∧ ∀ l, H l = none → Q (.ref l) (upd H l (.lst ys))
theorem call_lenK (h : X.K = K) : CallR X (.builtin "len") (rLenS K) := by subst h; exact call_len_seq
theorem call_tupleK (h : X.K = K) : CallR X (.type "tuple") (rTupOf K) := by subst h; exact call_tuple_of
theorem call_listK (h : X.K = K) : CallR X (.type "list") (rListOf K) := by subst h; exact call_list_of
theorem call_isiK' (h : X.K = K) : CallR X (.builtin "isinstance") (rIsi K) := by subst h; exact call_isi
theorem cr_allK (h : X.K = K) (hc : X.calm = true) : CallR X (.builtin "all") (rAll K) := by subst h; exact cr_all hc
theorem cr_anyK (h : X.K = K) (hc : X.calm = true) : CallR X (.builtin "any") (rAny K) := by subst h; exact cr_any hc
theorem cr_sumK (h : X.K = K) (hc : X.calm = true) : CallR X (.builtin "sum") (rSum K) := by subst h; exact cr_sum hc
theorem pe_fldK {e : Expr} {f : Str} {pos : Pos} {ta : TE} (h : X.K = K) (hb : attributeBase e f X.env (eval e X.env) = eval e X.env) (he : PE X e ta) : PE X (.Attribute e f pos) (tFld K ta f) := by subst h; exact pe_fld he hb
theorem pi_listK {tg l : Expr} {tl : TE} (h : X.K = K) (hl : PE X l tl) : PI X tg l (iList K tl) := by subst h; exact pi_list hl
theorem pi_tupK {tg l : Expr} {tl : TE} (h : X.K = K) (hl : PE X l tl) : PI X tg l (iTup K tl) := by subst h; exact pi_tup hl
theorem pi_enumK {e : Expr} {ta : TA} {p pos tpos : Pos} {elts : List Expr} {kk : Nat} (h : X.K = K) (hg : Gl X "enumerate") (hm : X.mg "enumerate" = none) (ha : PA X [e] ta) (hs : starEach [e] X.env = [(false, eval e X.env)]) :
    PI X (.Tuple elts kk tpos) (.Call (.Name "enumerate" p) [e] [] pos) (iEnum K ta) := by subst h; exact pi_enum hg hm ha hs
theorem pi_zipK {e e2 : Expr} {ta : TA} {p pos tpos : Pos} {elts : List Expr} {kk : Nat} (h : X.K = K) (hg : Gl X "zip") (hm : X.mg "zip" = none) (ha : PA X [e, e2] ta)
    (hs : starEach [e, e2] X.env = (false, eval e X.env) :: starEach [e2] X.env) (hpl : (backTo pos (starEach [e2] X.env)).any (·.1) = false) :
    PI X (.Tuple elts kk tpos) (.Call (.Name "zip" p) [e, e2] [] pos) (RZ.iZipA K ta) := by subst h; exact RZ.pi_zipA hg hm ha hs hpl
theorem pg_tupK {es : List Expr} {k : Nat} {pos : Pos} {t : TGs} {n : Nat} (h : X.K = K) (hc : X.calm = true) (hn : (assignEach es X.env).length = n) (hst : (assignEach es X.env).findIdx? (·.1) = none) (hp : PGs X es t) : PG X (.Tuple es k pos) (gTup K n t) := by subst h; exact pg_tup hc hp hn hst
theorem pg_fldK {o : Expr} {f : Str} {to : TE} {pos : Pos} (h : X.K = K) (ho : PE X o to) : PG X (.Attribute o f pos) (gFld K to f) := by subst h; exact pg_fld ho
theorem pe_bmK {T : String} {id : String} {name : Str} {r : V → List V → Hp → VK → Prop} {o : Expr} {e : Expr} {es : List Expr} {to : TE} {t : TA} {apos cpos : Pos} (h : X.K = K) (pa : PlainAttrs T) (slot : Slot T name id) (hty : typeOf (.builtin id) = pure (.type "method_descriptor")) (hm : MtR X id r) (ho : PE X o to) (ha : PA X (e :: es) t)
    (hbase : attributeBase o name X.env (eval o X.env) = eval o X.env := by rfl)
    (hfew : ((backTo cpos (starEach (e :: es) X.env)).all (fun x => !x.1) && (backToKw cpos (keywordEach [] X.env)).all (fun x => x.1.isSome)
      && decide ((e :: es).length + ([] : List Keyword).length + (if ([] : List Keyword).isEmpty then 0 else 1) < 30)) = true := by rfl)
    (hline : (apos.endLine == cpos.line) = true := by rfl) (hs : starEach (e :: es) X.env = (false, eval e X.env) :: starEach es X.env := by rfl) (hplain : (backTo cpos (starEach es X.env)).any (·.1) = false := by rfl) :
    PE X (.Call (.Attribute o name apos) (e :: es) [] cpos) (tBM K T r to t) := by subst h; exact pe_bm pa slot hty hm ho ha hbase hfew hline hs hplain
theorem pe_bm0K {T : String} {id : String} {name : Str} {r : V → List V → Hp → VK → Prop} {o : Expr} {to : TE} {apos cpos : Pos} (h : X.K = K) (pa : PlainAttrs T) (slot : Slot T name id) (hty : typeOf (.builtin id) = pure (.type "method_descriptor")) (hm : MtR X id r) (ho : PE X o to)
    (hbase : attributeBase o name X.env (eval o X.env) = eval o X.env := by rfl) (hline : (apos.endLine == cpos.line) = true := by rfl) : PE X (.Call (.Attribute o name apos) [] [] cpos) (tBM0 K T r to) := by subst h; exact pe_bm0 pa slot hty hm ho hbase hline
end
end B

namespace B
open PySem PySem.Spec PyProof.Rows L2
/-! ### data compared -/
mutual
theorem eqv_self : ∀ d : PyData, d.canLay0 = true → PyData.eqv d d = true
  | .none, _ => by rw [PyData.eqv]
  | .bool b, _ => by rw [PyData.eqv]; exact beq_self_eq_true b
  | .int i, _ => by rw [PyData.eqv]; exact beq_self_eq_true i
  | .str x, _ => by rw [PyData.eqv]; exact beq_self_eq_true x
  | .list xs, h => by rw [PyData.eqv]; exact eqvAll_self xs (by simpa only [PyData.canLay0] using h)
  | .tuple xs, h => by rw [PyData.eqv]; exact eqvAll_self xs (by simpa only [PyData.canLay0] using h)
  | .dict _, h => by simp [PyData.canLay0] at h
theorem eqvAll_self : ∀ ds : List PyData, PyData.canLayAll0 ds = true → PyData.eqvAll ds ds = true
  | [], _ => by rw [PyData.eqvAll]
  | d :: ds, h => by
    have h' : d.canLay0 = true ∧ PyData.canLayAll0 ds = true := by simpa [PyData.canLayAll0] using h
    rw [PyData.eqvAll, eqv_self d h'.1, eqvAll_self ds h'.2]
    rfl
end
theorem canAll_of {ds : List PyData} : (∀ d ∈ ds, d.canLay0 = true) → PyData.canLayAll0 ds = true := by
  induction ds with
  | nil => exact fun _ => by simp [PyData.canLayAll0]
  | cons d ds ih =>
    intro h
    simp only [PyData.canLayAll0, h d (List.mem_cons_self ..), ih fun x hx => h x (List.mem_cons_of_mem _ hx), Bool.and_self]
theorem depthAll_of {ds : List PyData} {n : Nat} : (∀ d ∈ ds, d.depth ≤ n) → PyData.depthAll ds ≤ n := by
  induction ds with
  | nil => exact fun _ => by simp [PyData.depthAll]
  | cons d ds ih =>
    intro h
    have h1 := h d (List.mem_cons_self ..)
    have h2 := ih fun x hx => h x (List.mem_cons_of_mem _ hx)
    simp only [PyData.depthAll]
    omega
/-- data that == may look at, at most n deep -/
def Ok (n : Nat) (d : PyData) : Prop := d.canLay0 = true ∧ d.depth ≤ n
theorem Ok.int (n : Nat) (i : Int) : Ok n (.int i) := ⟨by simp [PyData.canLay0], by simp [PyData.depth]⟩
theorem Ok.bool (n : Nat) (i : Bool) : Ok n (.bool i) := ⟨by simp [PyData.canLay0], by simp [PyData.depth]⟩
theorem Ok.tup {n : Nat} {ds : List PyData} (h : ∀ d ∈ ds, Ok n d) : Ok (n + 1) (.tuple ds) :=
  ⟨by simp only [PyData.canLay0]; exact canAll_of fun d hd => (h d hd).1, by simp only [PyData.depth]; have := depthAll_of fun d hd => (h d hd).2; omega⟩
theorem Ok.lst {n : Nat} {ds : List PyData} (h : ∀ d ∈ ds, Ok n d) : Ok (n + 1) (.list ds) :=
  ⟨by simp only [PyData.canLay0]; exact canAll_of fun d hd => (h d hd).1, by simp only [PyData.depth]; have := depthAll_of fun d hd => (h d hd).2; omega⟩
theorem Ok.ints (ns : List Int) : Ok 1 (.tuple (ns.map PyData.int)) := Ok.tup fun d hd => by
  obtain ⟨i, _, rfl⟩ := List.mem_map.mp hd
  exact Ok.int 0 i
theorem Ok.lints (ns : List Int) : Ok 1 (.list (ns.map PyData.int)) := Ok.lst fun d hd => by
  obtain ⟨i, _, rfl⟩ := List.mem_map.mp hd
  exact Ok.int 0 i
theorem Ok.shaped {n : Nat} {d : PyData} (h : Ok n d) (hn : n ≤ 64 := by decide) : SeqAt.shaped d = true := by
  unfold SeqAt.shaped
  rw [h.1, decide_eq_true (Nat.le_trans h.2 hn)]
  rfl
theorem Ok.self {n : Nat} {d : PyData} (h : Ok n d) : PyData.eqv d d = true := eqv_self d h.1
theorem eqv_int (i j : Int) : PyData.eqv (.int i) (.int j) = (i == j) := by rw [PyData.eqv]
theorem eqvAll_ints : ∀ (a b : List Int), PyData.eqvAll (a.map PyData.int) (b.map PyData.int) = decide (a = b)
  | [], [] => by simp [PyData.eqvAll]
  | [], _ :: _ => by simp [PyData.eqvAll]
  | _ :: _, [] => by simp [PyData.eqvAll]
  | x :: xs, y :: ys => by
    rw [List.map_cons, List.map_cons, PyData.eqvAll, eqvAll_ints xs ys, eqv_int]
    by_cases h1 : x = y <;> by_cases h2 : xs = ys <;> simp [h1, h2]
/-- the tuple of tuples of ints -/
def lotsD (lots : List (List Int)) : PyData := .tuple (lots.map fun l => .tuple (l.map PyData.int))
theorem Ok.lots (lots : List (List Int)) : Ok 2 (lotsD lots) := Ok.tup fun d hd => by
  obtain ⟨l, _, rfl⟩ := List.mem_map.mp hd
  exact Ok.ints l
theorem dp_ints {K : PySem.W.Frag} {H : Hp} {a : Addr} {ns : List Int} (h : SqL K H a (ns.map V.int)) : Dp K H (.ref a) (.list (ns.map PyData.int)) := .lst h (Ims.ints ns).dp
theorem pe_lenSetK {X : Cx} (K : PySem.W.Frag) {a : Expr} {ta : TE} {p p2 q pos : Pos} (h : X.K = K) (hg : Gl X "len") (hm : X.mg "len" = none) (hg2 : Gl X "set") (hm2 : X.mg "set" = none) (ha : PE X a ta) (hc : X.calm = true)
    (na : starEach [a] X.env = (false, eval a X.env) :: starEach [] X.env) : PE X (.Call (.Name "len" p) [.Call (.Name "set" p2) [a] [] q] [] pos) (tLenSet K ta) := by
  subst h
  exact pe_lenSet hg hm hg2 hm2 ha hc na
theorem firstMet_mem (ns : List Int) : ∀ z ∈ PyProof.Rows.firstMet (fun i => ns.getD i 0) ns.length, z ∈ ns := fun z hz => by
  have h := PyProof.Rows.firstMet_any (fun i => ns.getD i 0) ns.length z
  rw [List.any_eq_true.mpr ⟨z, hz, by simp⟩] at h
  obtain ⟨x, hx, e⟩ := List.any_eq_true.mp h.symm
  obtain ⟨i, hi, rfl⟩ := List.mem_map.mp hx
  have hi' := List.mem_range.mp hi
  have e2 : ns.getD i 0 = z := by simpa using e
  rw [← e2, List.getD_eq_getElem?_getD, List.getElem?_eq_getElem hi']
  exact List.getElem_mem hi'
theorem firstMet_nd (val : Nat → Int) : ∀ i, (PyProof.Rows.firstMet val i).Nodup
  | 0 => List.nodup_nil
  | i + 1 => by
    have ih := firstMet_nd val i
    rw [PyProof.Rows.firstMet_succ]
    unfold PyProof.Rows.step_dedup
    split
    · exact ih
    · rename_i h
      rw [List.nodup_append]
      refine ⟨ih, by simp, fun a ha b hb => ?_⟩
      cases List.mem_singleton.mp hb
      intro e
      subst e
      exact h (List.any_eq_true.mpr ⟨_, ha, by simp⟩)
/-! ### tuple + tuple -/
theorem catA_of {K : PySem.W.Frag} {H : Hp} {a b : Addr} {xs ys : List V} {Q : VK} (ha : SqT K H a xs) (hb : SqT K H b ys) (hl : xs.length + ys.length ≤ 1000000) (q : ∀ p H', Fr [] H H' → SqT K H' p (xs ++ ys) → Q (.ref p) H') : rCatA K (.ref a) (.ref b) H Q := by
  refine ⟨a, b, xs, ys, rfl, rfl, ha, hb, Nat.le_trans hl (by decide), fun e => ?_, fun _ e => ?_, fun _ _ p np => ?_⟩
  · subst e
    exact q b H (.refl _ _) hb
  · subst e
    exact q a H (.refl _ _) (by rw [List.append_nil]; exact ha)
  · exact q p _ (.new np) (sqT_of upd_same)
theorem slA_of {K : PySem.W.Frag} {H : Hp} {a : Addr} {xs : List V} {lo hi : Option Int} {Q : VK} (ha : SqT K H a xs) (q : ∀ p H', Fr [] H H' → SqT K H' p (cutV xs lo hi) → Q (.ref p) H') : rSlA K (.ref a) lo hi H Q := by
  refine ⟨a, xs, rfl, ha, fun e => ?_, fun _ p np => q p _ (.new np) (sqT_of upd_same)⟩
  refine q a H (.refl _ _) ?_
  have z : cutV xs lo hi = xs := by
    unfold cutV
    rw [e.1, e.2]
    simp
  rw [z]
  exact ha
/-! ### comprehensions that make data -/
theorem Ims.snoc {K : PySem.W.Frag} {H : Hp} {d : PyData} {y : V} : ∀ {ds : List PyData} {ys : List V}, Ims K H ds ys → Im K H d y → Ims K H (ds ++ [d]) (ys ++ [y])
  | [], _, h, hy => by cases h; exact ⟨y, [], rfl, hy, rfl⟩
  | _ :: _, _, ⟨x, r, e, h1, h2⟩, hy => by cases e; exact ⟨x, r ++ [y], rfl, h1, Ims.snoc h2 hy⟩
section
variable {K : PySem.W.Frag} {J : It} {n : Nat} {G : Hp → Prop} {Y : Nat → Hp → V → Hp → Prop} {g : TG} {tt : TT} {te : TE} {vs : List Nat} {σ : L2.St} {H1 : Hp} {D : Addr} {Qd : Hp → Prop}
theorem lc_dat (w : Walk J n G Y) (d : Nat → PyData) (hD : H1 D = none) (hn : n ≤ 1000000) (hG : ∀ H', Fr [] H1 H' → G H')
    (hs : ∀ i x H H' (Z1 : V → Hp → Prop), i < n → Fr [] H1 H → Y i H x H' → (∀ y H4, Fr [] H' H4 → Im K H4 (d i) y → Z1 y H4) →
      g x (wipe σ vs) H' fun σ2 H2 => wipe σ2 vs = wipe σ vs ∧ te σ2 H2 Z1)
    (hgm : ∀ x H (Z Z' : L2.St → Hp → Prop), (∀ σ2 H2, Z σ2 H2 → Z' σ2 H2) → g x (wipe σ vs) H Z → g x (wipe σ vs) H Z')
    (hY : ∀ i H x H', Fr [] H1 H → Y i H x H' → Fr [] H H')
    (hd : ∀ H ys, Fr [] H1 H → H D = some (.lst ys) → Ims K H ((List.range n).map d) ys → Qd H) :
    ∃ W : Nat → Nat → Hp → Prop, (∃ m, W 0 m (upd H1 D (.lst []))) ∧ ∀ i m H, W i m H →
      (J.stop i H ∧ Qd H) ∨ (J.go i H ∧ ∃ Nx : Hp → Prop, (∀ H', Nx H' → ∃ m', m' < m ∧ W (i + 1) m' H') ∧ ∀ x H', J.yld i H x H' → g x (wipe σ vs) H' fun σ2 H2 => wipe σ2 vs = wipe σ vs ∧ tYes σ2 H2 fun b H3 =>
        if b = true then te σ2 H3 fun y H4 => ∃ acc, H4 D = some (.lst acc) ∧ acc.length < sizeLine ∧ Nx (upd H4 D (.lst (acc ++ [y]))) else Nx H3) := by
  refine lc_it w (fun i H => Fr [] H1 H ∧ ∃ ys, H D = some (.lst ys) ∧ Ims K H ((List.range i).map d) ys) ⟨.new hD, [], upd_same, rfl⟩ (fun i H _ q => hG H q.1) ?_
    (fun H ⟨q1, ys, q3, q4⟩ => hd H ys q1 q3 q4)
  rintro i x H H' hi ⟨fr, ys, hl, hr⟩ hy
  have f0 := hY i H x H' fr hy
  have key : g x (wipe σ vs) H' fun σ2 H2 => wipe σ2 vs = wipe σ vs ∧ te σ2 H2 (fun y H4 => ∃ acc, H4 D = some (.lst acc) ∧ acc.length < sizeLine ∧ (Fr [] H1 (upd H4 D (.lst (acc ++ [y]))) ∧ ∃ ys, (upd H4 D (.lst (acc ++ [y]))) D = some (.lst ys) ∧ Ims K (upd H4 D (.lst (acc ++ [y]))) ((List.range (i + 1)).map d) ys)) := by
    refine hs i x H H' _ hi fr hy fun y H4 f4 r4 => ?_
    have h4 := (f0.trans f4).at hl
    have fw : Fr [D] H4 (upd H4 D (.lst (ys ++ [y]))) := .wr h4 trivial (by simp)
    refine ⟨ys, h4, ?_, ((fr.trans f0).trans f4).put h4 trivial (.inr hD), ys ++ [y], upd_same, ?_⟩
    · have e : sizeLine = 16777216 := sizeLine_eq
      have e2 := hr.len
      rw [List.length_map, List.length_range] at e2
      omega
    · rw [List.range_succ, List.map_append]
      exact ((hr.mono (f0.trans f4)).mono fw).snoc (r4.mono fw)
  refine hgm _ _ _ _ (fun σ2 H2 z => ⟨z.1, ?_⟩) key
  unfold tYes
  dsimp only
  try rw [if_pos rfl]
  exact z.2
end
theorem range_map_getD {α : Type} (xs : List α) (d0 : α) : (List.range xs.length).map (fun i => xs.getD i d0) = xs := by
  apply List.ext_getElem
  · simp
  · intro i h1 h2
    simp [List.getElem?_eq_getElem h2]
theorem range_map_get {α β : Type} (xs : List α) (d0 : α) (f : α → β) : (List.range xs.length).map (fun i => f (xs.getD i d0)) = xs.map f := by
  have h := congrArg (List.map f) (range_map_getD xs d0)
  rw [List.map_map] at h
  exact h
/-- the values kept by a test, of a list of ints -/
theorem kept_ints (c : Int → Bool) (f : Int → Int) (xs : List Int) : ∀ i, i ≤ xs.length → kept (fun i => c (xs.getD i 0)) (fun i => .int (f (xs.getD i 0))) i = (((xs.take i).filter c).map f).map V.int
  | 0, _ => rfl
  | i + 1, h => by
    have ih := kept_ints c f xs i (by omega)
    have e : xs[i]? = some (xs.getD i 0) := by
      rw [List.getD_eq_getElem?_getD, List.getElem?_eq_getElem (by omega)]
      rfl
    have e2 : xs.take (i + 1) = xs.take i ++ [xs.getD i 0] := by
      rw [List.take_add_one, e]
      rfl
    rw [e2, List.filter_append, List.map_append, List.map_append, ← ih]
    cases hc : c (xs.getD i 0) with
    | true =>
      rw [kept_yes hc, List.filter_cons, if_pos hc]
      rfl
    | false =>
      rw [kept_no hc, List.filter_cons, if_neg (by rw [hc]; decide)]
      show _ = _ ++ []
      rw [List.append_nil]
theorem kept_intsAll (c : Int → Bool) (f : Int → Int) (xs : List Int) : kept (fun i => c (xs.getD i 0)) (fun i => .int (f (xs.getD i 0))) xs.length = ((xs.filter c).map f).map V.int := by
  rw [kept_ints c f xs _ (Nat.le_refl _), List.take_length]
theorem getD_of {α : Type} {xs : List α} {i : Nat} {x d0 : α} (h : xs[i]? = some x) : xs.getD i d0 = x := by
  rw [List.getD_eq_getElem?_getD, h]
  rfl
theorem map_at {α β : Type} {f : α → β} {xs : List α} {i : Nat} {y : β} (h : (xs.map f)[i]? = some y) : ∃ x, xs[i]? = some x ∧ y = f x := by
  rw [List.getElem?_map] at h
  cases e : xs[i]? with
  | none => rw [e] at h; cases h
  | some x => rw [e] at h; exact ⟨x, rfl, (Option.some.inj h).symm⟩
end B

namespace B
open PySem PySem.Spec PyProof.Rows L2
section
variable {K : PySem.W.Frag} {mg : Str → Option Value} {h : Heap}
theorem defAt_mk {x : Str} {st : Stmt} {ps : List Str} {f : Addr} {oc : Value} {od an : Option Addr} {sl : Array (Option Value)} {kV dc pm cd ct : Value} (X : K.In h) (G : h.Ns mainGlobals mg) (a : PySem.W.nsIn K mainGlobals x = some (some (.ref f)))
    (l : K.lookup f = some ⟨oc, od, .func (PySem.W.fnOf x x (defArgs st) (defBody st) (defScope st) .none kV dc pm an cd ct), sl⟩) (c : PySem.W.codeIn K cd x = true) (k : PySem.W.keepIn K (.ref f) = true)
    (hb : ∀ (kV doc pm : Value) (an : Option Addr) (cdv ct : Value) (us : List Value), us.length = ps.length → bindArgs (PySem.W.fnOf x x (defArgs st) (defBody st) (defScope st) .none kV doc pm an cdv ct) ⟨us, []⟩ = pure (ps.zip us)) : DefAt K mg x st ps :=
  ⟨f, _, fun_mk l c k, PySem.W.mg_of X G a, (fun_mk (st := st) l c k).binds hb⟩
theorem metAt_mk {C : Addr} {m qual : Str} {st : Stmt} {ps : List Str} {f : Addr} {oc : Value} {od an : Option Addr} {sl : Array (Option Value)} {kV dc pm cd ct : Value} (cl : Cls K C) (me : Meth K C m f)
    (l : K.lookup f = some ⟨oc, od, .func (PySem.W.fnOf m qual (defArgs st) (defBody st) (defScope st) .none kV dc pm an cd ct), sl⟩) (c : PySem.W.codeIn K cd qual = true) (k : PySem.W.keepIn K (.ref f) = true)
    (hb : ∀ (kV doc pm : Value) (an : Option Addr) (cdv ct : Value) (us : List Value), us.length = ps.length → bindArgs (PySem.W.fnOf m qual (defArgs st) (defBody st) (defScope st) .none kV doc pm an cdv ct) ⟨us, []⟩ = pure (ps.zip us)) : MetAt K C m qual st ps :=
  ⟨f, _, fun_mk l c k, me, cl, (fun_mk (st := st) l c k).binds hb⟩
theorem iniAt_mk {x : Str} {C : Addr} {qual : Str} {st : Stmt} {ps : List Str} {f : Addr} {oc : Value} {od an : Option Addr} {sl : Array (Option Value)} {kV dc pm cd ct : Value} (hm : mg x = some (.ref C)) (M : Mk K C f)
    (l : K.lookup f = some ⟨oc, od, .func (PySem.W.fnOf "__init__" qual (defArgs st) (defBody st) (defScope st) .none kV dc pm an cd ct), sl⟩) (c : PySem.W.codeIn K cd qual = true) (k : PySem.W.keepIn K (.ref f) = true)
    (hb : ∀ (kV doc pm : Value) (an : Option Addr) (cdv ct : Value) (us : List Value), us.length = ps.length → bindArgs (PySem.W.fnOf "__init__" qual (defArgs st) (defBody st) (defScope st) .none kV doc pm an cdv ct) ⟨us, []⟩ = pure (ps.zip us)) : IniAt K mg x C qual st ps :=
  ⟨f, _, fun_mk l c k, M, hm, (fun_mk (st := st) l c k).binds hb⟩
end
end B

/-! The near store's mathematics: lots of lines, one touch after another. -/
namespace Lru
def lotPut (ways : Int) (lot : List Int) (z : Int) : List Int :=
  if ((lot.erase z ++ [z]).length : Int) > ways then (lot.erase z ++ [z]).drop 1 else lot.erase z ++ [z]
def at' (lots : List (List Int)) (z : Int) : Nat := (z % (lots.length : Int)).toNat
def lotOf (lots : List (List Int)) (z : Int) : List Int := lots.getD (at' lots z) []
def touch (ways line : Int) (lots : List (List Int)) (o : Int) : List (List Int) := lots.set (at' lots (o / line)) (lotPut ways (lotOf lots (o / line)) (o / line))
def miss (line : Int) (lots : List (List Int)) (o : Int) : Bool := !decide ((o / line) ∈ lotOf lots (o / line))
def fresh (sets : Int) : List (List Int) := List.replicate sets.toNat []
/-- the lots behind the first i touches -/
def after (ways line : Int) (lots : List (List Int)) (os : List Int) (i : Nat) : List (List Int) := (os.take i).foldl (touch ways line) lots
def missAt (ways line : Int) (lots : List (List Int)) (os : List Int) (i : Nat) : Bool := miss line (after ways line lots os i) (os.getD i 0)
theorem touch_len (ways line : Int) (lots : List (List Int)) (o : Int) : (touch ways line lots o).length = lots.length := by
  unfold touch
  rw [List.length_set]
theorem after_zero (ways line : Int) (lots : List (List Int)) (os : List Int) : after ways line lots os 0 = lots := rfl
theorem take_succ {α : Type} : ∀ {l : List α} {i : Nat} {x : α}, l[i]? = some x → l.take (i + 1) = l.take i ++ [x]
  | [], i, x, h => by simp at h
  | a :: l, 0, x, h => by
    have e : a = x := Option.some.inj h
    subst e
    rfl
  | a :: l, i + 1, x, h => by
    have ih := take_succ (l := l) (i := i) (x := x) h
    show a :: l.take (i + 1) = a :: l.take i ++ [x]
    rw [ih]
    rfl
theorem after_succ {ways line : Int} {lots : List (List Int)} {os : List Int} {i : Nat} {o : Int} (h : os[i]? = some o) : after ways line lots os (i + 1) = touch ways line (after ways line lots os i) o := by
  unfold after
  rw [take_succ h, List.foldl_append]
  rfl
theorem after_all (ways line : Int) (lots : List (List Int)) (os : List Int) : after ways line lots os os.length = os.foldl (touch ways line) lots := by
  unfold after
  rw [List.take_length]
theorem fold_len (ways line : Int) : ∀ (os : List Int) (lots : List (List Int)), (os.foldl (touch ways line) lots).length = lots.length
  | [], _ => rfl
  | o :: os, lots => by
    show (os.foldl (touch ways line) (touch ways line lots o)).length = _
    rw [fold_len ways line os, touch_len]
theorem after_len (ways line : Int) (lots : List (List Int)) (os : List Int) (i : Nat) : (after ways line lots os i).length = lots.length := fold_len _ _ _ _
theorem lotPut_len {ways : Int} {lot : List Int} {z : Int} (hw : 1 ≤ ways) (h : (lot.length : Int) ≤ ways) : ((lotPut ways lot z).length : Int) ≤ ways := by
  have h1 := List.length_erase_le (a := z) (l := lot)
  unfold lotPut
  split
  · rw [List.length_drop, List.length_append]
    show ((lot.erase z).length + 1 - 1 : Nat) ≤ ways
    omega
  · omega
/-- each lot has at most ways lines -/
def Few (ways : Int) (lots : List (List Int)) : Prop := ∀ l ∈ lots, (l.length : Int) ≤ ways
theorem Few.fresh {ways sets : Int} (h : 0 ≤ ways) : Few ways (fresh sets) := fun l hl => by
  unfold Lru.fresh at hl
  have := List.eq_of_mem_replicate hl
  subst this
  exact h
theorem getD_mem {lots : List (List Int)} {i : Nat} : lots.getD i [] ∈ lots ∨ lots.getD i [] = [] := by
  rw [List.getD_eq_getElem?_getD]
  cases e : lots[i]? with
  | none => exact .inr rfl
  | some l => exact .inl (List.mem_of_getElem? e)
theorem Few.lot {ways : Int} {lots : List (List Int)} (h : Few ways lots) (hw : 0 ≤ ways) (z : Int) : ((lotOf lots z).length : Int) ≤ ways := by
  rcases getD_mem (lots := lots) (i := at' lots z) with m | e
  · exact h _ m
  · unfold lotOf; rw [e]; exact hw
theorem Few.touch {ways line : Int} {lots : List (List Int)} {o : Int} (hw : 1 ≤ ways) (h : Few ways lots) : Few ways (touch ways line lots o) := fun l hl => by
  rcases List.mem_or_eq_of_mem_set hl with m | e
  · exact h l m
  · subst e
    exact lotPut_len hw (h.lot (by omega) _)
theorem Few.fold {ways line : Int} (hw : 1 ≤ ways) : ∀ (os : List Int) {lots : List (List Int)}, Few ways lots → Few ways (os.foldl (Lru.touch ways line) lots)
  | [], _, h => h
  | o :: os, lots, h => Few.fold hw os (h.touch hw)
theorem Few.after {ways line : Int} {lots : List (List Int)} (hw : 1 ≤ ways) (h : Few ways lots) (os : List Int) (i : Nat) : Few ways (after ways line lots os i) := Few.fold hw _ h
/-- the places missed among the first i touches -/
def missedUp (ways line : Int) (lots : List (List Int)) (os : List Int) (i : Nat) : List Int := ((List.range i).filter (fun j => missAt ways line lots os j)).map (fun j : Nat => (j : Int))
theorem missedUp_yes {ways line : Int} {lots : List (List Int)} {os : List Int} {i : Nat} (h : missAt ways line lots os i = true) : missedUp ways line lots os (i + 1) = missedUp ways line lots os i ++ [(i : Int)] := by
  unfold missedUp
  rw [List.range_succ, List.filter_append, List.map_append, List.filter_cons, if_pos h] <;> rfl
theorem missedUp_no {ways line : Int} {lots : List (List Int)} {os : List Int} {i : Nat} (h : missAt ways line lots os i = false) : missedUp ways line lots os (i + 1) = missedUp ways line lots os i := by
  unfold missedUp
  rw [List.range_succ, List.filter_append, List.map_append, List.filter_cons, if_neg (by rw [h]; decide)]
  show _ ++ [] = _
  rw [List.append_nil]
theorem missedUp_len (ways line : Int) (lots : List (List Int)) (os : List Int) (i : Nat) : (missedUp ways line lots os i).length ≤ i := by
  unfold missedUp
  rw [List.length_map]
  have h := List.length_filter_le (fun j => missAt ways line lots os j) (List.range i)
  rw [List.length_range] at h
  exact h
/-- near's missed, kept -/
def missed (sets ways line : Int) (os : List Int) : List Int := missedUp ways line (fresh sets) os os.length
def kept (sets ways line : Int) (os : List Int) : List (List Int) := os.foldl (touch ways line) (fresh sets)
end Lru

/-! The near store's mathematics, second part: rows one behind the other, what is kept, touched again. -/
namespace Lru
/-- the places missed, k the first place's number -/
def missedR (ways line : Int) : List (List Int) → List Int → Int → List Int
  | _, [], _ => []
  | lots, o :: os, k => if miss line lots o = true then k :: missedR ways line (touch ways line lots o) os (k + 1) else missedR ways line (touch ways line lots o) os (k + 1)
theorem missedR_cons (ways line : Int) (lots : List (List Int)) (o : Int) (os : List Int) (k : Int) : missedR ways line lots (o :: os) k = if miss line lots o = true then k :: missedR ways line (touch ways line lots o) os (k + 1) else missedR ways line (touch ways line lots o) os (k + 1) := by rw [missedR]
theorem after_cons (ways line : Int) (lots : List (List Int)) (o : Int) (os : List Int) (i : Nat) : after ways line lots (o :: os) (i + 1) = after ways line (touch ways line lots o) os i := rfl
theorem missAt_cons (ways line : Int) (lots : List (List Int)) (o : Int) (os : List Int) (i : Nat) : missAt ways line lots (o :: os) (i + 1) = missAt ways line (touch ways line lots o) os i := rfl
theorem missAt_zero (ways line : Int) (lots : List (List Int)) (o : Int) (os : List Int) : missAt ways line lots (o :: os) 0 = miss line lots o := rfl
theorem missedUp_cons (ways line : Int) (lots : List (List Int)) (o : Int) (os : List Int) (n : Nat) :
    missedUp ways line lots (o :: os) (n + 1) = (if miss line lots o = true then [0] else []) ++ (missedUp ways line (touch ways line lots o) os n).map (fun x => x + 1) := by
  unfold missedUp
  rw [List.range_succ_eq_map, List.filter_cons, missAt_zero, List.filter_map]
  have e : ((fun j => missAt ways line lots (o :: os) j) ∘ Nat.succ) = fun j => missAt ways line (touch ways line lots o) os j := rfl
  rw [e]
  split
  · simp [List.map_map]
  · simp [List.map_map]
theorem missedR_shift (ways line : Int) : ∀ (os : List Int) (lots : List (List Int)) (k d : Int), (missedR ways line lots os k).map (fun x => x + d) = missedR ways line lots os (k + d)
  | [], _, _, _ => rfl
  | o :: os, lots, k, d => by
    unfold missedR
    have ih := missedR_shift ways line os (touch ways line lots o) (k + 1) d
    have e : k + 1 + d = k + d + 1 := by omega
    rw [e] at ih
    split
    · rw [List.map_cons, ih]
    · exact ih
theorem missedUp_R (ways line : Int) : ∀ (os : List Int) (lots : List (List Int)), missedUp ways line lots os os.length = missedR ways line lots os 0
  | [], _ => rfl
  | o :: os, lots => by
    show missedUp ways line lots (o :: os) (os.length + 1) = _
    rw [missedUp_cons, missedUp_R ways line os, missedR_shift, missedR_cons]
    split <;> simp
theorem missed_R (sets ways line : Int) (os : List Int) : missed sets ways line os = missedR ways line (fresh sets) os 0 := missedUp_R _ _ _ _
theorem missedR_append (ways line : Int) : ∀ (a b : List Int) (lots : List (List Int)) (k : Int), missedR ways line lots (a ++ b) k = missedR ways line lots a k ++ missedR ways line (a.foldl (touch ways line) lots) b (k + a.length)
  | [], b, lots, k => by simp [missedR]
  | o :: a, b, lots, k => by
    show missedR ways line lots (o :: (a ++ b)) k = _
    have ih := missedR_append ways line a b (touch ways line lots o) (k + 1)
    have e : k + 1 + (a.length : Int) = k + ((o :: a).length : Int) := by rw [List.length_cons]; omega
    rw [e] at ih
    simp only [missedR]
    split
    · rw [ih]; rfl
    · rw [ih]; rfl
theorem missedR_in (ways line : Int) : ∀ (os : List Int) (lots : List (List Int)) (k x : Int), x ∈ missedR ways line lots os k → k ≤ x ∧ x < k + os.length
  | [], _, _, _, h => nomatch h
  | o :: os, lots, k, x, h => by
    have ih := missedR_in ways line os (touch ways line lots o) (k + 1) x
    rw [List.length_cons]
    unfold missedR at h
    split at h
    · rcases List.mem_cons.mp h with rfl | h
      · omega
      · have := ih h; omega
    · have := ih h; omega
theorem missedR_len (ways line : Int) : ∀ (os : List Int) (lots : List (List Int)) (k : Int), (missedR ways line lots os k).length ≤ os.length
  | [], _, _ => Nat.le_refl _
  | o :: os, lots, k => by
    have ih := missedR_len ways line os (touch ways line lots o) (k + 1)
    unfold missedR
    split
    · rw [List.length_cons, List.length_cons]; omega
    · rw [List.length_cons]; omega
theorem kept_append (sets ways line : Int) (a b : List Int) : kept sets ways line (a ++ b) = b.foldl (touch ways line) (kept sets ways line a) := by
  unfold kept
  rw [List.foldl_append]
/-- what is missed behind the first row, counted from there -/
theorem missed_behind (sets ways line : Int) (a b : List Int) :
    ((missed sets ways line (a ++ b)).filter (fun x => decide ((a.length : Int) ≤ x))).map (fun x => x - (a.length : Int)) = missedR ways line (kept sets ways line a) b 0 := by
  rw [missed_R, missedR_append, List.filter_append, List.map_append]
  have e1 : (missedR ways line (fresh sets) a 0).filter (fun x => decide ((a.length : Int) ≤ x)) = [] := by
    rw [List.filter_eq_nil_iff]
    intro x hx
    have := missedR_in _ _ _ _ _ _ hx
    simp
    omega
  have e2 : (missedR ways line (a.foldl (touch ways line) (fresh sets)) b (0 + a.length)).filter (fun x => decide ((a.length : Int) ≤ x)) = missedR ways line (a.foldl (touch ways line) (fresh sets)) b (0 + a.length) := by
    rw [List.filter_eq_self]
    intro x hx
    have := missedR_in _ _ _ _ _ _ hx
    simp
    omega
  rw [e1, e2]
  show [] ++ _ = _
  rw [List.nil_append]
  have e3 : (fun x : Int => x - (a.length : Int)) = fun x => x + (-(a.length : Int)) := by funext x; omega
  rw [e3, missedR_shift]
  have e4 : (0 : Int) + a.length + (-(a.length : Int)) = 0 := by omega
  rw [e4]
  rfl
/-! ### the lots as they are -/
def place (n : Nat) (z : Int) : Nat := (z % (n : Int)).toNat
theorem at_place (lots : List (List Int)) (z : Int) : at' lots z = place lots.length z := rfl
theorem place_lt {n : Nat} (h : 0 < n) (z : Int) : place n z < n := by
  unfold place
  have h1 := Int.emod_nonneg z (show (n : Int) ≠ 0 by omega)
  have h2 := Int.emod_lt_of_pos z (show (0 : Int) < n by omega)
  omega
structure Inv (ways : Int) (lots : List (List Int)) : Prop where
  lot : ∀ (i : Nat) (l : List Int), lots[i]? = some l → l.Nodup ∧ (l.length : Int) ≤ ways ∧ ∀ z ∈ l, place lots.length z = i
theorem Inv.fresh {ways sets : Int} (h : 0 ≤ ways) : Inv ways (fresh sets) := ⟨fun i l e => by
  have := List.eq_of_mem_replicate (List.mem_of_getElem? e)
  subst this
  exact ⟨List.nodup_nil, h, fun z hz => nomatch hz⟩⟩
theorem lotPut_mem {ways : Int} {lot : List Int} {z x : Int} (h : x ∈ lotPut ways lot z) : x = z ∨ x ∈ lot := by
  have h2 : x ∈ lot.erase z ++ [z] := by
    unfold lotPut at h
    split at h
    · exact List.mem_of_mem_drop h
    · exact h
  rcases List.mem_append.mp h2 with h3 | h3
  · exact .inr (List.mem_of_mem_erase h3)
  · exact .inl (List.mem_singleton.mp h3)
theorem put_nodup {lot : List Int} {z : Int} (h : lot.Nodup) : (lot.erase z ++ [z]).Nodup := by
  rw [List.nodup_append]
  exact ⟨h.erase z, by simp, fun a ha b hb => by
    cases List.mem_singleton.mp hb
    intro e
    subst e
    exact (List.Nodup.not_mem_erase h) ha⟩
theorem lotPut_nodup {ways : Int} {lot : List Int} {z : Int} (h : lot.Nodup) : (lotPut ways lot z).Nodup := by
  unfold lotPut
  split
  · exact (List.drop_sublist 1 _).nodup (put_nodup h)
  · exact put_nodup h
theorem lotOf_at {lots : List (List Int)} {z : Int} (h : 0 < lots.length) : lots[at' lots z]? = some (lotOf lots z) := by
  unfold lotOf
  have := place_lt h z
  rw [at_place, List.getD_eq_getElem?_getD, List.getElem?_eq_getElem this]
  rfl
theorem Inv.touch {ways line : Int} {lots : List (List Int)} {o : Int} (hw : 1 ≤ ways) (I : Inv ways lots) (h : 0 < lots.length) : Inv ways (touch ways line lots o) := ⟨fun i l e => by
  rw [touch_len]
  unfold Lru.touch at e
  rw [List.getElem?_set] at e
  split at e
  · rename_i hj
    split at e
    · cases e
      obtain ⟨h1, h2, h3⟩ := I.lot _ _ (lotOf_at (z := o / line) h)
      refine ⟨lotPut_nodup h1, lotPut_len hw h2, fun z hz => ?_⟩
      rcases lotPut_mem hz with rfl | hz
      · rw [← hj]; rfl
      · rw [h3 z hz, hj]
    · cases e
  · exact I.lot i l e⟩
theorem Inv.fold {ways line : Int} (hw : 1 ≤ ways) : ∀ (os : List Int) {lots : List (List Int)}, Inv ways lots → 0 < lots.length → Inv ways (os.foldl (Lru.touch ways line) lots)
  | [], _, I, _ => I
  | o :: os, lots, I, h => Inv.fold hw os (I.touch hw h) (by rw [touch_len]; exact h)
/-- lines that belong to the j-th lot come to it, where there is room and none is there -/
theorem fill_lot {ways line : Int} (hl : 1 ≤ line) (j : Nat) : ∀ (zs : List Int) (lots : List (List Int)) (l0 : List Int) (k : Int), lots[j]? = some l0 → (∀ z ∈ zs, place lots.length z = j) → (l0 ++ zs).Nodup → ((l0 ++ zs).length : Int) ≤ ways →
    (zs.map fun z => z * line).foldl (touch ways line) lots = lots.set j (l0 ++ zs) ∧ (missedR ways line lots (zs.map fun z => z * line) k).length = zs.length
  | [], lots, l0, k, h, _, _, _ => by
    refine ⟨?_, rfl⟩
    rw [List.append_nil]
    show lots = lots.set j l0
    apply List.ext_getElem?
    intro i
    rw [List.getElem?_set]
    split
    · rename_i e
      subst e
      rw [h]
      have := (List.getElem?_eq_some_iff.mp h).1
      simp [this]
    · rfl
  | z :: zs, lots, l0, k, h, hp, nd, hw => by
    have hj := (List.getElem?_eq_some_iff.mp h).1
    have ez : z * line / line = z := Int.mul_ediv_cancel z (by omega)
    have hat : at' lots z = j := by rw [at_place]; exact hp z (List.mem_cons_self ..)
    have elot : lotOf lots z = l0 := by
      unfold lotOf
      rw [hat, List.getD_eq_getElem?_getD, h]
      rfl
    have hnz : z ∉ l0 := by
      have := (List.nodup_append.mp nd).2.2
      intro hz
      exact this z hz z (List.mem_cons_self ..) rfl
    have hput : lotPut ways l0 z = l0 ++ [z] := by
      unfold lotPut
      rw [List.erase_of_not_mem hnz, if_neg]
      rw [List.length_append] at hw ⊢
      rw [List.length_cons] at hw
      show ¬ (((l0.length + 1 : Nat) : Int) > ways)
      omega
    have htouch : touch ways line lots (z * line) = lots.set j (l0 ++ [z]) := by
      unfold touch
      rw [ez, hat, elot, hput]
    have hmiss : miss line lots (z * line) = true := by
      unfold miss
      rw [ez, elot, decide_eq_false hnz]
      rfl
    have h2 : (lots.set j (l0 ++ [z]))[j]? = some (l0 ++ [z]) := by
      rw [List.getElem?_set, if_pos rfl, if_pos hj]
    have ih := fill_lot hl j zs (lots.set j (l0 ++ [z])) (l0 ++ [z]) (k + 1) h2 (fun x hx => by rw [List.length_set]; exact hp x (List.mem_cons_of_mem _ hx)) (by simpa using nd) (by simpa using hw)
    rw [List.set_set] at ih
    refine ⟨?_, ?_⟩
    · show (zs.map fun z => z * line).foldl (touch ways line) (touch ways line lots (z * line)) = _
      rw [htouch, ih.1]
      simp
    · show (missedR ways line lots (z * line :: zs.map fun z => z * line) k).length = _
      unfold missedR
      rw [hmiss, if_pos rfl, htouch, List.length_cons, List.length_cons, ih.2]
def warm (line : Int) (lots : List (List Int)) : List Int := (lots.map fun l => l.map fun z => z * line).flatten
theorem fill_all {ways line : Int} (hl : 1 ≤ line) {n : Nat} : ∀ (rest done : List (List Int)) (k : Int), done.length + rest.length = n →
    (∀ (i : Nat) (l : List Int), rest[i]? = some l → l.Nodup ∧ (l.length : Int) ≤ ways ∧ ∀ z ∈ l, place n z = done.length + i) →
    (warm line rest).foldl (touch ways line) (done ++ List.replicate rest.length []) = done ++ rest ∧ (missedR ways line (done ++ List.replicate rest.length []) (warm line rest) k).length = (warm line rest).length
  | [], done, k, _, _ => by
    refine ⟨rfl, rfl⟩
  | l :: rest, done, k, hn, h => by
    have hlen : (done ++ List.replicate (l :: rest).length ([] : List Int)).length = n := by
      rw [List.length_append, List.length_replicate]
      exact hn
    obtain ⟨h1, h2, h3⟩ := h 0 l rfl
    have hat : (done ++ List.replicate (l :: rest).length ([] : List Int))[done.length]? = some [] := by
      rw [List.getElem?_append_right (Nat.le_refl _), Nat.sub_self]
      rfl
    have f := fill_lot (ways := ways) hl done.length l (done ++ List.replicate (l :: rest).length []) [] k hat (fun z hz => by rw [hlen]; have := h3 z hz; omega) (by simpa using h1) (by simpa using h2)
    have eset : (done ++ List.replicate (l :: rest).length ([] : List Int)).set done.length ([] ++ l) = (done ++ [l]) ++ List.replicate rest.length [] := by
      rw [List.set_append_right _ _ (Nat.le_refl _), Nat.sub_self, List.length_cons, List.replicate_succ, List.set_cons_zero]
      simp
    rw [eset] at f
    have ih := fill_all hl (n := n) rest (done ++ [l]) (k + (l.map fun z => z * line).length) (by rw [List.length_append]; rw [List.length_cons] at hn; show done.length + 1 + _ = _; omega) (fun i x hx => by
      obtain ⟨a, b, c⟩ := h (i + 1) x (by simpa using hx)
      refine ⟨a, b, fun z hz => ?_⟩
      rw [c z hz, List.length_append]
      show _ = done.length + 1 + i
      omega)
    have ew : warm line (l :: rest) = (l.map fun z => z * line) ++ warm line rest := rfl
    refine ⟨?_, ?_⟩
    · rw [ew, List.foldl_append, f.1, ih.1]
      simp
    · rw [ew, missedR_append, List.length_append, f.1, f.2, ih.2, List.length_append, List.length_map]
theorem pos_fresh {sets : Int} (h : 1 ≤ sets) : 0 < (fresh sets).length := by
  unfold fresh
  rw [List.length_replicate]
  omega
/-- k54: the warm touches bring a fresh store to what was kept, and each of them is missed -/
theorem warm_ok {sets ways line : Int} (s1 : 1 ≤ sets) (w1 : 1 ≤ ways) (l1 : 1 ≤ line) (os : List Int) :
    kept sets ways line (warm line (kept sets ways line os)) = kept sets ways line os ∧ (missed sets ways line (warm line (kept sets ways line os))).length = (warm line (kept sets ways line os)).length := by
  have I : Inv ways (kept sets ways line os) := Inv.fold w1 os (Inv.fresh (by omega)) (pos_fresh s1)
  have hl : (kept sets ways line os).length = (fresh sets).length := fold_len _ _ _ _
  have f := fill_all (ways := ways) l1 (n := (kept sets ways line os).length) (kept sets ways line os) [] 0 (by simp) (fun i l e => by
    obtain ⟨a, b, c⟩ := I.lot i l e
    exact ⟨a, b, fun z hz => by rw [c z hz]; simp⟩)
  have ef : ([] : List (List Int)) ++ List.replicate (kept sets ways line os).length [] = fresh sets := by
    rw [hl]
    unfold fresh
    simp
  rw [ef] at f
  refine ⟨?_, ?_⟩
  · exact f.1
  · rw [missed_R]
    exact f.2
end Lru

/-! The near store's mathematics, third part: stores that hold more, touches twice, touches again, lines far apart. -/
namespace Lru
/-! ### a lot that holds at least what another one holds, in the same order at the end -/
theorem suffix_put {w1 w2 : Int} {a b : List Int} {z : Int} (h : a <:+ b) (nb : b.Nodup) (hw : w1 ≤ w2) (hb : (b.length : Int) ≤ w2) : lotPut w1 a z <:+ lotPut w2 b z := by
  obtain ⟨p, rfl⟩ := h
  have hnd := List.nodup_append.mp nb
  by_cases hz : z ∈ a
  · have hp : z ∉ p := fun q => hnd.2.2 z q z hz rfl
    have e : (p ++ a).erase z = p ++ a.erase z := List.erase_append_right _ hp
    have hla : (a.erase z).length + 1 = a.length := by
      have := List.length_erase_of_mem hz
      have h1 := List.length_pos_of_mem hz
      omega
    have hl2 : ¬ ((((p ++ a).erase z ++ [z]).length : Nat) : Int) > w2 := by
      rw [e]
      simp only [List.length_append, List.length_singleton] at hb ⊢
      omega
    have eb : lotPut w2 (p ++ a) z = p ++ (a.erase z ++ [z]) := by
      unfold lotPut
      rw [if_neg hl2, e, List.append_assoc]
    rw [eb]
    unfold lotPut
    split
    · exact (List.drop_suffix 1 _).trans (List.suffix_append _ _)
    · exact List.suffix_append _ _
  · have ea : a.erase z = a := List.erase_of_not_mem hz
    have hbe : ∃ p', (p ++ a).erase z = p' ++ a ∧ p'.length ≤ p.length := by
      by_cases hp : z ∈ p
      · exact ⟨p.erase z, List.erase_append_left _ hp, List.length_erase_le⟩
      · refine ⟨p, ?_, Nat.le_refl _⟩
        rw [List.erase_of_not_mem]
        intro q
        rcases List.mem_append.mp q with q | q
        · exact hp q
        · exact hz q
    obtain ⟨p', ep, lp⟩ := hbe
    unfold lotPut
    rw [ea, ep]
    have assoc : p' ++ a ++ [z] = p' ++ (a ++ [z]) := List.append_assoc _ _ _
    split
    · rename_i h1
      split
      · cases p' with
        | nil => exact List.suffix_refl _
        | cons x r =>
          refine (List.drop_suffix 1 _).trans ?_
          show a ++ [z] <:+ r ++ a ++ [z]
          rw [List.append_assoc]
          exact List.suffix_append _ _
      · rw [assoc]
        exact (List.drop_suffix 1 _).trans (List.suffix_append _ _)
    · rename_i h1
      split
      · rename_i h2
        cases p' with
        | nil =>
          exfalso
          simp only [List.nil_append, List.length_append, List.length_singleton] at h1 h2
          omega
        | cons x r =>
          show a ++ [z] <:+ r ++ a ++ [z]
          rw [List.append_assoc]
          exact List.suffix_append _ _
      · rw [assoc]
        exact List.suffix_append _ _
/-- each lot of the first is a suffix of the second's -/
def Sub (x y : List (List Int)) : Prop := x.length = y.length ∧ ∀ (i : Nat) (a b : List Int), x[i]? = some a → y[i]? = some b → a <:+ b
theorem Sub.lot {x y : List (List Int)} (h : Sub x y) (z : Int) (hx : 0 < x.length) : lotOf x z <:+ lotOf y z := by
  have h1 := lotOf_at (z := z) hx
  have h2 := lotOf_at (lots := y) (z := z) (by rw [← h.1]; exact hx)
  have e : at' x z = at' y z := by rw [at_place, at_place, h.1]
  rw [e] at h1
  exact h.2 _ _ _ h1 h2
theorem Sub.touch {w1 w2 line : Int} {x y : List (List Int)} {o : Int} (h : Sub x y) (hw : w1 ≤ w2) (I : Inv w2 y) (hx : 0 < x.length) : Sub (touch w1 line x o) (touch w2 line y o) := by
  refine ⟨by rw [touch_len, touch_len]; exact h.1, fun i a b ha hb => ?_⟩
  have hy : 0 < y.length := by rw [← h.1]; exact hx
  have e : at' x (o / line) = at' y (o / line) := by rw [at_place, at_place, h.1]
  obtain ⟨n1, n2, _⟩ := I.lot _ _ (lotOf_at (z := o / line) hy)
  unfold Lru.touch at ha hb
  rw [List.getElem?_set] at ha hb
  rw [e] at ha
  split at ha
  · rename_i q
    rw [if_pos q] at hb
    split at ha
    · split at hb
      · cases ha
        cases hb
        exact suffix_put (h.lot _ hx) n1 hw n2
      · cases hb
    · cases ha
  · rename_i q
    rw [if_neg q] at hb
    exact h.2 i a b ha hb
theorem Sub.miss {line : Int} {x y : List (List Int)} {o : Int} (h : Sub x y) (hx : 0 < x.length) (m : miss line y o = true) : miss line x o = true := by
  unfold Lru.miss at m ⊢
  simp only [Bool.not_eq_true', decide_eq_false_iff_not] at m ⊢
  exact fun z => m ((h.lot _ hx).subset z)
/-- the second, which holds more, misses no more, and only what the first misses -/
theorem Sub.missed {w1 w2 line : Int} (hw1 : 1 ≤ w1) (hw : w1 ≤ w2) : ∀ (os : List Int) (x y : List (List Int)) (k : Int), Sub x y → Inv w2 y → 0 < x.length →
    (missedR w2 line y os k).Sublist (missedR w1 line x os k)
  | [], _, _, _, _, _, _ => List.Sublist.refl _
  | o :: os, x, y, k, h, I, hx => by
    have hy : 0 < y.length := by rw [← h.1]; exact hx
    have ih := Sub.missed (line := line) hw1 hw os (Lru.touch w1 line x o) (Lru.touch w2 line y o) (k + 1) (h.touch hw I hx) (I.touch (by omega) hy) (by rw [touch_len]; exact hx)
    rw [missedR_cons, missedR_cons]
    by_cases m : Lru.miss line y o = true
    · rw [if_pos m, if_pos (h.miss hx m)]
      exact ih.cons_cons k
    · rw [if_neg m]
      split
      · exact ih.cons k
      · exact ih
theorem Sub.fresh (sets : Int) {y : List (List Int)} (h : y.length = (fresh sets).length) : Sub (fresh sets) y := ⟨h.symm, fun i a b ha _ => by
  have := List.eq_of_mem_replicate (List.mem_of_getElem? ha)
  subst this
  exact List.nil_suffix⟩
theorem Sub.refl (x : List (List Int)) : Sub x x := ⟨rfl, fun i a b ha hb => by
  rw [ha] at hb
  cases hb
  exact List.suffix_refl _⟩
/-- rows one behind the other miss at most what both miss -/
theorem both_le {sets ways line : Int} (s1 : 1 ≤ sets) (w1 : 1 ≤ ways) (a b : List Int) :
    (missed sets ways line a).length ≤ (missed sets ways line (a ++ b)).length ∧ (missed sets ways line (a ++ b)).length ≤ (missed sets ways line a).length + (missed sets ways line b).length := by
  rw [missed_R, missed_R, missed_R, missedR_append, List.length_append]
  refine ⟨Nat.le_add_right _ _, Nat.add_le_add_left ?_ _⟩
  have hp := pos_fresh s1
  have I : Inv ways (a.foldl (touch ways line) (fresh sets)) := Inv.fold w1 a (Inv.fresh (by omega)) hp
  have h := Sub.missed (line := line) w1 (Int.le_refl ways) b (fresh sets) _ 0 (Sub.fresh sets (fold_len ways line a (fresh sets))) I hp
  have e := missedR_shift ways line b (a.foldl (touch ways line) (fresh sets)) 0 (0 + a.length)
  have e2 := congrArg List.length e
  rw [List.length_map] at e2
  have e3 : (0 : Int) + (0 + (a.length : Int)) = 0 + a.length := by omega
  rw [e3] at e2
  rw [← e2]
  exact h.length_le
/-- the first row's misses are the beginning -/
theorem missed_take {sets ways line : Int} (a b : List Int) : (missed sets ways line (a ++ b)).take (missed sets ways line a).length = missed sets ways line a := by
  rw [missed_R, missed_R, missedR_append, List.take_left']
  rfl
/-- a way more -/
theorem more_ways {sets ways line : Int} (s1 : 1 ≤ sets) (w1 : 1 ≤ ways) (a : List Int) : (missed sets (ways + 1) line a).Sublist (missed sets ways line a) := by
  rw [missed_R, missed_R]
  exact Sub.missed w1 (by omega) a (fresh sets) (fresh sets) 0 (Sub.refl _) (Inv.fresh (by omega)) (pos_fresh s1)
/-! ### touched twice at once -/
theorem lotPut_last {ways : Int} {lot : List Int} {z : Int} (w1 : 1 ≤ ways) : ∃ l, lotPut ways lot z = l ++ [z] := by
  unfold lotPut
  split
  · rename_i h
    cases e : lot.erase z with
    | nil =>
      rw [e] at h
      simp at h
      omega
    | cons x r => exact ⟨r, rfl⟩
  · exact ⟨_, rfl⟩
theorem put_again {ways : Int} {l : List Int} {z : Int} (nd : (l ++ [z]).Nodup) (h : ((l ++ [z]).length : Int) ≤ ways) : lotPut ways (l ++ [z]) z = l ++ [z] := by
  have hz : z ∉ l := fun q => (List.nodup_append.mp nd).2.2 z q z (List.mem_singleton.mpr rfl) rfl
  have e : (l ++ [z]).erase z = l := by
    rw [List.erase_append_right _ hz]
    simp
  unfold lotPut
  rw [e, if_neg (by omega)]
theorem set_same {lots : List (List Int)} {j : Nat} {l : List Int} (h : lots[j]? = some l) : lots.set j l = lots := by
  apply List.ext_getElem?
  intro i
  rw [List.getElem?_set]
  split
  · rename_i e
    subst e
    have := (List.getElem?_eq_some_iff.mp h).1
    rw [if_pos this, h]
  · rfl
theorem at_touch (ways line : Int) (lots : List (List Int)) (o z : Int) : at' (touch ways line lots o) z = at' lots z := by
  rw [at_place, at_place, touch_len]
theorem lot_touch {ways line : Int} {lots : List (List Int)} {o : Int} (h : 0 < lots.length) : (touch ways line lots o)[at' lots (o / line)]? = some (lotPut ways (lotOf lots (o / line)) (o / line)) := by
  unfold touch
  rw [List.getElem?_set, if_pos rfl, if_pos (show at' lots (o / line) < lots.length from place_lt h _)]
theorem lotOf_touch {ways line : Int} {lots : List (List Int)} {o : Int} (h : 0 < lots.length) : lotOf (touch ways line lots o) (o / line) = lotPut ways (lotOf lots (o / line)) (o / line) := by
  have e := lotOf_at (lots := touch ways line lots o) (z := o / line) (by rw [touch_len]; exact h)
  rw [at_touch, lot_touch h] at e
  exact (Option.some.inj e).symm
theorem touch_again {ways line : Int} {lots : List (List Int)} {o : Int} (w1 : 1 ≤ ways) (I : Inv ways lots) (h : 0 < lots.length) :
    touch ways line (touch ways line lots o) o = touch ways line lots o ∧ miss line (touch ways line lots o) o = false := by
  obtain ⟨n1, n2, _⟩ := I.lot _ _ (lotOf_at (z := o / line) h)
  obtain ⟨l, hl⟩ := lotPut_last (ways := ways) (lot := lotOf lots (o / line)) (z := o / line) w1
  have hnd : (lotPut ways (lotOf lots (o / line)) (o / line)).Nodup := lotPut_nodup n1
  have hlen := lotPut_len (z := o / line) w1 n2
  refine ⟨?_, ?_⟩
  · have e : touch ways line (touch ways line lots o) o = (touch ways line lots o).set (at' (touch ways line lots o) (o / line)) (lotPut ways (lotOf (touch ways line lots o) (o / line)) (o / line)) := rfl
    rw [e, lotOf_touch h, at_touch]
    rw [hl] at hnd hlen ⊢
    rw [put_again hnd hlen]
    refine set_same ?_
    rw [lot_touch h, hl]
  · unfold miss
    rw [lotOf_touch h, hl]
    simp
def twice (os : List Int) : List Int := (os.map fun o => [o, o]).flatten
theorem twice_missed {ways line : Int} (w1 : 1 ≤ ways) : ∀ (os : List Int) (lots : List (List Int)) (k k' : Int), Inv ways lots → 0 < lots.length → (missedR ways line lots (twice os) k).length = (missedR ways line lots os k').length
  | [], _, _, _, _, _ => rfl
  | o :: os, lots, k, k', I, h => by
    obtain ⟨t1, t2⟩ := touch_again (line := line) (o := o) w1 I h
    have ih := twice_missed (line := line) w1 os (touch ways line lots o) (k + 1 + 1) (k' + 1) (I.touch w1 h) (by rw [touch_len]; exact h)
    have e : twice (o :: os) = o :: o :: twice os := rfl
    have f : (false = true) = False := by simp
    rw [e, missedR_cons, missedR_cons, missedR_cons, t2, t1, if_neg Bool.false_ne_true]
    split
    · rw [List.length_cons, List.length_cons, ih]
    · exact ih
/-! ### what is kept is touched without a miss -/
theorem again_lot {ways line : Int} (hl : 1 ≤ line) (j : Nat) : ∀ (zs done : List Int) (lots : List (List Int)) (k : Int), lots[j]? = some (zs ++ done) → (∀ z ∈ zs, place lots.length z = j) → (zs ++ done).Nodup → ((zs ++ done).length : Int) ≤ ways →
    (zs.map fun z => z * line).foldl (touch ways line) lots = lots.set j (done ++ zs) ∧ missedR ways line lots (zs.map fun z => z * line) k = []
  | [], done, lots, k, h, _, _, _ => by
    refine ⟨?_, rfl⟩
    rw [List.append_nil]
    exact (set_same h).symm
  | z :: zs, done, lots, k, h, hp, nd, hw => by
    have hj := (List.getElem?_eq_some_iff.mp h).1
    have ez : z * line / line = z := Int.mul_ediv_cancel z (by omega)
    have hat : at' lots z = j := by rw [at_place]; exact hp z (List.mem_cons_self ..)
    have elot : lotOf lots z = z :: (zs ++ done) := by
      unfold lotOf
      rw [hat, List.getD_eq_getElem?_getD, h]
      rfl
    have nd' : (z :: (zs ++ done)).Nodup := nd
    have hnz : z ∉ zs ++ done := (List.nodup_cons.mp nd').1
    have hput : lotPut ways (z :: (zs ++ done)) z = zs ++ (done ++ [z]) := by
      unfold lotPut
      rw [List.erase_cons_head, if_neg, List.append_assoc]
      simp only [List.cons_append, List.length_cons, List.length_append, List.length_nil] at hw ⊢
      omega
    have htouch : touch ways line lots (z * line) = lots.set j (zs ++ (done ++ [z])) := by
      unfold touch
      rw [ez, hat, elot, hput]
    have hmiss : miss line lots (z * line) = false := by
      unfold miss
      rw [ez, elot]
      simp
    have h2 : (lots.set j (zs ++ (done ++ [z])))[j]? = some (zs ++ (done ++ [z])) := by
      rw [List.getElem?_set, if_pos rfl, if_pos hj]
    have nd2 : (zs ++ (done ++ [z])).Nodup := by
      rw [← List.append_assoc, List.nodup_append]
      exact ⟨(List.nodup_cons.mp nd').2, by simp, fun a ha b hb => by
        cases List.mem_singleton.mp hb
        intro e
        subst e
        exact hnz ha⟩
    have ih := again_lot hl j zs (done ++ [z]) (lots.set j (zs ++ (done ++ [z]))) (k + 1) h2 (fun x hx => by rw [List.length_set]; exact hp x (List.mem_cons_of_mem _ hx)) nd2 (by
      simp only [List.cons_append, List.length_cons, List.length_append, List.length_nil] at hw ⊢
      omega)
    rw [List.set_set] at ih
    refine ⟨?_, ?_⟩
    · show (zs.map fun z => z * line).foldl (touch ways line) (touch ways line lots (z * line)) = _
      rw [htouch, ih.1]
      simp
    · show missedR ways line lots (z * line :: zs.map fun z => z * line) k = _
      rw [missedR_cons, hmiss, if_neg Bool.false_ne_true, htouch, ih.2]
theorem again_all {ways line : Int} (hl : 1 ≤ line) {lots : List (List Int)} (I : Inv ways lots) : ∀ (rest : List (List Int)) (i : Nat) (k : Int), lots.drop i = rest →
    (warm line rest).foldl (touch ways line) lots = lots ∧ missedR ways line lots (warm line rest) k = []
  | [], _, _, _ => ⟨rfl, rfl⟩
  | l :: rest, i, k, h => by
    have hi : lots[i]? = some l := by
      have e := congrArg List.head? h
      rw [List.head?_drop] at e
      exact e
    obtain ⟨n1, n2, n3⟩ := I.lot i l hi
    have f := again_lot (ways := ways) hl i l [] lots k (by simpa using hi) n3 (by simpa using n1) (by simpa using n2)
    rw [List.nil_append, set_same hi] at f
    have hd : lots.drop (i + 1) = rest := by
      have e := congrArg List.tail h
      rw [List.tail_drop] at e
      exact e
    have ih := again_all hl I rest (i + 1) (k + (l.map fun z => z * line).length) hd
    have ew : warm line (l :: rest) = (l.map fun z => z * line) ++ warm line rest := rfl
    refine ⟨?_, ?_⟩
    · rw [ew, List.foldl_append, f.1, ih.1]
    · rw [ew, missedR_append, f.1, f.2, ih.2]
      rfl
theorem again_ok {sets ways line : Int} (s1 : 1 ≤ sets) (w1 : 1 ≤ ways) (l1 : 1 ≤ line) (os : List Int) :
    missed sets ways line (os ++ warm line (kept sets ways line os)) = missed sets ways line os ∧ kept sets ways line (os ++ warm line (kept sets ways line os)) = kept sets ways line os := by
  have I : Inv ways (kept sets ways line os) := Inv.fold w1 os (Inv.fresh (by omega)) (pos_fresh s1)
  refine ⟨?_, ?_⟩
  · rw [missed_R, missed_R, missedR_append]
    have f := again_all (ways := ways) l1 I (kept sets ways line os) 0 (0 + os.length) (List.drop_zero)
    have e : os.foldl (touch ways line) (fresh sets) = kept sets ways line os := rfl
    rw [e, f.2, List.append_nil]
  · rw [kept_append]
    exact (again_all (ways := ways) l1 I (kept sets ways line os) 0 0 (List.drop_zero)).1
/-! ### lines far apart by whole rounds of sets -/
def shiftL (d : Int) (lots : List (List Int)) : List (List Int) := lots.map fun l => l.map fun z => z + d
theorem erase_shift (d z : Int) : ∀ l : List Int, (l.map fun x => x + d).erase (z + d) = (l.erase z).map fun x => x + d
  | [] => rfl
  | x :: l => by
    have ih := erase_shift d z l
    rw [List.map_cons, List.erase_cons, List.erase_cons]
    by_cases h : x = z
    · subst h
      simp
    · have h1 : (x == z) = false := by simpa using h
      have h2 : (x + d == z + d) = false := by
        simp
        omega
      rw [h1, h2]
      simp only [Bool.false_eq_true, if_false]
      rw [ih, List.map_cons]
theorem put_shift (ways d z : Int) (l : List Int) : lotPut ways (l.map fun x => x + d) (z + d) = (lotPut ways l z).map fun x => x + d := by
  unfold lotPut
  rw [erase_shift]
  simp only [List.length_append, List.length_map, List.length_singleton]
  split
  · rw [List.map_drop, List.map_append]
    rfl
  · rw [List.map_append]
    rfl
theorem place_shift {n : Nat} (z c : Int) : place n (z + c * n) = place n z := by
  unfold place
  rw [Int.add_mul_emod_self_right]
theorem mem_shift (d z : Int) (l : List Int) : (z + d) ∈ (l.map fun x => x + d) ↔ z ∈ l := by
  rw [List.mem_map]
  refine ⟨fun ⟨x, hx, e⟩ => ?_, fun h => ⟨z, h, rfl⟩⟩
  have : x = z := by omega
  subst this
  exact hx
theorem lot_shift {lots : List (List Int)} {n : Nat} (hn : lots.length = n) (z c : Int) : lotOf (shiftL (c * n) lots) (z + c * n) = (lotOf lots z).map fun x => x + c * n := by
  have hl : (shiftL (c * n) lots).length = n := by
    unfold shiftL
    rw [List.length_map]
    exact hn
  unfold lotOf
  rw [at_place, at_place, hl, hn, place_shift, List.getD_eq_getElem?_getD, List.getD_eq_getElem?_getD]
  unfold shiftL
  rw [List.getElem?_map]
  cases lots[place n z]? with
  | none => rfl
  | some l => rfl
theorem touch_shift {ways line : Int} {lots : List (List Int)} {n : Nat} (hl : 1 ≤ line) (hn : lots.length = n) (o c : Int) :
    touch ways line (shiftL (c * n) lots) (o + c * n * line) = shiftL (c * n) (touch ways line lots o) ∧ miss line (shiftL (c * n) lots) (o + c * n * line) = miss line lots o := by
  have eo : (o + c * n * line) / line = o / line + c * n := Int.add_mul_ediv_right _ _ (by omega)
  have hln : (shiftL (c * n) lots).length = n := by
    unfold shiftL
    rw [List.length_map]
    exact hn
  refine ⟨?_, ?_⟩
  · unfold touch
    rw [eo, lot_shift hn, put_shift, at_place, at_place, hln, hn, place_shift]
    unfold shiftL
    rw [List.map_set]
  · unfold miss
    rw [eo, lot_shift hn]
    congr 1
    rw [decide_eq_decide]
    exact mem_shift _ _ _
theorem missed_shift {ways line : Int} (hl : 1 ≤ line) {n : Nat} (c : Int) : ∀ (os : List Int) (lots : List (List Int)) (k : Int), lots.length = n → missedR ways line (shiftL (c * n) lots) (os.map fun o => o + c * n * line) k = missedR ways line lots os k
  | [], _, _, _ => rfl
  | o :: os, lots, k, hn => by
    obtain ⟨t1, t2⟩ := touch_shift (ways := ways) hl hn o c
    have ih := missed_shift (ways := ways) hl (n := n) c os (touch ways line lots o) (k + 1) ((touch_len ways line lots o).trans hn)
    rw [List.map_cons, missedR_cons, missedR_cons, t2, t1, ih]
theorem far_apart {sets ways line : Int} (s1 : 1 ≤ sets) (l1 : 1 ≤ line) (os : List Int) : missed sets ways line (os.map fun o => o + 5 * sets * line) = missed sets ways line os := by
  have hn : (fresh sets).length = sets.toNat := by
    unfold fresh
    rw [List.length_replicate]
  have e : ((sets.toNat : Nat) : Int) = sets := by omega
  have h := missed_shift (ways := ways) l1 (n := sets.toNat) 5 os (fresh sets) 0 hn
  have ef : shiftL (5 * ((sets.toNat : Nat) : Int)) (fresh sets) = fresh sets := by
    unfold shiftL fresh
    rw [List.map_replicate]
    rfl
  rw [ef, e] at h
  rw [missed_R, missed_R]
  exact h
/-! ### each line that is touched is missed once at least -/
theorem miss_new {ways line : Int} : ∀ (os : List Int) (lots : List (List Int)) (k : Int) (seen : List Int), (∀ l ∈ lots, ∀ z ∈ l, z ∈ seen) →
    ∃ new : List Int, new.Nodup ∧ (∀ z ∈ new, z ∉ seen) ∧ (∀ o ∈ os, (o / line) ∈ seen ∨ (o / line) ∈ new) ∧ (∀ z ∈ new, ∃ o ∈ os, z = o / line) ∧ new.length ≤ (missedR ways line lots os k).length
  | [], _, _, _, _ => ⟨[], List.nodup_nil, (fun _ h => nomatch h), (fun _ h => nomatch h), (fun _ h => nomatch h), Nat.le_refl _⟩
  | o :: os, lots, k, seen, h => by
    have hst : ∀ l ∈ touch ways line lots o, ∀ z ∈ l, z ∈ (o / line) :: seen := fun l hl z hz => by
      unfold touch at hl
      rcases List.mem_or_eq_of_mem_set hl with m | e
      · exact List.mem_cons_of_mem _ (h l m z hz)
      · subst e
        rcases lotPut_mem hz with e2 | hz
        · rw [e2]; exact List.mem_cons_self ..
        · rcases getD_mem (lots := lots) (i := at' lots (o / line)) with m | e
          · exact List.mem_cons_of_mem _ (h _ m z hz)
          · unfold lotOf at hz
            rw [e] at hz
            exact nomatch hz
    obtain ⟨new, n1, n2, n3, n4, n5⟩ := miss_new (ways := ways) (line := line) os (touch ways line lots o) (k + 1) ((o / line) :: seen) hst
    by_cases hs : (o / line) ∈ seen
    · refine ⟨new, n1, fun z hz q => n2 z hz (List.mem_cons_of_mem _ q), fun x hx => ?_, fun z hz => ?_, ?_⟩
      · rcases List.mem_cons.mp hx with rfl | hx
        · exact .inl hs
        · rcases n3 x hx with q | q
          · rcases List.mem_cons.mp q with q | q
            · rw [q]; exact .inl hs
            · exact .inl q
          · exact .inr q
      · obtain ⟨x, hx, e⟩ := n4 z hz
        exact ⟨x, List.mem_cons_of_mem _ hx, e⟩
      · rw [missedR_cons]
        split
        · rw [List.length_cons]; omega
        · exact n5
    · have hm : miss line lots o = true := by
        unfold miss
        simp only [Bool.not_eq_true', decide_eq_false_iff_not]
        intro q
        rcases getD_mem (lots := lots) (i := at' lots (o / line)) with m | e
        · exact hs (h _ m _ q)
        · unfold lotOf at q
          rw [e] at q
          exact nomatch q
      refine ⟨(o / line) :: new, List.nodup_cons.mpr ⟨fun q => n2 _ q (List.mem_cons_self ..), n1⟩, fun z hz => ?_, fun x hx => ?_, fun z hz => ?_, ?_⟩
      · rcases List.mem_cons.mp hz with rfl | hz
        · exact hs
        · exact fun q => n2 z hz (List.mem_cons_of_mem _ q)
      · rcases List.mem_cons.mp hx with rfl | hx
        · exact .inr (List.mem_cons_self ..)
        · rcases n3 x hx with q | q
          · rcases List.mem_cons.mp q with q | q
            · rw [q]; exact .inr (List.mem_cons_self ..)
            · exact .inl q
          · exact .inr (List.mem_cons_of_mem _ q)
      · rcases List.mem_cons.mp hz with rfl | hz
        · exact ⟨o, List.mem_cons_self .., rfl⟩
        · obtain ⟨x, hx, e⟩ := n4 z hz
          exact ⟨x, List.mem_cons_of_mem _ hx, e⟩
      · rw [missedR_cons, if_pos hm, List.length_cons, List.length_cons]
        omega
theorem nodup_le : ∀ (a b : List Int), a.Nodup → (∀ x ∈ a, x ∈ b) → a.length ≤ b.length
  | [], _, _, _ => Nat.zero_le _
  | x :: a, b, h, s => by
    have hx := s x (List.mem_cons_self ..)
    have ih := nodup_le a (b.erase x) (List.nodup_cons.mp h).2 fun y hy => by
      have hy' := s y (List.mem_cons_of_mem _ hy)
      have ne : y ≠ x := fun e => (List.nodup_cons.mp h).1 (e ▸ hy)
      exact (List.mem_erase_of_ne ne).mpr hy'
    have := List.length_erase_of_mem hx
    have h1 := List.length_pos_of_mem hx
    rw [List.length_cons]
    omega
/-- a list without two alike, each of it a touched line, is no longer than the misses -/
theorem lines_le {sets ways line : Int} (os m : List Int) (nd : m.Nodup) (hm : ∀ z ∈ m, ∃ o ∈ os, z = o / line) : m.length ≤ (missed sets ways line os).length := by
  obtain ⟨new, n1, _, n3, _, n5⟩ := miss_new (ways := ways) (line := line) os (fresh sets) 0 [] (fun l hl z hz => by
    have := List.eq_of_mem_replicate hl
    subst this
    exact nomatch hz)
  rw [missed_R]
  refine Nat.le_trans (nodup_le m new nd fun z hz => ?_) n5
  obtain ⟨o, ho, e⟩ := hm z hz
  rcases n3 o ho with q | q
  · exact nomatch q
  · rw [e]; exact q
theorem missed_len (sets ways line : Int) (os : List Int) : (missed sets ways line os).length ≤ os.length := by
  rw [missed_R]
  exact missedR_len _ _ _ _ _
end Lru

namespace B
open PySem PySem.Spec PyProof.Rows L2
def topS (i : Nat) : Stmt := PySem.Challenge.pw_nearlay_k53_whole_near_stores.main.body.getD i (.Pass ⟨0, 0, 0, 0⟩)
end B


namespace B
open PySem PySem.Spec PyProof.Rows L2
abbrev s_is_number : Stmt := (topS 5)
theorem sc_is_number : FnScope ["thing"] ["thing"] (defScope s_is_number) := ⟨rfl, rfl, rfl, by decide +kernel, rfl, by decide +kernel, by decide +kernel⟩
abbrev s_is_from : Stmt := (topS 6)
theorem sc_is_from : FnScope ["thing", "least", "most"] ["thing", "least", "most"] (defScope s_is_from) := ⟨rfl, rfl, rfl, by decide +kernel, rfl, by decide +kernel, by decide +kernel⟩
abbrev s_is_near : Stmt := (topS 11)
theorem sc_is_near : FnScope ["thing", "one", "most"] ["thing"] (defScope s_is_near) := ⟨rfl, rfl, rfl, by decide +kernel, rfl, by decide +kernel, by decide +kernel⟩
abbrev s_need_near : Stmt := (topS 12)
theorem sc_need_near : FnScope ["thing"] ["thing"] (defScope s_need_near) := ⟨rfl, rfl, rfl, by decide +kernel, rfl, by decide +kernel, by decide +kernel⟩
abbrev s_need_touches : Stmt := (topS 13)
theorem sc_need_touches : FnScope ["thing", "octet"] ["thing"] (defScope s_need_touches) := ⟨rfl, rfl, rfl, by decide +kernel, rfl, by decide +kernel, by decide +kernel⟩
abbrev s_Store_init : Stmt := (inClass (topS 14) 0)
theorem sc_Store_init : FnScope ["self", "near", "sets", "number"] ["self", "near"] (defScope s_Store_init) := ⟨rfl, rfl, rfl, by decide +kernel, rfl, by decide +kernel, by decide +kernel⟩
abbrev s_Store_touch : Stmt := (inClass (topS 14) 1)
theorem sc_Store_touch : FnScope ["self", "octet", "line", "lot", "missing"] ["self", "octet"] (defScope s_Store_touch) := ⟨rfl, rfl, rfl, by decide +kernel, rfl, by decide +kernel, by decide +kernel⟩
abbrev s_missed_by : Stmt := (topS 15)
theorem sc_missed_by : FnScope ["near", "touches", "store", "place", "octet"] ["near", "touches"] (defScope s_missed_by) := ⟨rfl, rfl, rfl, by decide +kernel, rfl, by decide +kernel, by decide +kernel⟩
abbrev s_misses : Stmt := (topS 16)
theorem sc_misses : FnScope ["near", "touches"] ["near", "touches"] (defScope s_misses) := ⟨rfl, rfl, rfl, by decide +kernel, rfl, by decide +kernel, by decide +kernel⟩
abbrev s_missed : Stmt := (topS 17)
theorem sc_missed : FnScope ["near", "touches"] ["near", "touches"] (defScope s_missed) := ⟨rfl, rfl, rfl, by decide +kernel, rfl, by decide +kernel, by decide +kernel⟩
abbrev s_kept : Stmt := (topS 18)
theorem sc_kept : FnScope ["near", "touches", "store", "octet", "lot"] ["near", "touches"] (defScope s_kept) := ⟨rfl, rfl, rfl, by decide +kernel, rfl, by decide +kernel, by decide +kernel⟩
structure NTxt (K : PySem.W.Frag) (mg : Str → Option Value) (CS : Addr) : Prop where
  d_is_number : DefAt K mg "is_number" s_is_number ["thing"]
  d_is_from : DefAt K mg "is_from" s_is_from ["thing", "least", "most"]
  d_is_near : DefAt K mg "is_near" s_is_near ["thing"]
  d_need_near : DefAt K mg "need_near" s_need_near ["thing"]
  d_need_touches : DefAt K mg "need_touches" s_need_touches ["thing"]
  d_missed_by : DefAt K mg "missed_by" s_missed_by ["near", "touches"]
  d_misses : DefAt K mg "misses" s_misses ["near", "touches"]
  d_missed : DefAt K mg "missed" s_missed ["near", "touches"]
  d_kept : DefAt K mg "kept" s_kept ["near", "touches"]
  i_Store : IniAt K mg "Store" CS "Store.__init__" s_Store_init ["self", "near"]
  m_touch : MetAt K CS "touch" "Store.touch" s_Store_touch ["self", "octet"]
  cl : Cls K CS
  nW : NoAttr K CS "ways"
  nL : NoAttr K CS "line"
  nT : NoAttr K CS "lots"
  g_MOST_SETS : ∃ t, mg "MOST_SETS" = some (.int 4 t)
  g_MOST_WAYS : ∃ t, mg "MOST_WAYS" = some (.int 4 t)
  g_MOST_LINE : ∃ t, mg "MOST_LINE" = some (.int 8 t)
  z_len : mg "len" = none
  z_int : mg "int" = none
  z_bool : mg "bool" = none
  z_tuple : mg "tuple" = none
  z_isinstance : mg "isinstance" = none
  z_all : mg "all" = none
  z_zip : mg "zip" = none
  z_range : mg "range" = none
  z_enumerate : mg "enumerate" = none
/-! ### the mirror -/
def isNum : PyData → Bool
  | .int _ => true
  | _ => false
theorem isNum_eq (d : PyData) : (isiInt d && !isiBool d) = isNum d := by cases d <;> rfl
def isFrom (lo hi : Int) : PyData → Bool
  | .int i => decide (lo ≤ i) && decide (i ≤ hi)
  | _ => false
def isNear : PyData → Bool
  | .tuple [a, b, c] => isFrom 1 4 a && (isFrom 1 4 b && isFrom 1 8 c)
  | _ => false
section
variable {P : Program} {w : World} {K : PySem.W.Frag} {mg : Str → Option Value} {base : Heap} {CS : Addr}
def spIsNumber (K : PySem.W.Frag) : Sp := fun vs H Q _ => ∃ v d, vs = [v] ∧ Im K H d v ∧ Q (.bl (isNum d)) H
theorem cal_is_number (T : NTxt K mg CS) : Cal P w K mg base 1 "is_number" (spIsNumber K) := by
  refine T.d_is_number.cal sc_is_number (fun vs H Q E h => ?_) (fun f cdv A outer s H vs Q E hr h => ?_)
  · obtain ⟨v, d, rfl, _⟩ := h
    rfl
  · obtain ⟨v, d, rfl, hd, q⟩ := h
    refine ⟨_, (pss_one (ps_ret (pe_and (pe_callB (call_isiK' K (by rfl)) (by rfl) T.z_isinstance bt_isinstance (pa_cons (pv 0) (pa_cons (pe_bltn (v := .ty "int") rfl T.z_int bt_int rfl) pa_nil))) (pe_one (pe_not (pe_callB (call_isiK' K (by rfl)) (by rfl) T.z_isinstance bt_isinstance (pa_cons (pv 0) (pa_cons (pe_bltn (v := .ty "bool") rfl T.z_bool bt_bool rfl) pa_nil)))))))), ?_⟩
    have e := isNum_eq d
    refine ⟨v, rfl, v, .ty "int", _, _, _, rfl, .ty _, hd.ty, kit_int K d, _, rfl, ite_b (fun h1 => ?_) (fun h1 => ?_)⟩
    · refine ⟨v, rfl, v, .ty "bool", _, _, _, rfl, .ty _, hd.ty, kit_bool K d, _, rfl, ?_⟩
      rw [h1, Bool.true_and] at e
      rw [e]
      exact q
    · rw [h1, Bool.false_and] at e
      rw [e]
      exact q
def spIsFrom (K : PySem.W.Frag) : Sp := fun vs H Q _ => ∃ v d lo hi, vs = [v, .int lo, .int hi] ∧ Im K H d v ∧ Q (.bl (isFrom lo hi d)) H
theorem cal_is_from (T : NTxt K mg CS) : Cal P w K mg base 2 "is_from" (spIsFrom K) := by
  have c_is_number := cal_is_number (P := P) (w := w) (base := base) T
  refine T.d_is_from.cal sc_is_from (fun vs H Q E h => ?_) (fun f cdv A outer s H vs Q E hr h => ?_)
  · obtain ⟨v, d, lo, hi, rfl, _⟩ := h
    rfl
  · obtain ⟨v, d, lo, hi, rfl, hd, q⟩ := h
    refine ⟨_, (pss_one (ps_ret (pe_and (pe_c c_is_number hr (by decide) (by rfl) (pa_cons (pv 0) pa_nil)) (pe_one (pe_chain op_le op_le (pv 1) (pv 0) (pv 2)))))), ?_⟩
    refine ⟨v, rfl, v, d, rfl, hd, _, rfl, ite_b (fun h1 => ?_) (fun h1 => ?_)⟩
    · cases d with
      | int i =>
        cases hd
        refine ⟨_, rfl, _, rfl, _, _, rfl, rfl, _, rfl, ite_b (fun h2 => ?_) (fun h2 => ?_)⟩
        · refine ⟨_, rfl, _, _, rfl, rfl, ?_⟩
          have e : isFrom lo hi (.int i) = decide (i ≤ hi) := by
            show (decide (lo ≤ i) && decide (i ≤ hi)) = _
            rw [h2, Bool.true_and]
          rw [e] at q
          exact q
        · have e : isFrom lo hi (.int i) = false := by
            show (decide (lo ≤ i) && decide (i ≤ hi)) = _
            rw [h2, Bool.false_and]
          rw [e] at q
          exact q
      | _ => exact nomatch h1
    · cases d with
      | int i => exact nomatch h1
      | _ => exact q
def spIsNear (K : PySem.W.Frag) : Sp := fun vs H Q _ => ∃ v d, vs = [v] ∧ Im K H d v ∧ ∀ H', Fr [] H H' → Q (.bl (isNear d)) H'
theorem isNear_len {ds : List PyData} (h : ds.length ≠ 3) : isNear (.tuple ds) = false := by
  match ds, h with
  | [], _ => rfl
  | [_], _ => rfl
  | [_, _], _ => rfl
  | [_, _, _], h => exact absurd rfl h
  | _ :: _ :: _ :: _ :: _, _ => rfl
theorem cal_is_near (T : NTxt K mg CS) : Cal P w K mg base 3 "is_near" (spIsNear K) := by
  have c_is_from := cal_is_from (P := P) (w := w) (base := base) T
  refine T.d_is_near.cal sc_is_near (fun vs H Q E h => ?_) (fun f cdv A outer s H vs Q E hr h => ?_)
  · obtain ⟨v, d, rfl, _⟩ := h
    rfl
  · obtain ⟨v, d, rfl, hd, q⟩ := h
    refine ⟨_, (pss_cons (ps_if (PW.pt (pw_or (pt_not (pt_val (pe_callB (call_isiK' K (by rfl)) (by rfl) T.z_isinstance bt_isinstance (pa_cons (pv 0) (pa_cons (pe_bltn (v := .ty "tuple") rfl T.z_tuple bt_tuple rfl) pa_nil))))) (pw_or1 (pt_cmpR op_ne (pe_callB (call_lenK K (by rfl)) (by rfl) T.z_len bt_len (pa_cons (pv 0) pa_nil)) pe_int (nomark _)))))
  (pss_one (ps_ret pe_bl))
  pss_nil)
  (pss_one (ps_ret (pe_callB (cr_allK K (by rfl) (by rfl)) (by rfl) T.z_all bt_all (by exact (pa_cons (pe_lcX [("one", 1), ("most", 2)] (by rfl) sc_is_near.nd (pi_zipK K (by rfl) (by rfl) T.z_zip (pa_cons (pv 0) (pa_cons (pe_tup (pa_cons (pe_gint rfl T.g_MOST_SETS) (pa_cons (pe_gint rfl T.g_MOST_WAYS) (pa_cons (pe_gint rfl T.g_MOST_LINE) pa_nil)))) pa_nil)) (by rfl) (by rfl)) (blkOk_by (N := ["thing", "one", "most"]) (sc := defScope s_is_near) (by decide +kernel)) (fun _ _ _ _ _ => by exact (pg_tupK K (n := 2) (by rfl) (by rfl) (by rfl) (by rfl) (pgs_consX (by rfl) (pg_nameX 1 sc_is_near.nd rfl (by first | exact .inl rfl | exact .inr rfl) (by first | exact .inr rfl | exact .inl rfl)) (pgs_consX (by rfl) (pg_nameX 2 sc_is_near.nd rfl (by first | exact .inl rfl | exact .inr rfl) (by first | exact .inr rfl | exact .inl rfl)) pgs_nil)))) (fun _ _ _ _ _ => by exact pts_nil) (fun _ _ _ _ _ => by exact (pe_c c_is_from hr (by decide) (by rfl) (pa_cons (pv 1) (pa_cons pe_int (pa_cons (pv 2) pa_nil))))) (fun _ => rfl)) pa_nil)))))), ?_⟩
    refine ⟨v, rfl, v, .ty "tuple", _, _, _, rfl, .ty _, hd.ty, kit_tup K d, _, rfl, ?_⟩
    cases d with
    | tuple ds =>
      obtain ⟨a, xs, rfl, ht, hx⟩ := hd
      have hl := hx.len
      refine iteF ⟨_, rfl, a, xs, rfl, .inr ht, rfl, _, rfl, ite_b (fun h1 => ?_) (fun h1 => ?_)⟩
      · have h2 : ds.length ≠ 3 := fun z => by
          rw [hl, z] at h1
          exact nomatch h1
        have h3 := q H (.refl _ _)
        rw [isNear_len h2] at h3
        exact h3
      · have h2 : ds.length = 3 := by
          by_cases h : ds.length = 3
          · exact h
          · exfalso
            have e : decide (V.int (xs.length : Int) = .int 3) = false := decide_eq_false fun z => h (by injection z with z; omega)
            rw [e] at h1
            exact nomatch h1
        match ds, h2 with
        | [d1, d2, d3], _ =>
          obtain ⟨x1, r1, rfl, i1, x2, r2, rfl, i2, x3, r3, rfl, i3, rfl⟩ := hx
          refine ⟨_, rfl, (by show 3 ≤ sizeLine; decide), fun t nt => ?_⟩
          have f1 : Fr [] H (upd H t (.tup [.int 4, .int 4, .int 8])) := .new nt
          refine ⟨_, _, _, _, rfl, .inr ⟨f1.tup ht, sqT_of upd_same, fun D nD => ?_⟩⟩
          refine lc_each (walk_zipT (n := 3) rfl) (fun i => .bl (isFrom 1 ([4, 4, 8].getD i 0) ([d1, d2, d3].getD i .none))) nD (by decide) (fun H' fr => ⟨fr.tup (f1.tup ht), fr.tup (sqT_of upd_same)⟩) ?_ gTup2_mono (fun i H x H' _ y => ypair_fr y) ?_
          · rintro i x H2 H3 Z1 hi fr ⟨T0, y1, y2, rfl, hT0, rfl, e1, e2⟩ hz
            have f3 : Fr [] H2 (upd H2 T0 (.tup [y1, y2])) := .new hT0
            have f13 := (f1.trans fr).trans f3
            refine ⟨T0, _, rfl, sqT_of upd_same, rfl, _, _, rfl, _, _, rfl, rfl, rfl, ?_⟩
            match i, hi with
            | 0, _ =>
              cases e1
              cases e2
              exact ⟨_, rfl, _, rfl, x1, d1, 1, 4, rfl, i1.mono f13, hz _ (.refl _ _)⟩
            | 1, _ =>
              cases e1
              cases e2
              exact ⟨_, rfl, _, rfl, x2, d2, 1, 4, rfl, i2.mono f13, hz _ (.refl _ _)⟩
            | 2, _ =>
              cases e1
              cases e2
              exact ⟨_, rfl, _, rfl, x3, d3, 1, 8, rfl, i3.mono f13, hz _ (.refl _ _)⟩
          · intro H2 fr hl2
            refine ⟨D, [isFrom 1 4 d1, isFrom 1 4 d2, isFrom 1 8 d3], rfl, sqL_of hl2, ?_⟩
            have h3 := q H2 (f1.trans fr)
            show Q (.bl (isFrom 1 4 d1 && (isFrom 1 4 d2 && (isFrom 1 8 d3 && true)))) H2
            rw [Bool.and_true]
            exact h3
    | _ => exact iteT (iteT (q H (.refl _ _)))

/-! ### the store -/
theorem kWL : ¬ (("ways" : Str) = "line") := by decide +kernel
theorem kWT : ¬ (("ways" : Str) = "lots") := by decide +kernel
theorem kLT : ¬ (("line" : Str) = "lots") := by decide +kernel
def sflds (ways line : Int) (L : Addr) : List (Str × V) := putF "lots" (.ref L) (putF "line" (.int line) (putF "ways" (.int ways) []))
theorem sflds_ways (ways line : Int) (L : Addr) : (sflds ways line L).lookup ("ways" : Str) = some (.int ways) := by
  unfold sflds
  rw [lookup_putF, if_neg kWT, lookup_putF, if_neg kWL, lookup_putF, if_pos rfl]
theorem sflds_line (ways line : Int) (L : Addr) : (sflds ways line L).lookup ("line" : Str) = some (.int line) := by
  unfold sflds
  rw [lookup_putF, if_neg kLT, lookup_putF, if_pos rfl]
theorem sflds_lots (ways line : Int) (L : Addr) : (sflds ways line L).lookup ("lots" : Str) = some (.ref L) := by
  unfold sflds
  rw [lookup_putF, if_pos rfl]
theorem sflds_no (ways line : Int) (L : Addr) {m : Str} (h1 : ¬ m = "lots") (h2 : ¬ m = "line") (h3 : ¬ m = "ways") : (sflds ways line L).lookup m = none := by
  unfold sflds
  rw [lookup_putF, if_neg h1, lookup_putF, if_neg h2, lookup_putF, if_neg h3]
  all_goals rfl
structure StoreAt (CS : Addr) (H : Hp) (p L : Addr) (ls : List Addr) (ways line : Int) (lots : List (List Int)) : Prop where
  ob : ∃ dx, H p = some (.ins CS dx (sflds ways line L))
  ll : H L = some (.lst (ls.map V.ref))
  len : ls.length = lots.length
  nd : ls.Nodup
  at' : ∀ (i : Nat) (l : Addr) (lot : List Int), ls[i]? = some l → lots[i]? = some lot → H l = some (.lst (lot.map V.int))
  nL : L ∉ ls
  np : p ∉ ls
theorem StoreAt.fr {H H' : Hp} {p L : Addr} {ls M : List Addr} {ways line : Int} {lots : List (List Int)} (S : StoreAt CS H p L ls ways line lots) (f : Fr M H H') (h1 : p ∉ M) (h2 : L ∉ M) (h3 : ∀ l ∈ ls, l ∉ M) : StoreAt CS H' p L ls ways line lots where
  ob := let ⟨dx, e⟩ := S.ob; ⟨dx, f.ne e h1⟩
  ll := f.ne S.ll h2
  len := S.len
  nd := S.nd
  at' := fun i l lot a b => f.ne (S.at' i l lot a b) (h3 l (List.mem_of_getElem? a))
  nL := S.nL
  np := S.np
def spInit (K : PySem.W.Frag) (CS : Addr) : Sp := fun vs H Q _ => ∃ (p dx a : Addr) (sets ways line : Int), vs = [.ref p, .ref a] ∧ H p = some (.ins CS dx []) ∧ SqT K H a [.int sets, .int ways, .int line] ∧ 0 ≤ sets ∧ sets ≤ 4 ∧
  ∀ (L : Addr) (ls : List Addr) (H' : Hp), StoreAt CS H' p L ls ways line (Lru.fresh sets) → Fr [p] H H' → H L = none → (∀ l ∈ ls, H l = none) → Q .non H'
theorem mak_Store (T : NTxt K mg CS) : Mak P w K mg base 1 "Store" CS (spInit K CS) := by
  refine T.i_Store.mak sc_Store_init (fun vs H Q E h => ?_) (fun f cdv A outer s H vs Q E hr h => ?_)
  · obtain ⟨p, dx, a, sets, ways, line, rfl, _⟩ := h
    rfl
  · obtain ⟨p, dx, a, sets, ways, line, rfl, hp, ha, s0, s4, q⟩ := h
    refine ⟨_, (pss_cons (ps_asg (pv 1) (pg_tupK K (n := 3) (by rfl) (by rfl) (by rfl) (by rfl) (pgs_consX (by rfl) (pg_nameX 2 sc_Store_init.nd rfl (by first | exact .inl rfl | exact .inr rfl) (by first | exact .inr rfl | exact .inl rfl)) (pgs_consX (by rfl) (pg_fldK K (by rfl) (pv 0)) (pgs_consX (by rfl) (pg_fldK K (by rfl) (pv 0)) pgs_nil)))))
  (pss_one (ps_fld (pv 0) (pe_lcX [("number", 3)] (by rfl) sc_Store_init.nd (pi_range1 (by rfl) T.z_range (pa_cons (pv 2) pa_nil)) (blkOk_by (N := ["self", "near", "sets", "number"]) (sc := defScope s_Store_init) (by decide +kernel)) (fun _ _ _ _ _ => by exact (pg_nameX 3 sc_Store_init.nd rfl (by first | exact .inl rfl | exact .inr rfl) (by first | exact .inr rfl | exact .inl rfl))) (fun _ _ _ _ _ => by exact pts_nil) (fun _ _ _ _ _ => by exact (pe_lst pa_nil)) (fun _ => rfl)) rfl))), ?_⟩
    have npa : ∀ xs, H p ≠ some (.tup xs) := fun xs z => by rw [hp] at z; cases z
    -- sets, self.ways, self.line = near
    refine ⟨_, rfl, a, _, rfl, ha, rfl, _, _, rfl, _, _, rfl, _, rfl, p, CS, dx, [], rfl, hp, T.cl, T.nW, (by decide), _, _, rfl, _, rfl, p, CS, dx, _, rfl, upd_same, T.cl, T.nL, (by show 1 < 1000; decide), rfl, ?_⟩
    have f1 : Fr [p] H (upd H p (.ins CS dx (putF "ways" (.int ways) []))) := .wr hp trivial (by simp)
    have f2 : Fr [p] H (upd (upd H p (.ins CS dx (putF "ways" (.int ways) []))) p (.ins CS dx (putF "line" (.int line) (putF "ways" (.int ways) [])))) := f1.put upd_same trivial (.inl (by simp))
    -- self.lots = [[] for number in range(sets)]
    refine ⟨_, rfl, sets, rfl, by omega, by omega, fun D nD => ?_⟩
    have npD : p ≠ D := ne_of_none upd_same nD
    have nD0 : H D = none := f2.free _ nD
    refine lc_it walk_range (fun i H2 => ∃ ls : List Addr, ls.length = i ∧ ls.Nodup ∧ H2 D = some (.lst (ls.map V.ref)) ∧ (∀ l ∈ ls, H2 l = some (.lst []) ∧ H l = none ∧ l ≠ D ∧ l ≠ p) ∧ Fr [] (upd (upd H p (.ins CS dx (putF "ways" (.int ways) []))) p (.ins CS dx (putF "line" (.int line) (putF "ways" (.int ways) [])))) H2)
      ⟨[], rfl, List.nodup_nil, upd_same, (fun l hl => nomatch hl), .new nD⟩ (fun _ _ _ _ => trivial) ?_ ?_
    · rintro i x H2 H3 hi ⟨ls, el, nd, hD, hl, fr⟩ ⟨rfl, rfl⟩
      refine ⟨rfl, tYes_if ⟨Nat.zero_le _, fun o no => ?_⟩⟩
      have noD : D ≠ o := ne_of_none hD no
      have nop : p ≠ o := ne_of_none (fr.at upd_same) no
      have nol : ∀ l ∈ ls, l ≠ o := fun l hm => ne_of_none (hl l hm).1 no
      refine ⟨_, (by rw [upd_ne noD]; exact hD), (by rw [List.length_map, el]; have e := sizeLine_eq; omega), ls ++ [o], by rw [List.length_append, el]; rfl, ?_, ?_, ?_, ?_⟩
      · rw [List.nodup_append]
        exact ⟨nd, by simp, fun a ha b hb => by cases List.mem_singleton.mp hb; exact nol a ha⟩
      · rw [upd_same, List.map_append]
        rfl
      · intro l hm
        rcases List.mem_append.mp hm with hm | hm
        · obtain ⟨z1, z2, z3, z4⟩ := hl l hm
          exact ⟨by rw [upd_ne z3, upd_ne (nol l hm)]; exact z1, z2, z3, z4⟩
        · cases List.mem_singleton.mp hm
          exact ⟨by rw [upd_ne (Ne.symm noD), upd_same], f2.free _ (fr.free _ no), Ne.symm noD, Ne.symm nop⟩
      · exact (fr.up no).put (o := .lst (ls.map V.ref)) (by rw [upd_ne noD]; exact hD) trivial (.inr nD)
    · rintro H2 ⟨ls, el, nd, hD, hl, fr⟩
      refine ⟨_, rfl, p, CS, dx, _, rfl, fr.at upd_same, T.cl, T.nT, (by show 2 < 1000; decide), ?_⟩
      have f3 : Fr [p] H H2 := f2.trans (fr.mono fun l z => nomatch z)
      refine q D ls _ ⟨⟨dx, upd_same⟩, (by rw [upd_ne (Ne.symm npD)]; exact hD), (by unfold Lru.fresh; rw [List.length_replicate, el]), nd, ?_, fun z => (hl D z).2.2.1 rfl, fun z => (hl p z).2.2.2 rfl⟩ (f3.put (fr.at upd_same) trivial (.inl (by simp))) nD0 fun l hm => (hl l hm).2.1
      intro i l lot hi hlot
      have hm := List.mem_of_getElem? hi
      have e : lot = [] := by
        unfold Lru.fresh at hlot
        exact List.eq_of_mem_replicate (List.mem_of_getElem? hlot)
      rw [e, upd_ne (hl l hm).2.2.2]
      exact (hl l hm).1

theorem inV_int (z : Int) : ∀ ns : List Int, inV (.int z) (ns.map V.int) = decide (z ∈ ns)
  | [] => rfl
  | n :: ns => by
    have ih := inV_int z ns
    unfold inV at ih ⊢
    rw [List.map_cons, List.any_cons, ih]
    have e : eqV (.int n) (.int z) = decide (n = z) := rfl
    rw [e]
    by_cases h : n = z
    · subst h
      simp
    · have h2 : ¬ z = n := fun q => h q.symm
      simp [h, h2]
theorem flat_ints : ∀ ns : List Int, (ns.map V.int).all flatV = true
  | [] => rfl
  | n :: ns => by
    rw [List.map_cons, List.all_cons, flat_ints ns]
    rfl
theorem erase_at {ns : List Int} {z : Int} (h : z ∈ ns) : ∃ j, ns[j]? = some z ∧ (∀ m : Nat, m < j → ns[m]? ≠ some z) ∧ ns.eraseIdx j = ns.erase z := by
  induction ns with
  | nil => exact nomatch h
  | cons n ns ih =>
    by_cases e : n = z
    · subst e
      exact ⟨0, rfl, fun m hm => absurd hm (Nat.not_lt_zero m), by simp⟩
    · have h2 : z ∈ ns := by
        rcases List.mem_cons.mp h with q | q
        · exact absurd q.symm e
        · exact q
      obtain ⟨j, h3, h4, h5⟩ := ih h2
      refine ⟨j + 1, by simpa using h3, fun m hm => ?_, ?_⟩
      · cases m with
        | zero => simpa using e
        | succ m => simpa using h4 m (by omega)
      · have e2 : (n == z) = false := by simpa using e
        rw [List.eraseIdx_cons_succ, h5, List.erase_cons, e2]
        rfl
def spTouch (CS : Addr) : Sp := fun vs H Q _ => ∃ (p L : Addr) (ls : List Addr) (ways line : Int) (lots : List (List Int)) (o : Int), vs = [.ref p, .int o] ∧ StoreAt CS H p L ls ways line lots ∧ 1 ≤ line ∧ line ≤ 8 ∧ lots ≠ [] ∧ Lru.Few ways lots ∧ 1 ≤ ways ∧ ways ≤ 4 ∧
  ∀ H', Fr ls H H' → StoreAt CS H' p L ls ways line (Lru.touch ways line lots o) → Q (.bl (Lru.miss line lots o)) H'
theorem met_touch (T : NTxt K mg CS) : Met P w K mg base 1 CS "touch" (spTouch CS) := by
  refine T.m_touch.met sc_Store_touch (fun vs H Q E h => ?_) (fun f cdv A outer s H vs Q E hr h => ?_)
  · obtain ⟨p, L, ls, ways, line, lots, o, rfl, _⟩ := h
    rfl
  · obtain ⟨p, L, ls, ways, line, lots, o, rfl, S, l1, l8, ne, few, w1, w4, q⟩ := h
    refine ⟨_, (pss_cons (ps_set (i := 2) sc_Store_touch.nd rfl (by first | exact .inl rfl | exact .inr rfl) (pe_op op_fdiv (pv 1) (pe_fldK K (by rfl) (by rfl) (pv 0))))
  (pss_cons (ps_set (i := 3) sc_Store_touch.nd rfl (by first | exact .inl rfl | exact .inr rfl) (pe_ix (ix_listK K (by rfl)) (pe_fldK K (by rfl) (by rfl) (pv 0)) (pe_op op_mod (pv 2) (pe_callB (call_lenK K (by rfl)) (by rfl) T.z_len bt_len (pa_cons (pe_fldK K (by rfl) (by rfl) (pv 0)) pa_nil))) (fun _ _ => rfl)))
  (pss_cons (ps_set (i := 4) sc_Store_touch.nd rfl (by first | exact .inl rfl | exact .inr rfl) (pe_cmpR (op_notIn_seqK K (by rfl)) (pv 2) (pv 3) (by rfl)))
  (pss_cons (ps_if (pt_not (pt_val (pv 4)))
  (pss_one (ps_expr (pe_bmK K (by rfl) PySem.F.plainAttrs_list PySem.F.slot_list_remove PySem.F.type_list_remove mt_remove (pv 3) (pa_cons (pv 2) pa_nil))))
  pss_nil)
  (pss_cons (ps_expr (pe_bmK K (by rfl) PySem.F.plainAttrs_list PySem.F.slot_list_append PySem.F.type_list_append mt_append (pv 3) (pa_cons (pv 2) pa_nil)))
  (pss_cons (ps_if (pt_cmpR op_gt (pe_callB (call_lenK K (by rfl)) (by rfl) T.z_len bt_len (pa_cons (pv 3) pa_nil)) (pe_fldK K (by rfl) (by rfl) (pv 0)) (nomark _))
  (pss_one (ps_expr (pe_bmK K (by rfl) PySem.F.plainAttrs_list PySem.F.slot_list_pop PySem.F.type_list_pop mt_popAt (pv 3) (pa_cons pe_int pa_nil))))
  pss_nil)
  (pss_one (ps_ret (pv 4))))))))), ?_⟩
    obtain ⟨dx, hp⟩ := S.ob
    have hlen : 0 < lots.length := by
      cases lots with
      | nil => exact absurd rfl ne
      | cons _ _ => exact Nat.succ_pos _
    have hll : ls.length = lots.length := S.len
    -- the place of the lot
    have hz0 : 0 ≤ (o / line) % (lots.length : Int) := Int.emod_nonneg _ (by omega)
    have hz1 : (o / line) % (lots.length : Int) < lots.length := Int.emod_lt_of_pos _ (by omega)
    have hj : Lru.at' lots (o / line) < lots.length := by unfold Lru.at'; omega
    have hzj : (o / line) % ((ls.map V.ref).length : Int) = ((Lru.at' lots (o / line) : Nat) : Int) := by
      rw [List.length_map, hll]
      unfold Lru.at'
      omega
    generalize ej : Lru.at' lots (o / line) = j at hj hzj
    have hjl : j < ls.length := by omega
    obtain ⟨l, hl⟩ : ∃ l, ls[j]? = some l := ⟨_, List.getElem?_eq_getElem hjl⟩
    obtain ⟨lot, hlot⟩ : ∃ lot, lots[j]? = some lot := ⟨_, List.getElem?_eq_getElem hj⟩
    have elot : Lru.lotOf lots (o / line) = lot := by
      unfold Lru.lotOf
      rw [ej, List.getD_eq_getElem?_getD, hlot]
      rfl
    have hml : l ∈ ls := List.mem_of_getElem? hl
    have nlL : l ≠ L := fun z => S.nL (z ▸ hml)
    have nlp : l ≠ p := fun z => S.np (z ▸ hml)
    have hH := S.at' j l lot hl hlot
    have hlw : (lot.length : Int) ≤ ways := by rw [← elot]; exact few.lot (by omega) _
    have emiss : Lru.miss line lots o = !decide ((o / line) ∈ lot) := by
      unfold Lru.miss
      rw [elot]
    have etouch : Lru.touch ways line lots o = lots.set j (Lru.lotPut ways lot (o / line)) := by
      unfold Lru.touch
      rw [elot, ej]
    -- what the end gives
    have fin : ∀ H', Fr ls H H' → H' L = some (.lst (ls.map V.ref)) → H' p = some (.ins CS dx (sflds ways line L)) → H' l = some (.lst ((Lru.lotPut ways lot (o / line)).map V.int)) → (∀ b ∈ ls, b ≠ l → H' b = H b) → Q (.bl (Lru.miss line lots o)) H' := by
      intro H' fr h1 h2 h3 h4
      refine q H' fr ⟨⟨dx, h2⟩, h1, by rw [Lru.touch_len, hll], S.nd, fun i b lt hi hlt => ?_, S.nL, S.np⟩
      rw [etouch, List.getElem?_set] at hlt
      by_cases e : j = i
      · subst e
        rw [if_pos rfl, if_pos hj] at hlt
        cases hlt
        rw [hl] at hi
        cases hi
        exact h3
      · rw [if_neg e] at hlt
        have nb : b ≠ l := fun z => e (by
          rw [z] at hi
          exact nd_ix S.nd hl hi)
        rw [h4 b (List.mem_of_getElem? hi) nb]
        exact S.at' i b lt hi hlt
    -- line = octet // self.line
    refine ⟨_, rfl, _, rfl, p, CS, dx, _, _, rfl, hp, T.cl, T.nL, sflds_line _ _ _, _, _, rfl, rfl, ⟨by omega, by omega⟩, ?_⟩
    -- lot = self.lots[line % len(self.lots)]
    refine ⟨_, rfl, p, CS, dx, _, _, rfl, hp, T.cl, T.nT, sflds_lots _ _ _, _, rfl, _, rfl, p, CS, dx, _, _, rfl, hp, T.cl, T.nT, sflds_lots _ _ _, L, _, rfl, .inl (sqL_of S.ll), _, _, rfl, rfl, (by rw [List.length_map]; omega), L, _, _, .ref l, rfl, rfl, sqL_of S.ll, at_of hzj (by rw [List.getElem?_map, hl]; rfl), ?_⟩
    -- missing = line not in lot
    refine ⟨_, rfl, _, rfl, l, _, rfl, .inl (sqL_of hH), rfl, flat_ints _, ?_⟩
    show tSeq _ _ _ (List.set _ _ (some (V.bl (!inV (.int (o / line)) (lot.map V.int))))) H
    rw [inV_int]
    -- if not missing: lot.remove(line)
    have hsl := sizeLine_eq
    have done : ∀ (H2 : Hp) (m : Bool), m = (!decide ((o / line) ∈ lot)) → H2 l = some (.lst ((lot.erase (o / line)).map V.int)) → (∀ b, b ≠ l → H2 b = H b) →
        tSeq (tDrop (tBM K "list" rAppend (tVar 3) (tCons (tVar 2) tNil))) (tSeq (tIfS (tTest (tOp (rI0 fun i j => .bl (decide (j < i))) (tCB (rLenS K) (tCons (tVar 3) tNil)) (tFld K (tVar 0) "ways"))) (tDrop (tBM K "list" rPopAt (tVar 3) (tCons (tC (.int 0)) tNil))) tNext) (tRet (tVar 4)))
          { nx := fun _ H' => Q .non H', rt := Q } [some (.ref p), some (.int o), some (.int (o / line)), some (.ref l), some (.bl m)] H2 := by
      intro H2 m em h2 h3
      have h2p : H2 p = some (.ins CS dx (sflds ways line L)) := by rw [h3 p (Ne.symm nlp)]; exact hp
      have h2L : H2 L = some (.lst (ls.map V.ref)) := by rw [h3 L (Ne.symm nlL)]; exact S.ll
      have hel := List.length_erase_le (a := o / line) (l := lot)
      refine ⟨.ref l, rfl, .inl ⟨rfl, _, sqL_of h2⟩, _, rfl, l, _, _, rfl, rfl, h2, by rw [List.length_map]; omega, ?_⟩
      generalize eH3 : upd H2 l (.lst ((lot.erase (o / line)).map V.int ++ [.int (o / line)])) = H3
      have h3l : H3 l = some (.lst (((lot.erase (o / line)) ++ [o / line]).map V.int)) := by
        rw [← eH3, upd_same, List.map_append]
        rfl
      have h3b : ∀ b, b ≠ l → H3 b = H b := fun b nb => by
        rw [← eH3, upd_ne nb]
        exact h3 b nb
      have h3p : H3 p = some (.ins CS dx (sflds ways line L)) := by rw [h3b p (Ne.symm nlp)]; exact hp
      refine ⟨_, rfl, l, _, rfl, .inl (sqL_of h3l), _, rfl, p, CS, dx, _, _, rfl, h3p, T.cl, T.nW, sflds_ways _ _ _, _, _, rfl, rfl, _, rfl, ?_⟩
      rw [List.length_map]
      have frm : ∀ H4 : Hp, (∀ b, b ≠ l → H4 b = H b) → (∃ o, H4 l = some o) → Fr ls H H4 := fun H4 h4 ⟨o4, h5⟩ => ⟨fun b ob e k => by
        have nb : b ≠ l := fun z => by
          subst z
          rcases k with k | k
          · exact k hml
          · rw [hH] at e
            cases e
            exact k trivial
        rw [h4 b nb]
        exact e, fun b e => by
        by_cases nb : b = l
        · subst nb
          rw [h5] at e
          cases e
        · rw [h4 b nb] at e
          exact e⟩
      have hfin : ∀ H4 : Hp, H4 l = some (.lst ((Lru.lotPut ways lot (o / line)).map V.int)) → (∀ b, b ≠ l → H4 b = H b) → Q (.bl m) H4 := fun H4 h4 h5 => by
        rw [em, ← emiss]
        exact fin H4 (frm H4 h5 ⟨_, h4⟩) (by rw [h5 L (Ne.symm nlL)]; exact S.ll) (by rw [h5 p (Ne.symm nlp)]; exact hp) h4 fun b _ nb => h5 b nb
      refine ite_b (fun c => ?_) (fun c => ?_)
      · have c' := of_decide_eq_true c
        refine ⟨.ref l, rfl, .inl ⟨rfl, _, sqL_of h3l⟩, l, _, 0, 0, (V.int ((lot.erase (o / line) ++ [o / line]).head (by simp))), rfl, rfl, h3l, by decide, by decide, ?_, ?_, _, rfl, ?_⟩
        · unfold seqIndex?
          rw [List.length_map, List.length_append]
          simp
        · rw [List.getElem?_map, ← List.head?_eq_getElem?, List.head?_eq_some_head (by simp)]
          rfl
        · refine hfin _ ?_ fun b nb => by rw [upd_ne nb]; exact h3b b nb
          unfold Lru.lotPut
          rw [if_pos c', upd_same]
          simp [List.map_drop]
      · have c' := of_decide_eq_false c
        refine ⟨_, rfl, ?_⟩
        refine hfin _ ?_ h3b
        unfold Lru.lotPut
        rw [if_neg c']
        exact h3l
    by_cases hm : (o / line) ∈ lot
    · rw [decide_eq_true hm]
      refine ⟨_, rfl, _, rfl, iteT ?_⟩
      obtain ⟨k, k1, k2, k3⟩ := erase_at hm
      refine ⟨.ref l, rfl, .inl ⟨rfl, _, sqL_of hH⟩, _, rfl, l, lot, _, k, rfl, rfl, hH, k1, k2, ?_⟩
      exact done _ false (by rw [decide_eq_true hm]; rfl) (by rw [upd_same, k3]) fun b nb => upd_ne nb
    · rw [decide_eq_false hm]
      refine ⟨_, rfl, _, rfl, iteF ?_⟩
      exact done H true (by rw [decide_eq_false hm]; rfl) (by rw [List.erase_of_not_mem hm]; exact hH) fun b _ => rfl

/-! ### missed_by, misses, missed, kept -/
structure GoodN (sets ways line : Int) : Prop where
  s1 : 1 ≤ sets
  s4 : sets ≤ 4
  w1 : 1 ≤ ways
  w4 : ways ≤ 4
  l1 : 1 ≤ line
  l8 : line ≤ 8
theorem GoodN.near {sets ways line : Int} (g : GoodN sets ways line) : isNear (.tuple [.int sets, .int ways, .int line]) = true := by
  obtain ⟨h1, h2, h3, h4, h5, h6⟩ := g
  show ((decide (1 ≤ sets) && decide (sets ≤ 4)) && ((decide (1 ≤ ways) && decide (ways ≤ 4)) && (decide (1 ≤ line) && decide (line ≤ 8)))) = true
  simp [h1, h2, h3, h4, h5, h6]
theorem GoodN.ne {sets ways line : Int} (g : GoodN sets ways line) : Lru.fresh sets ≠ [] := fun z => by
  have h := congrArg List.length z
  unfold Lru.fresh at h
  rw [List.length_replicate] at h
  have := g.s1
  simp at h
  omega
theorem after_ne {ways line : Int} {lots : List (List Int)} {os : List Int} {i : Nat} (h : lots ≠ []) : Lru.after ways line lots os i ≠ [] := fun z => by
  have e := Lru.after_len ways line lots os i
  rw [z] at e
  exact h (List.length_eq_zero_iff.mp e.symm)
def spMissedBy (K : PySem.W.Frag) : Sp := fun vs H Q _ => ∃ (a b : Addr) (sets ways line : Int) (os : List Int), vs = [.ref a, .ref b] ∧ SqT K H a [.int sets, .int ways, .int line] ∧ SqT K H b (os.map V.int) ∧ GoodN sets ways line ∧ os.length ≤ 100000 ∧
  ∀ (p : Addr) (H' : Hp), H p = none → Fr [] H H' → H' p = some (.lst ((Lru.missed sets ways line os).map V.int)) → Q (.ref p) H'
theorem cal_missed_by (T : NTxt K mg CS) : Cal P w K mg base 3 "missed_by" (spMissedBy K) := by
  have m_Store := mak_Store (P := P) (w := w) (base := base) T
  have mt_Store_touch := met_touch (P := P) (w := w) (base := base) T
  refine T.d_missed_by.cal sc_missed_by (fun vs H Q E h => ?_) (fun f cdv A outer s H vs Q E hr h => ?_)
  · obtain ⟨a, b, sets, ways, line, os, rfl, _⟩ := h
    rfl
  · obtain ⟨a, b, sets, ways, line, os, rfl, ha, hb, g, hlen, q⟩ := h
    refine ⟨_, (pss_cons (ps_set (i := 2) sc_missed_by.nd rfl (by first | exact .inl rfl | exact .inr rfl) (pe_mk m_Store hr (by decide) (by rfl) (pa_cons (pv 0) pa_nil)))
  (pss_one (ps_ret (pe_lcX [("place", 3), ("octet", 4)] (by rfl) sc_missed_by.nd (pi_enumT K (by rfl) (by rfl) T.z_enumerate (pa_cons (pv 1) pa_nil) (by rfl)) (blkOk_by (N := ["near", "touches", "store", "place", "octet"]) (sc := defScope s_missed_by) (by decide +kernel)) (fun _ _ _ _ _ => by exact (pg_tupK K (n := 2) (by rfl) (by rfl) (by rfl) (by rfl) (pgs_consX (by rfl) (pg_nameX 3 sc_missed_by.nd rfl (by first | exact .inl rfl | exact .inr rfl) (by first | exact .inr rfl | exact .inl rfl)) (pgs_consX (by rfl) (pg_nameX 4 sc_missed_by.nd rfl (by first | exact .inl rfl | exact .inr rfl) (by first | exact .inr rfl | exact .inl rfl)) pgs_nil)))) (fun _ _ _ _ _ => by exact (pts_one (pt_val (pe_mt mt_Store_touch hr (by decide) (pv 2) (pa_cons (pv 4) pa_nil))))) (fun _ _ _ _ _ => by exact (pv 3)) (fun _ => rfl))))), ?_⟩
    -- store = Store(near)
    refine ⟨_, rfl, fun x dx nx ndx nex => ?_⟩
    have f1 : Fr [] H (upd (upd H dx (.own x)) x (.ins CS dx [])) := (Fr.new ndx).up (by rw [upd_ne (Ne.symm nex)]; exact nx)
    refine ⟨x, dx, a, sets, ways, line, rfl, upd_same, f1.tup ha, by have := g.s1; omega, g.s4, fun L ls H1 S f2 nL nls => ⟨rfl, ?_⟩⟩
    have f3 : Fr [] H H1 := f1.cut f2 fun l hl => by cases List.mem_singleton.mp hl; exact .inr nx
    -- the comprehension
    refine ⟨_, rfl, b, _, rfl, f3.tup hb, fun D nD => ?_⟩
    have hL1 : ∀ l ∈ ls, ∃ o, H1 l = some o := fun l hl => by
      obtain ⟨i, hi⟩ := List.getElem?_of_mem hl
      have hlt := (List.getElem?_eq_some_iff.mp hi).1
      rw [S.len] at hlt
      exact ⟨_, S.at' i l _ hi (List.getElem?_eq_getElem hlt)⟩
    have nDl : D ∉ ls := fun z => by
      obtain ⟨o, e⟩ := hL1 D z
      rw [nD] at e
      cases e
    have nDx : x ≠ D := let ⟨_, hq⟩ := S.ob; ne_of_none hq nD
    have nDL : L ≠ D := ne_of_none S.ll nD
    refine lc_it walk_enumT (fun i H2 => Fr ls H1 H2 ∧ StoreAt CS H2 x L ls ways line (Lru.after ways line (Lru.fresh sets) os i) ∧ H2 D = some (.lst ((Lru.missedUp ways line (Lru.fresh sets) os i).map V.int)))
      ⟨.new nD, S.fr (.new (L := []) nD) (fun z => nomatch z) (fun z => nomatch z) (fun l _ z => nomatch z), upd_same⟩ (fun i H2 _ p => p.1.tup (f3.tup hb)) ?_ ?_
    · rintro i y H2 H3 hi ⟨fr, S2, hD⟩ ⟨T0, y1, y2, rfl, hT0, rfl, e1, e2⟩
      have hi' : i < os.length := by simpa using hi
      obtain ⟨o, ho⟩ : ∃ o, os[i]? = some o := ⟨_, List.getElem?_eq_getElem hi'⟩
      have e2' : y2 = .int o := by
        have e2b : (os.map V.int)[i]? = some y2 := e2
        rw [List.getElem?_map, ho] at e2b
        exact (Option.some.inj e2b).symm
      subst e2'
      cases e1
      have hgd : os.getD i 0 = o := by rw [List.getD_eq_getElem?_getD, ho]; rfl
      have f4 : Fr ls H2 (upd H2 T0 (.tup [.int (i : Nat), .int o])) := .new hT0
      have S3 : StoreAt CS (upd H2 T0 (.tup [.int (i : Nat), .int o])) x L ls ways line (Lru.after ways line (Lru.fresh sets) os i) := S2.fr (.new (L := []) hT0) (fun z => nomatch z) (fun z => nomatch z) (fun l _ z => nomatch z)
      obtain ⟨dx3, h3x⟩ := S3.ob
      refine ⟨T0, _, rfl, sqT_of upd_same, rfl, _, _, rfl, _, _, rfl, rfl, rfl, ?_⟩
      refine ⟨_, rfl, x, dx3, _, rfl, h3x, sflds_no _ _ _ (by decide +kernel) (by decide +kernel) (by decide +kernel), _, rfl, ?_⟩
      have nDT : D ≠ T0 := ne_of_none hD hT0
      have hD3 : (upd H2 T0 (.tup [.int (i : Nat), .int o])) D = some (.lst ((Lru.missedUp ways line (Lru.fresh sets) os i).map V.int)) := by rw [upd_ne nDT]; exact hD
      refine ⟨x, L, ls, ways, line, _, o, rfl, S3, g.l1, g.l8, after_ne g.ne, (Lru.Few.fresh (by have := g.w1; omega)).after g.w1 os i, g.w1, g.w4, fun H4 f5 S4 => ?_⟩
      rw [← Lru.after_succ ho] at S4
      have hD4 := f5.ne hD3 nDl
      have fr4 := (fr.trans f4).trans f5
      have hm : Lru.missAt ways line (Lru.fresh sets) os i = Lru.miss line (Lru.after ways line (Lru.fresh sets) os i) o := by
        unfold Lru.missAt
        rw [hgd]
      refine ⟨_, rfl, ite_b (fun c => ?_) (fun c => ?_)⟩
      · rw [← hm] at c
        have hl5 := Lru.missedUp_len ways line (Lru.fresh sets) os i
        refine ⟨_, rfl, _, hD4, (by rw [List.length_map]; have e := sizeLine_eq; omega), fr4.put hD4 trivial (.inr nD), ?_, ?_⟩
        · exact S4.fr (M := [D]) (.wr hD4 trivial (by simp)) (fun z => nDx (List.mem_singleton.mp z)) (fun z => nDL (List.mem_singleton.mp z)) (fun l hl z => nDl (List.mem_singleton.mp z ▸ hl))
        · rw [upd_same, Lru.missedUp_yes c, List.map_append]
          rfl
      · rw [← hm] at c
        refine ⟨fr4, S4, ?_⟩
        rw [Lru.missedUp_no c]
        exact hD4
    · rintro H2 ⟨fr, S2, hD⟩
      have e : (os.map V.int).length = os.length := List.length_map _
      rw [e] at hD
      exact q D H2 (f3.free _ nD) (f3.cut fr fun l hl => .inr (f1.free _ (nls l hl))) hD
def spNeedNear (K : PySem.W.Frag) : Sp := fun vs H Q _ => ∃ v d, vs = [v] ∧ Im K H d v ∧ isNear d = true ∧ ∀ H', Fr [] H H' → Q .non H'
theorem cal_need_near (T : NTxt K mg CS) : Cal P w K mg base 4 "need_near" (spNeedNear K) := by
  have c_is_near := cal_is_near (P := P) (w := w) (base := base) T
  refine T.d_need_near.cal sc_need_near (fun vs H Q E h => ?_) (fun f cdv A outer s H vs Q E hr h => ?_)
  · obtain ⟨v, d, rfl, _⟩ := h
    rfl
  · obtain ⟨v, d, rfl, hd, hn, q⟩ := h
    refine ⟨_, (pss_one (ps_if (pt_not (pt_val (pe_c c_is_near hr (by decide) (by rfl) (pa_cons (pv 0) pa_nil))))
  (pss_one ps_never)
  pss_nil)), ?_⟩
    refine ⟨_, rfl, v, d, rfl, hd, fun H1 f1 => ⟨_, rfl, ?_⟩⟩
    rw [hn]
    exact iteF (q H1 f1)
def spNeedTouches (K : PySem.W.Frag) : Sp := fun vs H Q _ => ∃ (b : Addr) (os : List Int), vs = [.ref b] ∧ SqT K H b (os.map V.int) ∧ (∀ o ∈ os, 0 ≤ o) ∧ os.length ≤ 100000 ∧ ∀ H', Fr [] H H' → Q .non H'
theorem cal_need_touches (T : NTxt K mg CS) : Cal P w K mg base 2 "need_touches" (spNeedTouches K) := by
  have c_is_number := cal_is_number (P := P) (w := w) (base := base) T
  refine T.d_need_touches.cal sc_need_touches (fun vs H Q E h => ?_) (fun f cdv A outer s H vs Q E hr h => ?_)
  · obtain ⟨b, os, rfl, _⟩ := h
    rfl
  · obtain ⟨b, os, rfl, hb, hp, hlen, q⟩ := h
    refine ⟨_, (pss_one (ps_if (PW.pt (pw_or (pt_not (pt_val (pe_callB (call_isiK' K (by rfl)) (by rfl) T.z_isinstance bt_isinstance (pa_cons (pv 0) (pa_cons (pe_bltn (v := .ty "tuple") rfl T.z_tuple bt_tuple rfl) pa_nil))))) (pw_or1 (pt_not (pt_val (pe_callB (cr_allK K (by rfl) (by rfl)) (by rfl) T.z_all bt_all (by exact (pa_cons (pe_lcX [("octet", 1)] (by rfl) sc_need_touches.nd (pi_tupK K (by rfl) (pv 0)) (blkOk_by (N := ["thing", "octet"]) (sc := defScope s_need_touches) (by decide +kernel)) (fun _ _ _ _ _ => by exact (pg_nameX 1 sc_need_touches.nd rfl (by first | exact .inl rfl | exact .inr rfl) (by first | exact .inr rfl | exact .inl rfl))) (fun _ _ _ _ _ => by exact pts_nil) (fun _ _ _ _ _ => by exact (pe_and (pe_c c_is_number hr (by decide) (by rfl) (pa_cons (pv 1) pa_nil)) (pe_one (pe_cmpR op_ge (pv 1) pe_int (nomark _))))) (fun _ => rfl)) pa_nil))))))))
  (pss_one ps_never)
  pss_nil)), ?_⟩
    refine ⟨_, rfl, _, .ty "tuple", _, _, _, rfl, .ty _, sqT_ty hb, kit_ty kb_tuple_tuple, _, rfl, iteF ?_⟩
    refine ⟨_, rfl, b, rfl, ⟨_, hb⟩, fun D nD => ?_⟩
    refine lc_each walk_tup (fun _ => .bl true) nD (by rw [List.length_map]; omega) (fun H' fr => fr.tup hb) ?_ gName_mono (fun i H x H' _ y => yat_fr y) ?_
    · rintro i x H2 H3 Z1 hi fr ⟨rfl, ex⟩ hz
      obtain ⟨o, ho, rfl⟩ : ∃ o, o ∈ os ∧ x = V.int o := by
        rw [List.getElem?_map] at ex
        cases e : os[i]? with
        | none => rw [e] at ex; cases ex
        | some o => rw [e] at ex; exact ⟨o, List.mem_of_getElem? e, (Option.some.inj ex).symm⟩
      refine ⟨rfl, _, rfl, _, .int o, rfl, rfl, _, rfl, iteT ⟨_, rfl, _, _, rfl, rfl, ?_⟩⟩
      show Z1 (.bl (decide (0 ≤ o))) H3
      rw [decide_eq_true (hp o ho)]
      exact hz _ (.refl _ _)
    · intro H2 fr hl
      refine ⟨D, (List.range (os.map V.int).length).map (fun _ => true), rfl, sqL_of (by rw [hl, List.map_map]; rfl), _, rfl, ?_⟩
      have e : ((List.range (os.map V.int).length).map (fun _ => true)).all id = true := by
        rw [List.all_map]
        exact List.all_eq_true.mpr fun _ _ => rfl
      rw [e]
      exact iteF (q H2 fr)
def spMisses (K : PySem.W.Frag) : Sp := fun vs H Q _ => ∃ (a b : Addr) (sets ways line : Int) (os : List Int), vs = [.ref a, .ref b] ∧ SqT K H a [.int sets, .int ways, .int line] ∧ SqT K H b (os.map V.int) ∧ GoodN sets ways line ∧ os.length ≤ 100000 ∧ (∀ o ∈ os, 0 ≤ o) ∧
  ∀ (H' : Hp), Fr [] H H' → Q (.int ((Lru.missed sets ways line os).length : Int)) H'
theorem near_im {H : Hp} {a : Addr} {sets ways line : Int} (h : SqT K H a [.int sets, .int ways, .int line]) : Im K H (.tuple [.int sets, .int ways, .int line]) (.ref a) := Im.tupI (ns := [sets, ways, line]) h
theorem cal_misses (T : NTxt K mg CS) : Cal P w K mg base 5 "misses" (spMisses K) := by
  have c_need_near := cal_need_near (P := P) (w := w) (base := base) T
  have c_need_touches := cal_need_touches (P := P) (w := w) (base := base) T
  have c_missed_by := cal_missed_by (P := P) (w := w) (base := base) T
  refine T.d_misses.cal sc_misses (fun vs H Q E h => ?_) (fun f cdv A outer s H vs Q E hr h => ?_)
  · obtain ⟨a, b, sets, ways, line, os, rfl, _⟩ := h
    rfl
  · obtain ⟨a, b, sets, ways, line, os, rfl, ha, hb, g, hlen, hp, q⟩ := h
    refine ⟨_, (pss_cons (ps_expr (pe_c c_need_near hr (by decide) (by rfl) (pa_cons (pv 0) pa_nil)))
  (pss_cons (ps_expr (pe_c c_need_touches hr (by decide) (by rfl) (pa_cons (pv 1) pa_nil)))
  (pss_one (ps_ret (pe_callB (call_lenK K (by rfl)) (by rfl) T.z_len bt_len (pa_cons (pe_c c_missed_by hr (by decide) (by rfl) (pa_cons (pv 0) (pa_cons (pv 1) pa_nil))) pa_nil)))))), ?_⟩
    refine ⟨_, rfl, _, _, rfl, near_im ha, g.near, fun H1 f1 => ?_⟩
    refine ⟨_, rfl, b, os, rfl, f1.tup hb, hp, hlen, fun H2 f2 => ?_⟩
    have f12 := f1.trans f2
    refine ⟨_, rfl, _, rfl, a, b, sets, ways, line, os, rfl, f12.tup ha, f12.tup hb, g, hlen, fun p H3 np f3 hl => ?_⟩
    refine ⟨p, _, rfl, .inl (sqL_of hl), ?_⟩
    have h := q H3 (f12.trans f3)
    rw [List.length_map]
    exact h
def spMissed (K : PySem.W.Frag) : Sp := fun vs H Q _ => ∃ (a b : Addr) (sets ways line : Int) (os : List Int), vs = [.ref a, .ref b] ∧ SqT K H a [.int sets, .int ways, .int line] ∧ SqT K H b (os.map V.int) ∧ GoodN sets ways line ∧ os.length ≤ 100000 ∧ (∀ o ∈ os, 0 ≤ o) ∧
  ∀ (p : Addr) (H' : Hp), Fr [] H H' → H' p = some (.tup ((Lru.missed sets ways line os).map V.int)) → Q (.ref p) H'
theorem cal_missed (T : NTxt K mg CS) : Cal P w K mg base 5 "missed" (spMissed K) := by
  have c_need_near := cal_need_near (P := P) (w := w) (base := base) T
  have c_need_touches := cal_need_touches (P := P) (w := w) (base := base) T
  have c_missed_by := cal_missed_by (P := P) (w := w) (base := base) T
  refine T.d_missed.cal sc_missed (fun vs H Q E h => ?_) (fun f cdv A outer s H vs Q E hr h => ?_)
  · obtain ⟨a, b, sets, ways, line, os, rfl, _⟩ := h
    rfl
  · obtain ⟨a, b, sets, ways, line, os, rfl, ha, hb, g, hlen, hp, q⟩ := h
    refine ⟨_, (pss_cons (ps_expr (pe_c c_need_near hr (by decide) (by rfl) (pa_cons (pv 0) pa_nil)))
  (pss_cons (ps_expr (pe_c c_need_touches hr (by decide) (by rfl) (pa_cons (pv 1) pa_nil)))
  (pss_one (ps_ret (pe_callTy (call_tupleK K (by rfl)) (by rfl) T.z_tuple bt_tuple (pa_cons (pe_c c_missed_by hr (by decide) (by rfl) (pa_cons (pv 0) (pa_cons (pv 1) pa_nil))) pa_nil)))))), ?_⟩
    refine ⟨_, rfl, _, _, rfl, near_im ha, g.near, fun H1 f1 => ?_⟩
    refine ⟨_, rfl, b, os, rfl, f1.tup hb, hp, hlen, fun H2 f2 => ?_⟩
    have f12 := f1.trans f2
    refine ⟨_, rfl, _, rfl, a, b, sets, ways, line, os, rfl, f12.tup ha, f12.tup hb, g, hlen, fun p H3 np f3 hl => ?_⟩
    exact ⟨p, _, rfl, .inl ⟨sqL_of hl, fun l nl => q l _ ((f12.trans f3).up nl) upd_same⟩⟩
end
end B


namespace B
open PySem PySem.Spec PyProof.Rows L2
section
variable {P : Program} {w : World} {K : PySem.W.Frag} {mg : Str → Option Value} {base : Heap} {CS : Addr}
def spKept (K : PySem.W.Frag) : Sp := fun vs H Q _ => ∃ (a b : Addr) (sets ways line : Int) (os : List Int), vs = [.ref a, .ref b] ∧ SqT K H a [.int sets, .int ways, .int line] ∧ SqT K H b (os.map V.int) ∧ GoodN sets ways line ∧ os.length ≤ 100000 ∧ (∀ o ∈ os, 0 ≤ o) ∧
  ∀ (p : Addr) (H' : Hp), Fr [] H H' → Im K H' (lotsD (Lru.kept sets ways line os)) (.ref p) → Q (.ref p) H'
theorem cal_kept (T : NTxt K mg CS) : Cal P w K mg base 5 "kept" (spKept K) := by
  have c_need_near := cal_need_near (P := P) (w := w) (base := base) T
  have c_need_touches := cal_need_touches (P := P) (w := w) (base := base) T
  have m_Store := mak_Store (P := P) (w := w) (base := base) T
  have mt_Store_touch := met_touch (P := P) (w := w) (base := base) T
  refine T.d_kept.cal sc_kept (fun vs H Q E h => ?_) (fun f cdv A outer s H vs Q E hr h => ?_)
  · obtain ⟨a, b, sets, ways, line, os, rfl, _⟩ := h
    rfl
  · obtain ⟨a, b, sets, ways, line, os, rfl, ha, hb, g, hlen, hp, q⟩ := h
    refine ⟨_, (pss_cons (ps_expr (pe_c c_need_near hr (by decide) (by rfl) (pa_cons (pv 0) pa_nil)))
  (pss_cons (ps_expr (pe_c c_need_touches hr (by decide) (by rfl) (pa_cons (pv 1) pa_nil)))
  (pss_cons (ps_set (i := 2) sc_kept.nd rfl (by first | exact .inl rfl | exact .inr rfl) (pe_mk m_Store hr (by decide) (by rfl) (pa_cons (pv 0) pa_nil)))
  (pss_cons (ps_for PassesOwn.never rfl (pi_tupK K (by rfl) (pv 1)) (pg_nameX 3 sc_kept.nd rfl (by first | exact .inl rfl | exact .inr rfl) (by first | exact .inr rfl | exact .inl rfl))
  (pss_one (ps_expr (pe_mt mt_Store_touch hr (by decide) (pv 2) (pa_cons (pv 3) pa_nil)))))
  (pss_one (ps_ret (pe_callTy (call_tupleK K (by rfl)) (by rfl) T.z_tuple bt_tuple (by exact (pa_cons (pe_lcX [("lot", 4)] (by rfl) sc_kept.nd (pi_listK K (by rfl) (pe_fldK K (by rfl) (by rfl) (pv 2))) (blkOk_by (N := ["near", "touches", "store", "octet", "lot"]) (sc := defScope s_kept) (by decide +kernel)) (fun _ _ _ _ _ => by exact (pg_nameX 4 sc_kept.nd rfl (by first | exact .inl rfl | exact .inr rfl) (by first | exact .inr rfl | exact .inl rfl))) (fun _ _ _ _ _ => by exact pts_nil) (fun _ _ _ _ _ => by exact (pe_callTy (call_tupleK K (by rfl)) (by rfl) T.z_tuple bt_tuple (pa_cons (pv 4) pa_nil))) (fun _ => rfl)) pa_nil))))))))), ?_⟩
    refine ⟨_, rfl, _, _, rfl, near_im ha, g.near, fun H1 f1 => ?_⟩
    refine ⟨_, rfl, b, os, rfl, f1.tup hb, hp, hlen, fun H2 f2 => ?_⟩
    have f12 := f1.trans f2
    -- store = Store(near)
    refine ⟨_, rfl, fun x dx nx ndx nex => ?_⟩
    have f3 : Fr [] H2 (upd (upd H2 dx (.own x)) x (.ins CS dx [])) := (Fr.new ndx).up (by rw [upd_ne (Ne.symm nex)]; exact nx)
    refine ⟨x, dx, a, sets, ways, line, rfl, upd_same, (f12.trans f3).tup ha, by have := g.s1; omega, g.s4, fun L ls H3 S f4 nL nls => ⟨rfl, ?_⟩⟩
    have f13 : Fr [] H H3 := f12.trans (f3.cut f4 fun l hl => by cases List.mem_singleton.mp hl; exact .inr nx)
    -- for octet in touches: store.touch(octet)
    refine ⟨_, rfl, b, rfl, ⟨_, f13.tup hb⟩, for_tup (xs := os.map V.int) (fun i σ H4 => ∃ v, σ = [some (.ref a), some (.ref b), some (.ref x), v, none] ∧ Fr ls H3 H4 ∧ StoreAt CS H4 x L ls ways line (Lru.after ways line (Lru.fresh sets) os i))
      ⟨none, rfl, .refl _ _, S⟩ (fun i σ H4 _ ⟨_, _, fr, _⟩ => fr.tup (f13.tup hb)) ?_ ?_⟩
    · rintro i y σ H4 hy ⟨v, rfl, fr, S2⟩
      obtain ⟨o, ho, rfl⟩ := map_at hy
      obtain ⟨dx3, h3x⟩ := S2.ob
      refine ⟨_, rfl, x, dx3, _, rfl, h3x, sflds_no _ _ _ (by decide +kernel) (by decide +kernel) (by decide +kernel), _, rfl, ?_⟩
      refine ⟨x, L, ls, ways, line, _, o, rfl, S2, g.l1, g.l8, after_ne g.ne, (Lru.Few.fresh (by have := g.w1; omega)).after g.w1 os i, g.w1, g.w4, fun H5 f5 S3 => ?_⟩
      rw [← Lru.after_succ ho] at S3
      exact ⟨_, rfl, fr.trans f5, S3⟩
    · rintro σ H4 ⟨v, rfl, fr, S2⟩
      rw [List.length_map, Lru.after_all] at S2
      obtain ⟨dx3, h3x⟩ := S2.ob
      -- tuple([tuple(lot) for lot in store.lots])
      refine ⟨_, rfl, x, CS, dx3, _, _, rfl, h3x, T.cl, T.nT, sflds_lots _ _ _, L, rfl, ⟨_, sqL_of S2.ll⟩, fun D nD => ?_⟩
      have hll : (ls.map V.ref).length = (Lru.kept sets ways line os).length := by rw [List.length_map]; exact S2.len
      have h4 : (Lru.kept sets ways line os).length ≤ 4 := by
        unfold Lru.kept
        rw [Lru.fold_len]
        unfold Lru.fresh
        rw [List.length_replicate]
        have := g.s4
        omega
      have fH4 : Fr [] H H4 := f13.cut fr fun l hl => .inr (f12.free _ (f3.free _ (nls l hl)))
      refine lc_dat (K := K) walk_list (fun i => .tuple (((Lru.kept sets ways line os).getD i []).map PyData.int)) nD (by rw [hll]; omega) (fun H' fr' => fr'.lst (sqL_of S2.ll) (fun z => nomatch z)) ?_ gName_mono (fun i H x H' _ y => yat_fr y) ?_
      · rintro i y H5 H6 Z1 hi fr5 ⟨rfl, ey⟩ hz
        obtain ⟨l, hl, rfl⟩ := map_at ey
        rw [hll] at hi
        have hlot := S2.at' i l _ hl (List.getElem?_eq_getElem hi)
        refine ⟨rfl, _, rfl, l, _, rfl, .inl ⟨sqL_of (fr5.at hlot), fun t nt => hz _ _ (.new nt) ?_⟩⟩
        have eg : (Lru.kept sets ways line os).getD i [] = (Lru.kept sets ways line os)[i] := getD_of (List.getElem?_eq_getElem hi)
        rw [eg]
        exact Im.tupI (sqT_of upd_same)
      · intro H5 ys fr5 hD hys
        refine ⟨D, ys, rfl, .inl ⟨sqL_of hD, fun t nt => ?_⟩⟩
        refine q t _ ((fH4.trans fr5).up nt) ⟨t, ys, rfl, sqT_of upd_same, ?_⟩
        have h6 := hys.mono (Fr.new (L := []) (o := .tup ys) nt)
        rw [hll, range_map_get (Lru.kept sets ways line os) [] (fun l => PyData.tuple (l.map PyData.int))] at h6
        exact h6
end
end B


namespace B
open PySem PySem.Spec PyProof.Rows L2
abbrev s__law_cell : Stmt := (topS 20)
theorem sc__law_cell : FnScope ["_law_script", "_law_k"] ["_law_script", "_law_k"] (defScope s__law_cell) := ⟨rfl, rfl, rfl, by decide +kernel, rfl, by decide +kernel, by decide +kernel⟩
abbrev s__law_pen : Stmt := (topS 21)
theorem sc__law_pen : FnScope ["_law_cell_here"] ["_law_cell_here"] (defScope s__law_pen) := ⟨rfl, rfl, rfl, by decide +kernel, rfl, by decide +kernel, by decide +kernel⟩
abbrev s__law_draw : Stmt := (topS 22)
theorem sc__law_draw : FnScope ["_law_pen_here", "_law_many", "_law_digit"] ["_law_pen_here", "_law_many"] (defScope s__law_draw) := ⟨rfl, rfl, rfl, by decide +kernel, rfl, by decide +kernel, by decide +kernel⟩
structure PTxt (K : PySem.W.Frag) (mg : Str → Option Value) : Prop where
  d__law_cell : DefAt K mg "_law_cell" s__law_cell ["_law_script", "_law_k"]
  d__law_pen : DefAt K mg "_law_pen" s__law_pen ["_law_cell_here"]
  d__law_draw : DefAt K mg "_law_draw" s__law_draw ["_law_pen_here", "_law_many"]
  z_len : mg "len" = none
  z_int : mg "int" = none
section
variable {P : Program} {w : World} {K : PySem.W.Frag} {mg : Str → Option Value} {base : Heap}
/-! ### the law's own small defs -/
def spCell' (K : PySem.W.Frag) : Sp := fun vs H Q _ => ∃ (a : Addr) (ns : List Int) (k : Nat), vs = [.ref a, .int (k : Int)] ∧ SqL K H a (ns.map V.int) ∧ ∀ z, Q (.int z) H
theorem cal_cell (T : PTxt K mg) : Cal P w K mg base 1 "_law_cell" (spCell' K) := by
  refine T.d__law_cell.cal sc__law_cell (fun vs H Q E h => ?_) (fun f cdv A outer s H vs Q E hr h => ?_)
  · obtain ⟨a, ns, k, rfl, _⟩ := h
    rfl
  · obtain ⟨a, ns, k, rfl, ha, q⟩ := h
    refine ⟨_, (pss_cons (ps_if (pt_cmpR op_lt (pv 1) (pe_callB (call_lenK K (by rfl)) (by rfl) T.z_len bt_len (pa_cons (pv 0) pa_nil)) (nomark _))
  (pss_one (ps_ret (pe_ix (ix_listK K (by rfl)) (pv 0) (pv 1) (fun _ _ => rfl))))
  pss_nil)
  (pss_one (ps_ret pe_int))), ?_⟩
    refine ⟨_, rfl, _, rfl, a, _, rfl, .inl ha, _, _, rfl, rfl, _, rfl, ite_b (fun c => ?_) (fun c => ?_)⟩
    · have c' : k < ns.length := by
        have h := of_decide_eq_true c
        rw [List.length_map] at h
        omega
      refine ⟨_, rfl, _, rfl, a, _, _, .int ns[k], rfl, rfl, ha, atI_nat (by rw [List.getElem?_map, List.getElem?_eq_getElem c']; rfl), q _⟩
    · exact q _
def spPen : Sp := fun vs H Q _ => ∃ (x : Int), vs = [.int x] ∧ ∀ p H', H p = none → Fr [] H H' → Pen H' p → Q (.ref p) H'
theorem cal_pen (T : PTxt K mg) : Cal P w K mg base 1 "_law_pen" spPen := by
  refine T.d__law_pen.cal sc__law_pen (fun vs H Q E h => ?_) (fun f cdv A outer s H vs Q E hr h => ?_)
  · obtain ⟨x, rfl, _⟩ := h
    rfl
  · obtain ⟨x, rfl, q⟩ := h
    refine ⟨_, (pss_one (ps_ret (pe_lst (pa_cons (pv 0) (pa_cons (pe_callTy call_int1 (by rfl) T.z_int bt_int (pa_cons (pe_cmpR op_ge (pv 0) (pe_op op_pow pe_int pe_int) (nomark _)) pa_nil)) pa_nil))))), ?_⟩
    refine ⟨_, rfl, _, rfl, _, _, rfl, rfl, ⟨by decide, by decide, by decide⟩, _, _, rfl, rfl, .inr ⟨_, rfl, (by show 2 ≤ sizeLine; decide), fun p np => ?_⟩⟩
    exact q p _ np (.new np) ⟨_, _, upd_same⟩
def spDraw : Sp := fun vs H Q _ => ∃ (p : Addr) (m : Int), vs = [.ref p, .int m] ∧ Pen H p ∧ 1 ≤ m ∧ m ≤ 1000000 ∧ ∀ d H', 0 ≤ d → d < m → Fr [p] H H' → Pen H' p → Q (.int d) H'
theorem cal_draw (T : PTxt K mg) : Cal P w K mg base 1 "_law_draw" spDraw := by
  refine T.d__law_draw.cal sc__law_draw (fun vs H Q E h => ?_) (fun f cdv A outer s H vs Q E hr h => ?_)
  · obtain ⟨p, m, rfl, _⟩ := h
    rfl
  · obtain ⟨p, m, rfl, ⟨x, fl, hp⟩, m1, m2, q⟩ := h
    refine ⟨_, (pss_cons (ps_if (pt_cmpR op_eq (pe_ix (ix_listK K (by rfl)) (pv 0) pe_int (fun _ _ => rfl)) pe_int (nomark _))
  (pss_cons (ps_set (i := 2) sc__law_draw.nd rfl (by first | exact .inl rfl | exact .inr rfl) (pe_op op_mod (pe_ix (ix_listK K (by rfl)) (pv 0) pe_int (fun _ _ => rfl)) (pv 1)))
  (pss_cons (ps_asg (pe_op op_fdiv (pe_ix (ix_listK K (by rfl)) (pv 0) pe_int (fun _ _ => rfl)) (pv 1)) (pg_sub (pv 0) pe_int set_list))
  (pss_one (ps_ret (pv 2)))))
  pss_nil)
  (pss_cons (ps_asg (pe_op op_mod (pe_op op_add (pe_op op_mul (pe_op op_mod (pe_ix (ix_listK K (by rfl)) (pv 0) pe_int (fun _ _ => rfl)) pe_int) pe_int) pe_int) pe_int) (pg_sub (pv 0) pe_int set_list))
  (pss_one (ps_ret (pe_op op_mod (pe_op op_fdiv (pe_op op_mod (pe_op op_add (pe_op op_mul (pe_ix (ix_listK K (by rfl)) (pv 0) pe_int (fun _ _ => rfl)) (pe_ix (ix_listK K (by rfl)) (pv 0) pe_int (fun _ _ => rfl))) (pe_op op_mul pe_int (pe_ix (ix_listK K (by rfl)) (pv 0) pe_int (fun _ _ => rfl)))) pe_int) pe_int) (pv 1)))))), ?_⟩
    have g0 : ∀ (u v : V), atI [u, v] 0 = some u := fun _ _ => rfl
    have g1 : ∀ (u v : V), atI [u, v] 1 = some v := fun _ _ => rfl
    refine ⟨_, rfl, p, _, _, _, rfl, rfl, sqL_of hp, g1 _ _, rfl, _, rfl, ite_b (fun c => ?_) (fun c => ?_)⟩
    · refine ⟨_, rfl, p, _, _, _, rfl, rfl, sqL_of hp, g0 _ _, _, rfl, _, _, rfl, rfl, by omega, ?_⟩
      refine ⟨_, rfl, p, _, _, _, rfl, rfl, sqL_of hp, g0 _ _, _, rfl, _, _, rfl, rfl, ⟨by omega, by omega⟩, _, rfl, p, _, _, 0, rfl, rfl, hp, rfl, ?_⟩
      refine ⟨_, rfl, ?_⟩
      exact q _ _ (Int.emod_nonneg _ (by omega)) (Int.emod_lt_of_pos _ (by omega)) (.wr hp trivial (by simp)) ⟨_, _, upd_same⟩
    · have b1 := Int.emod_nonneg x (show (2147483629 : Int) ≠ 0 by decide)
      have b2 := Int.emod_lt_of_pos x (show (0 : Int) < 2147483629 by decide)
      refine ⟨_, rfl, p, _, _, _, rfl, rfl, sqL_of hp, g0 _ _, _, _, rfl, rfl, (by show (0 : Int) < 2147483629; decide), _, _, rfl, rfl, .inl ⟨by omega, by omega⟩, _, _, rfl, rfl, _, _, rfl, rfl, (by show (0 : Int) < 2147483629; decide), ?_⟩
      refine ⟨_, rfl, p, _, _, 0, rfl, rfl, hp, rfl, ?_⟩
      have b3 := Int.emod_nonneg (x % 2147483629 * 48271 + 11) (show (2147483629 : Int) ≠ 0 by decide)
      have b4 := Int.emod_lt_of_pos (x % 2147483629 * 48271 + 11) (show (0 : Int) < 2147483629 by decide)
      have fr : Fr [p] H (upd H p (.lst [.int ((x % 2147483629 * 48271 + 11) % 2147483629), .int fl])) := .wr hp trivial (by simp)
      have hp' : (upd H p (.lst [.int ((x % 2147483629 * 48271 + 11) % 2147483629), .int fl])) p = some (.lst [.int ((x % 2147483629 * 48271 + 11) % 2147483629), .int fl]) := upd_same
      refine ⟨_, rfl, p, _, _, _, rfl, rfl, sqL_of hp', g0 _ _, _, rfl, p, _, _, _, rfl, rfl, sqL_of hp', g0 _ _, _, _, rfl, rfl, .inl ⟨by omega, by omega⟩, ?_⟩
      refine ⟨_, rfl, p, _, _, _, rfl, rfl, sqL_of hp', g0 _ _, _, _, rfl, rfl, .inl ⟨by decide, by decide⟩, _, _, rfl, rfl, _, _, rfl, rfl, (by show (0 : Int) < 2147483647; decide), _, _, rfl, rfl, ⟨by decide, by decide⟩, _, rfl, _, _, rfl, rfl, by omega, ?_⟩
      exact q _ _ (Int.emod_nonneg _ (by omega)) (Int.emod_lt_of_pos _ (by omega)) fr ⟨_, _, hp'⟩
end
end B


namespace B
open PySem PySem.Spec PyProof.Rows L2
abbrev s__law_near : Stmt := (topS 23)
theorem sc__law_near : FnScope ["_law_pen_here"] ["_law_pen_here"] (defScope s__law_near) := ⟨rfl, rfl, rfl, by decide +kernel, rfl, by decide +kernel, by decide +kernel⟩
structure QTxt (K : PySem.W.Frag) (mg : Str → Option Value) : Prop extends PTxt K mg where
  d__law_near : DefAt K mg "_law_near" s__law_near ["_law_pen_here"]
section
variable {P : Program} {w : World} {K : PySem.W.Frag} {mg : Str → Option Value} {base : Heap}
def spLawNear (K : PySem.W.Frag) : Sp := fun vs H Q _ => ∃ (p : Addr), vs = [.ref p] ∧ Pen H p ∧ ∀ a H' sets ways line, Fr [p] H H' → Pen H' p → SqT K H' a [.int sets, .int ways, .int line] → GoodN sets ways line → Q (.ref a) H'
theorem cal_law_near (T : QTxt K mg) : Cal P w K mg base 2 "_law_near" (spLawNear K) := by
  have c__law_draw := cal_draw (P := P) (w := w) (base := base) T.toPTxt
  refine T.d__law_near.cal sc__law_near (fun vs H Q E h => ?_) (fun f cdv A outer s H vs Q E hr h => ?_)
  · obtain ⟨p, rfl, _⟩ := h
    rfl
  · obtain ⟨p, rfl, pn, q⟩ := h
    refine ⟨_, (pss_one (ps_ret (pe_tup (pa_cons (pe_op op_add pe_int (pe_c c__law_draw hr (by decide) (by rfl) (pa_cons (pv 0) (pa_cons pe_int pa_nil)))) (pa_cons (pe_op op_add pe_int (pe_c c__law_draw hr (by decide) (by rfl) (pa_cons (pv 0) (pa_cons pe_int pa_nil)))) (pa_cons (pe_op op_add pe_int (pe_c c__law_draw hr (by decide) (by rfl) (pa_cons (pv 0) (pa_cons pe_int pa_nil)))) pa_nil)))))), ?_⟩
    refine ⟨_, rfl, p, 4, rfl, pn, by decide, by decide, fun d1 H1 a1 b1 f1 pn1 => ⟨_, _, rfl, rfl, ?_⟩⟩
    refine ⟨_, rfl, p, 4, rfl, pn1, by decide, by decide, fun d2 H2 a2 b2 f2 pn2 => ⟨_, _, rfl, rfl, ?_⟩⟩
    refine ⟨_, rfl, p, 8, rfl, pn2, by decide, by decide, fun d3 H3 a3 b3 f3 pn3 => ⟨_, _, rfl, rfl, (by show 3 ≤ sizeLine; decide), fun t nt => ?_⟩⟩
    exact q t _ _ _ _ (((f1.trans f2).trans f3).up nt) (pn3.up nt) (sqT_of upd_same) ⟨by omega, by omega, by omega, by omega, by omega, by omega⟩
end
end B


namespace B
open PySem PySem.Spec PyProof.Rows L2
/-- touches that bring a store to where it stands -/
def warmL (line : Int) (lots : List (List Int)) : List Int := (lots.map fun l => l.map fun z => z * line).flatten
theorem warm_take {line : Int} {lots : List (List Int)} {i : Nat} {l : List Int} (h : lots[i]? = some l) : warmL line (lots.take (i + 1)) = warmL line (lots.take i) ++ l.map (fun z => z * line) := by
  unfold warmL
  rw [Lru.take_succ h, List.map_append, List.flatten_append]
  simp
theorem warm_len {line ways : Int} {n : Nat} : ∀ {lots : List (List Int)}, Lru.Few ways lots → ways ≤ 4 → lots.length ≤ n → (warmL line lots).length ≤ 4 * n
  | [], _, _, _ => Nat.zero_le _
  | l :: r, h, h4, hn => by
    have h1 := h l (List.mem_cons_self ..)
    cases n with
    | zero => simp at hn
    | succ n =>
      have h2 := warm_len (line := line) (n := n) (lots := r) (fun x hx => h x (List.mem_cons_of_mem _ hx)) h4 (by simp at hn; omega)
      show (l.map (fun z => z * line) ++ warmL line r).length ≤ _
      rw [List.length_append, List.length_map]
      omega
theorem few_kept {sets ways line : Int} (g : GoodN sets ways line) (os : List Int) : Lru.Few ways (Lru.kept sets ways line os) := Lru.Few.fold g.w1 os (Lru.Few.fresh (by have := g.w1; omega))
theorem len_kept {sets ways line : Int} (g : GoodN sets ways line) (os : List Int) : (Lru.kept sets ways line os).length ≤ 4 := by
  unfold Lru.kept
  rw [Lru.fold_len]
  unfold Lru.fresh
  rw [List.length_replicate]
  have := g.s4
  omega
theorem Few.take {ways : Int} {lots : List (List Int)} (h : Lru.Few ways lots) (i : Nat) : Lru.Few ways (lots.take i) := fun l hl => h l (List.mem_of_mem_take hl)
theorem cut_ints (ns : List Int) (lo hi : Option Int) : cutV (ns.map V.int) lo hi = (((ns.drop (HT.sIx ns.length 0 lo)).take (HT.sIx ns.length ns.length hi - HT.sIx ns.length 0 lo))).map V.int := by
  unfold cutV
  rw [List.length_map, List.map_take, List.map_drop]
theorem menu3 {d : Int} (a b c : V) (h0 : 0 ≤ d) (h3 : d < 3) : ∃ v, (v = a ∨ v = b ∨ v = c) ∧ atI [a, b, c] d = some v := by
  have h : d = 0 ∨ d = 1 ∨ d = 2 := by omega
  rcases h with rfl | rfl | rfl
  · exact ⟨a, .inl rfl, rfl⟩
  · exact ⟨b, .inr (.inl rfl), rfl⟩
  · exact ⟨c, .inr (.inr rfl), rfl⟩
theorem warm_nn {ways line : Int} (l1 : 1 ≤ line) {lots : List (List Int)} (h : ∀ l ∈ lots, ∀ z ∈ l, 0 ≤ z) : ∀ o ∈ warmL line lots, 0 ≤ o := fun o ho => by
  unfold warmL at ho
  obtain ⟨l, hl, ho⟩ := List.mem_flatten.mp ho
  obtain ⟨l2, hl2, rfl⟩ := List.mem_map.mp hl
  obtain ⟨z, hz, rfl⟩ := List.mem_map.mp ho
  exact Int.mul_nonneg (h l2 hl2 z hz) (by omega)
theorem kept_nn {ways line : Int} (l1 : 1 ≤ line) : ∀ (os : List Int) (lots : List (List Int)), (∀ o ∈ os, 0 ≤ o) → (∀ l ∈ lots, ∀ z ∈ l, 0 ≤ z) → ∀ l ∈ os.foldl (Lru.touch ways line) lots, ∀ z ∈ l, 0 ≤ z
  | [], _, _, h => h
  | o :: os, lots, ho, h => by
    refine kept_nn l1 os (Lru.touch ways line lots o) (fun x hx => ho x (List.mem_cons_of_mem _ hx)) fun l hl z hz => ?_
    unfold Lru.touch at hl
    rcases List.mem_or_eq_of_mem_set hl with m | e
    · exact h l m z hz
    · subst e
      rcases Lru.lotPut_mem hz with e2 | hz
      · subst e2
        exact Int.ediv_nonneg (ho o (List.mem_cons_self ..)) (by omega)
      · rcases Lru.getD_mem (lots := lots) (i := Lru.at' lots (o / line)) with m | e
        · exact h _ m z hz
        · unfold Lru.lotOf at hz
          rw [e] at hz
          exact nomatch hz
end B


namespace B
open PySem PySem.Spec PyProof.Rows L2
abbrev s__law_right : Stmt := (topS 24)
theorem sc__law_right : FnScope ["_law_near_here", "_law_one", "_law_other", "_law_sets", "_law_ways", "_law_line", "_law_first", "_law_both", "_law_octet", "_law_twice", "_law_again", "_law_lines", "_law_number", "_law_more", "_law_place"] ["_law_near_here", "_law_one", "_law_other"] (defScope s__law_right) := ⟨rfl, rfl, rfl, by decide +kernel, rfl, by decide +kernel, by decide +kernel⟩
structure LTxt (K : PySem.W.Frag) (mg : Str → Option Value) (CS : Addr) : Prop extends NTxt K mg CS, QTxt K mg where
  d__law_right : DefAt K mg "_law_right" s__law_right ["_law_near_here", "_law_one", "_law_other"]
  z_set : mg "set" = none
theorem kept_none : ∀ n : Nat, kept (fun _ => false) (fun _ => V.non) n = ([] : List Int).map V.int
  | 0 => rfl
  | n + 1 => by rw [kept_no rfl, kept_none n]
theorem twice_take {os : List Int} {i : Nat} {o : Int} (h : os[i]? = some o) : Lru.twice (os.take (i + 1)) = Lru.twice (os.take i) ++ [o, o] := by
  unfold Lru.twice
  rw [Lru.take_succ h, List.map_append, List.flatten_append]
  rfl
theorem twice_len : ∀ os : List Int, (Lru.twice os).length = 2 * os.length
  | [] => rfl
  | o :: os => by
    show (o :: o :: Lru.twice os).length = _
    rw [List.length_cons, List.length_cons, List.length_cons, twice_len os]
    omega
theorem twice_mem {o : Int} {os : List Int} (h : o ∈ Lru.twice os) : o ∈ os := by
  unfold Lru.twice at h
  obtain ⟨l, hl, ho⟩ := List.mem_flatten.mp h
  obtain ⟨x, hx, rfl⟩ := List.mem_map.mp hl
  simp at ho
  rw [ho]
  exact hx
section
variable {P : Program} {w : World} {K : PySem.W.Frag} {mg : Str → Option Value} {base : Heap} {CS : Addr}
def spRight (K : PySem.W.Frag) : Sp := fun vs H Q _ => ∃ (an t1 t2 : Addr) (sets ways line : Int) (one other : List Int), vs = [.ref an, .ref t1, .ref t2] ∧ SqT K H an [.int sets, .int ways, .int line] ∧ SqT K H t1 (one.map V.int) ∧ SqT K H t2 (other.map V.int) ∧ GoodN sets ways line ∧
  one.length ≤ 100 ∧ other.length ≤ 100 ∧ (∀ o ∈ one, 0 ≤ o) ∧ (∀ o ∈ other, 0 ≤ o) ∧ ∀ H', Fr [] H H' → Q (.bl true) H'
theorem cal_right (T : LTxt K mg CS) : Cal P w K mg base 6 "_law_right" (spRight K) := by
  have c_kept := cal_kept (P := P) (w := w) (base := base) T.toNTxt
  have c_missed := cal_missed (P := P) (w := w) (base := base) T.toNTxt
  have c_misses := cal_misses (P := P) (w := w) (base := base) T.toNTxt
  refine T.d__law_right.cal sc__law_right (fun vs H Q E h => ?_) (fun f cdv A outer s H vs Q E hr h => ?_)
  · obtain ⟨an, t1, t2, sets, ways, line, one, other, rfl, _⟩ := h
    rfl
  · obtain ⟨an, t1, t2, sets, ways, line, one, other, rfl, han, h1, h2, g, l1, l2, onn, otn, q⟩ := h
    refine ⟨_, (pss_cons (ps_asg (pv 0) (pg_tupK K (n := 3) (by rfl) (by rfl) (by rfl) (by rfl) (pgs_consX (by rfl) (pg_nameX 3 sc__law_right.nd rfl (by first | exact .inl rfl | exact .inr rfl) (by first | exact .inr rfl | exact .inl rfl)) (pgs_consX (by rfl) (pg_nameX 4 sc__law_right.nd rfl (by first | exact .inl rfl | exact .inr rfl) (by first | exact .inr rfl | exact .inl rfl)) (pgs_consX (by rfl) (pg_nameX 5 sc__law_right.nd rfl (by first | exact .inl rfl | exact .inr rfl) (by first | exact .inr rfl | exact .inl rfl)) pgs_nil)))))
  (pss_cons (ps_par (i := 6) (j := 7) rfl sc__law_right.nd rfl rfl (by decide) rfl rfl (pa_cons (pe_c c_misses hr (by decide) (by rfl) (pa_cons (pv 0) (pa_cons (pv 1) pa_nil))) (pa_cons (pe_c c_misses hr (by decide) (by rfl) (pa_cons (pv 0) (pa_cons (pe_op (op_catAK K (by rfl)) (pv 1) (pv 2)) pa_nil))) pa_nil)) rfl)
  (pss_cons (ps_if (PW.pt (pw_or (pt_not (pt_chain op_le op_le (pv 6) (pv 7) (pe_op op_add (pv 6) (pe_c c_misses hr (by decide) (by rfl) (pa_cons (pv 0) (pa_cons (pv 2) pa_nil)))))) (pw_or1 (pt_cmpR (op_neDK K (by rfl) hr.units) (pe_slice (sl_tupAK K (by rfl)) (pe_c c_missed hr (by decide) (by rfl) (pa_cons (pv 0) (pa_cons (pe_op (op_catAK K (by rfl)) (pv 1) (pv 2)) pa_nil))) po_none (po_some (pv 6))) (pe_c c_missed hr (by decide) (by rfl) (pa_cons (pv 0) (pa_cons (pv 1) pa_nil))) (nomark _)))))
  (pss_one (ps_ret pe_bl))
  pss_nil)
  (pss_cons (ps_if (PW.pt (pw_or (pt_cmpR op_lt (pv 6) (pe_lenSetK K (by rfl) (by rfl) T.z_len (by rfl) T.z_set (pe_lcX [("_law_octet", 8)] (by rfl) sc__law_right.nd (pi_tupK K (by rfl) (pv 1)) (blkOk_by (N := ["_law_near_here", "_law_one", "_law_other", "_law_sets", "_law_ways", "_law_line", "_law_first", "_law_both", "_law_octet", "_law_twice", "_law_again", "_law_lines", "_law_number", "_law_more", "_law_place"]) (sc := defScope s__law_right) (by decide +kernel)) (fun _ _ _ _ _ => by exact (pg_nameX 8 sc__law_right.nd rfl (by first | exact .inl rfl | exact .inr rfl) (by first | exact .inr rfl | exact .inl rfl))) (fun _ _ _ _ _ => by exact pts_nil) (fun _ _ _ _ _ => by exact (pe_op op_fdiv (pv 8) (pv 5))) (fun _ => rfl)) (by rfl) (by rfl)) (nomark _)) (pw_or (pt_cmpR op_gt (pv 6) (pe_callB (call_lenK K (by rfl)) (by rfl) T.z_len bt_len (pa_cons (pv 1) pa_nil)) (nomark _)) (pw_or1 (pt_cmpR op_ne (pe_callB (call_lenK K (by rfl)) (by rfl) T.z_len bt_len (pa_cons (pe_c c_missed hr (by decide) (by rfl) (pa_cons (pv 0) (pa_cons (pv 1) pa_nil))) pa_nil)) (pv 6) (nomark _))))))
  (pss_one (ps_ret pe_bl))
  pss_nil)
  (pss_cons (ps_asg (pe_tup (pa_cons (pe_tup pa_nil) (pa_cons (pe_tup pa_nil) pa_nil))) (pg_tupK K (n := 2) (by rfl) (by rfl) (by rfl) (by rfl) (pgs_consX (by rfl) (pg_nameX 9 sc__law_right.nd rfl (by first | exact .inl rfl | exact .inr rfl) (by first | exact .inr rfl | exact .inl rfl)) (pgs_consX (by rfl) (pg_nameX 10 sc__law_right.nd rfl (by first | exact .inl rfl | exact .inr rfl) (by first | exact .inr rfl | exact .inl rfl)) pgs_nil))))
  (pss_cons (ps_for PassesOwn.never rfl (pi_tupK K (by rfl) (pv 1)) (pg_nameX 8 sc__law_right.nd rfl (by first | exact .inl rfl | exact .inr rfl) (by first | exact .inr rfl | exact .inl rfl))
  (pss_one (ps_set (i := 9) sc__law_right.nd rfl (by first | exact .inl rfl | exact .inr rfl) (pe_op (op_catAK K (by rfl)) (pv 9) (pe_tup (pa_cons (pv 8) (pa_cons (pv 8) pa_nil)))))))
  (pss_cons (ps_for PassesOwn.never rfl (pi_tupK K (by rfl) (pe_c c_kept hr (by decide) (by rfl) (pa_cons (pv 0) (pa_cons (pv 1) pa_nil)))) (pg_nameX 11 sc__law_right.nd rfl (by first | exact .inl rfl | exact .inr rfl) (by first | exact .inr rfl | exact .inl rfl))
  (pss_one (ps_set (i := 10) sc__law_right.nd rfl (by first | exact .inl rfl | exact .inr rfl) (pe_op (op_catAK K (by rfl)) (pv 10) (pe_callTy (call_tupleK K (by rfl)) (by rfl) T.z_tuple bt_tuple (by exact (pa_cons (pe_lcX [("_law_number", 12)] (by rfl) sc__law_right.nd (pi_tupK K (by rfl) (pv 11)) (blkOk_by (N := ["_law_near_here", "_law_one", "_law_other", "_law_sets", "_law_ways", "_law_line", "_law_first", "_law_both", "_law_octet", "_law_twice", "_law_again", "_law_lines", "_law_number", "_law_more", "_law_place"]) (sc := defScope s__law_right) (by decide +kernel)) (fun _ _ _ _ _ => by exact (pg_nameX 12 sc__law_right.nd rfl (by first | exact .inl rfl | exact .inr rfl) (by first | exact .inr rfl | exact .inl rfl))) (fun _ _ _ _ _ => by exact pts_nil) (fun _ _ _ _ _ => by exact (pe_op op_mul (pv 12) (pv 5))) (fun _ => rfl)) pa_nil)))))))
  (pss_cons (ps_if (PW.pt (pw_or (pt_cmpR op_ne (pe_c c_misses hr (by decide) (by rfl) (pa_cons (pv 0) (pa_cons (pv 9) pa_nil))) (pv 6) (nomark _)) (pw_or (pt_cmpR op_ne (pe_c c_misses hr (by decide) (by rfl) (pa_cons (pv 0) (pa_cons (pe_op (op_catAK K (by rfl)) (pv 1) (pv 10)) pa_nil))) (pv 6) (nomark _)) (pw_or1 (pt_cmpR (op_neDK K (by rfl) hr.units) (pe_c c_kept hr (by decide) (by rfl) (pa_cons (pv 0) (pa_cons (pe_op (op_catAK K (by rfl)) (pv 1) (pv 10)) pa_nil))) (pe_c c_kept hr (by decide) (by rfl) (pa_cons (pv 0) (pa_cons (pv 1) pa_nil))) (nomark _))))))
  (pss_one (ps_ret pe_bl))
  pss_nil)
  (pss_cons (ps_if (pt_cmpR (op_neDK K (by rfl) hr.units) (pe_c c_missed hr (by decide) (by rfl) (by exact (pa_cons (pv 0) (pa_cons (pe_callTy (call_tupleK K (by rfl)) (by rfl) T.z_tuple bt_tuple (by exact (pa_cons (pe_lcX [("_law_octet", 8)] (by rfl) sc__law_right.nd (pi_tupK K (by rfl) (pv 1)) (blkOk_by (N := ["_law_near_here", "_law_one", "_law_other", "_law_sets", "_law_ways", "_law_line", "_law_first", "_law_both", "_law_octet", "_law_twice", "_law_again", "_law_lines", "_law_number", "_law_more", "_law_place"]) (sc := defScope s__law_right) (by decide +kernel)) (fun _ _ _ _ _ => by exact (pg_nameX 8 sc__law_right.nd rfl (by first | exact .inl rfl | exact .inr rfl) (by first | exact .inr rfl | exact .inl rfl))) (fun _ _ _ _ _ => by exact pts_nil) (fun _ _ _ _ _ => by exact (pe_op op_add (pv 8) (pe_op op_mul (pe_op op_mul pe_int (pv 3)) (pv 5)))) (fun _ => rfl)) pa_nil))) pa_nil)))) (pe_c c_missed hr (by decide) (by rfl) (pa_cons (pv 0) (pa_cons (pv 1) pa_nil))) (nomark _))
  (pss_one (ps_ret pe_bl))
  pss_nil)
  (pss_cons (ps_set (i := 13) sc__law_right.nd rfl (by first | exact .inl rfl | exact .inr rfl) (pe_ifExp (pt_cmpR op_lt (pv 4) pe_int (nomark _)) (pe_c c_missed hr (by decide) (by rfl) (pa_cons (pe_tup (pa_cons (pv 3) (pa_cons (pe_op op_add (pv 4) pe_int) (pa_cons (pv 5) pa_nil)))) (pa_cons (pv 1) pa_nil))) (pe_tup pa_nil)))
  (pss_one (ps_ret (pe_cmpR (op_eqDK K (by rfl) hr.units) (pe_lcX [("_law_place", 14)] (by rfl) sc__law_right.nd (pi_tupK K (by rfl) (pv 13)) (blkOk_by (N := ["_law_near_here", "_law_one", "_law_other", "_law_sets", "_law_ways", "_law_line", "_law_first", "_law_both", "_law_octet", "_law_twice", "_law_again", "_law_lines", "_law_number", "_law_more", "_law_place"]) (sc := defScope s__law_right) (by decide +kernel)) (fun _ _ _ _ _ => by exact (pg_nameX 14 sc__law_right.nd rfl (by first | exact .inl rfl | exact .inr rfl) (by first | exact .inr rfl | exact .inl rfl))) (fun _ _ _ _ _ => by exact (pts_one (pt_cmpR (op_notIn_seqK K (by rfl)) (pv 14) (pe_c c_missed hr (by decide) (by rfl) (pa_cons (pv 0) (pa_cons (pv 1) pa_nil))) (by rfl)))) (fun _ _ _ _ _ => by exact (pv 14)) (fun _ => rfl)) (pe_lst pa_nil) (nomark _)))))))))))))), ?_⟩
    have bothn : ∀ o ∈ one ++ other, 0 ≤ o := fun o ho => (List.mem_append.mp ho).elim (onn o) (otn o)
    have ble := Lru.both_le (line := line) g.s1 g.w1 one other
    -- sets, ways, line = near
    refine ⟨_, rfl, an, _, rfl, han, rfl, _, _, rfl, _, _, rfl, _, _, rfl, rfl, ?_⟩
    -- first, both
    refine ⟨_, rfl, _, rfl, an, t1, sets, ways, line, one, rfl, han, h1, g, by omega, onn, fun H1 f1 => ?_⟩
    refine ⟨_, rfl, _, rfl, _, rfl, catA_of (f1.tup h1) (f1.tup h2) (by rw [List.length_map, List.length_map]; omega) fun t3 H2 f2 h3 => ?_⟩
    rw [← List.map_append] at h3
    have f12 := f1.trans f2
    refine ⟨an, t3, sets, ways, line, one ++ other, rfl, f12.tup han, h3, g, by rw [List.length_append]; omega, bothn, fun H3 f3 => ?_⟩
    have f13 := f12.trans f3
    refine ⟨_, _, rfl, ?_⟩
    -- first <= both <= first + misses(near, other)
    refine ⟨_, rfl, _, rfl, _, _, rfl, rfl, _, rfl, ite_b (fun _ => ?_) (fun c => ?_)⟩
    rotate_left
    · exfalso
      have c' := of_decide_eq_false c
      omega
    refine ⟨_, rfl, _, rfl, _, rfl, an, t2, sets, ways, line, other, rfl, f13.tup han, f13.tup h2, g, by omega, otn, fun H4 f4 => ?_⟩
    have f14 := f13.trans f4
    refine ⟨_, _, rfl, rfl, _, _, rfl, rfl, _, rfl, ?_⟩
    rw [decide_eq_true (show ((Lru.missed sets ways line (one ++ other)).length : Int) ≤ (Lru.missed sets ways line one).length + (Lru.missed sets ways line other).length by omega)]
    refine iteF ?_
    -- missed(near, one + other)[:first] != missed(near, one)
    refine ⟨_, rfl, _, rfl, _, rfl, catA_of (f14.tup h1) (f14.tup h2) (by rw [List.length_map, List.length_map]; omega) fun t4 H5 f5 h4 => ?_⟩
    rw [← List.map_append] at h4
    have f15 := f14.trans f5
    refine ⟨an, t4, sets, ways, line, one ++ other, rfl, f15.tup han, h4, g, by rw [List.length_append]; omega, bothn, fun m1 H6 f6 hm1 => ?_⟩
    have f16 := f15.trans f6
    refine ⟨_, rfl, _, rfl, slA_of (sqT_of hm1) fun m2 H7 f7 hm2 => ?_⟩
    have f17 := f16.trans f7
    rw [cut_ints, HT.sIx_none, HT.sIx_nat, Nat.sub_zero, List.drop_zero, Nat.min_eq_left ble.1, Lru.missed_take] at hm2
    refine ⟨_, rfl, _, rfl, an, t1, sets, ways, line, one, rfl, f17.tup han, f17.tup h1, g, by omega, onn, fun m3 H8 f8 hm3 => ?_⟩
    have f18 := f17.trans f8
    refine ⟨_, _, (Im.tupI (f8.tup hm2)).dp, (Im.tupI (sqT_of hm3)).dp, (Ok.ints _).shaped, (Ok.ints _).shaped, _, rfl, ?_⟩
    rw [(Ok.ints _).self]
    refine iteF ?_
    -- first < len(set([octet // line for octet in one]))
    refine ⟨_, rfl, _, rfl, t1, rfl, ⟨_, f18.tup h1⟩, fun D nD => ?_⟩
    have ll1 := g.l1
    have ll8 := g.l8
    refine lc_each (walk_tup (xs := one.map V.int)) (fun i => .int (one.getD i 0 / line)) nD (by rw [List.length_map]; omega) (fun H' fr' => fr'.tup (f18.tup h1)) ?_ gName_mono (fun i H x H' _ y => yat_fr y) ?_
    · rintro j y H9 H10 Z1 hj f9 ⟨rfl, ey⟩ hz
      obtain ⟨o, ho, rfl⟩ := map_at ey
      rw [getD_of ho] at hz
      exact ⟨rfl, _, rfl, _, rfl, _, _, rfl, rfl, ⟨by omega, by omega⟩, hz _ (.refl _ _)⟩
    intro H9 f9 hD
    have e1 : (List.range (one.map V.int).length).map (fun i => V.int (one.getD i 0 / line)) = (one.map (fun o => o / line)).map V.int := by
      rw [List.length_map, List.map_map]
      exact range_map_get one 0 (fun o => V.int (o / line))
    rw [e1] at hD
    have f19 := f18.trans f9
    have hlines := Lru.lines_le (sets := sets) (ways := ways) (line := line) one (PyProof.Rows.firstMet (fun i => (one.map (fun o => o / line)).getD i 0) (one.map (fun o => o / line)).length) (firstMet_nd _ _) (fun z hz => by
      obtain ⟨o, ho, e⟩ := List.mem_map.mp (firstMet_mem _ z hz)
      exact ⟨o, ho, e.symm⟩)
    have hml := Lru.missed_len sets ways line one
    refine ⟨D, _, rfl, sqL_of hD, by rw [List.length_map]; omega, _, _, rfl, rfl, _, rfl, ?_⟩
    rw [decide_eq_false (show ¬ ((Lru.missed sets ways line one).length : Int) < ((PyProof.Rows.firstMet (fun i => (one.map (fun o => o / line)).getD i 0) (one.map (fun o => o / line)).length).length : Nat) by omega)]
    refine iteF ?_
    -- first > len(one)
    refine ⟨_, rfl, _, rfl, t1, _, rfl, .inr (f19.tup h1), _, _, rfl, rfl, _, rfl, ?_⟩
    rw [decide_eq_false (show ¬ (((one.map V.int).length : Nat) : Int) < ((Lru.missed sets ways line one).length : Int) by rw [List.length_map]; omega)]
    refine iteF ?_
    -- len(missed(near, one)) != first
    refine ⟨_, rfl, _, rfl, an, t1, sets, ways, line, one, rfl, f19.tup han, f19.tup h1, g, by omega, onn, fun m4 H10 f10 hm4 => ?_⟩
    have fA := f19.trans f10
    refine ⟨m4, _, rfl, .inr (sqT_of hm4), _, rfl, rfl, _, rfl, ?_⟩
    rw [List.length_map, decide_eq_true rfl]
    refine iteF ?_
    -- twice, again = (), ()
    refine ⟨Nat.zero_le _, fun u1 nu1 => ⟨Nat.zero_le _, fun u2 nu2 => ⟨(by show 2 ≤ sizeLine; decide), fun u3 nu3 => ⟨u3, _, rfl, sqT_of upd_same, rfl, _, _, rfl, _, _, rfl, rfl, ?_⟩⟩⟩⟩
    have hu1 : SqT K (upd (upd (upd H10 u1 (.tup [])) u2 (.tup [])) u3 (.tup [.ref u1, .ref u2])) u1 (([] : List Int).map V.int) := ((Fr.new (L := []) nu2).up nu3).tup (sqT_of upd_same)
    have hu2 : SqT K (upd (upd (upd H10 u1 (.tup [])) u2 (.tup [])) u3 (.tup [.ref u1, .ref u2])) u2 (([] : List Int).map V.int) := (Fr.new (L := []) nu3).tup (sqT_of upd_same)
    have fB : Fr [] H (upd (upd (upd H10 u1 (.tup [])) u2 (.tup [])) u3 (.tup [.ref u1, .ref u2])) := ((fA.up nu1).up nu2).up nu3
    generalize upd (upd (upd H10 u1 (.tup [])) u2 (.tup [])) u3 (.tup [.ref u1, .ref u2]) = H11 at hu1 hu2 fB
    -- the first loop
    refine ⟨_, rfl, t1, rfl, ⟨_, fB.tup h1⟩, for_tup (xs := one.map V.int) (fun i σ H2 => ∃ (t : Addr) (v : Option V), σ = [some (.ref an), some (.ref t1), some (.ref t2), some (.int sets), some (.int ways), some (.int line), some (.int ((Lru.missed sets ways line one).length : Int)), some (.int ((Lru.missed sets ways line (one ++ other)).length : Int)), v, some (.ref t), some (.ref u2), none, none, none, none] ∧ Fr [] H11 H2 ∧ SqT K H2 t ((Lru.twice (one.take i)).map V.int))
      ⟨u1, none, ?_, .refl _ _, hu1⟩ (fun i σ H2 _ ⟨_, _, _, fr, _⟩ => fr.tup (fB.tup h1)) ?_ ?_⟩
    · rfl
    · rintro i y σ H2 hy ⟨t, v, rfl, fr, ht⟩
      obtain ⟨o, ho, rfl⟩ := map_at hy
      refine ⟨_, rfl, _, rfl, _, rfl, (by show 2 ≤ sizeLine; decide), fun u nu => ?_⟩
      have hlt := twice_len (one.take i)
      have htk := List.length_take_le i one
      refine catA_of ((Fr.new (L := []) nu).tup ht) (sqT_of upd_same) (by rw [List.length_map]; show _ + 2 ≤ _; have := List.length_take_le' i one; omega) fun t' H3 f3' ht' => ?_
      refine ⟨t', _, rfl, (fr.up nu).trans f3', ?_⟩
      rw [twice_take ho, List.map_append]
      exact ht'
    rintro σ H12 ⟨tw, v, rfl, frB, htw⟩
    rw [List.length_map, List.take_length] at htw
    have fC := fB.trans frB
    -- the second loop
    refine ⟨_, rfl, _, rfl, an, t1, sets, ways, line, one, rfl, fC.tup han, fC.tup h1, g, by omega, onn, fun kk H13 f13' hk => ?_⟩
    obtain ⟨k', xs, ek, hkt, hxs⟩ := hk
    cases ek
    have fD := fC.trans f13'
    have hl := hxs.len
    rw [List.length_map] at hl
    have hu2' := (frB.trans f13').tup hu2
    refine ⟨kk, rfl, ⟨_, hkt⟩, for_tup (xs := xs) (fun i σ H2 => ∃ (t : Addr) (v8 v11 : Option V), σ = [some (.ref an), some (.ref t1), some (.ref t2), some (.int sets), some (.int ways), some (.int line), some (.int ((Lru.missed sets ways line one).length : Int)), some (.int ((Lru.missed sets ways line (one ++ other)).length : Int)), v8, some (.ref tw), some (.ref t), v11, none, none, none] ∧ Fr [] H13 H2 ∧ SqT K H2 t ((warmL line ((Lru.kept sets ways line one).take i)).map V.int))
      ⟨u2, v, none, rfl, .refl _ _, hu2'⟩ (fun i σ H2 _ ⟨_, _, _, _, fr, _⟩ => fr.tup hkt) ?_ ?_⟩
    · rintro i y σ H2 hy ⟨t, v8, v11, rfl, fr, ht⟩
      obtain ⟨d, hd, hyd⟩ := hxs.get hy
      obtain ⟨l, hl2, rfl⟩ := map_at hd
      obtain ⟨al, yl, rfl, hal, hyl⟩ := hyd
      have eyl := hyl.of_ints
      subst eyl
      refine ⟨_, rfl, _, rfl, al, rfl, ⟨_, fr.tup hal⟩, fun D nD => ?_⟩
      have hfew := few_kept g one l (List.mem_of_getElem? hl2)
      have w4 := g.w4
      refine lc_each (walk_tup (xs := l.map V.int)) (fun i => .int (l.getD i 0 * line)) nD (by rw [List.length_map]; omega) (fun H' fr' => fr'.tup (fr.tup hal)) ?_ gName_mono (fun i H x H' _ y => yat_fr y) ?_
      · rintro j z H3 H4 Z1 hj fr3 ⟨rfl, ez⟩ hz
        obtain ⟨n, hn, rfl⟩ := map_at ez
        rw [getD_of hn] at hz
        exact ⟨rfl, _, rfl, _, rfl, _, _, rfl, rfl, .inr ⟨by omega, by omega⟩, hz _ (.refl _ _)⟩
      · intro H3 fr3 hD
        have e1 : (List.range (l.map V.int).length).map (fun i => V.int (l.getD i 0 * line)) = (l.map (fun z => z * line)).map V.int := by
          rw [List.length_map, List.map_map]
          exact range_map_get l 0 (fun z => V.int (z * line))
        rw [e1] at hD
        refine ⟨D, _, rfl, .inl ⟨sqL_of hD, fun u nu => ?_⟩⟩
        have fu : Fr [] H2 (upd H3 u (.tup ((l.map (fun z => z * line)).map V.int))) := fr3.up nu
        have hw := warm_len (line := line) (n := 4) (Few.take (few_kept g one) i) w4 (by rw [List.length_take]; have := len_kept g one; omega)
        refine catA_of (fu.tup ht) (sqT_of upd_same) (by rw [List.length_map, List.length_map, List.length_map]; omega) fun t' H4 f4 ht' => ?_
        refine ⟨t', _, _, rfl, (fr.trans fu).trans f4, ?_⟩
        rw [warm_take hl2, List.map_append]
        exact ht'
    rintro σ H14 ⟨ta, v8, v11, rfl, frD, hta⟩
    rw [hl, List.take_length] at hta
    have fE := fD.trans frD
    have htw' := ((f13'.trans frD)).tup htw
    have hW : (warmL line (Lru.kept sets ways line one)).length ≤ 16 := warm_len (few_kept g one) g.w4 (len_kept g one)
    have hWn := warm_nn (ways := ways) g.l1 (kept_nn (ways := ways) g.l1 one (Lru.fresh sets) onn fun l hl z hz => by
      have := List.eq_of_mem_replicate hl
      subst this
      exact nomatch hz)
    have hWn' : ∀ o ∈ warmL line (Lru.kept sets ways line one), 0 ≤ o := hWn
    have hag := Lru.again_ok g.s1 g.w1 g.l1 one
    have eW : Lru.warm line (Lru.kept sets ways line one) = warmL line (Lru.kept sets ways line one) := rfl
    rw [eW] at hag
    generalize warmL line (Lru.kept sets ways line one) = W at hW hWn' hag hta
    have htn : ∀ o ∈ Lru.twice one, 0 ≤ o := fun o ho => onn o (twice_mem ho)
    have htl := twice_len one
    have hWo : ∀ o ∈ one ++ W, 0 ≤ o := fun o ho => (List.mem_append.mp ho).elim (onn o) (hWn' o)
    have etw : (Lru.missed sets ways line (Lru.twice one)).length = (Lru.missed sets ways line one).length := by
      rw [Lru.missed_R, Lru.missed_R]
      exact Lru.twice_missed g.w1 one (Lru.fresh sets) 0 0 (Lru.Inv.fresh (by have := g.w1; omega)) (Lru.pos_fresh g.s1)
    -- misses(near, twice) != first
    refine ⟨_, rfl, _, rfl, an, tw, sets, ways, line, Lru.twice one, rfl, fE.tup han, htw', g, by omega, htn, fun H15 f15' => ⟨_, rfl, rfl, _, rfl, ?_⟩⟩
    rw [etw, decide_eq_true rfl]
    refine iteF ?_
    have fF := fE.trans f15'
    -- misses(near, one + again) != first
    refine ⟨_, rfl, _, rfl, _, rfl, catA_of (fF.tup h1) (f15'.tup hta) (by rw [List.length_map, List.length_map]; omega) fun t5 H16 f16' h5 => ?_⟩
    rw [← List.map_append] at h5
    have fG := fF.trans f16'
    refine ⟨an, t5, sets, ways, line, one ++ W, rfl, fG.tup han, h5, g, by rw [List.length_append]; omega, hWo, fun H17 f17' => ⟨_, rfl, rfl, _, rfl, ?_⟩⟩
    rw [hag.1, decide_eq_true rfl]
    refine iteF ?_
    have fHH := fG.trans f17'
    -- kept(near, one + again) != kept(near, one)
    refine ⟨_, rfl, _, rfl, _, rfl, catA_of (fHH.tup h1) ((f15'.trans (f16'.trans f17')).tup hta) (by rw [List.length_map, List.length_map]; omega) fun t6 H18 f18' h6 => ?_⟩
    rw [← List.map_append] at h6
    have fI := fHH.trans f18'
    refine ⟨an, t6, sets, ways, line, one ++ W, rfl, fI.tup han, h6, g, by rw [List.length_append]; omega, hWo, fun k1 H19 f19' hk1 => ?_⟩
    have fJ := fI.trans f19'
    refine ⟨_, rfl, _, rfl, an, t1, sets, ways, line, one, rfl, fJ.tup han, fJ.tup h1, g, by omega, onn, fun k2 H20 f20' hk2 => ?_⟩
    refine ⟨_, _, (hk1.mono f20').dp, hk2.dp, (Ok.lots _).shaped, (Ok.lots _).shaped, _, rfl, ?_⟩
    rw [hag.2, (Ok.lots _).self]
    refine iteF ?_
    have fK := fJ.trans f20'
    -- missed(near, tuple([octet + 5 * sets * line ..])) != missed(near, one)
    refine ⟨_, rfl, _, rfl, t1, rfl, ⟨_, fK.tup h1⟩, fun D2 nD2 => ?_⟩
    have s1 := g.s1
    have s4 := g.s4
    refine lc_each (walk_tup (xs := one.map V.int)) (fun i => .int (one.getD i 0 + 5 * sets * line)) nD2 (by rw [List.length_map]; omega) (fun H' fr' => fr'.tup (fK.tup h1)) ?_ gName_mono (fun i H x H' _ y => yat_fr y) ?_
    · rintro j y H9 H10 Z1 hj f9 ⟨rfl, ey⟩ hz
      obtain ⟨o, ho, rfl⟩ := map_at ey
      rw [getD_of ho] at hz
      exact ⟨rfl, _, rfl, _, rfl, _, _, rfl, rfl, .inl ⟨by omega, by omega⟩, _, rfl, _, _, rfl, rfl, .inr ⟨by omega, by omega⟩, _, _, rfl, rfl, hz _ (.refl _ _)⟩
    intro H21 f21' hD2
    have e2 : (List.range (one.map V.int).length).map (fun i => V.int (one.getD i 0 + 5 * sets * line)) = (one.map (fun o => o + 5 * sets * line)).map V.int := by
      rw [List.length_map, List.map_map]
      exact range_map_get one 0 (fun o => V.int (o + 5 * sets * line))
    rw [e2] at hD2
    refine ⟨D2, _, rfl, .inl ⟨sqL_of hD2, fun t7 nt7 => ?_⟩⟩
    have fL := (fK.trans f21').up (o := .tup ((one.map (fun o => o + 5 * sets * line)).map V.int)) nt7
    have hpos : 0 ≤ 5 * sets * line := Int.mul_nonneg (by omega) (by omega)
    refine ⟨an, t7, sets, ways, line, one.map (fun o => o + 5 * sets * line), rfl, fL.tup han, sqT_of upd_same, g, by rw [List.length_map]; omega, fun o ho => by
      obtain ⟨x, hx, rfl⟩ := List.mem_map.mp ho
      have := onn x hx
      omega, fun m5 H22 f22' hm5 => ?_⟩
    have fM := fL.trans f22'
    refine ⟨_, rfl, _, rfl, an, t1, sets, ways, line, one, rfl, fM.tup han, fM.tup h1, g, by omega, onn, fun m6 H23 f23' hm6 => ?_⟩
    have fN := fM.trans f23'
    rw [Lru.far_apart g.s1 g.l1] at hm5
    refine ⟨_, _, (Im.tupI (f23'.tup (sqT_of hm5))).dp, (Im.tupI (sqT_of hm6)).dp, (Ok.ints _).shaped, (Ok.ints _).shaped, _, rfl, ?_⟩
    rw [(Ok.ints _).self]
    refine iteF ?_
    -- the end, whatever more is
    have FIN : ∀ (tm : Addr) (M : List Int) (H' : Hp), Fr [] H H' → SqT K H' tm (M.map V.int) → M.length ≤ 1000 → (∀ z ∈ M, z ∈ Lru.missed sets ways line one) →
        tRet (tOp (rEqD K) (tLc (iTup K (tVar 13)) (gName 14) (tTest (tOp (rIn K true) (tVar 14) (tCall (spMissed K) [] E0 (tCons (tVar 0) (tCons (tVar 1) tNil))))) (tVar 14) [14]) (tLst tNil))
          { nx := fun _ H' => Q .non H', rt := Q } [some (.ref an), some (.ref t1), some (.ref t2), some (.int sets), some (.int ways), some (.int line), some (.int ((Lru.missed sets ways line one).length : Int)), some (.int ((Lru.missed sets ways line (one ++ other)).length : Int)), v8, some (.ref tw), some (.ref ta), v11, none, some (.ref tm), none] H' := by
      intro tm M H' fO hm lM hM
      refine ⟨_, rfl, tm, rfl, ⟨_, hm⟩, fun D3 nD3 => ?_⟩
      refine lc_when (walk_tup (xs := M.map V.int)) (fun _ => false) (fun _ => .non) nD3 (by rw [List.length_map]; omega) (fun H'' fr' => fr'.tup hm) ?_ (fun i H x H' _ y => yat_fr y) ?_
      · rintro j y H24 H25 Z0 Z1 hj f24 ⟨rfl, ey⟩ h0 _
        obtain ⟨o, ho, rfl⟩ := map_at ey
        have fP := fO.trans f24
        refine ⟨rfl, _, rfl, _, rfl, _, rfl, an, t1, sets, ways, line, one, rfl, fP.tup han, fP.tup h1, g, by omega, onn, fun m7 H26 f26 hm7 => ?_⟩
        refine ⟨m7, _, rfl, .inr (sqT_of hm7), rfl, flat_ints _, _, rfl, ?_⟩
        show (if (!inV (.int o) ((Lru.missed sets ways line one).map V.int)) = true then _ else _)
        rw [inV_int, decide_eq_true (hM o (List.mem_of_getElem? ho))]
        exact iteF (h0 rfl _ f26)
      · intro H24 f24 hD3
        have ek : kept (fun _ => false) (fun _ => V.non) (M.map V.int).length = ([] : List Int).map V.int := kept_none _
        rw [ek] at hD3
        refine ⟨Nat.zero_le _, fun e ne => ?_⟩
        have hD3' : (upd H24 e (.lst [])) D3 = some (.lst (([] : List Int).map V.int)) := by
          rw [upd_ne (ne_of_none hD3 ne)]
          exact hD3
        refine ⟨_, _, dp_ints (sqL_of hD3'), dp_ints (ns := []) (sqL_of upd_same), (Ok.lints _).shaped, (Ok.lints _).shaped, ?_⟩
        rw [(Ok.lints _).self]
        exact q _ ((fO.trans f24).up ne)
    -- more
    refine ⟨_, rfl, _, _, rfl, rfl, _, rfl, ite_b (fun c => ?_) (fun c => ?_)⟩
    · have c' := of_decide_eq_true c
      have g' : GoodN sets (ways + 1) line := ⟨g.s1, g.s4, by have := g.w1; omega, by omega, g.l1, g.l8⟩
      refine ⟨_, rfl, _, rfl, _, _, rfl, rfl, _, rfl, (by show 3 ≤ sizeLine; decide), fun u nu => ?_⟩
      have fO := fN.up (o := .tup [.int sets, .int (ways + 1), .int line]) nu
      refine ⟨_, rfl, u, t1, sets, ways + 1, line, one, rfl, sqT_of upd_same, fO.tup h1, g', by omega, onn, fun m8 H25 f25 hm8 => ?_⟩
      have hml2 := Lru.missed_len sets (ways + 1) line one
      exact FIN m8 _ H25 (fO.trans f25) (sqT_of hm8) (by omega) fun z hz => (Lru.more_ways g.s1 g.w1 one).subset hz
    · refine ⟨Nat.zero_le _, fun u nu => ?_⟩
      exact FIN u [] _ (fN.up nu) (sqT_of upd_same) (by decide) fun z hz => nomatch hz
end
abbrev s_law : Stmt := (topS 25)
theorem sc_law : FnScope ["_law_script", "_law_cell_here", "_law_pen_here", "_law_lap", "_law_near_here", "_law_far", "_law_one", "_law_turn"] ["_law_script"] (defScope s_law) := ⟨rfl, rfl, rfl, by decide +kernel, rfl, by decide +kernel, by decide +kernel⟩
section
variable {P : Program} {w : World} {K : PySem.W.Frag} {mg : Str → Option Value} {base : Heap} {CS : Addr}
def spLaw (K : PySem.W.Frag) : Sp := fun vs H Q _ => ∃ (a : Addr) (ns : List Int), vs = [.ref a] ∧ SqL K H a (ns.map V.int) ∧ ns.length ≤ 63 ∧ ∀ H', Q (.bl true) H'
theorem ok_law {fa : Addr} {fd : FuncData} (T : LTxt K mg CS) (F : Fun K "law" "law" s_law fa fd) : FnOk P w K mg base CX0 8 fa fd ["_law_script"] (spLaw K) := by
  have c__law_cell := cal_cell (P := P) (w := w) (base := base) T.toPTxt
  have c__law_pen := cal_pen (P := P) (w := w) (base := base) T.toPTxt
  have c__law_draw := cal_draw (P := P) (w := w) (base := base) T.toPTxt
  have c__law_near := cal_law_near (P := P) (w := w) (base := base) T.toQTxt
  have c__law_right := cal_right (P := P) (w := w) (base := base) T
  refine F.ok sc_law (fun vs H Q E h => ?_) (fun cdv A outer s H vs Q E hr h => ?_)
  · obtain ⟨a, ns, rfl, _⟩ := h
    rfl
  · obtain ⟨a, ns, rfl, hS, hlen, q⟩ := h
    refine ⟨_, (pss_cons (ps_for PassesOwn.never rfl (pi_listK K (by rfl) (pe_op op_cat (pe_lst (pa_cons (pe_c c__law_cell hr (by decide) (by rfl) (pa_cons (pv 0) (pa_cons pe_int pa_nil))) pa_nil)) (pe_slice (sl_listK K (by rfl)) (pv 0) (po_some pe_int) (po_some pe_int)))) (pg_nameX 1 sc_law.nd rfl (by first | exact .inl rfl | exact .inr rfl) (by first | exact .inr rfl | exact .inl rfl))
  (pss_cons (ps_set (i := 2) sc_law.nd rfl (by first | exact .inl rfl | exact .inr rfl) (pe_c c__law_pen hr (by decide) (by rfl) (pa_cons (pv 1) pa_nil)))
  (pss_one (ps_for PassesOwn.never rfl (pi_range1 (by rfl) T.z_range (pa_cons pe_int pa_nil)) (pg_nameX 3 sc_law.nd rfl (by first | exact .inl rfl | exact .inr rfl) (by first | exact .inr rfl | exact .inl rfl))
  (pss_cons (ps_asg (pe_tup (pa_cons (pe_c c__law_near hr (by decide) (by rfl) (pa_cons (pv 2) pa_nil)) (pa_cons (pe_ix (ix_listK K (by rfl)) (pe_lst (pa_cons pe_int (pa_cons pe_int (pa_cons pe_int pa_nil)))) (pe_c c__law_draw hr (by decide) (by rfl) (pa_cons (pv 2) (pa_cons pe_int pa_nil))) (fun _ _ => rfl)) pa_nil))) (pg_tupK K (n := 2) (by rfl) (by rfl) (by rfl) (by rfl) (pgs_consX (by rfl) (pg_nameX 4 sc_law.nd rfl (by first | exact .inl rfl | exact .inr rfl) (by first | exact .inr rfl | exact .inl rfl)) (pgs_consX (by rfl) (pg_nameX 5 sc_law.nd rfl (by first | exact .inl rfl | exact .inr rfl) (by first | exact .inr rfl | exact .inl rfl)) pgs_nil))))
  (pss_cons (ps_set (i := 6) sc_law.nd rfl (by first | exact .inl rfl | exact .inr rfl) (pe_callTy (call_tupleK K (by rfl)) (by rfl) T.z_tuple bt_tuple (by exact (pa_cons (pe_lcX [("_law_turn", 7)] (by rfl) sc_law.nd (pi_range1 (by rfl) T.z_range (pa_cons (pe_c c__law_draw hr (by decide) (by rfl) (pa_cons (pv 2) (pa_cons pe_int pa_nil))) pa_nil)) (blkOk_by (N := ["_law_script", "_law_cell_here", "_law_pen_here", "_law_lap", "_law_near_here", "_law_far", "_law_one", "_law_turn"]) (sc := defScope s_law) (by decide +kernel)) (fun _ _ _ _ _ => by exact (pg_nameX 7 sc_law.nd rfl (by first | exact .inl rfl | exact .inr rfl) (by first | exact .inr rfl | exact .inl rfl))) (fun _ _ _ _ _ => by exact pts_nil) (fun _ _ _ _ _ => by exact (pe_c c__law_draw hr (by decide) (by rfl) (pa_cons (pv 2) (pa_cons (pv 5) pa_nil)))) (fun _ => rfl)) pa_nil))))
  (pss_one (ps_if (pt_not (pt_val (pe_c c__law_right hr (by decide) (by rfl) (by exact (pa_cons (pv 4) (pa_cons (pv 6) (pa_cons (pe_callTy (call_tupleK K (by rfl)) (by rfl) T.z_tuple bt_tuple (by exact (pa_cons (pe_lcX [("_law_turn", 7)] (by rfl) sc_law.nd (pi_range1 (by rfl) T.z_range (pa_cons (pe_c c__law_draw hr (by decide) (by rfl) (pa_cons (pv 2) (pa_cons pe_int pa_nil))) pa_nil)) (blkOk_by (N := ["_law_script", "_law_cell_here", "_law_pen_here", "_law_lap", "_law_near_here", "_law_far", "_law_one", "_law_turn"]) (sc := defScope s_law) (by decide +kernel)) (fun _ _ _ _ _ => by exact (pg_nameX 7 sc_law.nd rfl (by first | exact .inl rfl | exact .inr rfl) (by first | exact .inr rfl | exact .inl rfl))) (fun _ _ _ _ _ => by exact pts_nil) (fun _ _ _ _ _ => by exact (pe_c c__law_draw hr (by decide) (by rfl) (pa_cons (pv 2) (pa_cons (pv 5) pa_nil)))) (fun _ => rfl)) pa_nil))) pa_nil)))))))
  (pss_one (ps_ret pe_bl))
  pss_nil))))))))
  (pss_one (ps_ret pe_bl))), ?_⟩
    -- [_law_cell(script, 0)] + script[1:3]
    refine ⟨_, rfl, a, ns, 0, rfl, hS, fun z0 => ⟨(by show 1 ≤ sizeLine; decide), fun l0 nl0 => ?_⟩⟩
    have fa : Fr [] H (upd H l0 (.lst [.int z0])) := .new nl0
    refine ⟨_, rfl, 1, rfl, 3, rfl, a, _, rfl, fa.lst hS (fun z => nomatch z), fun l1 nl1 => ?_⟩
    rw [cut_ints]
    generalize hcut : (((ns.drop (HT.sIx ns.length 0 (some 1))).take (HT.sIx ns.length ns.length (some 3) - HT.sIx ns.length 0 (some 1)))) = ms
    have hms : ms.length ≤ 63 := by
      rw [← hcut]
      have h1 := List.length_take_le (HT.sIx ns.length ns.length (some 3) - HT.sIx ns.length 0 (some 1)) (ns.drop (HT.sIx ns.length 0 (some 1)))
      have h2 := List.length_take_le' (HT.sIx ns.length ns.length (some 3) - HT.sIx ns.length 0 (some 1)) (ns.drop (HT.sIx ns.length 0 (some 1)))
      rw [List.length_drop] at h2
      omega
    have hszl := sizeLine_eq
    have h01 : l0 ≠ l1 := ne_of_none upd_same nl1
    refine ⟨l0, l1, [.int z0], ms.map V.int, rfl, rfl, (by rw [upd_ne h01]; exact upd_same), upd_same, (by rw [List.length_map]; show 1 + _ ≤ _; omega), fun l2 nl2 => ?_⟩
    have exs : ([V.int z0] ++ ms.map V.int) = (z0 :: ms).map V.int := rfl
    rw [exs]
    generalize eHl : upd (upd (upd H l0 (.lst [.int z0])) l1 (.lst (ms.map V.int))) l2 (.lst ((z0 :: ms).map V.int)) = Hl
    have hl2 : Hl l2 = some (.lst ((z0 :: ms).map V.int)) := by rw [← eHl]; exact upd_same
    refine ⟨l2, rfl, ⟨_, sqL_of hl2⟩, for_list (K := K) (a := l2) (xs := (z0 :: ms).map V.int) (fun i σ H1 => ∃ v1 v2 v3 v4 v5 v6 v7, σ = [some (.ref a), v1, v2, v3, v4, v5, v6, v7] ∧ Fr [] Hl H1)
      ⟨none, none, none, none, none, none, none, rfl, .refl _ _⟩ (fun i σ H1 _ ⟨_, _, _, _, _, _, _, _, fr⟩ => sqL_of (fr.at hl2)) ?_ (fun σ H1 _ => q H1)⟩
    rintro i x σ H1 hx ⟨v1, v2, v3, v4, v5, v6, v7, rfl, frl⟩
    obtain ⟨zc, _, rfl⟩ := map_at hx
    -- pen = _law_pen(cell)
    refine ⟨_, rfl, zc, rfl, fun p Hq np fp pnp => ?_⟩
    have frlp : Fr [] Hl Hq := frl.trans fp
    -- for lap in range(4)
    refine ⟨4, rfl, by decide, by decide, for_range (lo := 0) (n := 4) (fun i σ H2 => ∃ v3 v4 v5 v6 v7, σ = [some (.ref a), some (.int zc), some (.ref p), v3, v4, v5, v6, v7] ∧ Fr [p] Hq H2 ∧ Pen H2 p)
      ⟨v3, v4, v5, v6, v7, rfl, .refl _ _, pnp⟩ ?_ ?_⟩
    rotate_left
    · rintro σ H2 ⟨v3, v4, v5, v6, v7, rfl, fr, pn⟩
      exact ⟨_, _, _, _, _, _, _, rfl, frl.trans (fp.cut fr fun l hl => by cases List.mem_singleton.mp hl; exact .inr np)⟩
    rintro k σ H2 hk ⟨v3, v4, v5, v6, v7, rfl, frp, pn⟩
    -- near, far = _law_near(pen), [6, 30, 160][_law_draw(pen, 3)]
    refine ⟨_, rfl, p, rfl, pn, fun an H3 sets ways line f3 pn3 han g => ⟨(by show 3 ≤ sizeLine; decide), fun lm nlm => ?_⟩⟩
    have f3m : Fr [p] H3 (upd H3 lm (.lst [.int 6, .int 30, .int 160])) := .new nlm
    refine ⟨_, rfl, p, 3, rfl, pn3.up nlm, by decide, by decide, fun d H4 d0 d3 f4 pn4 => ?_⟩
    obtain ⟨vf, hvf, hat⟩ := menu3 (.int 6) (.int 30) (.int 160) d0 d3
    obtain ⟨far, far1, far2, rfl⟩ : ∃ far : Int, 1 ≤ far ∧ far ≤ 160 ∧ vf = .int far := by
      rcases hvf with h | h | h
      · exact ⟨6, by decide, by decide, h⟩
      · exact ⟨30, by decide, by decide, h⟩
      · exact ⟨160, by decide, by decide, h⟩
    have nplm : lm ∉ [p] := fun z => (pn3.ne nlm) (List.mem_singleton.mp z).symm
    refine ⟨lm, _, d, _, rfl, rfl, sqL_of (f4.ne upd_same nplm), hat, (by show 2 ≤ sizeLine; decide), fun tt ntt => ?_⟩
    have f2_5 : Fr [p] H2 (upd H4 tt (.tup [.ref an, .int far])) := ((f3.trans f3m).trans f4).up ntt
    have pn5 := pn4.up (o := .tup [.ref an, .int far]) ntt
    have han5 : SqT K (upd H4 tt (.tup [.ref an, .int far])) an [.int sets, .int ways, .int line] := ((f3m.trans f4).up ntt).tup han
    refine ⟨tt, _, rfl, sqT_of upd_same, rfl, _, _, rfl, _, _, rfl, rfl, ?_⟩
    generalize upd H4 tt (.tup [.ref an, .int far]) = H5 at f2_5 pn5 han5
    -- one
    refine ⟨_, rfl, p, 50, rfl, pn5, by decide, by decide, fun n1 H6 n10 n11 f6 pn6 => ⟨n1, rfl, by omega, by omega, fun D nD => ?_⟩⟩
    refine lc_pen walk_range p (fun _ _ y => ∃ z, y = V.int z ∧ 0 ≤ z) (fun _ _ _ _ _ h => h) pn6 nD (by omega) (fun _ _ => trivial) ?_ gName_mono (fun i H x H' _ y => yfn_fr y) ?_
    · rintro j y H7 H8 Z1 hj f7 pn8 ⟨rfl, rfl⟩ hz
      exact ⟨rfl, _, rfl, _, rfl, p, far, rfl, pn8, far1, by omega, fun d' H9 e0 e1 f9 pn9 => hz _ _ f9 pn9 ⟨d', rfl, e0⟩⟩
    intro H7 ys f7 pn7 hD7 len7 hys
    obtain ⟨one, rfl, onn⟩ := ints_of hys
    rw [List.length_map] at len7
    refine ⟨D, _, rfl, .inl ⟨sqL_of hD7, fun t1 nt1 => ?_⟩⟩
    have f5_8 : Fr [p] H5 (upd H7 t1 (.tup (one.map V.int))) := (f6.trans f7).up nt1
    have pn8 := pn7.up (o := .tup (one.map V.int)) nt1
    have h1 : SqT K (upd H7 t1 (.tup (one.map V.int))) t1 (one.map V.int) := sqT_of upd_same
    generalize upd H7 t1 (.tup (one.map V.int)) = H8 at f5_8 pn8 h1
    -- other
    refine ⟨_, rfl, _, rfl, _, rfl, p, 30, rfl, pn8, by decide, by decide, fun n2 H9 n20 n21 f9 pn9 => ⟨n2, rfl, by omega, by omega, fun D2 nD2 => ?_⟩⟩
    refine lc_pen walk_range p (fun _ _ y => ∃ z, y = V.int z ∧ 0 ≤ z) (fun _ _ _ _ _ h => h) pn9 nD2 (by omega) (fun _ _ => trivial) ?_ gName_mono (fun i H x H' _ y => yfn_fr y) ?_
    · rintro j y H7 H8 Z1 hj f7 pn8 ⟨rfl, rfl⟩ hz
      exact ⟨rfl, _, rfl, _, rfl, p, far, rfl, pn8, far1, by omega, fun d' H9 e0 e1 f9 pn9 => hz _ _ f9 pn9 ⟨d', rfl, e0⟩⟩
    intro H10 ys2 f10 pn10 hD10 len10 hys2
    obtain ⟨other, rfl, otn⟩ := ints_of hys2
    rw [List.length_map] at len10
    refine ⟨D2, _, rfl, .inl ⟨sqL_of hD10, fun t2 nt2 => ?_⟩⟩
    have f8_11 : Fr [p] H8 (upd H10 t2 (.tup (other.map V.int))) := (f9.trans f10).up nt2
    have pn11 := pn10.up (o := .tup (other.map V.int)) nt2
    have h2 : SqT K (upd H10 t2 (.tup (other.map V.int))) t2 (other.map V.int) := sqT_of upd_same
    generalize upd H10 t2 (.tup (other.map V.int)) = H11 at f8_11 pn11 h2
    refine ⟨an, t1, t2, sets, ways, line, one, other, rfl, (f5_8.trans f8_11).tup han5, f8_11.tup h1, h2, g, by omega, by omega, onn, otn, fun H12 f12 => ⟨_, rfl, iteF ?_⟩⟩
    exact ⟨_, _, _, _, _, rfl, ((frp.trans f2_5).trans (f5_8.trans f8_11)).trans (f12.mono fun l z => nomatch z), pn11.fr f12 fun z => nomatch z⟩
end
theorem all_mk {l : PySem.W.OpenLaw} {w : World} {K : PySem.W.Frag} {h : Heap} {mg : Str → Option Value} {fa f1 f2 f3 f4 f5 C_Store f7 f8 f12 f13 f14 f15 f29 f30 f31 f32 f33 f34 : Addr} (X : K.In h) (G : h.Ns mainGlobals mg) (hfa : mg "law" = some (.ref fa))
    {od1 an1 : Option Addr} {sl1 : Array (Option Value)} {oc1 kV1 dc1 pm1 cd1 ct1 : Value} {od2 an2 : Option Addr} {sl2 : Array (Option Value)} {oc2 kV2 dc2 pm2 cd2 ct2 : Value} {od3 an3 : Option Addr} {sl3 : Array (Option Value)} {oc3 kV3 dc3 pm3 cd3 ct3 : Value} {od4 an4 : Option Addr} {sl4 : Array (Option Value)} {oc4 kV4 dc4 pm4 cd4 ct4 : Value} {od5 an5 : Option Addr} {sl5 : Array (Option Value)} {oc5 kV5 dc5 pm5 cd5 ct5 : Value} {od7 an7 : Option Addr} {sl7 : Array (Option Value)} {oc7 kV7 dc7 pm7 cd7 ct7 : Value} {od8 an8 : Option Addr} {sl8 : Array (Option Value)} {oc8 kV8 dc8 pm8 cd8 ct8 : Value} {od12 an12 : Option Addr} {sl12 : Array (Option Value)} {oc12 kV12 dc12 pm12 cd12 ct12 : Value} {od13 an13 : Option Addr} {sl13 : Array (Option Value)} {oc13 kV13 dc13 pm13 cd13 ct13 : Value} {od14 an14 : Option Addr} {sl14 : Array (Option Value)} {oc14 kV14 dc14 pm14 cd14 ct14 : Value} {od15 an15 : Option Addr} {sl15 : Array (Option Value)} {oc15 kV15 dc15 pm15 cd15 ct15 : Value} {t16 : Tok} {t17 : Tok} {t18 : Tok} {od29 an29 : Option Addr} {sl29 : Array (Option Value)} {oc29 kV29 dc29 pm29 cd29 ct29 : Value} {od30 an30 : Option Addr} {sl30 : Array (Option Value)} {oc30 kV30 dc30 pm30 cd30 ct30 : Value} {od31 an31 : Option Addr} {sl31 : Array (Option Value)} {oc31 kV31 dc31 pm31 cd31 ct31 : Value} {od32 an32 : Option Addr} {sl32 : Array (Option Value)} {oc32 kV32 dc32 pm32 cd32 ct32 : Value} {od33 an33 : Option Addr} {sl33 : Array (Option Value)} {oc33 kV33 dc33 pm33 cd33 ct33 : Value} {od34 an34 : Option Addr} {sl34 : Array (Option Value)} {oc34 kV34 dc34 pm34 cd34 ct34 : Value}
    (a1 : PySem.W.nsIn K mainGlobals "is_number" = some (some (.ref f1))) (l1 : K.lookup f1 = some ⟨oc1, od1, .func (PySem.W.fnOf "is_number" "is_number" (defArgs s_is_number) (defBody s_is_number) (defScope s_is_number) .none kV1 dc1 pm1 an1 cd1 ct1), sl1⟩) (c1 : PySem.W.codeIn K cd1 "is_number" = true) (k1 : PySem.W.keepIn K (.ref f1) = true)
    (a2 : PySem.W.nsIn K mainGlobals "is_from" = some (some (.ref f2))) (l2 : K.lookup f2 = some ⟨oc2, od2, .func (PySem.W.fnOf "is_from" "is_from" (defArgs s_is_from) (defBody s_is_from) (defScope s_is_from) .none kV2 dc2 pm2 an2 cd2 ct2), sl2⟩) (c2 : PySem.W.codeIn K cd2 "is_from" = true) (k2 : PySem.W.keepIn K (.ref f2) = true)
    (a3 : PySem.W.nsIn K mainGlobals "is_near" = some (some (.ref f3))) (l3 : K.lookup f3 = some ⟨oc3, od3, .func (PySem.W.fnOf "is_near" "is_near" (defArgs s_is_near) (defBody s_is_near) (defScope s_is_near) .none kV3 dc3 pm3 an3 cd3 ct3), sl3⟩) (c3 : PySem.W.codeIn K cd3 "is_near" = true) (k3 : PySem.W.keepIn K (.ref f3) = true)
    (a4 : PySem.W.nsIn K mainGlobals "need_near" = some (some (.ref f4))) (l4 : K.lookup f4 = some ⟨oc4, od4, .func (PySem.W.fnOf "need_near" "need_near" (defArgs s_need_near) (defBody s_need_near) (defScope s_need_near) .none kV4 dc4 pm4 an4 cd4 ct4), sl4⟩) (c4 : PySem.W.codeIn K cd4 "need_near" = true) (k4 : PySem.W.keepIn K (.ref f4) = true)
    (a5 : PySem.W.nsIn K mainGlobals "need_touches" = some (some (.ref f5))) (l5 : K.lookup f5 = some ⟨oc5, od5, .func (PySem.W.fnOf "need_touches" "need_touches" (defArgs s_need_touches) (defBody s_need_touches) (defScope s_need_touches) .none kV5 dc5 pm5 an5 cd5 ct5), sl5⟩) (c5 : PySem.W.codeIn K cd5 "need_touches" = true) (k5 : PySem.W.keepIn K (.ref f5) = true)
    (aC_Store : PySem.W.nsIn K mainGlobals "Store" = some (some (.ref C_Store))) (pg_Store : PySem.W.plainGet K C_Store Str.empty = true) (hd_Store : PySem.W.hasDictIn K C_Store = true) (po_Store : PySem.W.plainOver K C_Store = true) (sa_Store : PySem.W.findIn K (.ref C_Store) "__setattr__" = some (some (.builtin "object.__setattr__"))) (mk_Store : PySem.W.makesIn K C_Store = true) (kc_Store : PySem.W.keepIn K (.ref C_Store) = true)
    (a7 : PySem.W.findIn K (.ref C_Store) "__init__" = some (some (.ref f7))) (i7 : PySem.W.isFn K (.ref f7) = true) (l7 : K.lookup f7 = some ⟨oc7, od7, .func (PySem.W.fnOf "__init__" "Store.__init__" (defArgs s_Store_init) (defBody s_Store_init) (defScope s_Store_init) .none kV7 dc7 pm7 an7 cd7 ct7), sl7⟩) (c7 : PySem.W.codeIn K cd7 "Store.__init__" = true) (k7 : PySem.W.keepIn K (.ref f7) = true)
    (a8 : PySem.W.findIn K (.ref C_Store) "touch" = some (some (.ref f8))) (i8 : PySem.W.isFn K (.ref f8) = true) (l8 : K.lookup f8 = some ⟨oc8, od8, .func (PySem.W.fnOf "touch" "Store.touch" (defArgs s_Store_touch) (defBody s_Store_touch) (defScope s_Store_touch) .none kV8 dc8 pm8 an8 cd8 ct8), sl8⟩) (c8 : PySem.W.codeIn K cd8 "Store.touch" = true) (k8 : PySem.W.keepIn K (.ref f8) = true)
    (n9 : PySem.W.findIn K (.ref C_Store) "ways" = some none)
    (n10 : PySem.W.findIn K (.ref C_Store) "line" = some none)
    (n11 : PySem.W.findIn K (.ref C_Store) "lots" = some none)
    (a12 : PySem.W.nsIn K mainGlobals "missed_by" = some (some (.ref f12))) (l12 : K.lookup f12 = some ⟨oc12, od12, .func (PySem.W.fnOf "missed_by" "missed_by" (defArgs s_missed_by) (defBody s_missed_by) (defScope s_missed_by) .none kV12 dc12 pm12 an12 cd12 ct12), sl12⟩) (c12 : PySem.W.codeIn K cd12 "missed_by" = true) (k12 : PySem.W.keepIn K (.ref f12) = true)
    (a13 : PySem.W.nsIn K mainGlobals "misses" = some (some (.ref f13))) (l13 : K.lookup f13 = some ⟨oc13, od13, .func (PySem.W.fnOf "misses" "misses" (defArgs s_misses) (defBody s_misses) (defScope s_misses) .none kV13 dc13 pm13 an13 cd13 ct13), sl13⟩) (c13 : PySem.W.codeIn K cd13 "misses" = true) (k13 : PySem.W.keepIn K (.ref f13) = true)
    (a14 : PySem.W.nsIn K mainGlobals "missed" = some (some (.ref f14))) (l14 : K.lookup f14 = some ⟨oc14, od14, .func (PySem.W.fnOf "missed" "missed" (defArgs s_missed) (defBody s_missed) (defScope s_missed) .none kV14 dc14 pm14 an14 cd14 ct14), sl14⟩) (c14 : PySem.W.codeIn K cd14 "missed" = true) (k14 : PySem.W.keepIn K (.ref f14) = true)
    (a15 : PySem.W.nsIn K mainGlobals "kept" = some (some (.ref f15))) (l15 : K.lookup f15 = some ⟨oc15, od15, .func (PySem.W.fnOf "kept" "kept" (defArgs s_kept) (defBody s_kept) (defScope s_kept) .none kV15 dc15 pm15 an15 cd15 ct15), sl15⟩) (c15 : PySem.W.codeIn K cd15 "kept" = true) (k15 : PySem.W.keepIn K (.ref f15) = true)
    (g16 : PySem.W.nsIn K mainGlobals "MOST_SETS" = some (some (.int 4 t16)))
    (g17 : PySem.W.nsIn K mainGlobals "MOST_WAYS" = some (some (.int 4 t17)))
    (g18 : PySem.W.nsIn K mainGlobals "MOST_LINE" = some (some (.int 8 t18)))
    (z19 : PySem.W.nsIn K mainGlobals "len" = some none)
    (z20 : PySem.W.nsIn K mainGlobals "int" = some none)
    (z21 : PySem.W.nsIn K mainGlobals "bool" = some none)
    (z22 : PySem.W.nsIn K mainGlobals "tuple" = some none)
    (z23 : PySem.W.nsIn K mainGlobals "isinstance" = some none)
    (z24 : PySem.W.nsIn K mainGlobals "all" = some none)
    (z25 : PySem.W.nsIn K mainGlobals "zip" = some none)
    (z26 : PySem.W.nsIn K mainGlobals "range" = some none)
    (z27 : PySem.W.nsIn K mainGlobals "enumerate" = some none)
    (z28 : PySem.W.nsIn K mainGlobals "set" = some none)
    (a29 : PySem.W.nsIn K mainGlobals "_law_cell" = some (some (.ref f29))) (l29 : K.lookup f29 = some ⟨oc29, od29, .func (PySem.W.fnOf "_law_cell" "_law_cell" (defArgs s__law_cell) (defBody s__law_cell) (defScope s__law_cell) .none kV29 dc29 pm29 an29 cd29 ct29), sl29⟩) (c29 : PySem.W.codeIn K cd29 "_law_cell" = true) (k29 : PySem.W.keepIn K (.ref f29) = true)
    (a30 : PySem.W.nsIn K mainGlobals "_law_pen" = some (some (.ref f30))) (l30 : K.lookup f30 = some ⟨oc30, od30, .func (PySem.W.fnOf "_law_pen" "_law_pen" (defArgs s__law_pen) (defBody s__law_pen) (defScope s__law_pen) .none kV30 dc30 pm30 an30 cd30 ct30), sl30⟩) (c30 : PySem.W.codeIn K cd30 "_law_pen" = true) (k30 : PySem.W.keepIn K (.ref f30) = true)
    (a31 : PySem.W.nsIn K mainGlobals "_law_draw" = some (some (.ref f31))) (l31 : K.lookup f31 = some ⟨oc31, od31, .func (PySem.W.fnOf "_law_draw" "_law_draw" (defArgs s__law_draw) (defBody s__law_draw) (defScope s__law_draw) .none kV31 dc31 pm31 an31 cd31 ct31), sl31⟩) (c31 : PySem.W.codeIn K cd31 "_law_draw" = true) (k31 : PySem.W.keepIn K (.ref f31) = true)
    (a32 : PySem.W.nsIn K mainGlobals "_law_near" = some (some (.ref f32))) (l32 : K.lookup f32 = some ⟨oc32, od32, .func (PySem.W.fnOf "_law_near" "_law_near" (defArgs s__law_near) (defBody s__law_near) (defScope s__law_near) .none kV32 dc32 pm32 an32 cd32 ct32), sl32⟩) (c32 : PySem.W.codeIn K cd32 "_law_near" = true) (k32 : PySem.W.keepIn K (.ref f32) = true)
    (a33 : PySem.W.nsIn K mainGlobals "_law_right" = some (some (.ref f33))) (l33 : K.lookup f33 = some ⟨oc33, od33, .func (PySem.W.fnOf "_law_right" "_law_right" (defArgs s__law_right) (defBody s__law_right) (defScope s__law_right) .none kV33 dc33 pm33 an33 cd33 ct33), sl33⟩) (c33 : PySem.W.codeIn K cd33 "_law_right" = true) (k33 : PySem.W.keepIn K (.ref f33) = true)
    (a34 : PySem.W.nsIn K mainGlobals "law" = some (some (.ref f34))) (l34 : K.lookup f34 = some ⟨oc34, od34, .func (PySem.W.fnOf "law" "law" (defArgs s_law) (defBody s_law) (defScope s_law) .none kV34 dc34 pm34 an34 cd34 ct34), sl34⟩) (c34 : PySem.W.codeIn K cd34 "law" = true) (k34 : PySem.W.keepIn K (.ref f34) = true) :
    ∃ fd : FuncData, (∀ (s : Shared) (v : Value), BindsTo s fd ⟨[v], []⟩ [("_law_script", v)]) ∧ ∀ base : Heap, K.In base → base.Ns mainGlobals mg → FnOk l.prog w K mg base CX0 8 fa fd ["_law_script"] (spLaw K) := by
  have e := hfa.symm.trans (PySem.W.mg_of X G a34)
  cases e
  have T : LTxt K mg C_Store := {
    d_is_number := defAt_mk X G a1 l1 c1 k1 (fun _ _ _ _ _ _ us hl => match us, hl with | [_], _ => rfl)
    d_is_from := defAt_mk X G a2 l2 c2 k2 (fun _ _ _ _ _ _ us hl => match us, hl with | [_, _, _], _ => rfl)
    d_is_near := defAt_mk X G a3 l3 c3 k3 (fun _ _ _ _ _ _ us hl => match us, hl with | [_], _ => rfl)
    d_need_near := defAt_mk X G a4 l4 c4 k4 (fun _ _ _ _ _ _ us hl => match us, hl with | [_], _ => rfl)
    d_need_touches := defAt_mk X G a5 l5 c5 k5 (fun _ _ _ _ _ _ us hl => match us, hl with | [_], _ => rfl)
    cl := ⟨pg_Store, hd_Store, po_Store, sa_Store⟩
    i_Store := iniAt_mk (PySem.W.mg_of X G aC_Store) ⟨mk_Store, a7, i7, kc_Store⟩ l7 c7 k7 (fun _ _ _ _ _ _ us hl => match us, hl with | [_, _], _ => rfl)
    m_touch := metAt_mk ⟨pg_Store, hd_Store, po_Store, sa_Store⟩ ⟨a8, i8, k8⟩ l8 c8 k8 (fun _ _ _ _ _ _ us hl => match us, hl with | [_, _], _ => rfl)
    nW := n9
    nL := n10
    nT := n11
    d_missed_by := defAt_mk X G a12 l12 c12 k12 (fun _ _ _ _ _ _ us hl => match us, hl with | [_, _], _ => rfl)
    d_misses := defAt_mk X G a13 l13 c13 k13 (fun _ _ _ _ _ _ us hl => match us, hl with | [_, _], _ => rfl)
    d_missed := defAt_mk X G a14 l14 c14 k14 (fun _ _ _ _ _ _ us hl => match us, hl with | [_, _], _ => rfl)
    d_kept := defAt_mk X G a15 l15 c15 k15 (fun _ _ _ _ _ _ us hl => match us, hl with | [_, _], _ => rfl)
    g_MOST_SETS := ⟨t16, PySem.W.mg_of X G g16⟩
    g_MOST_WAYS := ⟨t17, PySem.W.mg_of X G g17⟩
    g_MOST_LINE := ⟨t18, PySem.W.mg_of X G g18⟩
    z_len := PySem.W.mg_none_of X G z19
    z_int := PySem.W.mg_none_of X G z20
    z_bool := PySem.W.mg_none_of X G z21
    z_tuple := PySem.W.mg_none_of X G z22
    z_isinstance := PySem.W.mg_none_of X G z23
    z_all := PySem.W.mg_none_of X G z24
    z_zip := PySem.W.mg_none_of X G z25
    z_range := PySem.W.mg_none_of X G z26
    z_enumerate := PySem.W.mg_none_of X G z27
    z_set := PySem.W.mg_none_of X G z28
    d__law_cell := defAt_mk X G a29 l29 c29 k29 (fun _ _ _ _ _ _ us hl => match us, hl with | [_, _], _ => rfl)
    d__law_pen := defAt_mk X G a30 l30 c30 k30 (fun _ _ _ _ _ _ us hl => match us, hl with | [_], _ => rfl)
    d__law_draw := defAt_mk X G a31 l31 c31 k31 (fun _ _ _ _ _ _ us hl => match us, hl with | [_, _], _ => rfl)
    d__law_near := defAt_mk X G a32 l32 c32 k32 (fun _ _ _ _ _ _ us hl => match us, hl with | [_], _ => rfl)
    d__law_right := defAt_mk X G a33 l33 c33 k33 (fun _ _ _ _ _ _ us hl => match us, hl with | [_, _, _], _ => rfl) }
  have F := fun_mk (st := s_law) l34 c34 k34
  exact ⟨PySem.W.fnOf "law" "law" (defArgs s_law) (defBody s_law) (defScope s_law) .none kV34 dc34 pm34 an34 cd34 ct34, fun s v => .of_eq rfl, fun base _ _ => ok_law T F⟩
theorem walk {l : PySem.W.OpenLaw} {q : Program} {loose : List Str} {XP : (Str → Option Value) → Heap → Prop} {YP : World → Heap → Prop} {d : DefRec} {K : Params → PySem.W.Frag} (hn : l.most = some 63) (hdf : d.params.defaults = [])
    (hY : ∀ (w : World) (h : Heap), YP w h → (K w.params).In h)
    (F : ∀ (w : World) (mg : Str → Option Value) (fa : Addr) (h : Heap), (K w.params).In h → h.Ns mainGlobals mg → mg d.name = some (.ref fa) →
      ∃ fd : FuncData, (∀ (s : Shared) (u : Value), BindsTo s fd ⟨[u], []⟩ [("_law_script", u)]) ∧ ∀ base : Heap, (K w.params).In base → base.Ns mainGlobals mg → FnOk l.prog w (K w.params) mg base CX0 8 fa fd ["_law_script"] (spLaw (K w.params))) :
    PySem.W.WalkO q loose XP YP l.row.toRowW d [] (fun f vs => PySem.call f vs) :=
  L2.walk_of (n := 63) (k := 8) (x := "_law_script") (CX := fun _ => CX0) (sp := fun w => spLaw (K w.params)) hn (by decide) hdf ⟨rfl, by decide, by decide⟩ hY F (fun _ _ a ns hl _ hS => ⟨a, ns, rfl, hS, hl, fun _ => rfl⟩) fun _ _ _ _ _ z => z
end B
open PySem PySem.W PyProof.Rows
set_option maxRecDepth 100000 in
set_option maxHeartbeats 0 in
theorem PySem.Challenge.cw_nearlay_k53_whole_near_stores_holds : PySem.Challenge.rw_nearlay_k53_whole_near_stores.Holds := by
  w_on; o_law; k_head; (case hw => w_witness2)
  k_fill
  refine B.walk (l := PySem.Challenge.rw_nearlay_k53_whole_near_stores) rfl rfl (fun w h Y => PySem.W.kIn_of Y) ?F
  case F =>
    intro w mg fa h KX G hmg
    refine' B.all_mk KX G hmg ?a1 ?l1 ?c1 ?k1 ?a2 ?l2 ?c2 ?k2 ?a3 ?l3 ?c3 ?k3 ?a4 ?l4 ?c4 ?k4 ?a5 ?l5 ?c5 ?k5 ?aC_Store ?pg_Store ?hd_Store ?po_Store ?sa_Store ?mk_Store ?kc_Store ?a7 ?i7 ?l7 ?c7 ?k7 ?a8 ?i8 ?l8 ?c8 ?k8 ?n9 ?n10 ?n11 ?a12 ?l12 ?c12 ?k12 ?a13 ?l13 ?c13 ?k13 ?a14 ?l14 ?c14 ?k14 ?a15 ?l15 ?c15 ?k15 ?g16 ?g17 ?g18 ?z19 ?z20 ?z21 ?z22 ?z23 ?z24 ?z25 ?z26 ?z27 ?z28 ?a29 ?l29 ?c29 ?k29 ?a30 ?l30 ?c30 ?k30 ?a31 ?l31 ?c31 ?k31 ?a32 ?l32 ?c32 ?k32 ?a33 ?l33 ?c33 ?k33 ?a34 ?l34 ?c34 ?k34
    (case a1 => k_is)
    (case l1 => k_is)
    (case c1 => k_is)
    (case k1 => k_is)
    (case a2 => k_is)
    (case l2 => k_is)
    (case c2 => k_is)
    (case k2 => k_is)
    (case a3 => k_is)
    (case l3 => k_is)
    (case c3 => k_is)
    (case k3 => k_is)
    (case a4 => k_is)
    (case l4 => k_is)
    (case c4 => k_is)
    (case k4 => k_is)
    (case a5 => k_is)
    (case l5 => k_is)
    (case c5 => k_is)
    (case k5 => k_is)
    (case aC_Store => k_is)
    (case pg_Store => k_is)
    (case hd_Store => k_is)
    (case po_Store => k_is)
    (case sa_Store => k_is)
    (case mk_Store => k_is)
    (case kc_Store => k_is)
    (case a7 => k_is)
    (case i7 => k_is)
    (case l7 => k_is)
    (case c7 => k_is)
    (case k7 => k_is)
    (case a8 => k_is)
    (case i8 => k_is)
    (case l8 => k_is)
    (case c8 => k_is)
    (case k8 => k_is)
    (case n9 => k_is)
    (case n10 => k_is)
    (case n11 => k_is)
    (case a12 => k_is)
    (case l12 => k_is)
    (case c12 => k_is)
    (case k12 => k_is)
    (case a13 => k_is)
    (case l13 => k_is)
    (case c13 => k_is)
    (case k13 => k_is)
    (case a14 => k_is)
    (case l14 => k_is)
    (case c14 => k_is)
    (case k14 => k_is)
    (case a15 => k_is)
    (case l15 => k_is)
    (case c15 => k_is)
    (case k15 => k_is)
    (case g16 => k_is)
    (case g17 => k_is)
    (case g18 => k_is)
    (case z19 => k_is)
    (case z20 => k_is)
    (case z21 => k_is)
    (case z22 => k_is)
    (case z23 => k_is)
    (case z24 => k_is)
    (case z25 => k_is)
    (case z26 => k_is)
    (case z27 => k_is)
    (case z28 => k_is)
    (case a29 => k_is)
    (case l29 => k_is)
    (case c29 => k_is)
    (case k29 => k_is)
    (case a30 => k_is)
    (case l30 => k_is)
    (case c30 => k_is)
    (case k30 => k_is)
    (case a31 => k_is)
    (case l31 => k_is)
    (case c31 => k_is)
    (case k31 => k_is)
    (case a32 => k_is)
    (case l32 => k_is)
    (case c32 => k_is)
    (case k32 => k_is)
    (case a33 => k_is)
    (case l33 => k_is)
    (case c33 => k_is)
    (case k33 => k_is)
    (case a34 => k_is)
    (case l34 => k_is)
    (case c34 => k_is)
    (case k34 => k_is)
