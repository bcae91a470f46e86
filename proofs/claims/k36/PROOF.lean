import PyProof.Rows.All
import Wide.All
import OpenK.AllK
import Wide.FinOn
import HandS.ForMost
import HandS.DictComp
import HandS.Conv
import HandS.Style
import HandS.Defaults
import HandS.IsInst
import HandS.SortInts
import HandS.TupAny
import HandS.More
import HandS.DeepEq
import KE.KDictCopyH
import KE.KEqDict
import KE.KTupTabMore
import HandS.DictTup
import HandS.ListItems
import HandS.Keys
import HandS.SortOrd
import HandS.SortRule
import PyProof.ReprRoads
import PyProof.Rows.RegFStrParts
import HandS.Ends
import HandS.HeadEnd
import PySem.Challenge.RW_typedbydegrees_k36_whole_heaps_that_are
import HandS.Head0
import HandS.Head1
import HandS.Head2
import HandS.HeadHook1
import HandS.HeadHook2
import HandS.HeadHook3
import HandS.HeadHook4
set_option maxHeartbeats 0
set_option Elab.async false
set_option linter.all false
set_option maxRecDepth 100000
/-! DH: data over the hand layer: what an expression or a block does, told over plain data and an abstract list of slots. -/
namespace DH
open PySem PySem.Spec L2

/-! ### 1. the weakest readings -/
def wE (X : Cx) (e : Expr) : TE := fun σ H Q => ∀ (pins : List (Addr × Obj)) (s : Shared), Inv X pins σ H s → wpAny (model X.prog X.w) X.A (eval e X.env) (EP X pins σ Q) X.xe s
def wT (X : Cx) (e : Expr) : TT := fun σ H Q => ∀ (pins : List (Addr × Obj)) (s : Shared), Inv X pins σ H s → wpAny (model X.prog X.w) X.A (isTrue e X.env (eval e X.env)) (TP X pins σ Q) X.xe s
def wA (X : Cx) (es : List Expr) : TA := fun σ H Q => ∀ (pos : Pos) (pins : List (Addr × Obj)) (s : Shared), Inv X pins σ H s → wpAny (model X.prog X.w) X.A (spliced (backTo pos (starEach es X.env))) (AP X pins σ Q) X.xe s
def wS (X : Cx) (st : Stmt) : TS := fun D σ H => ∀ (pins : List (Addr × Obj)) (s : Shared), Inv X pins σ H s → wpAny (model X.prog X.w) X.A (exec st X.env) (SP X pins D) X.xe s
def wSs (X : Cx) (st : List Stmt) : TS := fun D σ H => ∀ (pins : List (Addr × Obj)) (s : Shared), Inv X pins σ H s → wpAny (model X.prog X.w) X.A (execs st X.env) (SP X pins D) X.xe s
theorem pe_w {X : Cx} {e : Expr} : PE X e (wE X e) := ⟨fun pins s _ _ _ I h => h pins s I⟩
theorem pt_w {X : Cx} {e : Expr} : PT X e (wT X e) := ⟨fun pins s _ _ _ I h => h pins s I⟩
theorem pa_w {X : Cx} {es : List Expr} : PA X es (wA X es) := ⟨fun pos pins s _ _ _ I h => h pos pins s I⟩
theorem ps_w {X : Cx} {st : Stmt} : PS X st (wS X st) := ⟨fun pins s _ _ _ I h => h pins s I⟩
theorem pss_w {X : Cx} {st : List Stmt} : PSs X st (wSs X st) := ⟨fun pins s _ _ _ I h => h pins s I⟩
theorem wE_of {X : Cx} {e : Expr} {t : TE} (h : PE X e t) {σ : St} {H : Hp} {Q : VK} (q : t σ H Q) : wE X e σ H Q := fun pins s I => h.run pins s σ H Q I q
theorem wT_of {X : Cx} {e : Expr} {t : TT} (h : PT X e t) {σ : St} {H : Hp} {Q : Bool → Hp → Prop} (q : t σ H Q) : wT X e σ H Q := fun pins s I => h.run pins s σ H Q I q
theorem wA_of {X : Cx} {es : List Expr} {t : TA} (h : PA X es t) {σ : St} {H : Hp} {Q : List V → Hp → Prop} (q : t σ H Q) : wA X es σ H Q := fun pos pins s I => h.run pos pins s σ H Q I q
theorem wS_of {X : Cx} {st : Stmt} {t : TS} (h : PS X st t) {D : Ends} {σ : St} {H : Hp} (q : t D σ H) : wS X st D σ H := fun pins s I => h.run pins s σ H D I q
theorem wSs_of {X : Cx} {st : List Stmt} {t : TS} (h : PSs X st t) {D : Ends} {σ : St} {H : Hp} (q : t D σ H) : wSs X st D σ H := fun pins s I => h.run pins s σ H D I q
theorem wE_mono {X : Cx} {e : Expr} {σ : St} {H : Hp} {Q Q' : VK} (h : wE X e σ H Q) (m : ∀ v H', Q v H' → Q' v H') : wE X e σ H Q' := fun pins s I =>
  thn (h pins s I) fun _ _ ⟨v, H', I', r, q⟩ => ⟨v, H', I', r, m v H' q⟩

/-! ### 2. data -/
structure Md where
  P : Program
  w : World
  K : PySem.W.Frag
abbrev md (X : Cx) : Md := ⟨X.prog, X.w, X.K⟩
/-- a dict of such pairs is to be read at a (locked for good) -/
def SqD (G : Hp) (a : Addr) (ks : List (Key × V)) : Prop := ∃ o, G a = some (.frz o (.dK ks))
def kD : Key → PyData
  | .inl i => .int i
  | .inr x => .str x
theorem kD_inj {a b : Key} (e : kD a = kD b) : a = b := by
  cases a with
  | inl i => cases b with
    | inl j => cases e; rfl
    | inr j => cases e
  | inr i => cases b with
    | inl j => cases e
    | inr j => cases e; rfl
/-- a dict's pairs as data -/
def dK (kvs : List (Key × PyData)) : List (PyData × PyData) := kvs.map fun p => (kD p.1, p.2)
theorem dK_inj : ∀ {a b : List (Key × PyData)}, dK a = dK b → a = b
  | [], [], _ => rfl
  | [], _ :: _, e => by cases e
  | _ :: _, [], e => by cases e
  | (k, x) :: a, (j, y) :: b, e => by
    have e' : (kD k, x) :: dK a = (kD j, y) :: dK b := e
    injection e' with e1 e2
    injection e1 with e3 e4
    rw [kD_inj e3, e4, dK_inj e2]
mutual
inductive Rp (M : Md) (G : Hp) : V → PyData → Prop
  | non : Rp M G .non .none
  | bl (b : Bool) : Rp M G (.bl b) (.bool b)
  | int (i : Int) : Rp M G (.int i) (.int i)
  | str (x : Str) : Rp M G (.str x) (.str x)
  | lst {a : Addr} {xs : List V} {ds : List PyData} : SqL M.K G a xs → RpA M G xs ds → Rp M G (.ref a) (.list ds)
  | tup {a : Addr} {xs : List V} {ds : List PyData} : SqT M.K G a xs → RpA M G xs ds → Rp M G (.ref a) (.tuple ds)
  | dct {a : Addr} {ks : List (Key × V)} {kvs : List (Key × PyData)} {kvs' : List (PyData × PyData)} : SqD G a ks → RpK M G ks kvs → dK kvs = kvs' → Rp M G (.ref a) (.dict kvs')
inductive RpA (M : Md) (G : Hp) : List V → List PyData → Prop
  | nil : RpA M G [] []
  | cons {v : V} {vs : List V} {d : PyData} {ds : List PyData} : Rp M G v d → RpA M G vs ds → RpA M G (v :: vs) (d :: ds)
inductive RpK (M : Md) (G : Hp) : List (Key × V) → List (Key × PyData) → Prop
  | nil : RpK M G [] []
  | cons {k : Key} {v : V} {vs : List (Key × V)} {d : PyData} {ds : List (Key × PyData)} : Rp M G v d → RpK M G vs ds → RpK M G ((k, v) :: vs) ((k, d) :: ds)
end
theorem same_rd {G G' : Hp} (e : Same G G') {a : Addr} {u : HO} (h : Rd G a u) : Rd G' a u := by
  rcases h with h | ⟨o, h⟩
  · exact .inl (e a _ h)
  · exact .inr ⟨o, e a _ h⟩
theorem same_l {K : PySem.W.Frag} {G G' : Hp} (e : Same G G') {a : Addr} {xs : List V} (h : SqL K G a xs) : SqL K G' a xs := h.imp (same_rd e) id
theorem same_t {K : PySem.W.Frag} {G G' : Hp} (e : Same G G') {a : Addr} {xs : List V} (h : SqT K G a xs) : SqT K G' a xs := h.imp (same_rd e) id
theorem same_d {G G' : Hp} (e : Same G G') {a : Addr} {xs : List (Key × V)} (h : SqD G a xs) : SqD G' a xs := h.imp fun o q => e a _ q
mutual
theorem Rp.le {M : Md} {G G' : Hp} (e : Same G G') : ∀ {v : V} {d : PyData}, Rp M G v d → Rp M G' v d
  | _, _, .non => .non
  | _, _, .bl b => .bl b
  | _, _, .int i => .int i
  | _, _, .str x => .str x
  | _, _, .lst h r => .lst (same_l e h) (RpA.le e r)
  | _, _, .tup h r => .tup (same_t e h) (RpA.le e r)
  | _, _, .dct h r q => .dct (same_d e h) (RpK.le e r) q
theorem RpA.le {M : Md} {G G' : Hp} (e : Same G G') : ∀ {v : List V} {d : List PyData}, RpA M G v d → RpA M G' v d
  | _, _, .nil => .nil
  | _, _, .cons r t => .cons (Rp.le e r) (RpA.le e t)
theorem RpK.le {M : Md} {G G' : Hp} (e : Same G G') : ∀ {v : List (Key × V)} {d : List (Key × PyData)}, RpK M G v d → RpK M G' v d
  | _, _, .nil => .nil
  | _, _, .cons r t => .cons (Rp.le e r) (RpK.le e t)
end
theorem RpA.length {M : Md} {G : Hp} : ∀ {vs : List V} {ds : List PyData}, RpA M G vs ds → vs.length = ds.length
  | _, _, .nil => rfl
  | _, _, .cons _ t => congrArg Nat.succ t.length
theorem RpK.length {M : Md} {G : Hp} : ∀ {vs : List (Key × V)} {ds : List (Key × PyData)}, RpK M G vs ds → vs.length = ds.length
  | _, _, .nil => rfl
  | _, _, .cons _ t => congrArg Nat.succ t.length
theorem RpA.append {M : Md} {G : Hp} : ∀ {vs us : List V} {ds es : List PyData}, RpA M G vs ds → RpA M G us es → RpA M G (vs ++ us) (ds ++ es)
  | _, _, _, _, .nil, s => s
  | _, _, _, _, .cons r t, s => .cons r (RpA.append t s)
theorem RpA.get {M : Md} {G : Hp} : ∀ {vs : List V} {ds : List PyData} {i : Nat} {d : PyData}, RpA M G vs ds → ds[i]? = some d → ∃ v, vs[i]? = some v ∧ Rp M G v d
  | _, _, _, _, .nil, e => by simp at e
  | _, _, 0, _, .cons r _, e => by simp at e; subst e; exact ⟨_, rfl, r⟩
  | _, _, i + 1, d, .cons _ t, e => by
    obtain ⟨u, h1, h2⟩ := RpA.get (i := i) (d := d) t (by simpa using e)
    exact ⟨u, by simpa using h1, h2⟩
theorem RpA.get' {M : Md} {G : Hp} : ∀ {vs : List V} {ds : List PyData} {i : Nat} {v : V}, RpA M G vs ds → vs[i]? = some v → ∃ d, ds[i]? = some d ∧ Rp M G v d
  | _, _, _, _, .nil, e => by simp at e
  | _, _, 0, _, .cons r _, e => by simp at e; subst e; exact ⟨_, rfl, r⟩
  | _, _, i + 1, d, .cons _ t, e => by
    obtain ⟨u, h1, h2⟩ := RpA.get' (i := i) (v := d) t (by simpa using e)
    exact ⟨u, by simpa using h1, h2⟩
theorem RpA.set {M : Md} {G : Hp} {v : V} {d : PyData} (r : Rp M G v d) : ∀ {vs : List V} {ds : List PyData} (i : Nat), RpA M G vs ds → RpA M G (vs.set i v) (ds.set i d)
  | _, _, _, .nil => .nil
  | _, _, 0, .cons _ t => .cons r t
  | _, _, i + 1, .cons q t => .cons q (RpA.set r i t)
theorem RpA.take {M : Md} {G : Hp} : ∀ {vs : List V} {ds : List PyData} (n : Nat), RpA M G vs ds → RpA M G (vs.take n) (ds.take n)
  | _, _, 0, _ => .nil
  | _, _, _ + 1, .nil => .nil
  | _, _, n + 1, .cons r t => .cons r (RpA.take n t)
theorem RpA.drop {M : Md} {G : Hp} : ∀ {vs : List V} {ds : List PyData} (n : Nat), RpA M G vs ds → RpA M G (vs.drop n) (ds.drop n)
  | _, _, 0, r => r
  | _, _, _ + 1, .nil => .nil
  | _, _, n + 1, .cons _ t => RpA.drop n t
theorem RpA.reverse {M : Md} {G : Hp} : ∀ {vs : List V} {ds : List PyData}, RpA M G vs ds → RpA M G vs.reverse ds.reverse
  | _, _, .nil => .nil
  | _, _, .cons r t => by
    rw [List.reverse_cons, List.reverse_cons]
    exact (RpA.reverse t).append (.cons r .nil)
theorem RpA.dropLast {M : Md} {G : Hp} : ∀ {vs : List V} {ds : List PyData}, RpA M G vs ds → RpA M G vs.dropLast ds.dropLast
  | _, _, .nil => .nil
  | _, _, .cons _ .nil => .nil
  | _, _, .cons r (.cons r' t) => .cons r (RpA.dropLast (.cons r' t))
/-- ints, texts, truths: the values themselves -/
theorem rp_int {M : Md} {G : Hp} {v : V} {i : Int} (h : Rp M G v (.int i)) : v = .int i := by cases h; rfl
theorem rp_bl {M : Md} {G : Hp} {v : V} {b : Bool} (h : Rp M G v (.bool b)) : v = .bl b := by cases h; rfl
theorem rp_str {M : Md} {G : Hp} {v : V} {x : Str} (h : Rp M G v (.str x)) : v = .str x := by cases h; rfl
theorem rp_non {M : Md} {G : Hp} {v : V} (h : Rp M G v .none) : v = .non := by cases h; rfl
theorem rp_lst {M : Md} {G : Hp} {v : V} {ds : List PyData} (h : Rp M G v (.list ds)) : ∃ a xs, v = .ref a ∧ SqL M.K G a xs ∧ RpA M G xs ds := by cases h with | lst a b => exact ⟨_, _, rfl, a, b⟩
theorem rp_tup {M : Md} {G : Hp} {v : V} {ds : List PyData} (h : Rp M G v (.tuple ds)) : ∃ a xs, v = .ref a ∧ SqT M.K G a xs ∧ RpA M G xs ds := by cases h with | tup a b => exact ⟨_, _, rfl, a, b⟩
theorem rp_dct {M : Md} {G : Hp} {v : V} {ds : List (Key × PyData)} (h : Rp M G v (.dict (dK ds))) : ∃ a xs, v = .ref a ∧ SqD G a xs ∧ RpK M G xs ds := by
  generalize e : dK ds = ds' at h
  cases h with
  | dct a b q => exact ⟨_, _, rfl, a, by rw [← e] at q; rw [← dK_inj q]; exact b⟩
theorem RpK.keys {M : Md} {G : Hp} : ∀ {vs : List (Key × V)} {ds : List (Key × PyData)}, RpK M G vs ds → vs.map (·.1) = ds.map (·.1)
  | _, _, .nil => rfl
  | _, _, .cons _ t => by rw [List.map_cons, List.map_cons, t.keys]
theorem RpK.append {M : Md} {G : Hp} : ∀ {vs us : List (Key × V)} {ds es : List (Key × PyData)}, RpK M G vs ds → RpK M G us es → RpK M G (vs ++ us) (ds ++ es)
  | _, _, _, _, .nil, s => s
  | _, _, _, _, .cons r t, s => .cons r (RpK.append t s)
theorem RpK.get {M : Md} {G : Hp} : ∀ {vs : List (Key × V)} {ds : List (Key × PyData)} {i : Nat} {k : Key} {v : V}, RpK M G vs ds → vs[i]? = some (k, v) → ∃ d, ds[i]? = some (k, d) ∧ Rp M G v d
  | _, _, _, _, _, .nil, e => by simp at e
  | _, _, 0, _, _, .cons r _, e => by simp at e; obtain ⟨rfl, rfl⟩ := e; exact ⟨_, rfl, r⟩
  | _, _, i + 1, k, v, .cons _ t, e => by
    obtain ⟨u, h1, h2⟩ := RpK.get (i := i) (k := k) (v := v) t (by simpa using e)
    exact ⟨u, by simpa using h1, h2⟩
/-- look-up and store over data -/
def lookD (kvs : List (Key × PyData)) (k : Key) : Option PyData := (kvs.find? fun kv => decide (kv.1 = k)).map (·.2)
def putD (kvs : List (Key × PyData)) (k : Key) (x : PyData) : List (Key × PyData) := if kvs.any (fun kv => decide (kv.1 = k)) then kvs.map (fun kv => if kv.1 = k then (kv.1, x) else kv) else kvs ++ [(k, x)]
/-- both or neither -/
def RpO (M : Md) (G : Hp) : Option V → Option PyData → Prop
  | some v, some d => Rp M G v d
  | none, none => True
  | _, _ => False
theorem RpK.look {M : Md} {G : Hp} (k : Key) : ∀ {vs : List (Key × V)} {ds : List (Key × PyData)}, RpK M G vs ds → RpO M G (valV vs k) (lookD ds k)
  | _, _, .nil => trivial
  | (j, v) :: vs, (_, d) :: ds, .cons r t => by
    by_cases e : j = k
    · rw [valV_pos (p := (j, v)) e]
      unfold lookD
      rw [List.find?_cons_of_pos (by simp [e])]
      exact r
    · rw [valV_neg (p := (j, v)) e]
      unfold lookD
      rw [List.find?_cons_of_neg (by simp [e])]
      exact t.look k
theorem RpK.any {M : Md} {G : Hp} (k : Key) : ∀ {vs : List (Key × V)} {ds : List (Key × PyData)}, RpK M G vs ds → (vs.any fun kv => decide (kv.1 = k)) = ds.any fun kv => decide (kv.1 = k)
  | _, _, .nil => rfl
  | _, _, .cons _ t => by rw [List.any_cons, List.any_cons, t.any k]
theorem RpK.repl {M : Md} {G : Hp} (k : Key) {v : V} {d : PyData} (r : Rp M G v d) : ∀ {vs : List (Key × V)} {ds : List (Key × PyData)}, RpK M G vs ds → RpK M G (vs.map fun kv => if kv.1 = k then (kv.1, v) else kv) (ds.map fun kv => if kv.1 = k then (kv.1, d) else kv)
  | _, _, .nil => .nil
  | (j, x) :: vs, (_, y) :: ds, .cons q t => by
    rw [List.map_cons, List.map_cons]
    by_cases e : j = k
    · rw [if_pos e, if_pos e]; exact .cons r (t.repl k r)
    · rw [if_neg e, if_neg e]; exact .cons q (t.repl k r)
theorem RpK.put {M : Md} {G : Hp} {k : Key} {v : V} {d : PyData} {vs : List (Key × V)} {ds : List (Key × PyData)} (h : RpK M G vs ds) (r : Rp M G v d) : RpK M G (putK vs k v) (putD ds k d) := by
  unfold putK putD
  rw [h.any k]
  split
  · exact h.repl k r
  · exact h.append (.cons r .nil)
theorem putD_new {kvs : List (Key × PyData)} {k : Key} {x : PyData} (h : k ∉ kvs.map (·.1)) : putD kvs k x = kvs ++ [(k, x)] := by
  unfold putD
  rw [if_neg]
  rw [List.any_eq_true]
  rintro ⟨p, hp, e⟩
  exact h (List.mem_map.mpr ⟨p, hp, of_decide_eq_true e⟩)
theorem rpa_ints {M : Md} {G : Hp} : ∀ {vs : List V} {ns : List Int}, RpA M G vs (ns.map .int) → vs = ns.map V.int
  | _, [], .nil => rfl
  | _, n :: ns, .cons r t => by rw [rp_int r, rpa_ints t]; rfl
theorem rpa_of_ints {M : Md} {G : Hp} : ∀ (ns : List Int), RpA M G (ns.map V.int) (ns.map .int)
  | [] => .nil
  | n :: ns => .cons (.int n) (rpa_of_ints ns)
theorem rpa_bools {M : Md} {G : Hp} : ∀ {vs : List V} {ns : List Bool}, RpA M G vs (ns.map .bool) → vs = ns.map V.bl
  | _, [], .nil => rfl
  | _, n :: ns, .cons r t => by rw [rp_bl r, rpa_bools t]; rfl
theorem rpa_strs {M : Md} {G : Hp} : ∀ {vs : List V} {ns : List Str}, RpA M G vs (ns.map .str) → vs = ns.map V.str
  | _, [], .nil => rfl
  | _, n :: ns, .cons r t => by rw [rp_str r, rpa_strs t]; rfl
theorem rpa_of_strs {M : Md} {G : Hp} : ∀ (ns : List Str), RpA M G (ns.map V.str) (ns.map .str)
  | [] => .nil
  | n :: ns => .cons (.str n) (rpa_of_strs ns)
/-! data without dicts, for the library's rules -/
mutual
def noD : PyData → Bool
  | .list xs => noDs xs
  | .tuple xs => noDs xs
  | .dict _ => false
  | _ => true
def noDs : List PyData → Bool
  | [] => true
  | d :: ds => noD d && noDs ds
end
mutual
theorem Rp.dp {M : Md} {G : Hp} : ∀ {v : V} {d : PyData}, Rp M G v d → noD d = true → Dp M.K G v d
  | _, _, .non, _ => .non
  | _, _, .bl b, _ => .bl b
  | _, _, .int i, _ => .int i
  | _, _, .str x, _ => .str x
  | _, _, .lst h r, e => .lst h (RpA.dp r (by simpa [noD] using e))
  | _, _, .tup h r, e => .tup h (RpA.dp r (by simpa [noD] using e))
  | _, _, .dct h r q, e => by simp [noD] at e
theorem RpA.dp {M : Md} {G : Hp} : ∀ {v : List V} {d : List PyData}, RpA M G v d → noDs d = true → DpAll M.K G v d
  | _, _, .nil, _ => .nil
  | _, _, .cons r t, e => by
    rw [noDs, Bool.and_eq_true] at e
    exact .cons (Rp.dp r e.1) (RpA.dp t e.2)
end

/-! ### 3. growth: G what is frozen, H the heap -/
structure Le (G H G' H' : Hp) : Prop where
  g : Same G G'
  h : Same H H'
  i : Same G' H'
  n : ∀ a o, H a = some o → G' a = G a
theorem Le.refl {G H : Hp} (s : Same G H) : Le G H G H := ⟨Same.refl G, Same.refl H, s, fun _ _ _ => rfl⟩
theorem Le.trans {G H G1 H1 G2 H2 : Hp} (a : Le G H G1 H1) (b : Le G1 H1 G2 H2) : Le G H G2 H2 := ⟨a.g.trans b.g, a.h.trans b.h, b.i, fun x o e => (b.n x o (a.h x o e)).trans (a.n x o e)⟩
/-- a new object, frozen at once -/
theorem Le.fz {G H G1 H1 : Hp} (l : Le G H G1 H1) {p : Addr} {o : HO} (hp : H1 p = none) : Le G H (upd G1 p o) (upd H1 p o) where
  g := fun a u e => by rw [upd_ne (ne_of_none (l.i a u (l.g a u e)) hp)]; exact l.g a u e
  h := fun a u e => by rw [upd_ne (ne_of_none (l.h a u e) hp)]; exact l.h a u e
  i := fun a u e => by
    by_cases q : a = p
    · subst q; rw [upd_same] at e ⊢; exact e
    · rw [upd_ne q] at e ⊢; exact l.i a u e
  n := fun a u e => by rw [upd_ne (ne_of_none (l.h a u e) hp)]; exact l.n a u e
theorem Le.new {G H : Hp} (s : Same G H) {p : Addr} {o : HO} (hp : H p = none) : Le G H (upd G p o) (upd H p o) := (Le.refl s).fz hp
/-- a new object, kept apart -/
theorem Le.own {G H G1 H1 : Hp} (l : Le G H G1 H1) {p : Addr} {o : HO} (hp : H1 p = none) : Le G H G1 (upd H1 p o) where
  g := l.g
  h := fun a u e => by rw [upd_ne (ne_of_none (l.h a u e) hp)]; exact l.h a u e
  i := fun a u e => by rw [upd_ne (ne_of_none (l.i a u e) hp)]; exact l.i a u e
  n := l.n
/-- an object of one's own is changed -/
theorem Le.mut {G H G1 H1 : Hp} (l : Le G H G1 H1) {p : Addr} {o : HO} (hp : H p = none) (gp : G1 p = none) : Le G H G1 (upd H1 p o) where
  g := l.g
  h := fun a u e => by rw [upd_ne (ne_of_none e hp)]; exact l.h a u e
  i := fun a u e => by rw [upd_ne (ne_of_none e gp)]; exact l.i a u e
  n := l.n
/-- it is frozen, laid anew -/
theorem Le.relay {G H G1 H1 : Hp} (l : Le G H G1 H1) {p : Addr} {o : HO} (hp : H p = none) (gp : G1 p = none) : Le G H (upd G1 p o) (upd H1 p o) where
  g := fun a u e => by rw [upd_ne (ne_of_none (l.g a u e) gp)]; exact l.g a u e
  h := fun a u e => by rw [upd_ne (ne_of_none e hp)]; exact l.h a u e
  i := fun a u e => by
    by_cases q : a = p
    · subst q; rw [upd_same] at e ⊢; exact e
    · rw [upd_ne q] at e ⊢; exact l.i a u e
  n := fun a u e => by rw [upd_ne (ne_of_none e hp)]; exact l.n a u e
/-- it is frozen -/
theorem Le.freeze {G H G1 H1 : Hp} (l : Le G H G1 H1) {p : Addr} {o : HO} (hp : H p = none) (gp : G1 p = none) (e1 : H1 p = some o) : Le G H (upd G1 p o) H1 where
  g := fun a u e => by rw [upd_ne (ne_of_none (l.g a u e) gp)]; exact l.g a u e
  h := l.h
  i := fun a u e => by
    by_cases q : a = p
    · subst q; rw [upd_same] at e; rw [e1]; exact e
    · rw [upd_ne q] at e; exact l.i a u e
  n := fun a u e => by rw [upd_ne (ne_of_none e hp)]; exact l.n a u e
theorem same_upd {G : Hp} {p : Addr} {o : HO} (h : G p = none) : Same G (upd G p o) := fun a u e => by rw [upd_ne (ne_of_none e h)]; exact e

/-! ### 4. slots -/
inductive Sl where
  | no
  | d (x : PyData)
  | l (ds : List PyData)
  | m (kvs : List (Key × PyData))
inductive Rs where
  | d (x : PyData)
  | l (ds : List PyData)
  | m (kvs : List (Key × PyData))
def Rs.sl : Rs → Sl
  | .d x => .d x
  | .l ds => .l ds
  | .m kvs => .m kvs
def Rs.dat : Rs → PyData
  | .d x => x
  | .l ds => .list ds
  | .m kvs => .dict (dK kvs)
structure Bs where
  G : Hp
  H : Hp
/-- the value v bears r; a list or dict of one's own stands apart from G, and was not in H0 -/
def RsOk (M : Md) (H0 G H : Hp) (v : V) : Rs → Prop
  | .d x => Rp M G v x
  | .l ds => ∃ p xs, v = .ref p ∧ H0 p = none ∧ G p = none ∧ H p = some (.lst xs) ∧ RpA M G xs ds
  | .m kvs => ∃ p ks, v = .ref p ∧ H0 p = none ∧ G p = none ∧ H p = some (.dK ks) ∧ RpK M G ks kvs
def SlOk (M : Md) (B : Bs) (G H : Hp) (u : Option (Option V)) : Option Sl → Prop
  | some (.d x) => ∃ v, u = some (some v) ∧ RsOk M B.H G H v (.d x)
  | some (.l ds) => ∃ v, u = some (some v) ∧ RsOk M B.H G H v (.l ds)
  | some (.m kvs) => ∃ v, u = some (some v) ∧ RsOk M B.H G H v (.m kvs)
  | _ => True
def ownS : Option Sl → Prop
  | some (.l _) => True
  | some (.m _) => True
  | _ => False
structure En (M : Md) (B : Bs) (ρ : List Sl) (σ : St) (G H : Hp) : Prop where
  le : Le B.G B.H G H
  len : ρ.length = σ.length
  ok : ∀ i : Nat, SlOk M B G H (σ[i]?) (ρ[i]?)
  apart : ∀ (i j : Nat) (p : Addr), i ≠ j → ownS (ρ[i]?) → ownS (ρ[j]?) → σ[i]? = some (some (.ref p)) → σ[j]? = some (some (.ref p)) → False
section
variable {M : Md} {B : Bs} {ρ : List Sl} {σ : St} {G H G1 H1 : Hp}
theorem RsOk.le {H0 : Hp} {v : V} (l : Le G H G1 H1) : ∀ {r : Rs}, RsOk M H0 G H v r → RsOk M H0 G1 H1 v r
  | .d x, h => Rp.le l.g h
  | .l ds, ⟨p, xs, e, h0, g0, h1, r⟩ => ⟨p, xs, e, h0, by rw [l.n p _ h1]; exact g0, l.h p _ h1, r.le l.g⟩
  | .m ds, ⟨p, xs, e, h0, g0, h1, r⟩ => ⟨p, xs, e, h0, by rw [l.n p _ h1]; exact g0, l.h p _ h1, r.le l.g⟩
theorem SlOk.le {u : Option (Option V)} (l : Le G H G1 H1) : ∀ {x : Option Sl}, SlOk M B G H u x → SlOk M B G1 H1 u x
  | none, _ => trivial
  | some .no, _ => trivial
  | some (.d _), ⟨v, e, h⟩ => ⟨v, e, h.le l⟩
  | some (.l _), ⟨v, e, h⟩ => ⟨v, e, h.le l⟩
  | some (.m _), ⟨v, e, h⟩ => ⟨v, e, h.le l⟩
theorem En.mono (E : En M B ρ σ G H) (l : Le G H G1 H1) : En M B ρ σ G1 H1 := ⟨E.le.trans l, E.len, fun i => (E.ok i).le l, E.apart⟩
theorem En.dat (E : En M B ρ σ G H) {i : Nat} {x : PyData} (h : ρ[i]? = some (.d x)) : ∃ v, σ[i]? = some (some v) ∧ Rp M G v x := by
  have q := E.ok i
  rw [h] at q
  exact q
theorem En.lst (E : En M B ρ σ G H) {i : Nat} {x : List PyData} (h : ρ[i]? = some (.l x)) : ∃ p xs, σ[i]? = some (some (.ref p)) ∧ B.H p = none ∧ G p = none ∧ H p = some (.lst xs) ∧ RpA M G xs x := by
  have q := E.ok i
  rw [h] at q
  obtain ⟨v, e, p, xs, rfl, q⟩ := q
  exact ⟨p, xs, e, q⟩
theorem En.dct (E : En M B ρ σ G H) {i : Nat} {x : List (Key × PyData)} (h : ρ[i]? = some (.m x)) : ∃ p xs, σ[i]? = some (some (.ref p)) ∧ B.H p = none ∧ G p = none ∧ H p = some (.dK xs) ∧ RpK M G xs x := by
  have q := E.ok i
  rw [h] at q
  obtain ⟨v, e, p, xs, rfl, q⟩ := q
  exact ⟨p, xs, e, q⟩
theorem get_set {α : Type} {l : List α} {i j : Nat} {a : α} : (l.set i a)[j]? = if i = j then (if i < l.length then some a else none) else l[j]? := by
  rw [List.getElem?_set]
/-- a slot is stored: a value as data, or a list (a dict) that is new since H -/
theorem En.set (E : En M B ρ σ G H) {r : Rs} {v : V} {G2 H2 : Hp} (l : Le G H G2 H2) (q : RsOk M H G2 H2 v r) (i : Nat) : En M B (ρ.set i r.sl) (σ.set i (some v)) G2 H2 := by
  have E2 := E.mono l
  have fresh : ∀ (p : Addr), v = V.ref p → ownS (some r.sl) → ∀ (j : Nat), ownS (ρ[j]?) → σ[j]? = some (some (V.ref p)) → False := fun p ev hs j ho e => by
    have hp : H p = none := by
      cases r with
      | d x => exact hs.elim
      | l ds => obtain ⟨p', _, e', h0, _⟩ := q; rw [ev] at e'; cases e'; exact h0
      | m ds => obtain ⟨p', _, e', h0, _⟩ := q; rw [ev] at e'; cases e'; exact h0
    have o := E.ok j
    cases hj : ρ[j]? with
    | none => rw [hj] at ho; exact ho
    | some sj =>
      rw [hj] at ho o
      cases sj with
      | no => exact ho
      | d x => exact ho
      | l ds => obtain ⟨u, eu, p', _, e', _, _, h1, _⟩ := o; rw [e] at eu; cases eu; cases e'; rw [hp] at h1; cases h1
      | m ds => obtain ⟨u, eu, p', _, e', _, _, h1, _⟩ := o; rw [e] at eu; cases eu; cases e'; rw [hp] at h1; cases h1
  have q0 : RsOk M B.H G2 H2 v r := by
    cases r with
    | d x => exact q
    | l ds => obtain ⟨p, xs, e, h0, z⟩ := q; exact ⟨p, xs, e, E.le.h.free h0, z⟩
    | m ds => obtain ⟨p, xs, e, h0, z⟩ := q; exact ⟨p, xs, e, E.le.h.free h0, z⟩
  refine ⟨E2.le, by rw [List.length_set, List.length_set]; exact E.len, fun j => ?_, fun j k p hjk hj hk ej ek => ?_⟩
  · rw [get_set, get_set]
    by_cases e : i = j
    · rw [if_pos e, if_pos e, E.len]
      by_cases hl : i < σ.length
      · rw [if_pos hl, if_pos hl]
        cases r with
        | d x => exact ⟨v, rfl, q0⟩
        | l x => exact ⟨v, rfl, q0⟩
        | m x => exact ⟨v, rfl, q0⟩
      · rw [if_neg hl, if_neg hl]; trivial
    · rw [if_neg e, if_neg e]; exact E2.ok j
  · rw [get_set] at hj hk ej ek
    by_cases e : i = j
    · subst e
      rw [if_neg hjk] at hk ek
      rw [if_pos rfl] at hj ej
      by_cases hl : i < ρ.length
      · rw [if_pos hl] at hj
        rw [if_pos (by rw [← E.len]; exact hl)] at ej
        cases ej
        exact fresh p rfl hj k hk ek
      · rw [if_neg hl] at hj; exact hj
    · rw [if_neg e] at hj ej
      by_cases e2 : i = k
      · subst e2
        rw [if_pos rfl] at hk ek
        by_cases hl : i < ρ.length
        · rw [if_pos hl] at hk
          rw [if_pos (by rw [← E.len]; exact hl)] at ek
          cases ek
          exact fresh p rfl hk j hj ej
        · rw [if_neg hl] at hk; exact hk
      · rw [if_neg e2] at hk ek
        exact E.apart j k p hjk hj hk ej ek
/-- the list in slot i is changed -/
theorem En.mutL (E : En M B ρ σ G H) {i : Nat} {p : Addr} {ds : List PyData} {xs : List V} (hi : ρ[i]? = some (.l ds)) (hp : σ[i]? = some (some (.ref p))) {es : List PyData} (r : RpA M G xs es) : En M B (ρ.set i (.l es)) σ G (upd H p (.lst xs)) := by
  obtain ⟨p', xs0, e, h0, g0, h1, _⟩ := E.lst hi
  rw [hp] at e; cases e
  have il : i < ρ.length := (List.getElem?_eq_some_iff.mp hi).1
  have oi : ownS (ρ[i]?) := by rw [hi]; trivial
  refine ⟨E.le.mut h0 g0, by rw [List.length_set]; exact E.len, fun j => ?_, fun j k q hjk hj hk ej ek => ?_⟩
  · rw [get_set]
    by_cases e : i = j
    · subst e
      rw [if_pos rfl, if_pos il]
      exact ⟨_, hp, p, xs, rfl, h0, g0, upd_same, r⟩
    · rw [if_neg e]
      have o := E.ok j
      cases hj : ρ[j]? with
      | none => trivial
      | some sj =>
        rw [hj] at o
        have ne : ∀ (q : Addr), ownS (some sj) → σ[j]? = some (some (V.ref q)) → q ≠ p := fun q hs eq z => E.apart i j p e oi (by rw [hj]; exact hs) hp (by rw [eq, z])
        cases sj with
        | no => trivial
        | d x => exact o
        | l x => obtain ⟨v, ev, q, ys, rfl, a1, a2, a3, a4⟩ := o; exact ⟨_, ev, q, ys, rfl, a1, a2, by rw [upd_ne (ne q trivial ev)]; exact a3, a4⟩
        | m x => obtain ⟨v, ev, q, ys, rfl, a1, a2, a3, a4⟩ := o; exact ⟨_, ev, q, ys, rfl, a1, a2, by rw [upd_ne (ne q trivial ev)]; exact a3, a4⟩
  · have tr : ∀ (j : Nat), ownS ((ρ.set i (.l es))[j]?) → ownS (ρ[j]?) := fun j hj => by
      rw [get_set] at hj
      by_cases e : i = j
      · subst e; exact oi
      · rw [if_neg e] at hj; exact hj
    exact E.apart j k q hjk (tr j hj) (tr k hk) ej ek
theorem En.mutD (E : En M B ρ σ G H) {i : Nat} {p : Addr} {ds : List (Key × PyData)} {xs : List (Key × V)} (hi : ρ[i]? = some (.m ds)) (hp : σ[i]? = some (some (.ref p))) {es : List (Key × PyData)} (r : RpK M G xs es) : En M B (ρ.set i (.m es)) σ G (upd H p (.dK xs)) := by
  obtain ⟨p', xs0, e, h0, g0, h1, _⟩ := E.dct hi
  rw [hp] at e; cases e
  have il : i < ρ.length := (List.getElem?_eq_some_iff.mp hi).1
  have oi : ownS (ρ[i]?) := by rw [hi]; trivial
  refine ⟨E.le.mut h0 g0, by rw [List.length_set]; exact E.len, fun j => ?_, fun j k q hjk hj hk ej ek => ?_⟩
  · rw [get_set]
    by_cases e : i = j
    · subst e
      rw [if_pos rfl, if_pos il]
      exact ⟨_, hp, p, xs, rfl, h0, g0, upd_same, r⟩
    · rw [if_neg e]
      have o := E.ok j
      cases hj : ρ[j]? with
      | none => trivial
      | some sj =>
        rw [hj] at o
        have ne : ∀ (q : Addr), ownS (some sj) → σ[j]? = some (some (V.ref q)) → q ≠ p := fun q hs eq z => E.apart i j p e oi (by rw [hj]; exact hs) hp (by rw [eq, z])
        cases sj with
        | no => trivial
        | d x => exact o
        | l x => obtain ⟨v, ev, q, ys, rfl, a1, a2, a3, a4⟩ := o; exact ⟨_, ev, q, ys, rfl, a1, a2, by rw [upd_ne (ne q trivial ev)]; exact a3, a4⟩
        | m x => obtain ⟨v, ev, q, ys, rfl, a1, a2, a3, a4⟩ := o; exact ⟨_, ev, q, ys, rfl, a1, a2, by rw [upd_ne (ne q trivial ev)]; exact a3, a4⟩
  · have tr : ∀ (j : Nat), ownS ((ρ.set i (.m es))[j]?) → ownS (ρ[j]?) := fun j hj => by
      rw [get_set] at hj
      by_cases e : i = j
      · subst e; exact oi
      · rw [if_neg e] at hj; exact hj
    exact E.apart j k q hjk (tr j hj) (tr k hk) ej ek
/-- what was owned is frozen (and may be laid anew) -/
theorem En.fzAny (E : En M B ρ σ G H) {i : Nat} {p : Addr} {o : HO} {x : PyData} (oi : ownS (ρ[i]?)) (hp : σ[i]? = some (some (.ref p))) (h0 : B.H p = none) (g0 : G p = none) {H' : Hp} (hh : H' p = some o) (hn : ∀ a, a ≠ p → H' a = H a) (r : Rp M (upd G p o) (.ref p) x) :
    En M B (ρ.set i (.d x)) σ (upd G p o) H' := by
  have il : i < ρ.length := by
    cases e : ρ[i]? with
    | none => rw [e] at oi; exact oi.elim
    | some z => exact (List.getElem?_eq_some_iff.mp e).1
  have sg : Same G (upd G p o) := same_upd g0
  have le : Le B.G B.H (upd G p o) H' := by
    refine ⟨E.le.g.trans sg, fun a u e => ?_, fun a u e => ?_, fun a u e => ?_⟩
    · rw [hn a (ne_of_none e h0)]; exact E.le.h a u e
    · by_cases q : a = p
      · subst q; rw [upd_same] at e; rw [hh]; exact e
      · rw [upd_ne q] at e; rw [hn a q]; exact E.le.i a u e
    · rw [upd_ne (ne_of_none e h0)]; exact E.le.n a u e
  refine ⟨le, by rw [List.length_set]; exact E.len, fun j => ?_, fun j k q hjk hj hk ej ek => ?_⟩
  · rw [get_set]
    by_cases e : i = j
    · subst e
      rw [if_pos rfl, if_pos il]
      exact ⟨_, hp, r⟩
    · rw [if_neg e]
      have o := E.ok j
      cases hj : ρ[j]? with
      | none => trivial
      | some sj =>
        rw [hj] at o
        have ne : ∀ (q : Addr), ownS (some sj) → σ[j]? = some (some (V.ref q)) → q ≠ p := fun q hs eq z => E.apart i j p e oi (by rw [hj]; exact hs) hp (by rw [eq, z])
        cases sj with
        | no => trivial
        | d x => obtain ⟨v, ev, a⟩ := o; exact ⟨v, ev, Rp.le sg a⟩
        | l x => obtain ⟨v, ev, q, ys, rfl, a1, a2, a3, a4⟩ := o; exact ⟨_, ev, q, ys, rfl, a1, by rw [upd_ne (ne q trivial ev)]; exact a2, by rw [hn q (ne q trivial ev)]; exact a3, a4.le sg⟩
        | m x => obtain ⟨v, ev, q, ys, rfl, a1, a2, a3, a4⟩ := o; exact ⟨_, ev, q, ys, rfl, a1, by rw [upd_ne (ne q trivial ev)]; exact a2, by rw [hn q (ne q trivial ev)]; exact a3, a4.le sg⟩
  · have tr : ∀ (j : Nat), ownS ((ρ.set i (.d x))[j]?) → ownS (ρ[j]?) := fun j hj => by
      rw [get_set] at hj
      by_cases e : i = j
      · subst e; exact oi
      · rw [if_neg e] at hj; exact hj
    exact E.apart j k q hjk (tr j hj) (tr k hk) ej ek
theorem En.fzL (E : En M B ρ σ G H) {i : Nat} {ds : List PyData} (hi : ρ[i]? = some (.l ds)) : ∃ G', Same G G' ∧ En M B (ρ.set i (.d (.list ds))) σ G' H := by
  obtain ⟨p, xs, e, h0, g0, h1, r⟩ := E.lst hi
  exact ⟨_, same_upd g0, E.fzAny (by rw [hi]; trivial) e h0 g0 h1 (fun _ _ => rfl) (.lst (SqL.of upd_same) (r.le (same_upd g0)))⟩
/-- a dict is locked -/
theorem En.fzD (E : En M B ρ σ G H) {i : Nat} {ds : List (Key × PyData)} (hi : ρ[i]? = some (.m ds)) : ∃ p ks, H p = some (.dK ks) ∧ ∀ od, ∃ G', Same G G' ∧ En M B (ρ.set i (.d (.dict (dK ds)))) σ G' (upd H p (.frz od (.dK ks))) := by
  obtain ⟨p, xs, e, h0, g0, h1, r⟩ := E.dct hi
  exact ⟨p, xs, h1, fun od => ⟨_, same_upd g0, E.fzAny (by rw [hi]; trivial) e h0 g0 upd_same (fun a h => upd_ne h) (.dct ⟨od, upd_same⟩ (r.le (same_upd g0)) rfl)⟩⟩
/-- slots forgotten -/
def wipeS (ρ : List Sl) : List Nat → List Sl
  | [] => ρ
  | v :: vs => (wipeS ρ vs).set v .no
theorem En.no (E : En M B ρ σ G H) (i : Nat) (u : Option V) : En M B (ρ.set i .no) (σ.set i u) G H := by
  refine ⟨E.le, by rw [List.length_set, List.length_set]; exact E.len, fun j => ?_, fun j k p hjk hj hk ej ek => ?_⟩
  · rw [get_set, get_set]
    by_cases e : i = j
    · rw [if_pos e, if_pos e]
      by_cases hl : i < ρ.length
      · rw [if_pos hl]; trivial
      · rw [if_neg hl]; trivial
    · rw [if_neg e, if_neg e]; exact E.ok j
  · have tr : ∀ (j : Nat), ownS ((ρ.set i .no)[j]?) → i ≠ j := fun j hj e => by
      rw [get_set, if_pos e] at hj
      by_cases hl : i < ρ.length
      · rw [if_pos hl] at hj; exact hj
      · rw [if_neg hl] at hj; exact hj
    have tj := tr j hj
    have tk := tr k hk
    rw [get_set, if_neg tj] at hj ej
    rw [get_set, if_neg tk] at hk ek
    exact E.apart j k p hjk hj hk ej ek
theorem En.wipe (E : En M B ρ σ G H) : ∀ vs : List Nat, En M B (wipeS ρ vs) (L2.wipe σ vs) G H
  | [] => E
  | v :: vs => (E.wipe vs).no v none
end
end DH
namespace DH
open PySem PySem.Spec L2

/-! ### 5. what an expression is worth -/
section
variable {X : Cx} {B : Bs} {ρ : List Sl}
def EvR (X : Cx) (B : Bs) (ρ : List Sl) (e : Expr) (r : Rs) : Prop := ∀ (σ : L2.St) (G H : Hp), En (md X) B ρ σ G H → ∀ Q : VK, (∀ v G2 H2, Le G H G2 H2 → RsOk (md X) H G2 H2 v r → Q v H2) → wE X e σ H Q
abbrev Ev (X : Cx) (B : Bs) (ρ : List Sl) (e : Expr) (d : PyData) : Prop := EvR X B ρ e (.d d)
def EvT (X : Cx) (B : Bs) (ρ : List Sl) (e : Expr) (b : Bool) : Prop := ∀ (σ : L2.St) (G H : Hp), En (md X) B ρ σ G H → ∀ Q : Bool → Hp → Prop, (∀ G2 H2, Le G H G2 H2 → Q b H2) → wT X e σ H Q
def EvA (X : Cx) (B : Bs) (ρ : List Sl) (es : List Expr) (ds : List PyData) : Prop := ∀ (σ : L2.St) (G H : Hp), En (md X) B ρ σ G H → ∀ Q : List V → Hp → Prop, (∀ vs G2 H2, Le G H G2 H2 → RpA (md X) G2 vs ds → Q vs H2) → wA X es σ H Q
theorem RsOk.back {M : Md} {H H1 G2 H2 : Hp} {v : V} (s : Same H H1) : ∀ {r : Rs}, RsOk M H1 G2 H2 v r → RsOk M H G2 H2 v r
  | .d _, h => h
  | .l _, ⟨p, xs, e, h0, z⟩ => ⟨p, xs, e, s.free h0, z⟩
  | .m _, ⟨p, xs, e, h0, z⟩ => ⟨p, xs, e, s.free h0, z⟩
theorem EvR.d {e : Expr} {r : Rs} (h : EvR X B ρ e r) : Ev X B ρ e r.dat := fun σ G H E Q k => by
  cases r with
  | d x => exact h σ G H E Q k
  | l ds =>
    refine h σ G H E Q fun v G2 H2 l q => ?_
    obtain ⟨p, xs, e, h0, g0, h1, r⟩ := q
    exact k v _ H2 (l.freeze h0 g0 h1) (by subst e; exact .lst (SqL.of upd_same) (r.le (same_upd g0)))
  | m ds =>
    have h' := h σ G H E (fun v H2 => ∃ G2, Le G H G2 H2 ∧ RsOk (md X) H G2 H2 v (.m ds)) fun v G2 H2 l q => ⟨G2, l, q⟩
    refine fun pins s I => thn (h' pins s I) fun u s' hh => ?_
    obtain ⟨v, H2, I2, rv, G2, l, p, ks, e, h0, g0, h1, r⟩ := hh
    obtain ⟨od, I3⟩ := I2.lock h1 trivial
    exact ⟨v, _, I3, rv, k v _ _ (l.relay h0 g0) (by subst e; exact .dct ⟨od, upd_same⟩ (r.le (same_upd g0)) rfl)⟩
theorem EvR.to {e : Expr} {r r' : Rs} (h : EvR X B ρ e r) (q : r = r') : EvR X B ρ e r' := q ▸ h
theorem Ev.to {e : Expr} {r r' : PyData} (h : Ev X B ρ e r) (q : r = r') : Ev X B ρ e r' := q ▸ h
theorem EvT.to {e : Expr} {r r' : Bool} (h : EvT X B ρ e r) (q : r = r') : EvT X B ρ e r' := q ▸ h
theorem EvA.to {e : List Expr} {r r' : List PyData} (h : EvA X B ρ e r) (q : r = r') : EvA X B ρ e r' := q ▸ h

/-! names, constants -/
theorem ev_name {i : Nat} {x : Str} {pos : Pos} {d : PyData} (hd : ρ[i]? = some (.d d)) (hN : X.N[i]? = some x) (hv : Vis X.env.scope x) (h1 : (x == ("__debug__" : Str)) = false := by decide) (h2 : (x == ("__classdict__" : Str)) = false := by decide) : Ev X B ρ (.Name x pos) d := fun σ G H E Q k => by
  obtain ⟨v, e, r⟩ := E.dat hd
  exact wE_of (pe_var hN hv h1 h2) ⟨v, e, k v G H (Le.refl E.le.i) r⟩
theorem ev_int {i : Int} {j pos} : Ev X B ρ (.Constant (.int i) j pos) (.int i) := fun σ G H E Q k => wE_of pe_int (k _ G H (Le.refl E.le.i) (.int i))
theorem ev_bl {b : Bool} {j pos} : Ev X B ρ (.Constant (.bool b) j pos) (.bool b) := fun σ G H E Q k => wE_of pe_bl (k _ G H (Le.refl E.le.i) (.bl b))
theorem ev_non {j pos} : Ev X B ρ (.Constant .none j pos) .none := fun σ G H E Q k => wE_of pe_non (k _ G H (Le.refl E.le.i) .non)
theorem ev_str {x : Str} {j pos} : Ev X B ρ (.Constant (.str x) j pos) (.str x) := fun σ G H E Q k => wE_of pe_str (k _ G H (Le.refl E.le.i) (.str x))
/-- a constant of the module -/
def Cn (X : Cx) (x : Str) (d : PyData) : Prop := ∃ (v : V) (u : Value), X.mg x = some u ∧ RelV v u ∧ ∀ G, Rp (md X) G v d
theorem ev_glob {x : Str} {pos : Pos} {d : PyData} (c : Cn X x d) (hg : Gl X x) (hd : (x == ("__debug__" : Str)) = false := by decide) : Ev X B ρ (.Name x pos) d := fun σ G H E Q k => by
  obtain ⟨v, u, hm, r, q⟩ := c
  exact wE_of (pe_glob hg hm r hd) (k v G H (Le.refl E.le.i) (q G))

/-! operators by values -/
def RvD (M : Md) (r : R2) (a b : PyData) (z : Rs) : Prop := ∀ (G H : Hp) (x y : V), Same G H → Rp M G x a → Rp M G y b → ∀ Q : VK, (∀ v G2 H2, Le G H G2 H2 → RsOk M H G2 H2 v z → Q v H2) → r x y H Q
def RcD (M : Md) (r : List V → Hp → VK → Prop) (ds : List PyData) (z : Rs) : Prop := ∀ (G H : Hp) (vs : List V), Same G H → RpA M G vs ds → ∀ Q : VK, (∀ v G2 H2, Le G H G2 H2 → RsOk M H G2 H2 v z → Q v H2) → r vs H Q
theorem ev_bin {op : Operator} {a b : Expr} {pos : Pos} {r : R2} {da db : PyData} {z : Rs} (ho : OpR X (binaryOp op) r) (ha : Ev X B ρ a da) (hb : Ev X B ρ b db) (hr : RvD (md X) r da db z) : EvR X B ρ (.BinOp a op b pos) z := fun σ G H E Q k => by
  refine wE_of (pe_op ho pe_w pe_w) ?_
  refine ha σ G H E _ fun x G1 H1 l1 rx => hb σ G1 H1 (E.mono l1) _ fun y G2 H2 l2 ry => ?_
  exact hr G2 H2 x y l2.i (Rp.le l2.g rx) ry Q fun v G3 H3 l3 q => k v G3 H3 ((l1.trans l2).trans l3) (q.back (l1.h.trans l2.h))
theorem ev_cmp {op : CmpOp} {a b : Expr} {pos : Pos} {r : R2} {da db : PyData} {z : Rs} (ho : OpR X (compareOp op) r) (ha : Ev X B ρ a da) (hb : Ev X B ρ b db) (hm : behindInMarks op b = false) (hr : RvD (md X) r da db z) : EvR X B ρ (.Compare a [op] [b] pos) z := fun σ G H E Q k => by
  refine wE_of (pe_cmpR ho pe_w pe_w hm) ?_
  refine ha σ G H E _ fun x G1 H1 l1 rx => hb σ G1 H1 (E.mono l1) _ fun y G2 H2 l2 ry => ?_
  exact hr G2 H2 x y l2.i (Rp.le l2.g rx) ry Q fun v G3 H3 l3 q => k v G3 H3 ((l1.trans l2).trans l3) (q.back (l1.h.trans l2.h))
theorem et_cmp {op : CmpOp} {a b : Expr} {pos : Pos} {r : R2} {da db : PyData} {c : Bool} (ho : OpR X (compareOp op) r) (ha : Ev X B ρ a da) (hb : Ev X B ρ b db) (hm : behindInMarks op b = false) (hr : RvD (md X) r da db (.d (.bool c))) : EvT X B ρ (.Compare a [op] [b] pos) c := fun σ G H E Q k => by
  refine wT_of (pt_cmpR ho pe_w pe_w hm) ?_
  refine ha σ G H E _ fun x G1 H1 l1 rx => hb σ G1 H1 (E.mono l1) _ fun y G2 H2 l2 ry => ?_
  exact hr G2 H2 x y l2.i (Rp.le l2.g rx) ry _ fun v G3 H3 l3 q => ⟨c, rp_bl q, k G3 H3 ((l1.trans l2).trans l3)⟩
/-- an expression whose value is a truth, as a test -/
theorem et_val {e : Expr} {c : Bool} (h : Ev X B ρ e (.bool c)) (he : ∀ whole, isTrue e X.env whole = (do let v ← whole; standAt e.pos; holding [v] (truthy v)) := by intro _; rfl) : EvT X B ρ e c := fun σ G H E Q k => by
  refine wT_of (pt_val pe_w he) ?_
  exact h σ G H E _ fun x G1 H1 l1 rx => ⟨c, rp_bl rx, k G1 H1 l1⟩
theorem et_not {e : Expr} {pos : Pos} {c : Bool} (h : EvT X B ρ e c) : EvT X B ρ (.UnaryOp .Not e pos) (!c) := fun σ G H E Q k => wT_of (pt_not pt_w) (h σ G H E _ fun G1 H1 l1 => k G1 H1 l1)
theorem ev_not {e : Expr} {pos : Pos} {c : Bool} (h : Ev X B ρ e (.bool c)) : Ev X B ρ (.UnaryOp .Not e pos) (.bool (!c)) := fun σ G H E Q k => wE_of (pe_not pe_w) (h σ G H E _ fun x G1 H1 l1 rx => ⟨c, rp_bl rx, k _ G1 H1 l1 (.bl _)⟩)
/-- and, or as tests, whatever the whole is -/
def wW (X : Cx) (e : Expr) : TT := fun σ H Q => ∀ (whole : Sem Value) (pins : List (Addr × Obj)) (s : Shared), Inv X pins σ H s → wpAny (model X.prog X.w) X.A (isTrue e X.env whole) (TP X pins σ Q) X.xe s
theorem pw_w {e : Expr} : PW X e (wW X e) := ⟨fun wh pins s _ _ _ I h => h wh pins s I⟩
theorem wW_of {e : Expr} {t : TT} (h : PW X e t) {σ : L2.St} {H : Hp} {Q : Bool → Hp → Prop} (q : t σ H Q) : wW X e σ H Q := fun wh pins s I => h.run wh pins s σ H Q I q
def EvW (X : Cx) (B : Bs) (ρ : List Sl) (e : Expr) (b : Bool) : Prop := ∀ (σ : L2.St) (G H : Hp), En (md X) B ρ σ G H → ∀ Q : Bool → Hp → Prop, (∀ G2 H2, Le G H G2 H2 → Q b H2) → wW X e σ H Q
theorem et_w {e : Expr} {b : Bool} (h : EvW X B ρ e b) : EvT X B ρ e b := fun σ G H E Q k => wT_of (PW.pt pw_w) (h σ G H E Q k)
theorem ew_and1 {a : Expr} {pos : Pos} {b : Bool} (h : EvT X B ρ a b) : EvW X B ρ (.BoolOp .And [a] pos) b := fun σ G H E Q k => wW_of (pw_and1 pt_w) (h σ G H E Q k)
theorem ew_or1 {a : Expr} {pos : Pos} {b : Bool} (h : EvT X B ρ a b) : EvW X B ρ (.BoolOp .Or [a] pos) b := fun σ G H E Q k => wW_of (pw_or1 pt_w) (h σ G H E Q k)
theorem ew_and {a b : Expr} {rest : List Expr} {pos : Pos} {c d : Bool} (ha : EvT X B ρ a c) (hb : c = true → EvW X B ρ (.BoolOp .And (b :: rest) pos) d) : EvW X B ρ (.BoolOp .And (a :: b :: rest) pos) (c && d) := fun σ G H E Q k => by
  refine wW_of (pw_and pt_w pw_w) (ha σ G H E _ fun G1 H1 l1 => ?_)
  cases c with
  | true => rw [if_pos rfl]; exact hb rfl σ G1 H1 (E.mono l1) Q fun G2 H2 l2 => k G2 H2 (l1.trans l2)
  | false => rw [if_neg (by decide)]; exact k G1 H1 l1
theorem ew_or {a b : Expr} {rest : List Expr} {pos : Pos} {c d : Bool} (ha : EvT X B ρ a c) (hb : c = false → EvW X B ρ (.BoolOp .Or (b :: rest) pos) d) : EvW X B ρ (.BoolOp .Or (a :: b :: rest) pos) (c || d) := fun σ G H E Q k => by
  refine wW_of (pw_or pt_w pw_w) (ha σ G H E _ fun G1 H1 l1 => ?_)
  cases c with
  | true => rw [if_pos rfl]; exact k G1 H1 l1
  | false => rw [if_neg (by decide)]; exact hb rfl σ G1 H1 (E.mono l1) Q fun G2 H2 l2 => k G2 H2 (l1.trans l2)
/-- and, or as values (truths) -/
theorem ev_one {a : Expr} {op} {pos : Pos} {r : Rs} (h : EvR X B ρ a r) : EvR X B ρ (.BoolOp op [a] pos) r := fun σ G H E Q k => wE_of (pe_one pe_w) (h σ G H E Q k)
theorem ev_and {a b : Expr} {rest : List Expr} {pos : Pos} {c d : Bool} (ha : Ev X B ρ a (.bool c)) (hb : c = true → Ev X B ρ (.BoolOp .And (b :: rest) pos) (.bool d)) : Ev X B ρ (.BoolOp .And (a :: b :: rest) pos) (.bool (c && d)) := fun σ G H E Q k => by
  refine wE_of (pe_and pe_w pe_w) (ha σ G H E _ fun x G1 H1 l1 rx => ⟨c, rp_bl rx, ?_⟩)
  cases c with
  | true => rw [if_pos rfl]; exact hb rfl σ G1 H1 (E.mono l1) Q fun v G2 H2 l2 q => k v G2 H2 (l1.trans l2) q
  | false => rw [if_neg (by decide)]; exact k _ G1 H1 l1 (.bl _)
theorem ev_or {a b : Expr} {rest : List Expr} {pos : Pos} {c d : Bool} (ha : Ev X B ρ a (.bool c)) (hb : c = false → Ev X B ρ (.BoolOp .Or (b :: rest) pos) (.bool d)) : Ev X B ρ (.BoolOp .Or (a :: b :: rest) pos) (.bool (c || d)) := fun σ G H E Q k => by
  refine wE_of (pe_or pe_w pe_w) (ha σ G H E _ fun x G1 H1 l1 rx => ⟨c, rp_bl rx, ?_⟩)
  cases c with
  | true => rw [if_pos rfl]; exact k _ G1 H1 l1 (.bl _)
  | false => rw [if_neg (by decide)]; exact hb rfl σ G1 H1 (E.mono l1) Q fun v G2 H2 l2 q => k v G2 H2 (l1.trans l2) q
theorem ev_if {c a b : Expr} {pos : Pos} {t : Bool} {r : Rs} (hc : EvT X B ρ c t) (ha : t = true → EvR X B ρ a r) (hb : t = false → EvR X B ρ b r) : EvR X B ρ (.IfExp c a b pos) r := fun σ G H E Q k => by
  refine wE_of (pe_ifExp pt_w pe_w pe_w) (hc σ G H E _ fun G1 H1 l1 => ?_)
  cases t with
  | true => rw [if_pos rfl]; exact ha rfl σ G1 H1 (E.mono l1) Q fun v G2 H2 l2 q => k v G2 H2 (l1.trans l2) (q.back l1.h)
  | false => rw [if_neg (by decide)]; exact hb rfl σ G1 H1 (E.mono l1) Q fun v G2 H2 l2 q => k v G2 H2 (l1.trans l2) (q.back l1.h)
/-! lists of expressions, displays -/
theorem ea_nil : EvA X B ρ [] [] := fun σ G H E Q k => wA_of pa_nil (k [] G H (Le.refl E.le.i) .nil)
theorem ea_cons {e : Expr} {es : List Expr} {d : PyData} {ds : List PyData} (h : Ev X B ρ e d) (hs : EvA X B ρ es ds) (hst : starEach (e :: es) X.env = (false, eval e X.env) :: starEach es X.env := by rfl) : EvA X B ρ (e :: es) (d :: ds) := fun σ G H E Q k => by
  refine wA_of (pa_cons pe_w pa_w hst) (h σ G H E _ fun x G1 H1 l1 rx => hs σ G1 H1 (E.mono l1) _ fun xs G2 H2 l2 rs => ?_)
  exact k (x :: xs) G2 H2 (l1.trans l2) (.cons (Rp.le l2.g rx) rs)
theorem ev_tup {es : List Expr} {x1} {pos : Pos} {ds : List PyData} (h : EvA X B ρ es ds) (hl : ds.length ≤ sizeLine := by decide) : Ev X B ρ (.Tuple es x1 pos) (.tuple ds) := fun σ G H E Q k => by
  refine wE_of (pe_tup pa_w) (h σ G H E _ fun xs G1 H1 l1 rs => ⟨by rw [rs.length]; exact hl, fun p hp => ?_⟩)
  exact k _ (upd G1 p (.tup xs)) _ (l1.fz hp) (.tup (SqT.of upd_same) (rs.le (same_upd (l1.i.free hp))))
theorem ev_lst {es : List Expr} {pos : Pos} {ds : List PyData} (h : EvA X B ρ es ds) (hl : ds.length ≤ sizeLine := by decide) : EvR X B ρ (.List es pos) (.l ds) := fun σ G H E Q k => by
  refine wE_of (pe_lst pa_w) (h σ G H E _ fun xs G1 H1 l1 rs => ⟨by rw [rs.length]; exact hl, fun p hp => ?_⟩)
  exact k _ G1 _ (l1.own hp) ⟨p, xs, rfl, l1.h.free hp, l1.i.free hp, upd_same, rs⟩
theorem ev_dnew {pos : Pos} : EvR X B ρ (.Dict [] [] pos) (.m []) := fun σ G H E Q k => by
  refine wE_of pe_dnewK fun p hp => ?_
  exact k _ G _ ((Le.refl E.le.i).own hp) ⟨p, [], rfl, hp, E.le.i.free hp, upd_same, .nil⟩
/-! calls of defs -/
/-- a def that hands back data: which r of which ds -/
def spD (M : Md) (pre : List PyData → Rs → Prop) : Sp := fun vs H Q _ => ∃ (G : Hp) (ds : List PyData) (r : Rs), Same G H ∧ RpA M G vs ds ∧ pre ds r ∧ ∀ v G2 H2, Le G H G2 H2 → RsOk M H G2 H2 v r → Q v H2
theorem ev_call {CX : CXT} {k : Nat} {f : Addr} {fd : FuncData} {ps : List Str} {x : Str} {p pos : Pos} {e : Expr} {es : List Expr} {pre : List PyData → Rs → Prop} {ds : List PyData} {r : Rs} {E' : XK}
    (F : FnOk X.prog X.w X.K X.mg X.base CX k f fd ps (spD (md X) pre)) (hr : Room k X.A) (hm : X.mg x = some (.ref f)) (hk : PySem.W.keepIn X.K (.ref f) = true) (hb : Binds X.K fd ps []) (hx : Passes CX X E')
    (ha : EvA X B ρ (e :: es) ds) (hp : pre ds r) (hg : Gl X x := by rfl) (hdb : (x == ("__debug__" : Str)) = false := by decide) (he : starEach (e :: es) X.env = (false, eval e X.env) :: starEach es X.env := by rfl) (hpl : (backTo pos (starEach es X.env)).any (·.1) = false := by rfl) :
    EvR X B ρ (.Call (.Name x p) (e :: es) [] pos) r := fun σ G H E Q k' => by
  refine wE_of (pe_call F hr hg hm hk hb .nil hx pa_w hdb he hpl) (ha σ G H E _ fun vs G1 H1 l1 rs => ?_)
  show spD (md X) pre (vs ++ []) H1 Q E'
  rw [List.append_nil]
  exact ⟨G1, ds, r, l1.i, rs, hp, fun v G2 H2 l2 q => k' v G2 H2 (l1.trans l2) (q.back l1.h)⟩
/-- of built-in functions, of built-in classes -/
theorem ev_callB {id : String} {r : List V → Hp → VK → Prop} {x : Str} {p pos : Pos} {e : Expr} {es : List Expr} {ds : List PyData} {z : Rs} (hc : CallR X (.builtin id) r) (hm : X.mg x = none) (ha : EvA X B ρ (e :: es) ds) (hr : RcD (md X) r ds z)
    (hv : bootBuiltins x = some (.builtin id) := by decide +kernel) (hg : Gl X x := by rfl) (hn : x ≠ "__name__" := by decide) (hdb : (x == ("__debug__" : Str)) = false := by decide)
    (he : starEach (e :: es) X.env = (false, eval e X.env) :: starEach es X.env := by rfl) (hpl : (backTo pos (starEach es X.env)).any (·.1) = false := by rfl) : EvR X B ρ (.Call (.Name x p) (e :: es) [] pos) z := fun σ G H E Q k => by
  refine wE_of (pe_callB hc hg hm hv pa_w hn hdb he hpl) (ha σ G H E _ fun vs G1 H1 l1 rs => ?_)
  exact hr G1 H1 vs l1.i rs Q fun v G2 H2 l2 q => k v G2 H2 (l1.trans l2) (q.back l1.h)
theorem ev_callTy {T : String} {r : List V → Hp → VK → Prop} {x : Str} {p pos : Pos} {e : Expr} {es : List Expr} {ds : List PyData} {z : Rs} (hc : CallR X (.type T) r) (hm : X.mg x = none) (ha : EvA X B ρ (e :: es) ds) (hr : RcD (md X) r ds z)
    (hv : bootBuiltins x = some (.type T) := by decide +kernel) (hg : Gl X x := by rfl) (hn : x ≠ "__name__" := by decide) (hdb : (x == ("__debug__" : Str)) = false := by decide)
    (he : starEach (e :: es) X.env = (false, eval e X.env) :: starEach es X.env := by rfl) (hpl : (backTo pos (starEach es X.env)).any (·.1) = false := by rfl) : EvR X B ρ (.Call (.Name x p) (e :: es) [] pos) z := fun σ G H E Q k => by
  refine wE_of (pe_callTy hc hg hm hv pa_w hn hdb he hpl) (ha σ G H E _ fun vs G1 H1 l1 rs => ?_)
  exact hr G1 H1 vs l1.i rs Q fun v G2 H2 l2 q => k v G2 H2 (l1.trans l2) (q.back l1.h)
/-! subscripts, slices -/
def atD {α : Type} (xs : List α) (i : Int) : Option α := atI xs i
theorem RpA.at {M : Md} {G : Hp} {vs : List V} {ds : List PyData} {i : Int} {d : PyData} (r : RpA M G vs ds) (h : atI ds i = some d) : ∃ v, atI vs i = some v ∧ Rp M G v d := by
  unfold atI at h ⊢
  rw [r.length]
  cases e : ixN ds.length i with
  | none => rw [e] at h; cases h
  | some j =>
    rw [e] at h
    exact r.get (i := j) h
theorem ev_ix {a b : Expr} {pos : Pos} {r : R2} {da db : PyData} {z : Rs} (hx : IxR X r) (ha : Ev X B ρ a da) (hb : Ev X B ρ b db) (hr : RvD (md X) r da db z) (hs : PlainIx b := by intro _ _; rfl) : EvR X B ρ (.Subscript a b pos) z := fun σ G H E Q k => by
  refine wE_of (pe_ix hx pe_w pe_w hs) ?_
  refine ha σ G H E _ fun x G1 H1 l1 rx => hb σ G1 H1 (E.mono l1) _ fun y G2 H2 l2 ry => ?_
  exact hr G2 H2 x y l2.i (Rp.le l2.g rx) ry Q fun v G3 H3 l3 q => k v G3 H3 ((l1.trans l2).trans l3) (q.back (l1.h.trans l2.h))
theorem rv_ixL {M : Md} {ds : List PyData} {i : Int} {d : PyData} (h : atI ds i = some d) : RvD M (rIxL M.K) (.list ds) (.int i) (.d d) := fun G H x y s rx ry Q k => by
  obtain ⟨a, xs, rfl, hq, r⟩ := rp_lst rx
  obtain ⟨v, hv, rv⟩ := r.at h
  exact ⟨a, xs, i, v, rfl, rp_int ry, same_l s hq, hv, k v G H (Le.refl s) rv⟩
theorem rv_ixT {M : Md} {ds : List PyData} {i : Int} {d : PyData} (h : atI ds i = some d) : RvD M (rIxT M.K) (.tuple ds) (.int i) (.d d) := fun G H x y s rx ry Q k => by
  obtain ⟨a, xs, rfl, hq, r⟩ := rp_tup rx
  obtain ⟨v, hv, rv⟩ := r.at h
  exact ⟨a, xs, i, v, rfl, rp_int ry, same_t s hq, hv, k v G H (Le.refl s) rv⟩
theorem rv_ixS {M : Md} {z : Str} {i : Int} {c : Nat} (hl : z.length ≤ sizeLine) (h : atI z.cps.toList i = some c) : RvD M rIxS (.str z) (.int i) (.d (.str ⟨#[c]⟩)) := fun G H x y s rx ry Q k =>
  ⟨z, i, c, rp_str rx, rp_int ry, hl, h, k _ G H (Le.refl s) (.str _)⟩
theorem ev_ixL {a b : Expr} {pos : Pos} {ds : List PyData} {i : Int} {d : PyData} (ha : Ev X B ρ a (.list ds)) (hb : Ev X B ρ b (.int i)) (h : atI ds i = some d) (hs : PlainIx b := by intro _ _; rfl) : Ev X B ρ (.Subscript a b pos) d := ev_ix ix_list ha hb (rv_ixL h) hs
theorem ev_ixT {a b : Expr} {pos : Pos} {ds : List PyData} {i : Int} {d : PyData} (ha : Ev X B ρ a (.tuple ds)) (hb : Ev X B ρ b (.int i)) (h : atI ds i = some d) (hs : PlainIx b := by intro _ _; rfl) : Ev X B ρ (.Subscript a b pos) d := ev_ix ix_tup ha hb (rv_ixT h) hs
theorem ev_ixS {a b : Expr} {pos : Pos} {z : Str} {i : Int} {c : Nat} (ha : Ev X B ρ a (.str z)) (hb : Ev X B ρ b (.int i)) (hl : z.length ≤ sizeLine) (h : atI z.cps.toList i = some c) (hs : PlainIx b := by intro _ _; rfl) : Ev X B ρ (.Subscript a b pos) (.str ⟨#[c]⟩) := ev_ix ix_str ha hb (rv_ixS hl h) hs
/-! operators -/
theorem rv_I0 {M : Md} {g : Int → Int → V} {i j : Int} {d : PyData} (h : ∀ G, Rp M G (g i j) d) : RvD M (rI0 g) (.int i) (.int j) (.d d) := fun G H x y s rx ry Q k => ⟨i, j, rp_int rx, rp_int ry, k _ G H (Le.refl s) (h G)⟩
theorem rv_I {M : Md} {C : Int → Int → Prop} {g : Int → Int → V} {i j : Int} {d : PyData} (hc : C i j) (h : ∀ G, Rp M G (g i j) d) : RvD M (rI C g) (.int i) (.int j) (.d d) := fun G H x y s rx ry Q k => ⟨i, j, rp_int rx, rp_int ry, hc, k _ G H (Le.refl s) (h G)⟩
variable {a b : Expr} {pos : Pos} {i j : Int}
theorem ev_add (ha : Ev X B ρ a (.int i)) (hb : Ev X B ρ b (.int j)) : Ev X B ρ (.BinOp a .Add b pos) (.int (i + j)) := ev_bin op_add ha hb (rv_I0 fun _ => .int _)
theorem ev_sub (ha : Ev X B ρ a (.int i)) (hb : Ev X B ρ b (.int j)) : Ev X B ρ (.BinOp a .Sub b pos) (.int (i - j)) := ev_bin op_sub ha hb (rv_I0 fun _ => .int _)
theorem ev_mul (ha : Ev X B ρ a (.int i)) (hb : Ev X B ρ b (.int j)) (hc : CMul i j) : Ev X B ρ (.BinOp a .Mult b pos) (.int (i * j)) := ev_bin op_mul ha hb (rv_I hc fun _ => .int _)
theorem ev_mod (ha : Ev X B ρ a (.int i)) (hb : Ev X B ρ b (.int j)) (hc : 0 < j) : Ev X B ρ (.BinOp a .Mod b pos) (.int (i % j)) := ev_bin op_mod ha hb (rv_I hc fun _ => .int _)
theorem ev_fdiv (ha : Ev X B ρ a (.int i)) (hb : Ev X B ρ b (.int j)) (hc : CDiv i j) : Ev X B ρ (.BinOp a .FloorDiv b pos) (.int (i / j)) := ev_bin op_fdiv ha hb (rv_I hc fun _ => .int _)
theorem et_lt (ha : Ev X B ρ a (.int i)) (hb : Ev X B ρ b (.int j)) : EvT X B ρ (.Compare a [.Lt] [b] pos) (decide (i < j)) := et_cmp op_lt ha hb (nomark _) (rv_I0 fun _ => .bl _)
theorem et_le (ha : Ev X B ρ a (.int i)) (hb : Ev X B ρ b (.int j)) : EvT X B ρ (.Compare a [.LtE] [b] pos) (decide (i ≤ j)) := et_cmp op_le ha hb (nomark _) (rv_I0 fun _ => .bl _)
theorem et_gt (ha : Ev X B ρ a (.int i)) (hb : Ev X B ρ b (.int j)) : EvT X B ρ (.Compare a [.Gt] [b] pos) (decide (j < i)) := et_cmp op_gt ha hb (nomark _) (rv_I0 fun _ => .bl _)
theorem et_ge (ha : Ev X B ρ a (.int i)) (hb : Ev X B ρ b (.int j)) : EvT X B ρ (.Compare a [.GtE] [b] pos) (decide (j ≤ i)) := et_cmp op_ge ha hb (nomark _) (rv_I0 fun _ => .bl _)
theorem ev_lt (ha : Ev X B ρ a (.int i)) (hb : Ev X B ρ b (.int j)) : Ev X B ρ (.Compare a [.Lt] [b] pos) (.bool (decide (i < j))) := ev_cmp op_lt ha hb (nomark _) (rv_I0 fun _ => .bl _)
theorem ev_le (ha : Ev X B ρ a (.int i)) (hb : Ev X B ρ b (.int j)) : Ev X B ρ (.Compare a [.LtE] [b] pos) (.bool (decide (i ≤ j))) := ev_cmp op_le ha hb (nomark _) (rv_I0 fun _ => .bl _)
theorem ev_gt (ha : Ev X B ρ a (.int i)) (hb : Ev X B ρ b (.int j)) : Ev X B ρ (.Compare a [.Gt] [b] pos) (.bool (decide (j < i))) := ev_cmp op_gt ha hb (nomark _) (rv_I0 fun _ => .bl _)
theorem ev_ge (ha : Ev X B ρ a (.int i)) (hb : Ev X B ρ b (.int j)) : Ev X B ρ (.Compare a [.GtE] [b] pos) (.bool (decide (j ≤ i))) := ev_cmp op_ge ha hb (nomark _) (rv_I0 fun _ => .bl _)
/-- flat data: none, truths, ints, texts -/
def fV : PyData → Option V
  | .none => some .non
  | .bool b => some (.bl b)
  | .int i => some (.int i)
  | .str x => some (.str x)
  | _ => none
theorem fV_ok {M : Md} {G : Hp} {v u : V} {d : PyData} (h : fV d = some u) (r : Rp M G v d) : v = u := by
  cases d with
  | none => rw [rp_non r]; exact Option.some.inj h
  | bool b => rw [rp_bl r]; exact Option.some.inj h
  | int b => rw [rp_int r]; exact Option.some.inj h
  | str b => rw [rp_str r]; exact Option.some.inj h
  | list _ => cases h
  | tuple _ => cases h
  | dict _ => cases h
theorem rv_eq {M : Md} {a b : PyData} {x y : V} (ha : fV a = some x) (hb : fV b = some y) (hs : scal x y = true) : RvD M rEq a b (.d (.bool (decide (x = y)))) := fun G H u w s ru rw' Q k => by
  rw [fV_ok ha ru, fV_ok hb rw']
  exact ⟨hs, k _ G H (Le.refl s) (.bl _)⟩
theorem rv_ne {M : Md} {a b : PyData} {x y : V} (ha : fV a = some x) (hb : fV b = some y) (hs : scal x y = true) : RvD M rNe a b (.d (.bool (!decide (x = y)))) := fun G H u w s ru rw' Q k => by
  rw [fV_ok ha ru, fV_ok hb rw']
  exact ⟨hs, k _ G H (Le.refl s) (.bl _)⟩
variable {da db : PyData} {x y : V}
theorem et_eq (ha : Ev X B ρ a da) (hb : Ev X B ρ b db) (h1 : fV da = some x := by rfl) (h2 : fV db = some y := by rfl) (hs : scal x y = true := by rfl) : EvT X B ρ (.Compare a [.Eq] [b] pos) (decide (x = y)) := et_cmp op_eq ha hb (nomark _) (rv_eq h1 h2 hs)
theorem et_ne (ha : Ev X B ρ a da) (hb : Ev X B ρ b db) (h1 : fV da = some x := by rfl) (h2 : fV db = some y := by rfl) (hs : scal x y = true := by rfl) : EvT X B ρ (.Compare a [.NotEq] [b] pos) (!decide (x = y)) := et_cmp op_ne ha hb (nomark _) (rv_ne h1 h2 hs)
theorem ev_eq (ha : Ev X B ρ a da) (hb : Ev X B ρ b db) (h1 : fV da = some x := by rfl) (h2 : fV db = some y := by rfl) (hs : scal x y = true := by rfl) : Ev X B ρ (.Compare a [.Eq] [b] pos) (.bool (decide (x = y))) := ev_cmp op_eq ha hb (nomark _) (rv_eq h1 h2 hs)
theorem ev_ne (ha : Ev X B ρ a da) (hb : Ev X B ρ b db) (h1 : fV da = some x := by rfl) (h2 : fV db = some y := by rfl) (hs : scal x y = true := by rfl) : Ev X B ρ (.Compare a [.NotEq] [b] pos) (.bool (!decide (x = y))) := ev_cmp op_ne ha hb (nomark _) (rv_ne h1 h2 hs)
/-- is None -/
def nonD : PyData → Bool
  | .none => true
  | _ => false
theorem nonD_ok {M : Md} {G : Hp} {u : V} {a : PyData} (r : Rp M G u a) : decide (u = V.non) = nonD a := by
  cases r <;> first | rfl | exact decide_eq_false (fun q => V.noConfusion q)
theorem rv_isN {M : Md} {a : PyData} : RvD M (fun x y H Q => y = .non ∧ Q (.bl (decide (x = .non))) H) a .none (.d (.bool (nonD a))) := fun G H u w s ru rw' Q k => by
  refine ⟨rp_non rw', ?_⟩
  rw [nonD_ok ru]
  exact k _ G H (Le.refl s) (.bl _)
theorem rv_notN {M : Md} {a : PyData} : RvD M (fun x y H Q => y = .non ∧ Q (.bl (!decide (x = .non))) H) a .none (.d (.bool (!nonD a))) := fun G H u w s ru rw' Q k => by
  refine ⟨rp_non rw', ?_⟩
  rw [nonD_ok ru]
  exact k _ G H (Le.refl s) (.bl _)
theorem et_isN (ha : Ev X B ρ a da) (hb : Ev X B ρ b .none) : EvT X B ρ (.Compare a [.Is] [b] pos) (nonD da) := et_cmp op_isN ha hb (nomark _) rv_isN
theorem et_notN (ha : Ev X B ρ a da) (hb : Ev X B ρ b .none) : EvT X B ρ (.Compare a [.IsNot] [b] pos) (!nonD da) := et_cmp op_notN ha hb (nomark _) rv_notN
theorem ev_isN (ha : Ev X B ρ a da) (hb : Ev X B ρ b .none) : Ev X B ρ (.Compare a [.Is] [b] pos) (.bool (nonD da)) := ev_cmp op_isN ha hb (nomark _) rv_isN
theorem ev_notN (ha : Ev X B ρ a da) (hb : Ev X B ρ b .none) : Ev X B ρ (.Compare a [.IsNot] [b] pos) (.bool (!nonD da)) := ev_cmp op_notN ha hb (nomark _) rv_notN
end
end DH
namespace DH
open PySem PySem.Spec L2

/-! ### 6. what a for walks -/
structure ItD (M : Md) (J : It) (G : Hp) (ds : List PyData) : Prop where
  go : ∀ (i : Nat) (G' H' : Hp), Same G G' → Same G' H' → i < ds.length → J.go i H'
  stop : ∀ (i : Nat) (G' H' : Hp), Same G G' → Same G' H' → ds.length ≤ i → J.stop i H'
  yld : ∀ (i : Nat) (d : PyData) (G' H' H'' : Hp) (x : V), Same G G' → Same G' H' → ds[i]? = some d → J.yld i H' x H'' → ∃ G'', Le G' H' G'' H'' ∧ Rp M G'' x d
def wI (X : Cx) (tg iter : Expr) : TI := fun σ H R => ∀ (pins : List (Addr × Obj)) (s : Shared), Inv X pins σ H s →
  wpAny (model X.prog X.w) X.A (eval iter X.env) (fun v s1 => wpAny (model X.prog X.w) X.A (pyIter v) (PIE X pins σ tg R) X.xe s1) X.xe s
theorem pi_w {X : Cx} {tg iter : Expr} : PI X tg iter (wI X tg iter) := ⟨fun pins s _ _ _ I h => h pins s I⟩
theorem wI_of {X : Cx} {tg iter : Expr} {t : TI} (h : PI X tg iter t) {σ : L2.St} {H : Hp} {R : It → Hp → Prop} (q : t σ H R) : wI X tg iter σ H R := fun pins s I => h.run pins s σ H R I q
def EvI (X : Cx) (B : Bs) (ρ : List Sl) (tg iter : Expr) (ds : List PyData) : Prop := ∀ (σ : L2.St) (G H : Hp), En (md X) B ρ σ G H → ∀ R : It → Hp → Prop, (∀ J G2 H2, Le G H G2 H2 → ItD (md X) J G2 ds → R J H2) → wI X tg iter σ H R
section
variable {X : Cx} {B : Bs} {ρ : List Sl} {tg iter : Expr} {ds : List PyData}
theorem ei_list (h : Ev X B ρ iter (.list ds)) : EvI X B ρ tg iter ds := fun σ G H E R k => by
  refine wI_of (pi_list pe_w) (h σ G H E _ fun x G1 H1 l1 rx => ?_)
  obtain ⟨a, xs, rfl, hq, r⟩ := rp_lst rx
  refine ⟨a, rfl, ⟨xs, same_l l1.i hq⟩, k (Itl X.K a) G1 H1 l1 ⟨fun i G' H' s1 s2 hi => ?_, fun i G' H' s1 s2 hi => ?_, fun i d G' H' H'' x s1 s2 hd y => ?_⟩⟩
  · rw [← r.length] at hi
    exact ⟨xs, xs[i], same_l (s1.trans s2) hq, by simp [hi]⟩
  · rw [← r.length] at hi
    exact ⟨xs, same_l (s1.trans s2) hq, hi⟩
  · obtain ⟨rfl, y⟩ := y
    obtain ⟨v, hv, rv⟩ := r.get hd
    have q := y xs (same_l (s1.trans s2) hq)
    rw [hv] at q; cases q
    exact ⟨G', Le.refl s2, Rp.le s1 rv⟩
theorem ei_tup (h : Ev X B ρ iter (.tuple ds)) : EvI X B ρ tg iter ds := fun σ G H E R k => by
  refine wI_of (pi_tup pe_w) (h σ G H E _ fun x G1 H1 l1 rx => ?_)
  obtain ⟨a, xs, rfl, hq, r⟩ := rp_tup rx
  refine ⟨a, rfl, ⟨xs, same_t l1.i hq⟩, k (Itt X.K a) G1 H1 l1 ⟨fun i G' H' s1 s2 hi => ?_, fun i G' H' s1 s2 hi => ?_, fun i d G' H' H'' x s1 s2 hd y => ?_⟩⟩
  · rw [← r.length] at hi
    exact ⟨xs, xs[i], same_t (s1.trans s2) hq, by simp [hi]⟩
  · rw [← r.length] at hi
    exact ⟨xs, same_t (s1.trans s2) hq, hi⟩
  · obtain ⟨rfl, y⟩ := y
    obtain ⟨v, hv, rv⟩ := r.get hd
    have q := y xs (same_t (s1.trans s2) hq)
    rw [hv] at q; cases q
    exact ⟨G', Le.refl s2, Rp.le s1 rv⟩
theorem rp_kV {M : Md} {G : Hp} (k : Key) : Rp M G (kV k) (kD k) := by
  cases k with
  | inl i => exact .int i
  | inr x => exact .str x
/-- the keys of a dict that is locked for good -/
theorem ei_keys {kvs : List (Key × PyData)} (h : Ev X B ρ iter (.dict (dK kvs))) : EvI X B ρ tg iter (kvs.map fun p => kD p.1) := fun σ G H E R k => by
  refine wI_of (pi_keys pe_w) (h σ G H E _ fun x G1 H1 l1 rx => ?_)
  obtain ⟨a, ks, rfl, ⟨o, hq⟩, r⟩ := rp_dct rx
  refine ⟨a, o, rfl, .inl ⟨ks, l1.i _ _ hq, k (Itk a o ks) G1 H1 l1 ⟨fun i G' H' s1 s2 hi => ?_, fun i G' H' s1 s2 hi => ?_, fun i d G' H' H'' x s1 s2 hd y => ?_⟩⟩⟩
  · rw [List.length_map, ← r.length] at hi
    exact ⟨(s1.trans s2) _ _ hq, hi⟩
  · rw [List.length_map, ← r.length] at hi
    exact ⟨(s1.trans s2) _ _ hq, hi⟩
  · obtain ⟨rfl, k', v, hk, rfl⟩ := y
    obtain ⟨d', hd', rv⟩ := r.get hk
    rw [List.getElem?_map, hd'] at hd
    cases hd
    exact ⟨G', Le.refl s2, rp_kV k'⟩
def rngD (lo : Int) (n : Nat) : List PyData := (List.range n).map fun (k : Nat) => PyData.int (lo + (k : Int))
theorem itd_rng {M : Md} {G : Hp} {lo : Int} {n : Nat} : ItD M (Itr lo n) G (rngD lo n) where
  go := fun i G' H' _ _ hi => by
    unfold rngD at hi
    rw [List.length_map, List.length_range] at hi
    exact hi
  stop := fun i G' H' _ _ hi => by
    unfold rngD at hi
    rw [List.length_map, List.length_range] at hi
    exact hi
  yld := fun i d G' H' H'' x s1 s2 hd y => by
    obtain ⟨rfl, rfl⟩ := y
    unfold rngD at hd
    rw [List.getElem?_map] at hd
    have hi : i < n := by
      cases e : (List.range n)[i]? with
      | none => rw [e] at hd; cases hd
      | some j =>
        have q := (List.getElem?_eq_some_iff.mp e).1
        rw [List.length_range] at q
        exact q
    rw [List.getElem?_range hi] at hd
    cases hd
    exact ⟨G', Le.refl s2, .int _⟩
theorem ei_range1 {a : Expr} {p pos : Pos} {n : Int} (hm : X.mg "range" = none) (ha : Ev X B ρ a (.int n)) (h1 : -(2 ^ 62) ≤ n) (h2 : n < 2 ^ 62) (hg : Gl X "range" := by rfl) (hs : starEach [a] X.env = [(false, eval a X.env)] := by rfl) :
    EvI X B ρ tg (.Call (.Name "range" p) [a] [] pos) (rngD 0 n.toNat) := fun σ G H E R k => by
  refine wI_of (pi_range1 hg hm pa_w hs) (ea_cons ha ea_nil hs σ G H E _ fun vs G1 H1 l1 rs => ?_)
  cases rs with
  | cons r t => cases t; exact ⟨n, by rw [rp_int r], h1, h2, k _ G1 H1 l1 itd_rng⟩
theorem ei_range2 {a b : Expr} {p pos : Pos} {m n : Int} (hm : X.mg "range" = none) (ha : Ev X B ρ a (.int m)) (hb : Ev X B ρ b (.int n)) (h : -(2 ^ 62) ≤ m ∧ m < 2 ^ 62 ∧ -(2 ^ 62) ≤ n ∧ n < 2 ^ 62) (hg : Gl X "range" := by rfl)
    (hs : starEach [a, b] X.env = [(false, eval a X.env), (false, eval b X.env)] := by rfl) (hs2 : starEach [b] X.env = [(false, eval b X.env)] := by rfl) (hs3 : starEach (a :: [b]) X.env = (false, eval a X.env) :: starEach [b] X.env := by rfl) :
    EvI X B ρ tg (.Call (.Name "range" p) [a, b] [] pos) (rngD m (n - m).toNat) := fun σ G H E R k => by
  refine wI_of (pi_range2 hg hm pa_w hs hs2) (ea_cons ha (ea_cons hb ea_nil hs2) hs3 σ G H E _ fun vs G1 H1 l1 rs => ?_)
  cases rs with
  | cons r t => cases t with
    | cons r2 t => cases t; exact ⟨m, n, by rw [rp_int r, rp_int r2], h, k _ G1 H1 l1 itd_rng⟩
/-- enumerate of a list -/
def enumD (ds : List PyData) : List PyData := (List.range ds.length).zipWith (fun (k : Nat) (d : PyData) => PyData.tuple [.int (k : Int), d]) ds
theorem enumD_get {ds : List PyData} {i : Nat} {d : PyData} (h : (enumD ds)[i]? = some d) : ∃ x, ds[i]? = some x ∧ d = .tuple [.int (i : Int), x] := by
  unfold enumD at h
  rw [List.getElem?_zipWith] at h
  cases e : ds[i]? with
  | none => rw [e] at h; cases h2 : (List.range ds.length)[i]? <;> rw [h2] at h <;> cases h
  | some x =>
    rw [e] at h
    rw [List.getElem?_range (List.getElem?_eq_some_iff.mp e).1] at h
    cases h
    exact ⟨x, rfl, rfl⟩
theorem enumD_length (ds : List PyData) : (enumD ds).length = ds.length := by unfold enumD; simp
theorem ei_enum {e : Expr} {p pos tpos : Pos} {elts : List Expr} {kk : Nat} (hm : X.mg "enumerate" = none) (h : Ev X B ρ e (.list ds)) (hg : Gl X "enumerate" := by rfl) (hs : starEach [e] X.env = [(false, eval e X.env)] := by rfl) :
    EvI X B ρ (.Tuple elts kk tpos) (.Call (.Name "enumerate" p) [e] [] pos) (enumD ds) := fun σ G H E R k => by
  refine wI_of (pi_enum hg hm pa_w hs) (ea_cons h ea_nil hs σ G H E _ fun vs G1 H1 l1 rs => ?_)
  cases rs with
  | cons rx t =>
    cases t
    obtain ⟨a, xs, rfl, hq, r⟩ := rp_lst rx
    refine ⟨a, xs, rfl, same_l l1.i hq, k (Ite X.K a) G1 H1 l1 ⟨fun i G' H' s1 s2 hi => ?_, fun i G' H' s1 s2 hi => ?_, fun i d G' H' H'' x s1 s2 hd y => ?_⟩⟩
    · rw [enumD_length, ← r.length] at hi
      exact ⟨xs, xs[i], same_l (s1.trans s2) hq, by simp [hi]⟩
    · rw [enumD_length, ← r.length] at hi
      exact ⟨xs, same_l (s1.trans s2) hq, hi⟩
    · obtain ⟨T, z, rfl, hT, rfl, hz⟩ := y
      obtain ⟨x, hx, rfl⟩ := enumD_get hd
      obtain ⟨v, hv, rv⟩ := r.get hx
      have q := hz xs (same_l (s1.trans s2) hq)
      rw [hv] at q; cases q
      exact ⟨_, Le.new s2 hT, .tup (SqT.of upd_same) (.cons (.int _) (.cons (Rp.le (s1.trans (same_upd (s2.free hT))) rv) .nil))⟩
end

/-! ### 7. targets -/
def wG (X : Cx) (tg : Expr) : TG := fun v σ H Q => ∀ (pins : List (Addr × Obj)) (s : Shared) (u : Value), Inv X pins σ H s → RelV v u → wpAny (model X.prog X.w) X.A (assign tg X.env u) (fun _ s' => ∃ σ' H', Inv X pins σ' H' s' ∧ Q σ' H') X.xe s
theorem pg_w {X : Cx} {tg : Expr} : PG X tg (wG X tg) := ⟨fun pins s _ _ v u _ I r h => h pins s u I r⟩
theorem wG_of {X : Cx} {tg : Expr} {t : TG} (h : PG X tg t) {v : V} {σ : L2.St} {H : Hp} {Q : L2.St → Hp → Prop} (q : t v σ H Q) : wG X tg v σ H Q := fun pins s u I r => h.run pins s σ H v u Q I r q
/-- d is taken by the target: ρ' behind it; is: the slots that are stored -/
def EvG (X : Cx) (B : Bs) (tg : Expr) (is : List Nat) (d : PyData) (ρ ρ' : List Sl) : Prop := ∀ (v : V) (σ : L2.St) (G H : Hp), En (md X) B ρ σ G H → Rp (md X) G v d → ∀ Q : L2.St → Hp → Prop,
  (∀ σ', En (md X) B ρ' σ' G H → (∀ vs : List Nat, (∀ k ∈ is, k ∈ vs) → L2.wipe σ' vs = L2.wipe σ vs) → Q σ' H) → wG X tg v σ H Q
theorem wipe_get {σ : L2.St} : ∀ (vs : List Nat) (j : Nat), (L2.wipe σ vs)[j]? = if j ∈ vs then (if j < σ.length then some none else none) else σ[j]?
  | [], j => by simp [L2.wipe]
  | v :: vs, j => by
    unfold L2.wipe
    rw [get_set, wipe_get vs j]
    have e : (L2.wipe σ vs).length = σ.length := L2.wipe_length σ vs
    by_cases h : v = j
    · subst h
      rw [if_pos rfl, e, if_pos List.mem_cons_self]
    · rw [if_neg h]
      have q : (j ∈ v :: vs) ↔ j ∈ vs := by
        rw [List.mem_cons]
        exact ⟨fun z => z.resolve_left fun w => h w.symm, .inr⟩
      by_cases hj : j ∈ vs
      · rw [if_pos hj, if_pos (q.mpr hj)]
      · rw [if_neg hj, if_neg (fun z => hj (q.mp z))]
theorem wipe_set {σ : L2.St} {i : Nat} {u : Option V} {vs : List Nat} (h : i ∈ vs) : L2.wipe (σ.set i u) vs = L2.wipe σ vs := by
  apply List.ext_getElem?
  intro j
  rw [wipe_get, wipe_get, List.length_set]
  by_cases hj : j ∈ vs
  · rw [if_pos hj, if_pos hj]
  · rw [if_neg hj, if_neg hj, List.getElem?_set_ne (fun e => hj (by rw [← e]; exact h))]
section
variable {X : Cx} {B : Bs} {ρ : List Sl}
theorem eg_name {i : Nat} {x : Str} {pos : Pos} {d : PyData} (hN : X.N.Nodup) (hi : X.N[i]? = some x) (hx : Loc X.env.scope x) (hf : X.fn x = true ∨ X.env.scope.names.lookup x = some .local) : EvG X B (.Name x pos) [i] d ρ (ρ.set i (.d d)) := fun v σ G H E r Q k => by
  refine wG_of (pg_name hN hi hx hf) ?_
  exact k _ (E.set (Le.refl E.le.i) (r := .d d) r i) fun vs h => wipe_set (h i List.mem_cons_self)
/-- a, b = a pair -/
theorem eg_two {i j : Nat} {x y : Str} {p1 p2 pos : Pos} {k0} {d1 d2 : PyData} (hc : X.calm = true) (hN : X.N.Nodup) (hi : X.N[i]? = some x) (hj : X.N[j]? = some y) (hx : Loc X.env.scope x) (hy : Loc X.env.scope y) (hf : X.fn x = true ∨ X.env.scope.names.lookup x = some .local) (hf2 : X.fn y = true ∨ X.env.scope.names.lookup y = some .local)
    (hn : (assignEach [.Name x p1, .Name y p2] X.env).length = 2 := by rfl) (hst : (assignEach [.Name x p1, .Name y p2] X.env).findIdx? (·.1) = none := by rfl)
    (hs1 : (assignEach (.Name x p1 :: [.Name y p2]) X.env).map (·.2) = assign (.Name x p1) X.env :: (assignEach [.Name y p2] X.env).map (·.2) := by rfl)
    (hs2 : (assignEach (.Name y p2 :: []) X.env).map (·.2) = assign (.Name y p2) X.env :: (assignEach [] X.env).map (·.2) := by rfl) :
    EvG X B (.Tuple [.Name x p1, .Name y p2] k0 pos) [i, j] (.tuple [d1, d2]) ρ ((ρ.set i (.d d1)).set j (.d d2)) := fun v σ G H E r Q k => by
  refine wG_of (pg_tup hc (pgs_cons (pg_name hN hi hx hf) (pgs_cons (pg_name hN hj hy hf2) pgs_nil hs2) hs1) hn hst) ?_
  obtain ⟨a, xs, rfl, hq, rs⟩ := rp_tup r
  cases rs with
  | cons r1 t =>
    cases t with
    | cons r2 t =>
      cases t
      refine ⟨a, _, rfl, same_t E.le.i hq, rfl, _, _, rfl, _, _, rfl, rfl, ?_⟩
      exact k _ ((E.set (Le.refl E.le.i) (r := .d d1) r1 i).set (Le.refl E.le.i) (r := .d d2) r2 j) fun vs h => by
        rw [wipe_set (h j (by simp)), wipe_set (h i (by simp))]
end

/-! ### 8. comprehensions -/
def wTs (X : Cx) (ifs : List Expr) : TT := fun σ H Q => ∀ (pins : List (Addr × Obj)) (s : Shared), Inv X pins σ H s →
  wpAny (model X.prog X.w) X.A (forIn ifs true fun c r => if r = true then do let ok ← isTrue c X.env (eval c X.env); pure (ForInStep.yield ok) else pure (ForInStep.yield r)) (TP X pins σ Q) X.xe s
theorem pts_w {X : Cx} {ifs : List Expr} : PTs X ifs (wTs X ifs) := ⟨fun pins s _ _ _ I h => h pins s I⟩
theorem wTs_of {X : Cx} {ifs : List Expr} {t : TT} (h : PTs X ifs t) {σ : L2.St} {H : Hp} {Q : Bool → Hp → Prop} (q : t σ H Q) : wTs X ifs σ H Q := fun pins s I => h.run pins s σ H Q I q
def EvTs (X : Cx) (B : Bs) (ρ : List Sl) (es : List Expr) (b : Bool) : Prop := ∀ (σ : L2.St) (G H : Hp), En (md X) B ρ σ G H → ∀ Q : Bool → Hp → Prop, (∀ G2 H2, Le G H G2 H2 → Q b H2) → wTs X es σ H Q
theorem ets_nil {X : Cx} {B : Bs} {ρ : List Sl} : EvTs X B ρ [] true := fun σ G H E Q k => wTs_of pts_nil (k G H (Le.refl E.le.i))
theorem ets_one {X : Cx} {B : Bs} {ρ : List Sl} {c : Expr} {b : Bool} (h : EvT X B ρ c b) : EvTs X B ρ [c] b := fun σ G H E Q k => wTs_of (pts_one pt_w) (h σ G H E Q k)
section
variable {X : Cx} {B : Bs} {ρ : List Sl} {ds : List PyData}
theorem tlc_ok {elt tg iter : Expr} {ifs : List Expr} {scope : Scope} {own : List (Str × Nat)} {is : List Nat} {tb : PyData → Bool} {f : PyData → PyData} {rho : PyData → List Sl}
    (hi : EvI X B ρ tg iter ds) (his : ∀ k ∈ is, k ∈ own.map (·.2))
    (hg : ∀ d ∈ ds, ∀ (s : Shared) (H : Hp) (C : Addr) (cl : List (Str × Addr)) (fp : List Addr), EvG (X.blk s H scope (compEnvC scope cl C X.env) fp) B tg is d (wipeS ρ (own.map (·.2))) (rho d))
    (ht : ∀ d ∈ ds, ∀ (s : Shared) (H : Hp) (C : Addr) (cl : List (Str × Addr)) (fp : List Addr), EvTs (X.blk s H scope (compEnvC scope cl C X.env) fp) B (rho d) ifs (tb d))
    (he : ∀ d ∈ ds, tb d = true → ∀ (s : Shared) (H : Hp) (C : Addr) (cl : List (Str × Addr)) (fp : List Addr), Ev (X.blk s H scope (compEnvC scope cl C X.env) fp) B (rho d) elt (f d))
    (hl : ds.length < sizeLine) {σ : L2.St} {G H : Hp} (E : En (md X) B ρ σ G H) {Q : VK} (k : ∀ v G2 H2, Le G H G2 H2 → RsOk (md X) H G2 H2 v (.l ((ds.filter tb).map f)) → Q v H2) :
    tLc (wI X tg iter) (fun v σ H Q => ∀ (s : Shared) (H0 : Hp) (C : Addr) (cl : List (Str × Addr)) (fp : List Addr), wG (X.blk s H0 scope (compEnvC scope cl C X.env) fp) tg v σ H Q) (fun σ H Q => ∀ (s : Shared) (H0 : Hp) (C : Addr) (cl : List (Str × Addr)) (fp : List Addr), wTs (X.blk s H0 scope (compEnvC scope cl C X.env) fp) ifs σ H Q) (fun σ H Q => ∀ (s : Shared) (H0 : Hp) (C : Addr) (cl : List (Str × Addr)) (fp : List Addr), wE (X.blk s H0 scope (compEnvC scope cl C X.env) fp) elt σ H Q) (own.map (·.2)) σ H Q := by
  refine hi σ G H E _ fun J G1 H1 l1 it D hD => ?_
  have gD : G1 D = none := l1.i.free hD
  refine ⟨fun i m H' => m = ds.length - i ∧ i ≤ ds.length ∧ ∃ G' acc, Le G1 H1 G' H' ∧ G' D = none ∧ H' D = some (.lst acc) ∧ RpA (md X) G' acc (((ds.take i).filter tb).map f), ⟨ds.length, by simp, Nat.zero_le _, G1, [], (Le.refl l1.i).own hD, gD, upd_same, .nil⟩, ?_⟩
  rintro i m H' ⟨rfl, hile, G', acc, l, gD', hacc, racc⟩
  by_cases hlt : i < ds.length
  · refine .inr ⟨it.go i G' H' l.g l.i hlt, fun H'' => ∃ G'' acc, Le G1 H1 G'' H'' ∧ G'' D = none ∧ H'' D = some (.lst acc) ∧ RpA (md X) G'' acc (((ds.take (i + 1)).filter tb).map f), fun H'' p => ⟨ds.length - (i + 1), by omega, rfl, hlt, p⟩, fun x H2 y => ?_⟩
    have hd : ds[i]? = some ds[i] := by simp [hlt]
    generalize hdd : ds[i] = d at hd
    have hm : d ∈ ds := List.mem_of_getElem? hd
    obtain ⟨G2, l2, rx⟩ := it.yld i d G' H' H2 x l.g l.i hd y
    have htk : ds.take (i + 1) = ds.take i ++ [d] := by rw [List.take_add_one, hd]; rfl
    have E2 := ((E.mono l1).mono (l.trans l2)).wipe (own.map (·.2))
    intro s0 H0 C cl fp
    refine hg d hm s0 H0 C cl fp x _ G2 H2 E2 rx _ fun σ2 E3 hw => ?_
    refine ⟨?_, ?_⟩
    · have q := hw (own.map (·.2)) his
      rw [q]
      apply List.ext_getElem?
      intro j
      rw [wipe_get, wipe_get, L2.wipe_length]
      by_cases hj : j ∈ own.map (·.2)
      · rw [if_pos hj, if_pos hj]
      · rw [if_neg hj, if_neg hj]
    · intro s0 H0 C cl fp
      refine ht d hm s0 H0 C cl fp σ2 G2 H2 E3 _ fun G3 H3 l3 => ?_
      have h3 : H3 D = some (.lst acc) := l3.h D _ (l2.h D _ hacc)
      have g3 : G3 D = none := by rw [l3.n D _ (l2.h D _ hacc), l2.n D _ hacc]; exact gD'
      cases hb : tb d with
      | false =>
        rw [if_neg (by decide)]
        refine ⟨G3, acc, (l.trans l2).trans l3, g3, h3, ?_⟩
        rw [htk, List.filter_append, List.filter_cons_of_neg (by simp [hb]), List.filter_nil, List.append_nil]
        exact racc.le (l2.g.trans l3.g)
      | true =>
        rw [if_pos rfl]
        intro s0 H0 C cl fp
        refine he d hm hb s0 H0 C cl fp σ2 G3 H3 (E3.mono l3) _ fun yv G4 H4 l4 ry => ?_
        refine ⟨acc, l4.h D _ h3, ?_, G4, acc ++ [yv], (((l.trans l2).trans l3).trans l4).mut hD (by rw [l4.n D _ h3]; exact g3), by rw [l4.n D _ h3]; exact g3, upd_same, ?_⟩
        · rw [racc.length, List.length_map]
          refine Nat.lt_of_le_of_lt (List.length_filter_le _ _) ?_
          rw [List.length_take]
          omega
        · rw [htk, List.filter_append, List.map_append, List.filter_cons_of_pos (by simp [hb]), List.filter_nil]
          exact (racc.le ((l2.g.trans l3.g).trans l4.g)).append (.cons ry .nil)
  · have e : i = ds.length := by omega
    subst e
    refine .inl ⟨it.stop _ G' H' l.g l.i (Nat.le_refl _), k _ G' H' (l1.trans l) ⟨D, acc, rfl, l1.h.free hD, gD', hacc, ?_⟩⟩
    rw [List.take_length] at racc
    exact racc
/-- [e for ..] -/
theorem ev_lc {elt tg iter : Expr} {ifs : List Expr} {scope : Scope} {own : List (Str × Nat)} {pos : Pos} {is : List Nat} {tb : PyData → Bool} {f : PyData → PyData} {rho : PyData → List Sl}
    (hc : X.calm = true) (hN : X.N.Nodup) (hi : EvI X B ρ tg iter ds) (ok : BlkOk X.N X.env.scope scope own) (his : ∀ k ∈ is, k ∈ own.map (·.2))
    (hg : ∀ d ∈ ds, ∀ (s : Shared) (H : Hp) (C : Addr) (cl : List (Str × Addr)) (fp : List Addr), EvG (X.blk s H scope (compEnvC scope cl C X.env) fp) B tg is d (wipeS ρ (own.map (·.2))) (rho d))
    (ht : ∀ d ∈ ds, ∀ (s : Shared) (H : Hp) (C : Addr) (cl : List (Str × Addr)) (fp : List Addr), EvTs (X.blk s H scope (compEnvC scope cl C X.env) fp) B (rho d) ifs (tb d))
    (he : ∀ d ∈ ds, tb d = true → ∀ (s : Shared) (H : Hp) (C : Addr) (cl : List (Str × Addr)) (fp : List Addr), Ev (X.blk s H scope (compEnvC scope cl C X.env) fp) B (rho d) elt (f d))
    (hl : ds.length < sizeLine) (hs : ∀ x, foldedSetIterable iter X.env x = pure x := by intro _; rfl) :
    EvR X B ρ (.ListComp elt [⟨tg, iter, ifs, 0⟩] scope pos) (.l ((ds.filter tb).map f)) := fun σ G H E Q k => by
  refine wE_of (pe_lc (g := fun v σ H Q => ∀ (s : Shared) (H0 : Hp) (C : Addr) (cl : List (Str × Addr)) (fp : List Addr), wG (X.blk s H0 scope (compEnvC scope cl C X.env) fp) tg v σ H Q)
    (tt := fun σ H Q => ∀ (s : Shared) (H0 : Hp) (C : Addr) (cl : List (Str × Addr)) (fp : List Addr), wTs (X.blk s H0 scope (compEnvC scope cl C X.env) fp) ifs σ H Q)
    (te := fun σ H Q => ∀ (s : Shared) (H0 : Hp) (C : Addr) (cl : List (Str × Addr)) (fp : List Addr), wE (X.blk s H0 scope (compEnvC scope cl C X.env) fp) elt σ H Q)
    hc hN pi_w ok (fun s H0 C cl fp => ⟨fun pins s' _ _ v u _ I r h => h s H0 C cl fp pins s' u I r⟩) (fun s H0 C cl fp => ⟨fun pins s' _ _ _ I h => h s H0 C cl fp pins s' I⟩) (fun s H0 C cl fp => ⟨fun pins s' _ _ _ I h => h s H0 C cl fp pins s' I⟩) hs) (tlc_ok hi his hg ht he hl E k)
/-- {k: v for ..} of keys that are apart -/
theorem ev_dc {kx vx tg iter : Expr} {scope : Scope} {own : List (Str × Nat)} {pos : Pos} {is : List Nat} {kf : PyData → Key} {f : PyData → PyData} {rho : PyData → List Sl}
    (hc : X.calm = true) (hN : X.N.Nodup) (hi : EvI X B ρ tg iter ds) (ok : BlkOk X.N X.env.scope scope own) (his : ∀ k ∈ is, k ∈ own.map (·.2))
    (hg : ∀ d ∈ ds, ∀ (s : Shared) (H : Hp) (C : Addr) (cl : List (Str × Addr)) (fp : List Addr), EvG (X.blk s H scope (compEnvC scope cl C X.env) fp) B tg is d (wipeS ρ (own.map (·.2))) (rho d))
    (hk : ∀ d ∈ ds, ∀ (s : Shared) (H : Hp) (C : Addr) (cl : List (Str × Addr)) (fp : List Addr), Ev (X.blk s H scope (compEnvC scope cl C X.env) fp) B (rho d) kx (kD (kf d)))
    (he : ∀ d ∈ ds, ∀ (s : Shared) (H : Hp) (C : Addr) (cl : List (Str × Addr)) (fp : List Addr), Ev (X.blk s H scope (compEnvC scope cl C X.env) fp) B (rho d) vx (f d))
    (hnd : (ds.map kf).Nodup) (hl : ds.length < sizeLine) (hs : ∀ x, foldedSetIterable iter X.env x = pure x := by intro _; rfl) :
    EvR X B ρ (.DictComp kx vx [⟨tg, iter, [], 0⟩] scope pos) (.m (ds.map fun d => (kf d, f d))) := fun σ G H E Q k => by
  refine wE_of (pe_dc (g := fun v σ H Q => ∀ (s : Shared) (H0 : Hp) (C : Addr) (cl : List (Str × Addr)) (fp : List Addr), wG (X.blk s H0 scope (compEnvC scope cl C X.env) fp) tg v σ H Q)
    (tt := tYes)
    (tk := fun σ H Q => ∀ (s : Shared) (H0 : Hp) (C : Addr) (cl : List (Str × Addr)) (fp : List Addr), wE (X.blk s H0 scope (compEnvC scope cl C X.env) fp) kx σ H Q)
    (tv := fun σ H Q => ∀ (s : Shared) (H0 : Hp) (C : Addr) (cl : List (Str × Addr)) (fp : List Addr), wE (X.blk s H0 scope (compEnvC scope cl C X.env) fp) vx σ H Q)
    hc hN pi_w ok (fun s H0 C cl fp => ⟨fun pins s' _ _ v u _ I r h => h s H0 C cl fp pins s' u I r⟩) (fun s H0 C cl fp => pts_nil) (fun s H0 C cl fp => ⟨fun pins s' _ _ _ I h => h s H0 C cl fp pins s' I⟩) (fun s H0 C cl fp => ⟨fun pins s' _ _ _ I h => h s H0 C cl fp pins s' I⟩) hs) ?_
  refine hi σ G H E _ fun J G1 H1 l1 it D hD => ?_
  have gD : G1 D = none := l1.i.free hD
  refine ⟨fun i m H' => m = ds.length - i ∧ i ≤ ds.length ∧ ∃ G' acc, Le G1 H1 G' H' ∧ G' D = none ∧ H' D = some (.dK acc) ∧ RpK (md X) G' acc ((ds.take i).map fun d => (kf d, f d)), ⟨ds.length, by simp, Nat.zero_le _, G1, [], (Le.refl l1.i).own hD, gD, upd_same, .nil⟩, ?_⟩
  rintro i m H' ⟨rfl, hile, G', acc, l, gD', hacc, racc⟩
  by_cases hlt : i < ds.length
  · refine .inr ⟨it.go i G' H' l.g l.i hlt, fun H'' => ∃ G'' acc, Le G1 H1 G'' H'' ∧ G'' D = none ∧ H'' D = some (.dK acc) ∧ RpK (md X) G'' acc ((ds.take (i + 1)).map fun d => (kf d, f d)), fun H'' p => ⟨ds.length - (i + 1), by omega, rfl, hlt, p⟩, fun x H2 y => ?_⟩
    have hd : ds[i]? = some ds[i] := by simp [hlt]
    generalize hdd : ds[i] = d at hd
    have hm : d ∈ ds := List.mem_of_getElem? hd
    obtain ⟨G2, l2, rx⟩ := it.yld i d G' H' H2 x l.g l.i hd y
    have htk : ds.take (i + 1) = ds.take i ++ [d] := by rw [List.take_add_one, hd]; rfl
    have E2 := ((E.mono l1).mono (l.trans l2)).wipe (own.map (·.2))
    intro s0 H0 C cl fp
    refine hg d hm s0 H0 C cl fp x _ G2 H2 E2 rx _ fun σ2 E3 hw => ?_
    refine ⟨?_, ?_⟩
    · have q := hw (own.map (·.2)) his
      rw [q]
      apply List.ext_getElem?
      intro j
      rw [wipe_get, wipe_get, L2.wipe_length]
      by_cases hj : j ∈ own.map (·.2)
      · rw [if_pos hj, if_pos hj]
      · rw [if_neg hj, if_neg hj]
    · unfold tYes
      dsimp only
      rw [if_pos rfl]
      intro s0 H0 C cl fp
      refine hk d hm s0 H0 C cl fp σ2 G2 H2 E3 _ fun kv G3 H3 l3 rk => ?_
      intro s0 H0 C cl fp
      refine he d hm s0 H0 C cl fp σ2 G3 H3 (E3.mono l3) _ fun yv G4 H4 l4 ry => ?_
      have h3 : H3 D = some (.dK acc) := l3.h D _ (l2.h D _ hacc)
      have g3 : G3 D = none := by rw [l3.n D _ (l2.h D _ hacc), l2.n D _ hacc]; exact gD'
      have ek : kv = kV (kf d) := by
        cases hq : kf d with
        | inl j => rw [hq] at rk; exact rp_int rk
        | inr j => rw [hq] at rk; exact rp_str rk
      have nin : kf d ∉ acc.map (·.1) := by
        rw [racc.keys, List.map_map]
        intro hmem
        obtain ⟨e, he1, he2⟩ := List.mem_map.mp hmem
        obtain ⟨j, hj, hje⟩ := List.mem_iff_getElem.mp he1
        rw [List.length_take] at hj
        have h1 : (ds.map kf)[j]? = some (kf d) := by
          rw [List.getElem?_map]
          have : ds[j]? = some e := by
            rw [List.getElem_take] at hje
            rw [List.getElem?_eq_getElem (by omega), hje]
          rw [this]
          exact congrArg some he2
        have h2 : (ds.map kf)[i]? = some (kf d) := by rw [List.getElem?_map, hd]; rfl
        have := L2.nd_ix hnd h1 h2
        omega
      have ep : putK acc (kf d) yv = acc ++ [(kf d, yv)] := putK_new _ (by
        cases hv : valV acc (kf d) with
        | none => rfl
        | some z => exact absurd (valV_in hv) nin)
      refine ⟨acc, kf d, ek, l4.h D _ h3, ?_, G4, acc ++ [(kf d, yv)], ?_, by rw [l4.n D _ h3]; exact g3, ?_, ?_⟩
      · rw [racc.length, List.length_map, List.length_take]
        omega
      · exact (((l.trans l2).trans l3).trans l4).mut hD (by rw [l4.n D _ h3]; exact g3)
      · rw [ep]; exact upd_same
      · rw [htk, List.map_append]
        exact ((racc.le (l2.g.trans (l3.g.trans l4.g))).append (.cons ry .nil))
  · have e : i = ds.length := by omega
    subst e
    refine .inl ⟨it.stop _ G' H' l.g l.i (Nat.le_refl _), k _ G' H' (l1.trans l) ⟨D, acc, rfl, l1.h.free hD, gD', hacc, ?_⟩⟩
    rw [List.take_length] at racc
    exact racc
end
end DH
namespace DH
open PySem PySem.Spec L2
open PyProof.Rows (envOfC)

/-! ### 9. statements -/
structure Po where
  nx : List Sl → Prop
  rt : Rs → Prop
  bk : List Sl → Prop := fun _ => False
  ct : List Sl → Prop := fun _ => False
/-- G0: what was frozen at the start stays frozen -/
def Po.ends (M : Md) (B : Bs) (G0 : Hp) (P : Po) : Ends where
  nx := fun σ H => ∃ ρ G, En M B ρ σ G H ∧ Same G0 G ∧ P.nx ρ
  rt := fun v H => ∃ G r, Le B.G B.H G H ∧ RsOk M B.H G H v r ∧ P.rt r
  bk := fun σ H => ∃ ρ G, En M B ρ σ G H ∧ Same G0 G ∧ P.bk ρ
  ct := fun σ H => ∃ ρ G, En M B ρ σ G H ∧ Same G0 G ∧ P.ct ρ
def Run (X : Cx) (B : Bs) (sts : List Stmt) (ρ : List Sl) (P : Po) : Prop := ∀ (σ : L2.St) (G H : Hp), En (md X) B ρ σ G H → wSs X sts (P.ends (md X) B G) σ H
def Run1 (X : Cx) (B : Bs) (st : Stmt) (ρ : List Sl) (P : Po) : Prop := ∀ (σ : L2.St) (G H : Hp), En (md X) B ρ σ G H → wS X st (P.ends (md X) B G) σ H
/-- weaker ends -/
theorem SP.mono {X : Cx} {pins : List (Addr × Obj)} {D D' : Ends} {f : Flow} {s' : Shared} (h : SP X pins D f s') (h1 : ∀ σ H, D.nx σ H → D'.nx σ H) (h2 : ∀ v H, D.rt v H → D'.rt v H) (h3 : ∀ σ H, D.bk σ H → D'.bk σ H) (h4 : ∀ σ H, D.ct σ H → D'.ct σ H) : SP X pins D' f s' := by
  cases f with
  | next => obtain ⟨σ', H', I, q⟩ := h; exact ⟨σ', H', I, h1 _ _ q⟩
  | brk => obtain ⟨σ', H', I, q⟩ := h; exact ⟨σ', H', I, h3 _ _ q⟩
  | cont => obtain ⟨σ', H', I, q⟩ := h; exact ⟨σ', H', I, h4 _ _ q⟩
  | ret u => obtain ⟨v, σ', H', I, r, q⟩ := h; exact ⟨v, σ', H', I, r, h2 _ _ q⟩
theorem wSs_mono {X : Cx} {st : List Stmt} {D D' : Ends} {σ : L2.St} {H : Hp} (h : wSs X st D σ H) (h1 : ∀ σ H, D.nx σ H → D'.nx σ H) (h2 : ∀ v H, D.rt v H → D'.rt v H) (h3 : ∀ σ H, D.bk σ H → D'.bk σ H) (h4 : ∀ σ H, D.ct σ H → D'.ct σ H) : wSs X st D' σ H := fun pins s I => thn (h pins s I) fun _ _ q => SP.mono q h1 h2 h3 h4
theorem wS_mono {X : Cx} {st : Stmt} {D D' : Ends} {σ : L2.St} {H : Hp} (h : wS X st D σ H) (h1 : ∀ σ H, D.nx σ H → D'.nx σ H) (h2 : ∀ v H, D.rt v H → D'.rt v H) (h3 : ∀ σ H, D.bk σ H → D'.bk σ H) (h4 : ∀ σ H, D.ct σ H → D'.ct σ H) : wS X st D' σ H := fun pins s I => thn (h pins s I) fun _ _ q => SP.mono q h1 h2 h3 h4
section
variable {X : Cx} {B : Bs} {ρ : List Sl} {P : Po} {rest : List Stmt}
theorem Run.at {sts : List Stmt} (k : Run X B sts ρ P) {σ : L2.St} {G G1 H1 : Hp} (E : En (md X) B ρ σ G1 H1) (s : Same G G1) : wSs X sts (P.ends (md X) B G) σ H1 :=
  wSs_mono (k σ G1 H1 E) (fun _ _ ⟨a, b, c, d, e⟩ => ⟨a, b, c, s.trans d, e⟩) (fun _ _ q => q) (fun _ _ ⟨a, b, c, d, e⟩ => ⟨a, b, c, s.trans d, e⟩) (fun _ _ ⟨a, b, c, d, e⟩ => ⟨a, b, c, s.trans d, e⟩)
theorem run_nil (h : P.nx ρ) : Run X B [] ρ P := fun σ G H E => wSs_of pss_nil ⟨ρ, G, E, Same.refl G, h⟩
/-- a statement, then the rest: N is what holds between -/
theorem run_cons {st : Stmt} {N : List Sl → Prop} (h : Run1 X B st ρ { P with nx := N }) (hr : ∀ ρ', N ρ' → Run X B rest ρ' P) : Run X B (st :: rest) ρ P := fun σ G H E => by
  refine wSs_of (pss_cons ps_w pss_w) ?_
  refine wS_mono (h σ G H E) (fun σ' H' q => ?_) (fun _ _ q => q) (fun _ _ q => q) (fun _ _ q => q)
  obtain ⟨ρ', G', E', sg, n⟩ := q
  exact (hr ρ' n).at E' sg
/-- the end of a block alone -/
theorem run_last {st : Stmt} (h : Run1 X B st ρ P) : Run X B [st] ρ P := fun σ G H E => wSs_of (pss_one ps_w) (h σ G H E)
theorem run_mono {sts : List Stmt} {P' : Po} (h : Run X B sts ρ P) (h1 : ∀ ρ, P.nx ρ → P'.nx ρ) (h2 : ∀ r, P.rt r → P'.rt r) (h3 : ∀ ρ, P.bk ρ → P'.bk ρ) (h4 : ∀ ρ, P.ct ρ → P'.ct ρ) : Run X B sts ρ P' := fun σ G H E =>
  wSs_mono (h σ G H E) (fun _ _ ⟨a, b, c, s, d⟩ => ⟨a, b, c, s, h1 _ d⟩) (fun _ _ ⟨a, b, c, d, e⟩ => ⟨a, b, c, d, h2 _ e⟩) (fun _ _ ⟨a, b, c, s, d⟩ => ⟨a, b, c, s, h3 _ d⟩) (fun _ _ ⟨a, b, c, s, d⟩ => ⟨a, b, c, s, h4 _ d⟩)
/-- name = e -/
theorem run_set {i : Nat} {x : Str} {e : Expr} {pos pos' : Pos} {r : Rs} (he : EvR X B ρ e r) (hN : X.N.Nodup) (hi : X.N[i]? = some x) (hx : Loc X.env.scope x) (k : Run X B rest (ρ.set i r.sl) P)
    (hs : swapsWith e (some (.Name x pos')) pos.line X.env = pure false := by rfl) (hf : X.fn x = true ∨ X.env.scope.names.lookup x = some .local := by first | exact .inl rfl | exact .inr rfl | assumption) : Run X B (.Assign [.Name x pos'] e pos :: rest) ρ P := fun σ G H E => by
  refine wSs_of (pss_cons (ps_set hN hi hx pe_w hs hf) pss_w) ?_
  exact he σ G H E _ fun v G1 H1 l q => k.at (E.set l q i) l.g
/-- target = e, any target that takes data -/
theorem run_asg {tg e : Expr} {pos : Pos} {is : List Nat} {d : PyData} {ρ' : List Sl} (he : Ev X B ρ e d) (hg : EvG X B tg is d ρ ρ') (k : Run X B rest ρ' P) (hs : swapsWithSole [tg] e pos.line X.env = pure false := by rfl) (hw : swappedStores [tg] e X.env = pure none := by rfl)
    (h1 : (assignEach [tg] X.env).map (·.2) = [assign tg X.env] := by rfl) : Run X B (.Assign [tg] e pos :: rest) ρ P := fun σ G H E => by
  refine wSs_of (pss_cons (ps_asg pe_w pg_w hs hw h1) pss_w) ?_
  refine he σ G H E _ fun v G1 H1 l q => hg v σ G1 H1 (E.mono l) q _ fun σ' E' _ => k.at E' l.g
/-- a, b = e1, e2 (plain locals) -/
theorem run_par {i j : Nat} {x y : Str} {a b : Expr} {px py pt pos : Pos} {kt k2 pt2} {d1 d2 : PyData} (hc : X.calm = true) (hN : X.N.Nodup) (hi : X.N[i]? = some x) (hj : X.N[j]? = some y) (hij : i ≠ j)
    (hx : X.env.scope.names.lookup x = some .local) (hy : X.env.scope.names.lookup y = some .local) (ha : EvA X B ρ [a, b] [d1, d2]) (k : Run X B rest ((ρ.set i (.d d1)).set j (.d d2)) P)
    (hw : swappedStores [.Tuple [.Name x px, .Name y py] kt pt] (.Tuple [a, b] k2 pt2) X.env = pure (some [x, y]) := by rfl)
    (hs : swapsWithSole [.Tuple [.Name x px, .Name y py] kt pt] (.Tuple [a, b] k2 pt2) pos.line X.env = pure false := by rfl) :
    Run X B (.Assign [.Tuple [.Name x px, .Name y py] kt pt] (.Tuple [a, b] k2 pt2) pos :: rest) ρ P := fun σ G H E => by
  refine wSs_of (pss_cons (ps_par hc hN hi hj hij hx hy pa_w hw hs) pss_w) ?_
  refine ha σ G H E _ fun vs G1 H1 l q => ?_
  cases q with
  | cons r1 t =>
    cases t with
    | cons r2 t =>
      cases t
      refine ⟨_, _, rfl, k.at (G1 := G1) ?_ l.g⟩
      exact ((E.mono l).set (Le.refl l.i) (r := .d d1) r1 i).set (Le.refl l.i) (r := .d d2) r2 j
/-- if -/
theorem run_if {c : Expr} {a b : List Stmt} {pos : Pos} {t : Bool} (hc : EvT X B ρ c t) (ha : t = true → Run X B a ρ { P with nx := fun ρ' => Run X B rest ρ' P }) (hb : t = false → Run X B b ρ { P with nx := fun ρ' => Run X B rest ρ' P }) : Run X B (.If c a b pos :: rest) ρ P := fun σ G H E => by
  refine wSs_of (pss_cons (ps_if pt_w pss_w pss_w) pss_w) ?_
  refine hc σ G H E _ fun G1 H1 l => ?_
  have mono : ∀ sts, Run X B sts ρ { P with nx := fun ρ' => Run X B rest ρ' P } → wSs X sts { P.ends (md X) B G with nx := fun σ' H' => wSs X rest (P.ends (md X) B G) σ' H' } σ H1 := fun sts h =>
    wSs_mono (h.at (E.mono l) l.g) (fun _ _ ⟨_, _, E', s, n⟩ => n.at E' s) (fun _ _ q => q) (fun _ _ q => q) (fun _ _ q => q)
  cases t with
  | true => rw [if_pos rfl]; exact mono a (ha rfl)
  | false => rw [if_neg (by decide)]; exact mono b (hb rfl)
theorem run1_if {c : Expr} {a b : List Stmt} {pos : Pos} {t : Bool} (hc : EvT X B ρ c t) (ha : t = true → Run X B a ρ P) (hb : t = false → Run X B b ρ P) : Run1 X B (.If c a b pos) ρ P := fun σ G H E => by
  refine wS_of (ps_if pt_w pss_w pss_w) ?_
  refine hc σ G H E _ fun G1 H1 l => ?_
  cases t with
  | true => rw [if_pos rfl]; exact (ha rfl).at (E.mono l) l.g
  | false => rw [if_neg (by decide)]; exact (hb rfl).at (E.mono l) l.g
/-- return e -/
theorem run_ret {e : Expr} {pos : Pos} {r : Rs} (he : EvR X B ρ e r) (h : P.rt r) : Run X B (.Return (some e) pos :: rest) ρ P := fun σ G H E => by
  refine wSs_of (pss_cons (ps_ret pe_w) pss_w) ?_
  exact he σ G H E _ fun v G1 H1 l q => ⟨G1, r, E.le.trans l, q.back E.le.h, h⟩
theorem run_retN {pos : Pos} (h : P.rt (.d .none)) : Run X B (.Return none pos :: rest) ρ P := fun σ G H E => by
  refine wSs_of (pss_cons ps_retN pss_w) ?_
  exact ⟨G, .d .none, E.le, .non, h⟩
/-- return of a name that holds a list (a dict) of one's own -/
theorem run_retL {i : Nat} {x : Str} {pos p : Pos} {ds : List PyData} (hi : ρ[i]? = some (.l ds)) (h : P.rt (.l ds)) (hN : X.N[i]? = some x) (hv : Vis X.env.scope x) (h1 : (x == ("__debug__" : Str)) = false := by decide) (h2 : (x == ("__classdict__" : Str)) = false := by decide) : Run X B (.Return (some (.Name x p)) pos :: rest) ρ P := fun σ G H E => by
  obtain ⟨q, xs, e, z⟩ := E.lst hi
  refine wSs_of (pss_cons (ps_ret (pe_var hN hv h1 h2)) pss_w) ⟨_, e, ?_⟩
  exact ⟨G, .l ds, E.le, ⟨q, xs, rfl, z⟩, h⟩
theorem run_retD {i : Nat} {x : Str} {pos p : Pos} {ds : List (Key × PyData)} (hi : ρ[i]? = some (.m ds)) (h : P.rt (.m ds)) (hN : X.N[i]? = some x) (hv : Vis X.env.scope x) (h1 : (x == ("__debug__" : Str)) = false := by decide) (h2 : (x == ("__classdict__" : Str)) = false := by decide) : Run X B (.Return (some (.Name x p)) pos :: rest) ρ P := fun σ G H E => by
  obtain ⟨q, xs, e, z⟩ := E.dct hi
  refine wSs_of (pss_cons (ps_ret (pe_var hN hv h1 h2)) pss_w) ⟨_, e, ?_⟩
  exact ⟨G, .m ds, E.le, ⟨q, xs, rfl, z⟩, h⟩
/-- an expression whose value is dropped -/
theorem run_expr {e : Expr} {pos : Pos} {r : Rs} (he : EvR X B ρ e r) (k : Run X B rest ρ P) (hs : swapsWith e none pos.line X.env = pure false := by rfl) : Run X B (.Expr e pos :: rest) ρ P := fun σ G H E => by
  refine wSs_of (pss_cons (ps_expr pe_w hs) pss_w) ?_
  exact he σ G H E _ fun v G1 H1 l q => k.at (E.mono l) l.g
/-- what is one's own is frozen, before whatever comes -/
theorem run_fzL {sts : List Stmt} (i : Nat) {ds : List PyData} (hi : ρ[i]? = some (.l ds)) (k : Run X B sts (ρ.set i (.d (.list ds))) P) : Run X B sts ρ P := fun σ G H E => by
  obtain ⟨G', sg, E'⟩ := E.fzL hi
  exact k.at E' sg
theorem run_fzD {sts : List Stmt} (i : Nat) {ds : List (Key × PyData)} (hi : ρ[i]? = some (.m ds)) (k : Run X B sts (ρ.set i (.d (.dict (dK ds)))) P) : Run X B sts ρ P := fun σ G H E pins s I => by
  obtain ⟨p, ks, h1, h⟩ := E.fzD hi
  obtain ⟨od, I'⟩ := I.lock h1 trivial
  obtain ⟨G', sg, E'⟩ := h od
  exact k.at E' sg pins s I'
/-- x.append(e), x one's own -/
theorem run_append {i : Nat} {x : Str} {e : Expr} {p apos cpos pos : Pos} {ds : List PyData} {d : PyData} (he : Ev X B ρ e d) (hi : ρ[i]? = some (.l ds)) (hl : ds.length < sizeLine) (hN : X.N[i]? = some x) (hv : Vis X.env.scope x) (k : Run X B rest (ρ.set i (.l (ds ++ [d]))) P)
    (h1 : (x == ("__debug__" : Str)) = false := by decide) (h2 : (x == ("__classdict__" : Str)) = false := by decide)
    (hst : starEach (e :: []) X.env = (false, eval e X.env) :: starEach [] X.env := by rfl)
    (hbase : attributeBase (.Name x p) "append" X.env (eval (.Name x p) X.env) = eval (.Name x p) X.env := by rfl)
    (hfew : ((backTo cpos (starEach (e :: []) X.env)).all (fun x => !x.1) && (backToKw cpos (keywordEach [] X.env)).all (fun x => x.1.isSome)
      && decide ((e :: []).length + ([] : List Keyword).length + (if ([] : List Keyword).isEmpty then 0 else 1) < 30)) = true := by rfl)
    (hline : (apos.endLine == cpos.line) = true := by rfl) (hplain : (backTo cpos (starEach [] X.env)).any (·.1) = false := by rfl)
    (hs : swapsWith (.Call (.Attribute (.Name x p) "append" apos) [e] [] cpos) none pos.line X.env = pure false := by rfl) :
    Run X B (.Expr (.Call (.Attribute (.Name x p) "append" apos) [e] [] cpos) pos :: rest) ρ P := fun σ G H E => by
  obtain ⟨q, xs, eq, h0, g0, hq, rq⟩ := E.lst hi
  refine wSs_of (pss_cons (ps_expr (pe_bm PySem.F.plainAttrs_list PySem.F.slot_list_append PySem.F.type_list_append mt_append (pe_var hN hv h1 h2) (pa_cons pe_w pa_nil hst) hbase hfew hline hst hplain) hs) pss_w) ?_
  refine ⟨_, eq, .inl ⟨rfl, xs, SqL.of hq⟩, ?_⟩
  refine he σ G H E _ fun v G1 H1 l rv => ?_
  refine ⟨q, xs, v, rfl, rfl, l.h _ _ hq, by rw [rq.length]; exact hl, ?_⟩
  exact k.at ((E.mono l).mutL hi eq ((rq.le l.g).append (.cons rv .nil))) l.g
/-- x.extend(e) -/
theorem run_extend {i : Nat} {x : Str} {e : Expr} {p apos cpos pos : Pos} {ds es : List PyData} (he : EvR X B ρ e (.l es)) (hi : ρ[i]? = some (.l ds)) (hl : ds.length + es.length ≤ sizeLine) (hN : X.N[i]? = some x) (hv : Vis X.env.scope x) (k : Run X B rest (ρ.set i (.l (ds ++ es))) P)
    (h1 : (x == ("__debug__" : Str)) = false := by decide) (h2 : (x == ("__classdict__" : Str)) = false := by decide)
    (hst : starEach (e :: []) X.env = (false, eval e X.env) :: starEach [] X.env := by rfl)
    (hbase : attributeBase (.Name x p) "extend" X.env (eval (.Name x p) X.env) = eval (.Name x p) X.env := by rfl)
    (hfew : ((backTo cpos (starEach (e :: []) X.env)).all (fun x => !x.1) && (backToKw cpos (keywordEach [] X.env)).all (fun x => x.1.isSome)
      && decide ((e :: []).length + ([] : List Keyword).length + (if ([] : List Keyword).isEmpty then 0 else 1) < 30)) = true := by rfl)
    (hline : (apos.endLine == cpos.line) = true := by rfl) (hplain : (backTo cpos (starEach [] X.env)).any (·.1) = false := by rfl)
    (hs : swapsWith (.Call (.Attribute (.Name x p) "extend" apos) [e] [] cpos) none pos.line X.env = pure false := by rfl) :
    Run X B (.Expr (.Call (.Attribute (.Name x p) "extend" apos) [e] [] cpos) pos :: rest) ρ P := fun σ G H E => by
  obtain ⟨q, xs, eq, h0, g0, hq, rq⟩ := E.lst hi
  refine wSs_of (pss_cons (ps_expr (pe_bm PySem.F.plainAttrs_list PySem.F.slot_list_extend PySem.F.type_list_extend mt_extend (pe_var hN hv h1 h2) (pa_cons pe_w pa_nil hst) hbase hfew hline hst hplain) hs) pss_w) ?_
  refine ⟨_, eq, .inl ⟨rfl, xs, SqL.of hq⟩, ?_⟩
  refine he σ G H E _ fun v G1 H1 l rv => ?_
  obtain ⟨b, zs, rfl, b0, bg, hb, rz⟩ := rv
  refine ⟨q, b, xs, zs, rfl, rfl, l.h _ _ hq, hb, by rw [rq.length, rz.length]; exact hl, ?_⟩
  exact k.at ((E.mono l).mutL hi eq ((rq.le l.g).append rz)) l.g
/-- y = x.pop() -/
theorem run_pop {i j : Nat} {x y : Str} {p py apos cpos pos : Pos} {ds : List PyData} {d : PyData} (hi : ρ[i]? = some (.l (ds ++ [d]))) (hij : i ≠ j) (hNd : X.N.Nodup) (hN : X.N[i]? = some x) (hv : Vis X.env.scope x) (hj : X.N[j]? = some y) (hy : Loc X.env.scope y) (k : Run X B rest ((ρ.set i (.l ds)).set j (.d d)) P)
    (h1 : (x == ("__debug__" : Str)) = false := by decide) (h2 : (x == ("__classdict__" : Str)) = false := by decide)
    (hbase : attributeBase (.Name x p) "pop" X.env (eval (.Name x p) X.env) = eval (.Name x p) X.env := by rfl)
    (hline : (apos.endLine == cpos.line) = true := by rfl)
    (hs : swapsWith (.Call (.Attribute (.Name x p) "pop" apos) [] [] cpos) (some (.Name y py)) pos.line X.env = pure false := by rfl) (hf : X.fn y = true ∨ X.env.scope.names.lookup y = some .local := by first | exact .inl rfl | exact .inr rfl | assumption) :
    Run X B (.Assign [.Name y py] (.Call (.Attribute (.Name x p) "pop" apos) [] [] cpos) pos :: rest) ρ P := fun σ G H E => by
  obtain ⟨q, xs, eq, h0, g0, hq, rq⟩ := E.lst hi
  refine wSs_of (pss_cons (ps_set hNd hj hy (pe_bm0 PySem.F.plainAttrs_list PySem.F.slot_list_pop PySem.F.type_list_pop mt_pop (pe_var hN hv h1 h2) hbase hline) hs hf) pss_w) ?_
  refine ⟨_, eq, .inl ⟨rfl, xs, SqL.of hq⟩, ?_⟩
  obtain ⟨v, hv', rv⟩ := rq.get (i := ds.length) (d := d) (by simp)
  have hlen : xs.length - 1 = ds.length := by rw [rq.length]; simp
  refine ⟨q, xs, v, rfl, rfl, hq, by rw [hlen]; exact hv', ?_⟩
  have rq' : RpA (md X) G xs.dropLast ds := by
    have z := rq.dropLast
    rw [List.dropLast_concat] at z
    exact z
  have E1 := E.mutL hi eq rq'
  exact k.at (E1.set (Le.refl E1.le.i) (r := .d d) rv j) (Same.refl G)
/-- x[a] = e, x a list of one's own -/
theorem run_setL {i : Nat} {x : Str} {a e : Expr} {p ipos pos : Pos} {ds : List PyData} {d : PyData} {n : Int} {j : Nat} (he : Ev X B ρ e d) (ha : Ev X B ρ a (.int n)) (hi : ρ[i]? = some (.l ds)) (hj : ixN ds.length n = some j) (hN : X.N[i]? = some x) (hv : Vis X.env.scope x) (k : Run X B rest (ρ.set i (.l (ds.set j d))) P)
    (h1 : (x == ("__debug__" : Str)) = false := by decide) (h2 : (x == ("__classdict__" : Str)) = false := by decide)
    (has : ∀ v, assign (.Subscript (.Name x p) a ipos) X.env v = (do
      let ov ← holding [v] (eval (.Name x p) X.env)
      let iv ← holding [v, ov] (eval a X.env)
      standAt ipos
      holding [v, ov, iv] (setItem ov iv v)
      release [v, ov, iv] []) := by intro _; rfl)
    (hs : swapsWithSole [.Subscript (.Name x p) a ipos] e pos.line X.env = pure false := by rfl) (hw : swappedStores [.Subscript (.Name x p) a ipos] e X.env = pure none := by rfl)
    (h3 : (assignEach [.Subscript (.Name x p) a ipos] X.env).map (·.2) = [assign (.Subscript (.Name x p) a ipos) X.env] := by rfl) :
    Run X B (.Assign [.Subscript (.Name x p) a ipos] e pos :: rest) ρ P := fun σ G H E => by
  obtain ⟨q, xs, eq, h0, g0, hq, rq⟩ := E.lst hi
  refine wSs_of (pss_cons (ps_asg pe_w (pg_sub (pe_var hN hv h1 h2) pe_w set_list has) hs hw h3) pss_w) ?_
  refine he σ G H E _ fun v G1 H1 l1 rv => ⟨_, eq, ?_⟩
  refine ha σ G1 H1 (E.mono l1) _ fun u G2 H2 l2 ru => ?_
  refine ⟨q, xs, n, j, rfl, rp_int ru, l2.h _ _ (l1.h _ _ hq), by rw [rq.length]; exact hj, ?_⟩
  exact k.at ((E.mono (l1.trans l2)).mutL hi eq ((rq.le (l1.g.trans l2.g)).set (Rp.le l2.g rv) j)) (l1.g.trans l2.g)
/-- x[a] = e, x a dict of one's own -/
theorem run_setD {i : Nat} {x : Str} {a e : Expr} {p ipos pos : Pos} {ds : List (Key × PyData)} {d : PyData} {n : Key} (hu : X.A.units + 1 < cLine) (he : Ev X B ρ e d) (ha : Ev X B ρ a (kD n)) (hi : ρ[i]? = some (.m ds)) (hl : ds.length < sizeLine) (hN : X.N[i]? = some x) (hv : Vis X.env.scope x) (k : Run X B rest (ρ.set i (.m (putD ds n d))) P)
    (h1 : (x == ("__debug__" : Str)) = false := by decide) (h2 : (x == ("__classdict__" : Str)) = false := by decide)
    (hs : swapsWith e (some (.Subscript (.Name x p) a ipos)) pos.line X.env = pure false := by rfl) :
    Run X B (.Assign [.Subscript (.Name x p) a ipos] e pos :: rest) ρ P := fun σ G H E => by
  obtain ⟨q, xs, eq, h0, g0, hq, rq⟩ := E.dct hi
  refine wSs_of (pss_cons (ps_dput hu (pe_var hN hv h1 h2) pe_w pe_w hs) pss_w) ?_
  refine he σ G H E _ fun v G1 H1 l1 rv => ⟨_, eq, ?_⟩
  refine ha σ G1 H1 (E.mono l1) _ fun u G2 H2 l2 ru => ?_
  have ek : u = kV n := by
    cases n with
    | inl j => exact rp_int ru
    | inr j => exact rp_str ru
  subst ek
  refine ⟨q, _, rfl, DPut.k (l2.h _ _ (l1.h _ _ hq)) (by rw [rq.length]; exact hl), ?_⟩
  exact k.at ((E.mono (l1.trans l2)).mutD hi eq ((rq.le (l1.g.trans l2.g)).put (Rp.le l2.g rv))) (l1.g.trans l2.g)
/-- for over data: an invariant by the turn -/
theorem run_for {tg iter : Expr} {body : List Stmt} {pos : Pos} {ds : List PyData} {is : List Nat} (I : Nat → List Sl → Prop) (hp : PassesOwn (model X.prog X.w) X.A X.env X.xe) (hc : X.calm = true) (hi : EvI X B ρ tg iter ds) (h0 : I 0 ρ)
    (hg : ∀ i d ρ', ds[i]? = some d → I i ρ' → ∃ ρ2, EvG X B tg is d ρ' ρ2 ∧ Run X B body ρ2 { P with nx := I (i + 1), ct := I (i + 1), bk := fun ρ' => Run X B rest ρ' P })
    (hd : ∀ ρ', I ds.length ρ' → Run X B rest ρ' P) (hs : ∀ x, foldedSetIterable iter X.env x = pure x := by intro _; rfl) : Run X B (.For tg iter body [] pos :: rest) ρ P := fun σ G H E => by
  refine wSs_of (pss_cons (ps_for hp hc pi_w pg_w pss_w hs) pss_w) ?_
  refine hi σ G H E _ fun J G1 H1 l1 it => ?_
  refine ⟨fun i m σ' H' => m = ds.length - i ∧ i ≤ ds.length ∧ ∃ ρ' G', En (md X) B ρ' σ' G' H' ∧ Same G1 G' ∧ I i ρ', ⟨ds.length, by simp, Nat.zero_le _, ρ, G1, E.mono l1, Same.refl _, h0⟩, ?_⟩
  rintro i m σ' H' ⟨rfl, hle, ρ', G', E', sG, hI⟩
  by_cases hlt : i < ds.length
  · refine .inr ⟨it.go i G' H' sG E'.le.i hlt, fun σ2 H2 => ∃ ρ' G', En (md X) B ρ' σ2 G' H2 ∧ Same G1 G' ∧ I (i + 1) ρ', fun σ2 H2 p => ⟨ds.length - (i + 1), by omega, rfl, hlt, p⟩, fun x H2 y => ?_⟩
    have hd' : ds[i]? = some ds[i] := by simp [hlt]
    obtain ⟨G2, l2, rx⟩ := it.yld i _ G' H' H2 x sG E'.le.i hd' y
    obtain ⟨ρ2, eg, run⟩ := hg i _ ρ' hd' hI
    refine eg x σ' G2 H2 (E'.mono l2) rx _ fun σ3 E3 _ => ?_
    have sG2 : Same G1 G2 := sG.trans l2.g
    refine wSs_mono (run.at E3 sG2) (fun _ _ ⟨a, b, c, d, e⟩ => ⟨a, b, c, d, e⟩) (fun _ _ q => q) (fun _ _ ⟨a, b, c, d, e⟩ => e.at c (l1.g.trans d)) (fun _ _ ⟨a, b, c, d, e⟩ => ⟨a, b, c, d, e⟩)
  · have e : i = ds.length := by omega
    subst e
    exact .inl ⟨it.stop _ G' H' sG E'.le.i (Nat.le_refl _), (hd ρ' hI).at E' (l1.g.trans sG)⟩
/-- while: an invariant with its measure -/
theorem run_while {c : Expr} {body : List Stmt} {pos : Pos} (I : Nat → List Sl → Prop) (hp : PassesOwn (model X.prog X.w) X.A X.env X.xe) (m0 : Nat) (h0 : I m0 ρ)
    (hs : ∀ m ρ', I m ρ' → ∃ b, EvT X B ρ' c b ∧ (b = true → Run X B body ρ' { P with nx := fun ρ2 => ∃ m', m' < m ∧ I m' ρ2, ct := fun ρ2 => ∃ m', m' < m ∧ I m' ρ2, bk := fun ρ' => Run X B rest ρ' P }) ∧ (b = false → Run X B rest ρ' P)) : Run X B (.While c body [] pos :: rest) ρ P := fun σ G H E => by
  refine wSs_of (pss_cons (ps_while hp pt_w pss_w) pss_w) ?_
  refine ⟨fun m σ' H' => ∃ ρ' G', En (md X) B ρ' σ' G' H' ∧ Same G G' ∧ I m ρ', ⟨m0, ρ, G, E, Same.refl G, h0⟩, ?_⟩
  rintro m σ' H' ⟨ρ', G', E', sG, hI⟩
  obtain ⟨b, hb, h1, h2⟩ := hs m ρ' hI
  refine hb σ' G' H' E' _ fun G2 H2 l => ?_
  cases b with
  | true =>
    rw [if_pos rfl]
    refine ⟨fun σ2 H2 => ∃ m', m' < m ∧ ∃ ρ' G', En (md X) B ρ' σ2 G' H2 ∧ Same G G' ∧ I m' ρ', fun σ2 H2 ⟨m', hm, z⟩ => ⟨m', hm, z⟩, ?_⟩
    refine wSs_mono ((h1 rfl).at (E'.mono l) (sG.trans l.g)) (fun _ _ ⟨a, b, c, d, m', hm, e⟩ => ⟨m', hm, a, b, c, d, e⟩) (fun _ _ q => q) (fun _ _ ⟨a, b, c, d, e⟩ => e.at c d) (fun _ _ ⟨a, b, c, d, m', hm, e⟩ => ⟨m', hm, a, b, c, d, e⟩)
  | false =>
    rw [if_neg (by decide)]
    exact (h2 rfl).at (E'.mono l) (sG.trans l.g)
end

/-! ### 10. a def by its body -/
def startS (n : Nat) (ds : List PyData) : List Sl := ds.map .d ++ List.replicate (n - ds.length) .no
def retP (r : Rs) : Po := { nx := fun _ => r = .d .none, rt := fun r' => r' = r }
theorem startS_in {n i : Nat} {ds : List PyData} (h : i < ds.length) : (startS n ds)[i]? = ds[i]?.map .d := by
  unfold startS
  rw [List.getElem?_append_left (by rw [List.length_map]; exact h), List.getElem?_map]
theorem startS_out {n i : Nat} {ds : List PyData} (h : ¬ i < ds.length) : (startS n ds)[i]? = none ∨ (startS n ds)[i]? = some .no := by
  unfold startS
  rw [List.getElem?_append_right (by rw [List.length_map]; omega), List.getElem?_replicate]
  split
  · exact .inr rfl
  · exact .inl rfl
theorem start_in {N : List Str} {i : Nat} {vs : List V} (h : i < vs.length) : (L2.start N vs)[i]? = vs[i]?.map some := by
  unfold L2.start
  rw [List.getElem?_append_left (by rw [List.length_map]; exact h), List.getElem?_map]
theorem en_start {M : Md} {G H : Hp} {vs : List V} {ds : List PyData} {N : List Str} (s : Same G H) (r : RpA M G vs ds) : En M ⟨G, H⟩ (startS N.length ds) (L2.start N vs) G H := by
  refine ⟨Le.refl s, ?_, fun i => ?_, fun i j p _ h => ?_⟩
  · unfold startS L2.start
    rw [List.length_append, List.length_append, List.length_map, List.length_map, List.length_replicate, List.length_replicate, r.length]
  · by_cases hi : i < ds.length
    · have e : ds[i]? = some ds[i] := by simp [hi]
      obtain ⟨v, hv, rv⟩ := r.get e
      rw [startS_in hi, start_in (by rw [r.length]; exact hi), e, hv]
      exact ⟨v, rfl, rv⟩
    · rcases startS_out (n := N.length) hi with z | z <;> rw [z] <;> trivial
  · by_cases hi : i < ds.length
    · have e : ds[i]? = some ds[i] := by simp [hi]
      rw [startS_in hi, e] at h
      exact fun _ _ _ => h
    · rcases startS_out (n := N.length) hi with z | z <;> rw [z] at h <;> exact fun _ _ _ => h
theorem fn_ok {P : Program} {w : World} {K : PySem.W.Frag} {mg : Str → Option Value} {base : Heap} {x qual : Str} {params : Arguments} {body : List Stmt} {scope : Scope} {f : Addr} {fd : FuncData} {N ps : List Str} {k : Nat} {pre : List PyData → Rs → Prop}
    (F : FunD K x qual params body scope [] [] f fd) (S : FnScope N ps scope) (len : ∀ ds r, pre ds r → ds.length = ps.length)
    (h : ∀ (cdv : Value) (A : Around) (outer : List Env) (s : Shared) (H : Hp) (E : XK) (G : Hp) (ds : List PyData) (r : Rs), Room k (A.deeper (envOfC qual scope s.heap.objs.size f cdv)) → pre ds r →
      Run (cxOf CX0 P w K mg base N qual scope f cdv A outer s H E).nox ⟨G, H⟩ body (startS N.length ds) (retP r)) : FnOk P w K mg base CX0 (k + 1) f fd ps (spD ⟨P, w, K⟩ pre) := by
  refine F.ok S (fun vs H Q E q => ?_) (fun cdv A outer s H vs Q E hr q => ?_)
  · obtain ⟨G, ds, r, s, rs, hp, _⟩ := q
    rw [rs.length]
    exact len ds r hp
  · obtain ⟨G, ds, r, sg, rs, hp, kq⟩ := q
    refine ⟨_, PSs.nox pss_w, ?_⟩
    refine wSs_mono (h cdv A outer s H E G ds r hr hp _ G H (en_start sg rs)) (fun σ' H' q => ?_) (fun v H' q => ?_) (fun _ _ ⟨_, _, _, _, q⟩ => q.elim) (fun _ _ ⟨_, _, _, _, q⟩ => q.elim)
    · obtain ⟨ρ', G', E', _, e⟩ := q
      have e' : r = .d .none := e
      subst e'
      exact kq .non G' H' E'.le .non
    · obtain ⟨G', r', l, q, e⟩ := q
      have e' : r' = r := e
      subst e'
      exact kq v G' H' l q
end DH
namespace DH
open PySem PySem.Spec L2
open PyProof.Rows (envOfC)

/-! ### 11. built-in functions and classes -/
section
variable {X : Cx} {B : Bs} {ρ : List Sl} {p pos : Pos} {e a b : Expr}
theorem one_rp {M : Md} {G : Hp} {vs : List V} {d : PyData} (h : RpA M G vs [d]) : ∃ v, vs = [v] ∧ Rp M G v d := by
  cases h with
  | cons r t => cases t; exact ⟨_, rfl, r⟩
theorem two_rp {M : Md} {G : Hp} {vs : List V} {d d2 : PyData} (h : RpA M G vs [d, d2]) : ∃ v u, vs = [v, u] ∧ Rp M G v d ∧ Rp M G u d2 := by
  cases h with
  | cons r t => cases t with
    | cons r2 t => cases t; exact ⟨_, _, rfl, r, r2⟩
theorem ev_lenL {ds : List PyData} (hm : X.mg "len" = none) (h : Ev X B ρ e (.list ds)) (hg : Gl X "len" := by rfl) (he : starEach (e :: []) X.env = (false, eval e X.env) :: starEach [] X.env := by rfl) (hpl : (backTo pos (starEach [] X.env)).any (·.1) = false := by rfl) : Ev X B ρ (.Call (.Name "len" p) [e] [] pos) (.int ds.length) :=
  ev_callB call_len_seq hm (ea_cons h ea_nil he) (fun G H vs s r0 Q k => by
    obtain ⟨v, rfl, r⟩ := one_rp r0
    obtain ⟨q, xs, rfl, hq, rx⟩ := rp_lst r
    exact ⟨q, xs, rfl, .inl (same_l s hq), by rw [rx.length]; exact k _ G H (Le.refl s) (.int _)⟩) (hv := PySem.boot_len) (hg := hg) (he := he) (hpl := hpl)
theorem ev_lenT {ds : List PyData} (hm : X.mg "len" = none) (h : Ev X B ρ e (.tuple ds)) (hg : Gl X "len" := by rfl) (he : starEach (e :: []) X.env = (false, eval e X.env) :: starEach [] X.env := by rfl) (hpl : (backTo pos (starEach [] X.env)).any (·.1) = false := by rfl) : Ev X B ρ (.Call (.Name "len" p) [e] [] pos) (.int ds.length) :=
  ev_callB call_len_seq hm (ea_cons h ea_nil he) (fun G H vs s r0 Q k => by
    obtain ⟨v, rfl, r⟩ := one_rp r0
    obtain ⟨q, xs, rfl, hq, rx⟩ := rp_tup r
    exact ⟨q, xs, rfl, .inr (same_t s hq), by rw [rx.length]; exact k _ G H (Le.refl s) (.int _)⟩) (hv := PySem.boot_len) (hg := hg) (he := he) (hpl := hpl)
theorem ev_lenS {z : Str} (hm : X.mg "len" = none) (h : Ev X B ρ e (.str z)) (hl : z.length ≤ sizeLine) (hg : Gl X "len" := by rfl) (he : starEach (e :: []) X.env = (false, eval e X.env) :: starEach [] X.env := by rfl) (hpl : (backTo pos (starEach [] X.env)).any (·.1) = false := by rfl) : Ev X B ρ (.Call (.Name "len" p) [e] [] pos) (.int z.length) :=
  ev_callB call_len_str hm (ea_cons h ea_nil he) (fun G H vs s r0 Q k => by
    obtain ⟨v, rfl, r⟩ := one_rp r0
    exact ⟨z, by rw [rp_str r], hl, k _ G H (Le.refl s) (.int _)⟩) (hv := PySem.boot_len) (hg := hg) (he := he) (hpl := hpl)
/-- len of a list of one's own -/
theorem ev_lenO {i : Nat} {x : Str} {q : Pos} {ds : List PyData} (hm : X.mg "len" = none) (hi : ρ[i]? = some (.l ds)) (hN : X.N[i]? = some x) (hv : Vis X.env.scope x) (h1 : (x == ("__debug__" : Str)) = false := by decide) (h2 : (x == ("__classdict__" : Str)) = false := by decide) (hg : Gl X "len" := by rfl)
    (he : starEach (.Name x q :: []) X.env = (false, eval (.Name x q) X.env) :: starEach [] X.env := by rfl) (hpl : (backTo pos (starEach [] X.env)).any (·.1) = false := by rfl) : Ev X B ρ (.Call (.Name "len" p) [.Name x q] [] pos) (.int ds.length) := fun σ G H E Q k => by
  obtain ⟨q, xs, eq, h0, g0, hq, rq⟩ := E.lst hi
  refine wE_of (pe_callB call_len_seq hg hm PySem.boot_len (pa_cons (pe_var hN hv h1 h2) pa_nil he) (by decide) (by decide) he hpl) ⟨_, eq, q, xs, rfl, .inl (SqL.of hq), ?_⟩
  rw [rq.length]
  exact k _ G H (Le.refl E.le.i) (.int _)
/-- x[a], x a list of one's own -/
theorem ev_ixO {i : Nat} {x : Str} {q : Pos} {ds : List PyData} {n : Int} {d : PyData} (hb : Ev X B ρ b (.int n)) (hi : ρ[i]? = some (.l ds)) (hd : atI ds n = some d) (hN : X.N[i]? = some x) (hv : Vis X.env.scope x) (h1 : (x == ("__debug__" : Str)) = false := by decide) (h2 : (x == ("__classdict__" : Str)) = false := by decide)
    (hs : PlainIx b := by intro _ _; rfl) : Ev X B ρ (.Subscript (.Name x q) b pos) d := fun σ G H E Q k => by
  obtain ⟨q, xs, eq, h0, g0, hq, rq⟩ := E.lst hi
  refine wE_of (pe_ix ix_list (pe_var hN hv h1 h2) pe_w hs) ⟨_, eq, ?_⟩
  refine hb σ G H E _ fun y G2 H2 l2 ry => ?_
  obtain ⟨v, hv', rv⟩ := rq.at hd
  exact ⟨q, xs, n, v, rfl, rp_int ry, SqL.of (l2.h _ _ hq), hv', k v G2 H2 l2 (Rp.le l2.g rv)⟩
theorem ev_int1 {i : Int} (hm : X.mg "int" = none) (h : Ev X B ρ e (.int i)) (hg : Gl X "int" := by rfl) (he : starEach (e :: []) X.env = (false, eval e X.env) :: starEach [] X.env := by rfl) (hpl : (backTo pos (starEach [] X.env)).any (·.1) = false := by rfl) : Ev X B ρ (.Call (.Name "int" p) [e] [] pos) (.int i) :=
  ev_callTy call_int1 hm (ea_cons h ea_nil he) (fun G H vs s r0 Q k => by
    obtain ⟨v, rfl, r⟩ := one_rp r0
    exact .inl ⟨i, by rw [rp_int r], k _ G H (Le.refl s) (.int _)⟩) (hg := hg) (he := he) (hpl := hpl)
theorem ev_intB {c : Bool} (hm : X.mg "int" = none) (h : Ev X B ρ e (.bool c)) (hg : Gl X "int" := by rfl) (he : starEach (e :: []) X.env = (false, eval e X.env) :: starEach [] X.env := by rfl) (hpl : (backTo pos (starEach [] X.env)).any (·.1) = false := by rfl) : Ev X B ρ (.Call (.Name "int" p) [e] [] pos) (.int (if c then 1 else 0)) :=
  ev_callTy call_int1 hm (ea_cons h ea_nil he) (fun G H vs s r0 Q k => by
    obtain ⟨v, rfl, r⟩ := one_rp r0
    exact .inr ⟨c, by rw [rp_bl r], k _ G H (Le.refl s) (.int _)⟩) (hg := hg) (he := he) (hpl := hpl)
theorem ev_abs {i : Int} (hm : X.mg "abs" = none) (h : Ev X B ρ e (.int i)) (hg : Gl X "abs" := by rfl) (he : starEach (e :: []) X.env = (false, eval e X.env) :: starEach [] X.env := by rfl) (hpl : (backTo pos (starEach [] X.env)).any (·.1) = false := by rfl) : Ev X B ρ (.Call (.Name "abs" p) [e] [] pos) (.int (if i < 0 then -i else i)) :=
  ev_callB call_abs hm (ea_cons h ea_nil he) (fun G H vs s r0 Q k => by
    obtain ⟨v, rfl, r⟩ := one_rp r0
    exact ⟨i, by rw [rp_int r], k _ G H (Le.refl s) (.int _)⟩) (hg := hg) (he := he) (hpl := hpl)
theorem ev_min2 {i j : Int} (hc : X.calm = true) (hm : X.mg "min" = none) (h : EvA X B ρ [a, b] [.int i, .int j]) (hg : Gl X "min" := by rfl) (he : starEach (a :: [b]) X.env = (false, eval a X.env) :: starEach [b] X.env := by rfl) (hpl : (backTo pos (starEach [b] X.env)).any (·.1) = false := by rfl) :
    Ev X B ρ (.Call (.Name "min" p) [a, b] [] pos) (.int (if j < i then j else i)) :=
  ev_callB (call_min2 hc) hm h (fun G H vs s r0 Q k => by
    obtain ⟨v, u, rfl, r, r2⟩ := two_rp r0
    exact ⟨i, j, by rw [rp_int r, rp_int r2], k _ G H (Le.refl s) (.int _)⟩) (hg := hg) (he := he) (hpl := hpl)
theorem ev_sum {ns : List Int} (hc : X.calm = true) (hm : X.mg "sum" = none) (h : Ev X B ρ e (.list (ns.map .int))) (hg : Gl X "sum" := by rfl) (he : starEach (e :: []) X.env = (false, eval e X.env) :: starEach [] X.env := by rfl) (hpl : (backTo pos (starEach [] X.env)).any (·.1) = false := by rfl) : Ev X B ρ (.Call (.Name "sum" p) [e] [] pos) (.int ns.sum) :=
  ev_callB (cr_sum hc) hm (ea_cons h ea_nil he) (fun G H vs s r0 Q k => by
    obtain ⟨v, rfl, r⟩ := one_rp r0
    obtain ⟨q, xs, rfl, hq, rx⟩ := rp_lst r
    exact ⟨q, ns, rfl, by rw [← rpa_ints rx]; exact same_l s hq, k _ G H (Le.refl s) (.int _)⟩) (hg := hg) (he := he) (hpl := hpl)
theorem ev_all {ns : List Bool} (hc : X.calm = true) (hm : X.mg "all" = none) (h : Ev X B ρ e (.list (ns.map .bool))) (hg : Gl X "all" := by rfl) (he : starEach (e :: []) X.env = (false, eval e X.env) :: starEach [] X.env := by rfl) (hpl : (backTo pos (starEach [] X.env)).any (·.1) = false := by rfl) : Ev X B ρ (.Call (.Name "all" p) [e] [] pos) (.bool (ns.all id)) :=
  ev_callB (cr_all hc) hm (ea_cons h ea_nil he) (fun G H vs s r0 Q k => by
    obtain ⟨v, rfl, r⟩ := one_rp r0
    obtain ⟨q, xs, rfl, hq, rx⟩ := rp_lst r
    exact ⟨q, ns, rfl, by rw [← rpa_bools rx]; exact same_l s hq, k _ G H (Le.refl s) (.bl _)⟩) (hg := hg) (he := he) (hpl := hpl)
/-- list(x), tuple(x) -/
theorem ev_listL {ds : List PyData} (hm : X.mg "list" = none) (h : Ev X B ρ e (.list ds)) (hg : Gl X "list" := by rfl) (he : starEach (e :: []) X.env = (false, eval e X.env) :: starEach [] X.env := by rfl) (hpl : (backTo pos (starEach [] X.env)).any (·.1) = false := by rfl) : EvR X B ρ (.Call (.Name "list" p) [e] [] pos) (.l ds) :=
  ev_callTy call_list_of hm (ea_cons h ea_nil he) (fun G H vs s r0 Q k => by
    obtain ⟨v, rfl, r⟩ := one_rp r0
    obtain ⟨q, xs, rfl, hq, rx⟩ := rp_lst r
    exact ⟨q, xs, rfl, .inl (same_l s hq), fun l hl => k _ G _ ((Le.refl s).own hl) ⟨l, xs, rfl, hl, s.free hl, upd_same, rx⟩⟩) (hg := hg) (he := he) (hpl := hpl)
theorem ev_listT {ds : List PyData} (hm : X.mg "list" = none) (h : Ev X B ρ e (.tuple ds)) (hg : Gl X "list" := by rfl) (he : starEach (e :: []) X.env = (false, eval e X.env) :: starEach [] X.env := by rfl) (hpl : (backTo pos (starEach [] X.env)).any (·.1) = false := by rfl) : EvR X B ρ (.Call (.Name "list" p) [e] [] pos) (.l ds) :=
  ev_callTy call_list_of hm (ea_cons h ea_nil he) (fun G H vs s r0 Q k => by
    obtain ⟨v, rfl, r⟩ := one_rp r0
    obtain ⟨q, xs, rfl, hq, rx⟩ := rp_tup r
    exact ⟨q, xs, rfl, .inr (same_t s hq), fun l hl => k _ G _ ((Le.refl s).own hl) ⟨l, xs, rfl, hl, s.free hl, upd_same, rx⟩⟩) (hg := hg) (he := he) (hpl := hpl)
theorem ev_tupleL {ds : List PyData} (hm : X.mg "tuple" = none) (h : Ev X B ρ e (.list ds)) (hg : Gl X "tuple" := by rfl) (he : starEach (e :: []) X.env = (false, eval e X.env) :: starEach [] X.env := by rfl) (hpl : (backTo pos (starEach [] X.env)).any (·.1) = false := by rfl) : Ev X B ρ (.Call (.Name "tuple" p) [e] [] pos) (.tuple ds) :=
  ev_callTy call_tuple_of hm (ea_cons h ea_nil he) (fun G H vs s r0 Q k => by
    obtain ⟨v, rfl, r⟩ := one_rp r0
    obtain ⟨q, xs, rfl, hq, rx⟩ := rp_lst r
    exact ⟨q, xs, rfl, .inl ⟨same_l s hq, fun l hl => k _ (upd G l (.tup xs)) _ (Le.new s hl) (.tup (SqT.of upd_same) (rx.le (same_upd (s.free hl))))⟩⟩) (hg := hg) (he := he) (hpl := hpl)
/-- tuple(x), x a list of one's own -/
theorem ev_tupleO {i : Nat} {x : Str} {q : Pos} {ds : List PyData} (hm : X.mg "tuple" = none) (hi : ρ[i]? = some (.l ds)) (hN : X.N[i]? = some x) (hv : Vis X.env.scope x) (h1 : (x == ("__debug__" : Str)) = false := by decide) (h2 : (x == ("__classdict__" : Str)) = false := by decide) (hg : Gl X "tuple" := by rfl)
    (he : starEach (.Name x q :: []) X.env = (false, eval (.Name x q) X.env) :: starEach [] X.env := by rfl) (hpl : (backTo pos (starEach [] X.env)).any (·.1) = false := by rfl) : Ev X B ρ (.Call (.Name "tuple" p) [.Name x q] [] pos) (.tuple ds) := fun σ G H E Q k => by
  obtain ⟨q, xs, eq, h0, g0, hq, rq⟩ := E.lst hi
  refine wE_of (pe_callTy call_tuple_of hg hm (by decide +kernel) (pa_cons (pe_var hN hv h1 h2) pa_nil he) (by decide) (by decide) he hpl) ⟨_, eq, q, xs, rfl, .inl ⟨SqL.of hq, fun l hl => ?_⟩⟩
  exact k _ (upd G l (.tup xs)) _ (Le.new E.le.i hl) (.tup (SqT.of upd_same) (rq.le (same_upd (E.le.i.free hl))))
/-- sorted(ints) -/
def srt (ns : List Int) : List Int := ns.mergeSort fun a b => decide (a ≤ b)
theorem srt_perm (ns : List Int) : (srt ns).Perm ns := List.mergeSort_perm ns _
theorem srt_pw (ns : List Int) : (srt ns).Pairwise (· ≤ ·) := by
  have h := List.pairwise_mergeSort (le := fun a b : Int => decide (a ≤ b)) (fun a b c h1 h2 => by simp at *; omega) (fun a b => by simp; omega) ns
  exact h.imp fun q => by simpa using q
theorem srt_one {ns ms : List Int} (h1 : ms.Perm ns) (h2 : ms.Pairwise (· ≤ ·)) : ms = srt ns := PySem.W.ksm_same (h1.trans (srt_perm ns).symm) h2 (srt_pw ns)
theorem ev_sortedL {ns : List Int} (hm : X.mg "sorted" = none) (h : Ev X B ρ e (.list (ns.map .int))) (hg : Gl X "sorted" := by rfl) (he : starEach (e :: []) X.env = (false, eval e X.env) :: starEach [] X.env := by rfl) (hpl : (backTo pos (starEach [] X.env)).any (·.1) = false := by rfl) : EvR X B ρ (.Call (.Name "sorted" p) [e] [] pos) (.l ((srt ns).map .int)) :=
  ev_callB cr_sortedI hm (ea_cons h ea_nil he) (fun G H vs s r0 Q k => by
    obtain ⟨v, rfl, r⟩ := one_rp r0
    obtain ⟨q, xs, rfl, hq, rx⟩ := rp_lst r
    refine ⟨q, ns, rfl, by rw [← rpa_ints rx]; exact same_l s hq, fun ns' l p1 p2 hl => ?_⟩
    rw [srt_one p1 p2]
    exact k _ G _ ((Le.refl s).own hl) ⟨l, _, rfl, hl, s.free hl, upd_same, rpa_of_ints _⟩) (hg := hg) (he := he) (hpl := hpl)
/-! isinstance -/
def tyD : PyData → String
  | .none => "NoneType"
  | .bool _ => "bool"
  | .int _ => "int"
  | .str _ => "str"
  | .list _ => "list"
  | .tuple _ => "tuple"
  | .dict _ => "dict"
theorem tyX_of {M : Md} {G H : Hp} (s : Same G H) {v : V} {d : PyData} (r : Rp M G v d) : TyX M.K H v (.type (tyD d)) := by
  cases r with
  | non => exact .base .non
  | bl b => exact .base (.bl b)
  | int i => exact .base (.int i)
  | str x => exact .base (.str x)
  | lst h _ =>
    rcases same_l s h with (h | ⟨o, h⟩) | ⟨o, its, n, hk, hc, _⟩
    · exact .base (.lst h)
    · exact .base (.frz h)
    · exact .kList hk hc
  | tup h _ =>
    rcases same_t s h with (h | ⟨o, h⟩) | ⟨o, its, n, hk, hc, _⟩
    · exact .base (.tup h)
    · exact .fTuple h
    · exact .kTuple hk hc
  | dct h _ _ => obtain ⟨o, q⟩ := h; exact .fDict (s _ _ q)
theorem ev_isi {x : Str} {T : String} {d : PyData} {c : Bool} {pT : Pos} (hm : X.mg "isinstance" = none) (h : Ev X B ρ e d) (hmT : X.mg x = none) (hT : bootBuiltins x = some (.type T)) (hk : kitB (tyD d) T = some c) (hg : Gl X "isinstance" := by rfl) (hgT : Gl X x := by rfl)
    (hn : x ≠ "__name__" := by decide) (hd : (x == ("__debug__" : Str)) = false := by decide)
    (he : starEach (e :: [.Name x pT]) X.env = (false, eval e X.env) :: starEach [.Name x pT] X.env := by rfl) (he2 : starEach (.Name x pT :: []) X.env = (false, eval (.Name x pT) X.env) :: starEach [] X.env := by rfl) (hpl : (backTo pos (starEach [.Name x pT] X.env)).any (·.1) = false := by rfl) :
    Ev X B ρ (.Call (.Name "isinstance" p) [e, .Name x pT] [] pos) (.bool c) := fun σ G H E Q k => by
  refine wE_of (pe_callB call_isi hg hm (by decide +kernel) (pa_cons pe_w (pa_cons (pe_bltn (v := .ty T) hgT hmT hT rfl hn hd) pa_nil he2) he) (by decide) (by decide) he hpl) ?_
  refine h σ G H E _ fun v G1 H1 l r => ?_
  exact ⟨v, .ty T, _, _, c, rfl, by constructor, tyX_of l.i r, kit_ty hk, k _ G1 H1 l (.bl c)⟩
/-! dicts -/
theorem rpO_some {M : Md} {G : Hp} {o : Option V} {d : PyData} (h : RpO M G o (some d)) : ∃ v, o = some v ∧ Rp M G v d := by
  cases o with
  | none => exact h.elim
  | some v => exact ⟨v, rfl, h⟩
theorem rp_key {M : Md} {G : Hp} {u : V} {n : Key} (ru : Rp M G u (kD n)) : u = kV n := by
  cases n with
  | inl j => exact rp_int ru
  | inr j => exact rp_str ru
theorem RpO.isSome {M : Md} {G : Hp} : ∀ {o : Option V} {d : Option PyData}, RpO M G o d → o.isSome = d.isSome
  | some _, some _, _ => rfl
  | none, none, _ => rfl
theorem ev_dget {kvs : List (Key × PyData)} {n : Key} {d : PyData} (hu : X.A.units + 1 < cLine) (ho : Ev X B ρ a (.dict (dK kvs))) (hi : Ev X B ρ b (kD n)) (hd : lookD kvs n = some d) (hs : NoSl b := by intro _ _; rfl) : Ev X B ρ (.Subscript a b pos) d := fun σ G H E Q k => by
  refine wE_of (pe_dget hu pe_w pe_w hs) (ho σ G H E _ fun x G1 H1 l1 rx => hi σ G1 H1 (E.mono l1) _ fun y G2 H2 l2 ry => ?_)
  obtain ⟨q, ks, rfl, ⟨o, hq⟩, rk⟩ := rp_dct rx
  have hl := rk.look n
  rw [hd] at hl
  obtain ⟨v, hv, rv⟩ := rpO_some hl
  exact ⟨q, v, rfl, .inl ⟨ks, n, .inr ⟨o, (l1.i.trans l2.h) _ _ hq⟩, rp_key ry, hv.symm⟩, k v G2 H2 (l1.trans l2) (Rp.le l2.g rv)⟩
theorem et_din {kvs : List (Key × PyData)} {n : Key} (hu : X.A.units + 1 < cLine) (hi : Ev X B ρ b (kD n)) (ho : Ev X B ρ a (.dict (dK kvs))) (hb : behindInMarks .In a = false := by rfl) : EvT X B ρ (.Compare b [.In] [a] pos) (lookD kvs n).isSome := fun σ G H E Q k => by
  refine wT_of (pt_cmp (pc_din hu pe_w pe_w) hb) (hi σ G H E _ fun y G1 H1 l1 ry => ho σ G1 H1 (E.mono l1) _ fun x G2 H2 l2 rx => ?_)
  obtain ⟨q, ks, rfl, ⟨o, hq⟩, rk⟩ := rp_dct rx
  exact ⟨q, _, rfl, .inl ⟨ks, n, .inr ⟨o, l2.i _ _ hq⟩, rp_key ry, rfl⟩, _, rfl, by rw [(rk.look n).isSome]; exact k G2 H2 (l1.trans l2)⟩
theorem et_dnotin {kvs : List (Key × PyData)} {n : Key} (hu : X.A.units + 1 < cLine) (hi : Ev X B ρ b (kD n)) (ho : Ev X B ρ a (.dict (dK kvs))) (hb : behindInMarks .NotIn a = false := by rfl) : EvT X B ρ (.Compare b [.NotIn] [a] pos) (!(lookD kvs n).isSome) := fun σ G H E Q k => by
  refine wT_of (pt_cmp (pc_dnotin hu pe_w pe_w) hb) (hi σ G H E _ fun y G1 H1 l1 ry => ho σ G1 H1 (E.mono l1) _ fun x G2 H2 l2 rx => ?_)
  obtain ⟨q, ks, rfl, ⟨o, hq⟩, rk⟩ := rp_dct rx
  exact ⟨q, _, rfl, .inl ⟨ks, n, .inr ⟨o, l2.i _ _ hq⟩, rp_key ry, rfl⟩, _, rfl, by rw [(rk.look n).isSome]; exact k G2 H2 (l1.trans l2)⟩
theorem ev_din {kvs : List (Key × PyData)} {n : Key} (hu : X.A.units + 1 < cLine) (hi : Ev X B ρ b (kD n)) (ho : Ev X B ρ a (.dict (dK kvs))) (hb : behindInMarks .In a = false := by rfl) : Ev X B ρ (.Compare b [.In] [a] pos) (.bool (lookD kvs n).isSome) := fun σ G H E Q k => by
  refine wE_of (pe_cmp (pc_din hu pe_w pe_w) hb) (hi σ G H E _ fun y G1 H1 l1 ry => ho σ G1 H1 (E.mono l1) _ fun x G2 H2 l2 rx => ?_)
  obtain ⟨q, ks, rfl, ⟨o, hq⟩, rk⟩ := rp_dct rx
  exact ⟨q, _, rfl, .inl ⟨ks, n, .inr ⟨o, l2.i _ _ hq⟩, rp_key ry, rfl⟩, by rw [(rk.look n).isSome]; exact k _ G2 H2 (l1.trans l2) (.bl _)⟩
/-- .. of one's own -/
theorem et_dnotinO {i : Nat} {x : Str} {q : Pos} {kvs : List (Key × PyData)} {n : Key} (hu : X.A.units + 1 < cLine) (hi : Ev X B ρ b (kD n)) (hρ : ρ[i]? = some (.m kvs)) (hN : X.N[i]? = some x) (hv : Vis X.env.scope x) (h1 : (x == ("__debug__" : Str)) = false := by decide) (h2 : (x == ("__classdict__" : Str)) = false := by decide)
    (hb : behindInMarks .NotIn (.Name x q) = false := by rfl) : EvT X B ρ (.Compare b [.NotIn] [.Name x q] pos) (!(lookD kvs n).isSome) := fun σ G H E Q k => by
  obtain ⟨q, ks, eq, h0, g0, hq, rk⟩ := E.dct hρ
  refine wT_of (pt_cmp (pc_dnotin hu pe_w (pe_var hN hv h1 h2)) hb) (hi σ G H E _ fun y G1 H1 l1 ry => ⟨_, eq, ?_⟩)
  exact ⟨q, _, rfl, .inl ⟨ks, n, .inl (l1.h _ _ hq), rp_key ry, rfl⟩, _, rfl, by rw [(rk.look n).isSome]; exact k G1 H1 l1⟩
theorem et_dinO {i : Nat} {x : Str} {q : Pos} {kvs : List (Key × PyData)} {n : Key} (hu : X.A.units + 1 < cLine) (hi : Ev X B ρ b (kD n)) (hρ : ρ[i]? = some (.m kvs)) (hN : X.N[i]? = some x) (hv : Vis X.env.scope x) (h1 : (x == ("__debug__" : Str)) = false := by decide) (h2 : (x == ("__classdict__" : Str)) = false := by decide)
    (hb : behindInMarks .In (.Name x q) = false := by rfl) : EvT X B ρ (.Compare b [.In] [.Name x q] pos) (lookD kvs n).isSome := fun σ G H E Q k => by
  obtain ⟨q, ks, eq, h0, g0, hq, rk⟩ := E.dct hρ
  refine wT_of (pt_cmp (pc_din hu pe_w (pe_var hN hv h1 h2)) hb) (hi σ G H E _ fun y G1 H1 l1 ry => ⟨_, eq, ?_⟩)
  exact ⟨q, _, rfl, .inl ⟨ks, n, .inl (l1.h _ _ hq), rp_key ry, rfl⟩, _, rfl, by rw [(rk.look n).isSome]; exact k G1 H1 l1⟩
/-! tables of the module: dicts with text keys -/
structure TabC (M : Md) (mg : Str → Option Value) (x : Str) (pr : List (Str × PyData)) (ab : List Str) : Prop where
  ex : ∃ (a : Addr) (es : Array DictEntry) (n : Nat), mg x = some (.ref a) ∧ KDict M.K M.w a es n ∧ (∀ q ∈ pr, ∃ (u : Value) (v : V), PySem.W.nsIn M.K a q.1 = some (some u) ∧ RelV v u ∧ ∀ G, Rp M G v q.2) ∧ (∀ z ∈ ab, PySem.W.nsIn M.K a z = some none)
theorem ev_tget {x z : Str} {q : Pos} {pr : List (Str × PyData)} {ab : List Str} {d : PyData} (T : TabC (md X) X.mg x pr ab) (hi : Ev X B ρ b (.str z)) (hd : (z, d) ∈ pr) (hg : Gl X x := by rfl) (hdb : (x == ("__debug__" : Str)) = false := by decide) (hs : PlainIx b := by intro _ _; rfl) : Ev X B ρ (.Subscript (.Name x q) b pos) d := fun σ G H E Q k => by
  obtain ⟨a, es, n, hm, D, h1, _⟩ := T.ex
  obtain ⟨u, v, hn, r, rp⟩ := h1 _ hd
  refine wE_of (pe_ix ix_kdict (pe_glob (v := .ref a) hg hm rfl hdb) pe_w hs) ?_
  refine hi σ G H E _ fun y G1 H1 l1 ry => ?_
  exact ⟨a, z, v, rfl, rp_str ry, ⟨es, n, u, D.at_, D.lit, hn, r⟩, k v G1 H1 l1 (rp G1)⟩
theorem et_tnotin {x z : Str} {q : Pos} {pr : List (Str × PyData)} {ab : List Str} {d : PyData} (T : TabC (md X) X.mg x pr ab) (hi : Ev X B ρ b (.str z)) (hd : (z, d) ∈ pr) (hg : Gl X x := by rfl) (hdb : (x == ("__debug__" : Str)) = false := by decide) (hb : behindInMarks .NotIn (.Name x q) = false := by rfl) : EvT X B ρ (.Compare b [.NotIn] [.Name x q] pos) false := fun σ G H E Q k => by
  obtain ⟨a, es, n, hm, D, h1, _⟩ := T.ex
  obtain ⟨u, v, hn, r, rp⟩ := h1 _ hd
  refine wT_of (pt_cmpR (op_notIn_kd D) pe_w (pe_glob (v := .ref a) hg hm rfl hdb) hb) ?_
  refine hi σ G H E _ fun y G1 H1 l1 ry => ?_
  exact ⟨z, some u, rp_str ry, rfl, hn, false, rfl, k G1 H1 l1⟩
theorem ev_tin {x z : Str} {q : Pos} {pr : List (Str × PyData)} {ab : List Str} {d : PyData} (T : TabC (md X) X.mg x pr ab) (hi : Ev X B ρ b (.str z)) (hd : (z, d) ∈ pr) (hg : Gl X x := by rfl) (hdb : (x == ("__debug__" : Str)) = false := by decide) (hb : behindInMarks .In (.Name x q) = false := by rfl) : Ev X B ρ (.Compare b [.In] [.Name x q] pos) (.bool true) := fun σ G H E Q k => by
  obtain ⟨a, es, n, hm, D, h1, _⟩ := T.ex
  obtain ⟨u, v, hn, r, rp⟩ := h1 _ hd
  refine wE_of (pe_cmpR (op_in_kd D) pe_w (pe_glob (v := .ref a) hg hm rfl hdb) hb) ?_
  refine hi σ G H E _ fun y G1 H1 l1 ry => ?_
  exact ⟨z, some u, rp_str ry, rfl, hn, k _ G1 H1 l1 (.bl true)⟩
/-- T.get(z, c), there -/
theorem ev_tgetd {x z : Str} {q apos cpos : Pos} {pr : List (Str × PyData)} {ab : List Str} {c : Expr} {d d0 : PyData} (T : TabC (md X) X.mg x pr ab) (hi : Ev X B ρ b (.str z)) (hc : Ev X B ρ c d0) (hd : (z, d) ∈ pr) (hg : Gl X x := by rfl) (hdb : (x == ("__debug__" : Str)) = false := by decide)
    (m : M2 X (.Name x q) "get" apos b c cpos := by constructor <;> rfl) : Ev X B ρ (.Call (.Attribute (.Name x q) "get" apos) [b, c] [] cpos) d := fun σ G H E Q k => by
  obtain ⟨a, es, n, hm, D, h1, _⟩ := T.ex
  obtain ⟨u, v, hn, r, rp⟩ := h1 _ hd
  intro pins s I
  have hp : PE X (.Name x q) (tC (.ref a)) := pe_glob (v := .ref a) hg hm rfl hdb
  refine wpAny_Call_method m.base m.few m.line PySem.F.plainAttrs_dict PySem.F.slot_dict_get PySem.F.type_dict_get (thn (hp.run pins s σ H (fun y H1 => y = .ref a ∧ H1 = H) I ⟨rfl, rfl⟩) fun w s1 ⟨y, H1, I1, rw', ey, eh⟩ => ?_)
  subst ey eh
  obtain rfl : w = Value.ref a := rw'
  have mp := fun (s : Shared) (I : Inv X pins σ H1 s) => PySem.W.mapOf_K (prog := X.prog) (w := X.w) I.kIn D.at_ D.lit
  refine ⟨(mp s1 I1).typeIs, fun b' hb => ?_, ?_⟩
  · cases hb
    exact ⟨_, I1.kIn _ _ D.at_, rfl⟩
  rw [m.trees]
  refine Calls.callWith_builtin rfl (Calls.evalArgs_plain (Calls.spliced_cons (thn (hi σ G H1 E (fun y H2 => ∃ G2, y = .str z ∧ Le G H1 G2 H2) (fun y G2 H2 l2 ry => ⟨G2, rp_str ry, l2⟩) pins s1 I1) fun iv s2 ⟨y, H2, I2, ry, G2, ey, l2⟩ => ?_)))
  subst ey
  obtain ⟨t, rfl⟩ := ry
  refine Calls.spliced_cons (thn (hc σ G2 H2 (E.mono l2) (fun y H3 => ∃ G3, Le G2 H2 G3 H3) (fun y G3 H3 l3 ry => ⟨G3, l3⟩) pins s2 I2) fun fv s3 ⟨y3, H3, I3, ry3, G3, l3⟩ => Calls.spliced_nil ?_)
  have mp3 := PySem.W.mapOf_K (prog := X.prog) (w := X.w) I3.kIn D.at_ D.lit
  refine call_meetsIn PySem.F.slot_dict_get mp3.typeIs PySem.F.entry_dict_get (PySem.F.args_dict_get_3 _ _ _) (meets_dict_get_default (PySem.strKind X.prog X.w) a (PySem.strKind_is X.prog X.w z t) D.low fv) ⟨_, mp3, ?_⟩
  rw [PySem.W.find_K D.at_ hn]
  exact ⟨v, H3, I3.tok _, r, k v G3 H3 (l2.trans l3) (rp G3)⟩
end
end DH
namespace DH
open PySem PySem.Spec L2
open PyProof.Rows (envOfC)

/-! ### 12. defs by their names -/
/-- where a def of the text stands -/
def Df (K : PySem.W.Frag) (mg : Str → Option Value) (x : Str) (st : Stmt) : Prop := ∃ (f : Addr) (fd : FuncData), FunD K x x (defArgs st) (defBody st) (defScope st) [] [] f fd ∧ mg x = some (.ref f)
/-- a def that may be called, and what it promises -/
def Cal (P : Program) (w : World) (K : PySem.W.Frag) (mg : Str → Option Value) (base : Heap) (k : Nat) (x : Str) (ps : List Str) (pre : List PyData → Rs → Prop) : Prop :=
  ∃ (f : Addr) (fd : FuncData), FnOk P w K mg base CX0 k f fd ps (spD ⟨P, w, K⟩ pre) ∧ mg x = some (.ref f) ∧ PySem.W.keepIn K (.ref f) = true ∧ Binds K fd ps []
theorem Cal.mono {P : Program} {w : World} {K : PySem.W.Frag} {mg : Str → Option Value} {base : Heap} {j k : Nat} {x : Str} {ps : List Str} {pre : List PyData → Rs → Prop} (c : Cal P w K mg base j x ps pre) (h : j ≤ k) : Cal P w K mg base k x ps pre := by
  obtain ⟨f, fd, a, b⟩ := c
  exact ⟨f, fd, a.mono h, b⟩
theorem cal_of {P : Program} {w : World} {K : PySem.W.Frag} {mg : Str → Option Value} {base : Heap} {x : Str} {st : Stmt} {N ps : List Str} {k : Nat} {pre : List PyData → Rs → Prop} (D : Df K mg x st) (S : FnScope N ps (defScope st)) (len : ∀ ds r, pre ds r → ds.length = ps.length)
    (hb : ∀ (kV doc pm : Value) (an : Option Addr) (cdv ct : Value) (us : List Value), us.length = ps.length → bindArgs (PySem.W.fnOf x x (defArgs st) (defBody st) (defScope st) .none kV doc pm an cdv ct) ⟨us, []⟩ = pure (ps.zip us))
    (h : ∀ (f : Addr) (cdv : Value) (A : Around) (outer : List Env) (s : Shared) (H : Hp) (E : XK) (G : Hp) (ds : List PyData) (r : Rs), Room k (A.deeper (envOfC x (defScope st) s.heap.objs.size f cdv)) → pre ds r →
      Run (cxOf CX0 P w K mg base N x (defScope st) f cdv A outer s H E).nox ⟨G, H⟩ (defBody st) (startS N.length ds) (retP r)) : Cal P w K mg base (k + 1) x ps pre := by
  obtain ⟨f, fd, F, hm⟩ := D
  exact ⟨f, fd, fn_ok F S len fun cdv A outer s H E G ds r hr hp => h f cdv A outer s H E G ds r hr hp, hm, F.kp, F.bindsN hb⟩
theorem ev_calC {X : Cx} {B : Bs} {ρ : List Sl} {j k : Nat} {ps : List Str} {x : Str} {p pos : Pos} {e : Expr} {es : List Expr} {pre : List PyData → Rs → Prop} {ds : List PyData} {r : Rs}
    (c : Cal X.prog X.w X.K X.mg X.base j x ps pre) (hr : Room k X.A) (hj : j ≤ k) (ha : EvA X B ρ (e :: es) ds) (hp : pre ds r) (hg : Gl X x := by rfl) (hdb : (x == ("__debug__" : Str)) = false := by decide) (he : starEach (e :: es) X.env = (false, eval e X.env) :: starEach es X.env := by rfl) (hpl : (backTo pos (starEach es X.env)).any (·.1) = false := by rfl) :
    EvR X B ρ (.Call (.Name x p) (e :: es) [] pos) r := by
  obtain ⟨f, fd, F, hm, hk, hb⟩ := c
  exact ev_call F (hr.mono hj) hm hk hb pass0 ha hp hg hdb he hpl
end DH
namespace DH
open PySem PySem.Spec L2
open PyProof.Rows (envOfC)
section
variable {X : Cx} {B : Bs} {ρ : List Sl}
theorem nm (i : Nat) {x : Str} {pos : Pos} {d : PyData} (hd : ρ[i]? = some (.d d)) (hN : X.N[i]? = some x := by rfl) (hv : Vis X.env.scope x := by first | exact .inl rfl | exact .inr (.inl rfl) | exact .inr (.inr rfl)) (h1 : (x == ("__debug__" : Str)) = false := by decide) (h2 : (x == ("__classdict__" : Str)) = false := by decide) : Ev X B ρ (.Name x pos) d := ev_name hd hN hv h1 h2
theorem tp {es : List Expr} {x1} {pos : Pos} {ds : List PyData} (h : EvA X B ρ es ds) (hl : ds.length ≤ sizeLine := by exact Nat.le_of_ble_eq_true rfl) : Ev X B ρ (.Tuple es x1 pos) (.tuple ds) := ev_tup h hl
theorem ls {es : List Expr} {pos : Pos} {ds : List PyData} (h : EvA X B ρ es ds) (hl : ds.length ≤ sizeLine := by exact Nat.le_of_ble_eq_true rfl) : EvR X B ρ (.List es pos) (.l ds) := ev_lst h hl
theorem EvR.dl {e : Expr} {ds : List PyData} (h : EvR X B ρ e (.l ds)) : Ev X B ρ e (.list ds) := h.d
theorem EvR.dm {e : Expr} {ds : List (Key × PyData)} (h : EvR X B ρ e (.m ds)) : Ev X B ρ e (.dict (dK ds)) := h.d
theorem EvI_to {tg iter : Expr} {ds ds' : List PyData} (h : EvI X B ρ tg iter ds) (q : ds = ds') : EvI X B ρ tg iter ds' := q ▸ h
/-- name = [..] on one line, the name a plain local -/
theorem run_setLc {P : Po} {rest : List Stmt} {ds : List PyData} {i : Nat} {y : Str} {py : Pos} {elt tg iter : Expr} {ifs : List Expr} {scope : Scope} {own : List (Str × Nat)} {pos spos : Pos} {is : List Nat} {tb : PyData → Bool} {f : PyData → PyData} {rho : PyData → List Sl} {r : Rs}
    (hc : X.calm = true) (hN : X.N.Nodup) (hy : X.N[i]? = some y) (hyl : X.env.scope.names.lookup y = some .local) (hi : EvI X B ρ tg iter ds) (ok : BlkOk X.N X.env.scope scope own) (his : ∀ k ∈ is, k ∈ own.map (·.2))
    (hg : ∀ d ∈ ds, ∀ (s : Shared) (H : Hp) (C : Addr) (cl : List (Str × Addr)) (fp : List Addr), EvG (X.blk s H scope (compEnvC scope cl C X.env) fp) B tg is d (wipeS ρ (own.map (·.2))) (rho d))
    (ht : ∀ d ∈ ds, ∀ (s : Shared) (H : Hp) (C : Addr) (cl : List (Str × Addr)) (fp : List Addr), EvTs (X.blk s H scope (compEnvC scope cl C X.env) fp) B (rho d) ifs (tb d))
    (he : ∀ d ∈ ds, tb d = true → ∀ (s : Shared) (H : Hp) (C : Addr) (cl : List (Str × Addr)) (fp : List Addr), Ev (X.blk s H scope (compEnvC scope cl C X.env) fp) B (rho d) elt (f d))
    (hl : ds.length < sizeLine) (hr : .l ((ds.filter tb).map f) = r) (k : Run X B rest (ρ.set i r.sl) P)
    (hk : X.env.scope.kind = .function := by rfl) (hll : (py.line == pos.line) = true := by rfl) (ha : (scope.names.any fun (n, k) => n == y && (k == .local || k == .cell)) = false := by rfl)
    (hs : ∀ x, foldedSetIterable iter X.env x = pure x := by intro _; rfl) : Run X B (.Assign [.Name y py] (.ListComp elt [⟨tg, iter, ifs, 0⟩] scope pos) spos :: rest) ρ P := fun σ G H E => by
  subst hr
  refine wSs_of (pss_cons (ps_setLc (g := fun v σ H Q => ∀ (s : Shared) (H0 : Hp) (C : Addr) (cl : List (Str × Addr)) (fp : List Addr), wG (X.blk s H0 scope (compEnvC scope cl C X.env) fp) tg v σ H Q)
    (tt := fun σ H Q => ∀ (s : Shared) (H0 : Hp) (C : Addr) (cl : List (Str × Addr)) (fp : List Addr), wTs (X.blk s H0 scope (compEnvC scope cl C X.env) fp) ifs σ H Q)
    (te := fun σ H Q => ∀ (s : Shared) (H0 : Hp) (C : Addr) (cl : List (Str × Addr)) (fp : List Addr), wE (X.blk s H0 scope (compEnvC scope cl C X.env) fp) elt σ H Q)
    hc hN hy hyl (sw_true hk hyl hll ha) pi_w ok (fun s H0 C cl fp => ⟨fun pins s' _ _ v u _ I r h => h s H0 C cl fp pins s' u I r⟩) (fun s H0 C cl fp => ⟨fun pins s' _ _ _ I h => h s H0 C cl fp pins s' I⟩) (fun s H0 C cl fp => ⟨fun pins s' _ _ _ I h => h s H0 C cl fp pins s' I⟩) hs) pss_w) ?_
  exact tlc_ok hi his hg ht he hl E fun v G1 H1 l q => k.at (E.set l q i) l.g
theorem ru {k : Nat} {A : Around} (r : Room k A) : A.units + 1 < cLine := by have := r.un; omega
theorem at0 {α : Type} {a : α} {l : List α} : atI (a :: l) 0 = some a := by
  unfold atI ixN
  rw [if_pos (by decide), if_pos (by rw [List.length_cons]; omega)]
  rfl
theorem at1 {α : Type} {a b : α} {l : List α} : atI (a :: b :: l) 1 = some b := by
  unfold atI ixN
  rw [if_pos (by decide), if_pos (by rw [List.length_cons, List.length_cons]; omega)]
  rfl
theorem atI_of {α : Type} {l : List α} {i : Nat} {a : α} (h : l[i]? = some a) : atI l (i : Int) = some a := by
  obtain ⟨hl, _⟩ := List.getElem?_eq_some_iff.mp h
  unfold atI ixN
  rw [if_pos (by omega), if_pos (by omega)]
  exact h
variable {e : Expr} {es : List Expr} {p pos apos cpos : Pos}
/-- sorted(d) of int keys, locked dict -/
theorem ev_sortedDI {kvs : List (Key × PyData)} {ks : List Int} (hc : X.calm = true) (hm : X.mg "sorted" = none) (h : Ev X B ρ e (.dict (dK kvs))) (hk : kvs.map (·.1) = ks.map Sum.inl) (hl : ks.length < 64) (hg : Gl X "sorted" := by rfl) (he : starEach (e :: []) X.env = (false, eval e X.env) :: starEach [] X.env := by rfl) (hpl : (backTo pos (starEach [] X.env)).any (·.1) = false := by rfl) : EvR X B ρ (.Call (.Name "sorted" p) [e] [] pos) (.l ((srt ks).map .int)) :=
  ev_callB (call_sortedDI hc) hm (ea_cons h ea_nil he) (fun G H vs s r0 Q k => by
    obtain ⟨v, rfl, r⟩ := one_rp r0
    obtain ⟨q, xs, rfl, ⟨o, hq⟩, rx⟩ := rp_dct r
    refine ⟨q, xs, ks, rfl, .inr ⟨o, s _ _ hq⟩, by rw [rx.keys]; exact hk, hl, fun ys l p1 p2 hl => ?_⟩
    rw [srt_one p1 p2]
    exact k _ G _ ((Le.refl s).own hl) ⟨l, _, rfl, hl, s.free hl, upd_same, rpa_of_ints _⟩) (hg := hg) (he := he) (hpl := hpl)
/-- list(d), locked dict of int keys -/
theorem ev_listDI {kvs : List (Key × PyData)} {ks : List Int} (hc : X.calm = true) (hm : X.mg "list" = none) (h : Ev X B ρ e (.dict (dK kvs))) (hk : kvs.map (·.1) = ks.map Sum.inl) (hg : Gl X "list" := by rfl) (he : starEach (e :: []) X.env = (false, eval e X.env) :: starEach [] X.env := by rfl) (hpl : (backTo pos (starEach [] X.env)).any (·.1) = false := by rfl) : EvR X B ρ (.Call (.Name "list" p) [e] [] pos) (.l (ks.map .int)) :=
  ev_callTy (call_listD hc) hm (ea_cons h ea_nil he) (fun G H vs s r0 Q k => by
    obtain ⟨v, rfl, r⟩ := one_rp r0
    obtain ⟨q, xs, rfl, ⟨o, hq⟩, rx⟩ := rp_dct r
    refine ⟨q, xs, rfl, .inr ⟨o, s _ _ hq⟩, fun l hl => ?_⟩
    have e : xs.map (fun kv => kV kv.1) = ks.map V.int := by
      have e1 : xs.map (fun kv => kV kv.1) = (xs.map (·.1)).map kV := by rw [List.map_map]; rfl
      rw [e1, rx.keys, hk, List.map_map]
      rfl
    rw [e]
    exact k _ G _ ((Le.refl s).own hl) ⟨l, _, rfl, hl, s.free hl, upd_same, rpa_of_ints _⟩) (hg := hg) (he := he) (hpl := hpl)
/-- methods of data -/
def RmD (M : Md) (r : V → List V → Hp → VK → Prop) (d : PyData) (ds : List PyData) (z : Rs) : Prop := ∀ (G H : Hp) (x : V) (vs : List V), Same G H → Rp M G x d → RpA M G vs ds → ∀ Q : VK, (∀ v G2 H2, Le G H G2 H2 → RsOk M H G2 H2 v z → Q v H2) → r x vs H Q
theorem ev_bmL {o : Expr} {name : Str} {id : String} {r : V → List V → Hp → VK → Prop} {xs ds : List PyData} {z : Rs} (slot : Slot "list" name id) (hty : typeOf (.builtin id) = pure (.type "method_descriptor")) (hm : MtR X id r) (ho : Ev X B ρ o (.list xs)) (ha : EvA X B ρ (e :: es) ds) (hr : RmD (md X) r (.list xs) ds z)
    (hbase : attributeBase o name X.env (eval o X.env) = eval o X.env := by rfl)
    (hfew : ((backTo cpos (starEach (e :: es) X.env)).all (fun x => !x.1) && (backToKw cpos (keywordEach [] X.env)).all (fun x => x.1.isSome)
      && decide ((e :: es).length + ([] : List Keyword).length + (if ([] : List Keyword).isEmpty then 0 else 1) < 30)) = true := by rfl)
    (hline : (apos.endLine == cpos.line) = true := by rfl) (hs : starEach (e :: es) X.env = (false, eval e X.env) :: starEach es X.env := by rfl) (hplain : (backTo cpos (starEach es X.env)).any (·.1) = false := by rfl) :
    EvR X B ρ (.Call (.Attribute o name apos) (e :: es) [] cpos) z := fun σ G H E Q k => by
  refine wE_of (pe_bm PySem.F.plainAttrs_list slot hty hm pe_w pa_w hbase hfew hline hs hplain) (ho σ G H E _ fun x G1 H1 l1 rx => ?_)
  obtain ⟨a, ys, rfl, hq, ry⟩ := rp_lst rx
  refine ⟨.inl ⟨rfl, ys, same_l l1.i hq⟩, ha σ G1 H1 (E.mono l1) _ fun vs G2 H2 l2 rv => ?_⟩
  exact hr G2 H2 _ vs l2.i (Rp.le l2.g (show Rp (md X) G1 _ _ from rx)) rv Q fun v G3 H3 l3 q => k v G3 H3 (l1.trans (l2.trans l3)) (RsOk.back (l1.h.trans l2.h) q)
theorem ev_index {o : Expr} {ns : List Int} {n : Int} {j : Nat} (ho : Ev X B ρ o (.list (ns.map .int))) (hb : Ev X B ρ e (.int n)) (hj : ns[j]? = some n) (hno : ∀ m < j, ns[m]? ≠ some n)
    (hbase : attributeBase o "index" X.env (eval o X.env) = eval o X.env := by rfl)
    (hfew : ((backTo cpos (starEach [e] X.env)).all (fun x => !x.1) && (backToKw cpos (keywordEach [] X.env)).all (fun x => x.1.isSome)
      && decide (([e] : List Expr).length + ([] : List Keyword).length + (if ([] : List Keyword).isEmpty then 0 else 1) < 30)) = true := by rfl)
    (hline : (apos.endLine == cpos.line) = true := by rfl) (hs : starEach (e :: []) X.env = (false, eval e X.env) :: starEach [] X.env := by rfl) (hplain : (backTo cpos (starEach [] X.env)).any (·.1) = false := by rfl) :
    Ev X B ρ (.Call (.Attribute o "index" apos) [e] [] cpos) (.int j) :=
  ev_bmL PySem.F.slot_list_index PySem.F.type_list_index mt_index ho (ea_cons hb ea_nil hs) (fun G H x vs s rx rv Q k => by
    obtain ⟨a, ys, rfl, hq, ry⟩ := rp_lst rx
    obtain ⟨v, rfl, r⟩ := one_rp rv
    obtain rfl := rp_int r
    obtain rfl := rpa_ints ry
    refine ⟨a, _, _, j, .int n, rfl, rfl, same_l s hq, rfl, by rw [List.all_map]; exact List.all_eq_true.mpr fun _ _ => rfl, by rw [List.getElem?_map, hj]; rfl, by show (n == n) = true; exact beq_self_eq_true n, fun m z' hm hz => ?_, k _ G H (Le.refl s) (.int _)⟩
    rw [List.getElem?_map] at hz
    cases hq : ns[m]? with
    | none => rw [hq] at hz; cases hz
    | some q =>
      rw [hq] at hz
      cases hz
      have : q ≠ n := fun h => hno m hm (by rw [hq, h])
      show (q == n) = false
      exact beq_false_of_ne this) hbase hfew hline hs hplain
/-- list(range(n)) -/
theorem ev_listRg {a : Expr} {p2 pos2 : Pos} {n : Int} (hc : X.calm = true) (hm : X.mg "list" = none) (hm2 : X.mg "range" = none) (h : Ev X B ρ a (.int n)) (h0 : 0 ≤ n) (h1 : n ≤ 16777216) (hg : Gl X "list" := by rfl) (hg2 : Gl X "range" := by rfl)
    (na : starEach [a] X.env = (false, eval a X.env) :: starEach [] X.env := by rfl)
    (na2 : starEach [(.Call (.Name "range" p2) [a] [] pos2)] X.env = (false, eval (.Call (.Name "range" p2) [a] [] pos2) X.env) :: starEach [] X.env := by rfl) :
    EvR X B ρ (.Call (.Name "list" p) [.Call (.Name "range" p2) [a] [] pos2] [] pos) (.l (rngD 0 n.toNat)) := fun σ G H E Q k => by
  refine wE_of (pe_listRg hc hg hm (prg_1 hg2 hm2 pe_w na) na2) (h σ G H E _ fun x G1 H1 l1 rx => ?_)
  refine ⟨n, rp_int rx, RgOk.of_le (by omega) h1 (by omega) h0, fun q hq => ?_⟩
  refine k _ G1 _ (l1.own hq) ⟨q, _, rfl, l1.h.free hq, l1.i.free hq, upd_same, ?_⟩
  have e : rgV 0 n = ((List.range n.toNat).map fun (i : Nat) => (0 + (i : Int))).map V.int := by
    unfold rgV
    rw [List.map_map, Int.sub_zero]
    rfl
  have e2 : rngD 0 n.toNat = ((List.range n.toNat).map fun (i : Nat) => (0 + (i : Int))).map PyData.int := by
    unfold rngD
    rw [List.map_map]
    rfl
  rw [e, e2]
  exact rpa_of_ints _
/-- -n, a ** b -/
theorem ev_neg {a : Expr} {i : Int} (h : Ev X B ρ a (.int i)) : Ev X B ρ (.UnaryOp .USub a pos) (.int (-i)) := fun σ G H E Q k => wE_of (pe_un un_neg pe_w) (h σ G H E _ fun x G1 H1 l1 rx => ⟨i, rp_int rx, k _ G1 H1 l1 (.int _)⟩)
theorem ev_pow {a b : Expr} {i j : Int} (ha : Ev X B ρ a (.int i)) (hb : Ev X B ρ b (.int j)) (hc : CPow i j) : Ev X B ρ (.BinOp a .Pow b pos) (.int (i ^ j.toNat)) := ev_bin op_pow ha hb (rv_I hc fun _ => .int _)
/-- list + list, both made here -/
theorem ev_cat {a b : Expr} {xs ys : List PyData} (ha : EvR X B ρ a (.l xs)) (hb : EvR X B ρ b (.l ys)) (hl : xs.length + ys.length ≤ sizeLine) : EvR X B ρ (.BinOp a .Add b pos) (.l (xs ++ ys)) := fun σ G H E Q k => by
  refine wE_of (pe_op op_cat pe_w pe_w) (ha σ G H E _ fun x G1 H1 l1 rx => hb σ G1 H1 (E.mono l1) _ fun y G2 H2 l2 ry => ?_)
  obtain ⟨p, us, rfl, p0, g0, hp, ru⟩ := rx
  obtain ⟨q, ws, rfl, q0, g1, hq, rw'⟩ := ry
  refine ⟨p, q, us, ws, rfl, rfl, l2.h _ _ hp, hq, by rw [ru.length, rw'.length]; exact hl, fun r hr => ?_⟩
  exact k _ G2 _ ((l1.trans l2).own hr) ⟨r, _, rfl, (l1.h.trans l2.h).free hr, l2.i.free hr, upd_same, (ru.le l2.g).append rw'⟩
/-- tuple + tuple -/
theorem ev_catT {a b : Expr} {xs ys : List PyData} (ha : Ev X B ρ a (.tuple xs)) (hb : Ev X B ρ b (.tuple ys)) (hl : xs.length + ys.length ≤ sizeLine) : Ev X B ρ (.BinOp a .Add b pos) (.tuple (xs ++ ys)) :=
  ev_bin op_catA ha hb fun G H x y s rx ry Q k => by
    obtain ⟨p, us, rfl, hp, r1⟩ := rp_tup rx
    obtain ⟨q, ws, rfl, hq, r2⟩ := rp_tup ry
    refine ⟨p, q, us, ws, rfl, rfl, same_t s hp, same_t s hq, by rw [r1.length, r2.length]; exact hl, fun z => ?_, fun z1 z2 => ?_, fun z1 z2 r hr => ?_⟩
    · subst z
      cases r1
      exact k _ G H (Le.refl s) ry
    · subst z2
      cases r2
      exact k _ G H (Le.refl s) (by rw [List.append_nil]; exact rx)
    · have sr : Same G (upd G r (.tup (us ++ ws))) := same_upd (s.free hr)
      exact k _ _ _ (Le.new s hr) (.tup (SqT.of upd_same) ((r1.le sr).append (r2.le sr)))
/-- xs[a:b] of constants 0 ≤ a ≤ b -/
theorem ev_slL {o a b : Expr} {p2 : Pos} {xs : List PyData} {i j : Nat} (ho : Ev X B ρ o (.list xs)) (ha : Ev X B ρ a (.int i)) (hb : Ev X B ρ b (.int j)) (hz : xs.length ≤ sizeLine) : EvR X B ρ (.Subscript o (.Slice (some a) (some b) none p2) pos) (.l ((xs.drop (min i xs.length)).take (min j xs.length - min i xs.length))) := fun σ G H E Q k => by
  refine wE_of (pe_slice sl_list pe_w (po_some pe_w) (po_some pe_w)) (ho σ G H E _ fun x G1 H1 l1 rx => ha σ G1 H1 (E.mono l1) _ fun y G2 H2 l2 ry => ⟨i, rp_int ry, hb σ G2 H2 ((E.mono l1).mono l2) _ fun z G3 H3 l3 rz => ⟨j, rp_int rz, ?_⟩⟩)
  obtain ⟨q, us, rfl, hq, r1⟩ := rp_lst rx
  refine ⟨q, us, rfl, same_l (l1.i.trans (l2.h.trans l3.h)) hq, fun r hr => ?_⟩
  have hsx : ∀ (n d : Nat) (c : Nat), HT.sIx n d (some (c : Int)) = min c n := fun n d c => by
    unfold HT.sIx
    simp
    try omega
  refine k _ G3 _ (((l1.trans l2).trans l3).own hr) ⟨r, _, rfl, (l1.h.trans (l2.h.trans l3.h)).free hr, l3.i.free hr, upd_same, ?_⟩
  unfold cutV
  rw [hsx, hsx, r1.length]
  exact ((r1.le (l2.g.trans l3.g)).drop _).take _
/-- a, b, c = e, e a tuple -/
theorem eg_three {i j l : Nat} {x y z : Str} {p1 p2 p3 pos : Pos} {k0} {d1 d2 d3 : PyData} (hc : X.calm = true) (hN : X.N.Nodup) (hi : X.N[i]? = some x) (hj : X.N[j]? = some y) (hl : X.N[l]? = some z) (hx : Loc X.env.scope x) (hy : Loc X.env.scope y) (hz : Loc X.env.scope z) (hf : X.fn x = true ∨ X.env.scope.names.lookup x = some .local) (hf2 : X.fn y = true ∨ X.env.scope.names.lookup y = some .local) (hf3 : X.fn z = true ∨ X.env.scope.names.lookup z = some .local)
    (hn : (assignEach [.Name x p1, .Name y p2, .Name z p3] X.env).length = 3 := by rfl) (hst : (assignEach [.Name x p1, .Name y p2, .Name z p3] X.env).findIdx? (·.1) = none := by rfl)
    (hs1 : (assignEach (.Name x p1 :: [.Name y p2, .Name z p3]) X.env).map (·.2) = assign (.Name x p1) X.env :: (assignEach [.Name y p2, .Name z p3] X.env).map (·.2) := by rfl)
    (hs2 : (assignEach (.Name y p2 :: [.Name z p3]) X.env).map (·.2) = assign (.Name y p2) X.env :: (assignEach [.Name z p3] X.env).map (·.2) := by rfl)
    (hs3 : (assignEach (.Name z p3 :: []) X.env).map (·.2) = assign (.Name z p3) X.env :: (assignEach [] X.env).map (·.2) := by rfl) :
    EvG X B (.Tuple [.Name x p1, .Name y p2, .Name z p3] k0 pos) [i, j, l] (.tuple [d1, d2, d3]) ρ (((ρ.set i (.d d1)).set j (.d d2)).set l (.d d3)) := fun v σ G H E r Q k => by
  refine wG_of (pg_tup hc (pgs_cons (pg_name hN hi hx hf) (pgs_cons (pg_name hN hj hy hf2) (pgs_cons (pg_name hN hl hz hf3) pgs_nil hs3) hs2) hs1) hn hst) ?_
  obtain ⟨a, xs, rfl, hq, rs⟩ := rp_tup r
  cases rs with
  | cons r1 t =>
    cases t with
    | cons r2 t =>
      cases t with
      | cons r3 t =>
        cases t
        refine ⟨a, _, rfl, same_t E.le.i hq, rfl, _, _, rfl, _, _, rfl, _, _, rfl, rfl, ?_⟩
        exact k _ (((E.set (Le.refl E.le.i) (r := .d d1) r1 i).set (Le.refl E.le.i) (r := .d d2) r2 j).set (Le.refl E.le.i) (r := .d d3) r3 l) fun vs h => by
          rw [wipe_set (h l (by simp)), wipe_set (h j (by simp)), wipe_set (h i (by simp))]
/-- == of data without dicts -/
def Plain (d : PyData) : Prop := noD d = true ∧ SeqAt.shaped d = true
/-- plain data of depth at most n -/
def PlainN (n : Nat) (d : PyData) : Prop := noD d = true ∧ d.canLay0 = true ∧ d.depth ≤ n
theorem PlainN.plain {n : Nat} {d : PyData} (h : PlainN n d) (hn : n ≤ 64 := by decide) : Plain d := ⟨h.1, by unfold SeqAt.shaped; rw [h.2.1, decide_eq_true (Nat.le_trans h.2.2 hn)]; rfl⟩
theorem plainN_all {n : Nat} : ∀ {xs : List PyData}, (∀ x ∈ xs, PlainN n x) → noDs xs = true ∧ PyData.canLayAll0 xs = true ∧ PyData.depthAll xs ≤ n
  | [], _ => ⟨by rw [noDs], by rw [PyData.canLayAll0], by rw [PyData.depthAll]; exact Nat.zero_le _⟩
  | x :: xs, h => by
    obtain ⟨a1, a2, a3⟩ := h x (List.mem_cons_self ..)
    obtain ⟨b1, b2, b3⟩ := plainN_all fun y hy => h y (List.mem_cons_of_mem _ hy)
    refine ⟨by rw [noDs, a1, b1]; rfl, by rw [PyData.canLayAll0, a2, b2]; rfl, by rw [PyData.depthAll]; exact Nat.max_le.mpr ⟨a3, b3⟩⟩
theorem PlainN.tup {n : Nat} {xs : List PyData} (h : ∀ x ∈ xs, PlainN n x) : PlainN (n + 1) (.tuple xs) := by
  obtain ⟨b1, b2, b3⟩ := plainN_all h
  exact ⟨by rw [noD]; exact b1, by rw [PyData.canLay0]; exact b2, by rw [PyData.depth]; exact Nat.succ_le_succ b3⟩
theorem PlainN.lst {n : Nat} {xs : List PyData} (h : ∀ x ∈ xs, PlainN n x) : PlainN (n + 1) (.list xs) := by
  obtain ⟨b1, b2, b3⟩ := plainN_all h
  exact ⟨by rw [noD]; exact b1, by rw [PyData.canLay0]; exact b2, by rw [PyData.depth]; exact Nat.succ_le_succ b3⟩
theorem PlainN.int {n : Nat} (i : Int) : PlainN n (.int i) := ⟨by simp only [noD], by rw [PyData.canLay0], by rw [PyData.depth] <;> first | exact Nat.zero_le _ | exact fun _ e => nomatch e⟩
theorem PlainN.bool {n : Nat} (i : Bool) : PlainN n (.bool i) := ⟨by simp only [noD], by rw [PyData.canLay0], by rw [PyData.depth] <;> first | exact Nat.zero_le _ | exact fun _ e => nomatch e⟩
theorem PlainN.none {n : Nat} : PlainN n .none := ⟨by simp only [noD], by rw [PyData.canLay0], by rw [PyData.depth] <;> first | exact Nat.zero_le _ | exact fun _ e => nomatch e⟩
theorem PlainN.str {n : Nat} {x : Str} (h : PyData.strOk x = true := by decide +kernel) : PlainN n (.str x) := ⟨by simp only [noD], by rw [PyData.canLay0]; exact h, by rw [PyData.depth] <;> first | exact Nat.zero_le _ | exact fun _ e => nomatch e⟩
theorem PlainN.ints {n : Nat} (ns : List Int) : PlainN (n + 1) (.list (ns.map .int)) := .lst fun x hx => by
  obtain ⟨i, _, rfl⟩ := List.mem_map.mp hx
  exact .int i
theorem rv_eqD {a b : PyData} (ha : Plain a) (hb : Plain b) : RvD (md X) (rEqD X.K) a b (.d (.bool (PyData.eqv a b))) := fun G H x y s rx ry Q k =>
  ⟨a, b, (rx.le s).dp ha.1, (ry.le s).dp hb.1, ha.2, hb.2, k _ G H (Le.refl s) (.bl _)⟩
theorem rv_neD {a b : PyData} (ha : Plain a) (hb : Plain b) : RvD (md X) (rNeD X.K) a b (.d (.bool (!PyData.eqv a b))) := fun G H x y s rx ry Q k =>
  ⟨a, b, (rx.le s).dp ha.1, (ry.le s).dp hb.1, ha.2, hb.2, k _ G H (Le.refl s) (.bl _)⟩
variable {a b : Expr} {da db : PyData}
theorem et_eqD (hu : X.A.units + 64 < cLine) (ha : Ev X B ρ a da) (hb : Ev X B ρ b db) (pa : Plain da) (pb : Plain db) : EvT X B ρ (.Compare a [.Eq] [b] pos) (PyData.eqv da db) := et_cmp (op_eqD hu) ha hb (nomark _) (rv_eqD pa pb)
theorem et_neD (hu : X.A.units + 64 < cLine) (ha : Ev X B ρ a da) (hb : Ev X B ρ b db) (pa : Plain da) (pb : Plain db) : EvT X B ρ (.Compare a [.NotEq] [b] pos) (!PyData.eqv da db) := et_cmp (op_neD hu) ha hb (nomark _) (rv_neD pa pb)
theorem ev_eqD (hu : X.A.units + 64 < cLine) (ha : Ev X B ρ a da) (hb : Ev X B ρ b db) (pa : Plain da) (pb : Plain db) : Ev X B ρ (.Compare a [.Eq] [b] pos) (.bool (PyData.eqv da db)) := ev_cmp (op_eqD hu) ha hb (nomark _) (rv_eqD pa pb)
theorem ev_neD (hu : X.A.units + 64 < cLine) (ha : Ev X B ρ a da) (hb : Ev X B ρ b db) (pa : Plain da) (pb : Plain db) : Ev X B ρ (.Compare a [.NotEq] [b] pos) (.bool (!PyData.eqv da db)) := ev_cmp (op_neD hu) ha hb (nomark _) (rv_neD pa pb)
theorem eqv_self {d : PyData} (h : Plain d) : PyData.eqv d d = true := SeqAt.eqv_refl d (SeqAt.canLay_of_shaped h.2)
end
end DH
namespace DH
open PySem PySem.Spec L2
open PyProof.Rows (envOfC)
/-! == of dicts that are equal -/
def rDEq (K : PySem.W.Frag) (b : Bool) : R2 := fun x y H Q => ∃ a c ka kb, x = .ref a ∧ y = .ref c ∧ Rd H a (.dK ka) ∧ Rd H c (.dK kb) ∧ ka.length = kb.length ∧
  (∀ p ∈ ka, ∃ u, valV kb p.1 = some u ∧ ∃ d e, Dp K H p.2 d ∧ Dp K H u e ∧ SeqAt.shaped d = true ∧ SeqAt.shaped e = true ∧ PyData.eqv d e = true) ∧ Q (.bl b) H
section
variable {X : Cx}
theorem deq_hits {pins : List (Addr × Obj)} {σ : L2.St} {H : Hp} {s : Shared} {A : Around} (I : Inv X pins σ H s) (hu : A.in1.units + 64 < cLine) {kb : List (Key × V)} {vb : List (Key × Value)} (rb : KV kb vb) {ka : List (Key × V)} {va : List (Key × Value)} (ra : KV ka va) :
    (∀ p ∈ ka, ∃ u, valV kb p.1 = some u ∧ ∃ d e, Dp X.K H p.2 d ∧ Dp X.K H u e ∧ SeqAt.shaped d = true ∧ SeqAt.shaped e = true ∧ PyData.eqv d e = true) → PySem.W.KeqHits A.in1 s vb va true := by
  unfold KV at ra
  induction ra with
  | nil => intro _; exact .nil
  | @cons p q ps qs h t ih =>
    intro hp
    obtain ⟨h1, h2⟩ := h
    obtain ⟨u, e, d, d', hd, he, sd, se, hq⟩ := hp p List.mem_cons_self
    have rr : RelO (some u) (valueAt vb p.1) := by rw [← e]; exact rb.val p.1
    obtain ⟨y, hy, ry⟩ := rr.some_of
    obtain ⟨key, v⟩ := q
    obtain rfl : p.1 = key := h1
    obtain ⟨as, r1⟩ := Dp.reads I d p.2 v hd h2
    obtain ⟨bs, r2⟩ := Dp.reads I d' u y he ry
    have g := PySem.W.keq_at (A := A) r1 r2 sd se hu
    rw [hq] at g
    show PySem.W.KeqHits A.in1 s vb ((p.1, v) :: qs) (true && true)
    exact .hit hy g (ih fun p' hm => hp p' (List.mem_cons_of_mem _ hm))
theorem op_deq (hu : X.A.units + 66 < cLine) : OpR X (compareOp .Eq) (rDEq X.K true) := by
  intro pins s σ H x y v u Q I rx ry h
  obtain ⟨a, c, ka, kb, rfl, rfl, ha, hc, hl, hp, q⟩ := h
  cases (show v = Value.ref a from rx)
  cases (show u = Value.ref c from ry)
  obtain ⟨_, ya, va, ra, da⟩ := dk_rd I.hok ha
  obtain ⟨_, yb, vb, rb, db⟩ := dk_rd I.hok hc
  refine PySem.W.keq_eq (r := true) ya yb da db (by omega) (fun _ => deq_hits I (A := X.A) (by show X.A.units + 1 + 64 < _; omega) rb ra hp) ?_
  have e : va.length = vb.length := by rw [← ra.length, ← rb.length]; exact hl
  rw [show (va.length == vb.length && true) = true from by rw [e]; simp]
  exact ⟨.bl true, H, I, rfl, q⟩
theorem op_dne (hu : X.A.units + 66 < cLine) : OpR X (compareOp .NotEq) (rDEq X.K false) := by
  intro pins s σ H x y v u Q I rx ry h
  obtain ⟨a, c, ka, kb, rfl, rfl, ha, hc, hl, hp, q⟩ := h
  cases (show v = Value.ref a from rx)
  cases (show u = Value.ref c from ry)
  obtain ⟨_, ya, va, ra, da⟩ := dk_rd I.hok ha
  obtain ⟨_, yb, vb, rb, db⟩ := dk_rd I.hok hc
  refine PySem.W.keq_ne (r := true) ya yb da db (by omega) (fun _ => deq_hits I (A := X.A) (by show X.A.units + 1 + 64 < _; omega) rb ra hp) ?_
  have e : va.length = vb.length := by rw [← ra.length, ← rb.length]; exact hl
  rw [show (va.length == vb.length && true) = true from by rw [e]; simp]
  exact ⟨.bl false, H, I, rfl, q⟩
/-- two dicts of the same pairs -/
def SameK (k1 k2 : List (Key × PyData)) : Prop := k1.length = k2.length ∧ ∀ p ∈ k1, lookD k2 p.1 = some p.2 ∧ Plain p.2
theorem RpK.mem {M : Md} {G : Hp} {vs : List (Key × V)} {ds : List (Key × PyData)} (r : RpK M G vs ds) {p : Key × V} (h : p ∈ vs) : ∃ d, (p.1, d) ∈ ds ∧ Rp M G p.2 d := by
  obtain ⟨i, hi⟩ := List.mem_iff_getElem?.mp h
  obtain ⟨d, h1, h2⟩ := r.get (k := p.1) (v := p.2) hi
  exact ⟨d, List.mem_of_getElem? h1, h2⟩
theorem rv_deq {b : Bool} {k1 k2 : List (Key × PyData)} (h : SameK k1 k2) : RvD (md X) (rDEq X.K b) (.dict (dK k1)) (.dict (dK k2)) (.d (.bool b)) := fun G H x y s rx ry Q k => by
  obtain ⟨a, ka, rfl, ⟨o, ha⟩, r1⟩ := rp_dct rx
  obtain ⟨c, kb, rfl, ⟨o2, hc⟩, r2⟩ := rp_dct ry
  refine ⟨a, c, ka, kb, rfl, rfl, .inr ⟨o, s _ _ ha⟩, .inr ⟨o2, s _ _ hc⟩, by rw [r1.length, r2.length]; exact h.1, fun p hp => ?_, k _ G H (Le.refl s) (.bl _)⟩
  obtain ⟨d, hd, rd⟩ := r1.mem hp
  obtain ⟨h1, h2⟩ := h.2 _ hd
  have hl := r2.look p.1
  rw [h1] at hl
  obtain ⟨u, hu, ru⟩ := rpO_some hl
  exact ⟨u, hu, d, d, (rd.le s).dp h2.1, (ru.le s).dp h2.1, h2.2, h2.2, eqv_self h2⟩
variable {B : Bs} {ρ : List Sl} {a b c o : Expr} {pos apos cpos : Pos}
theorem ev_deq {k1 k2 : List (Key × PyData)} (hu : X.A.units + 66 < cLine) (ha : Ev X B ρ a (.dict (dK k1))) (hb : Ev X B ρ b (.dict (dK k2))) (h : SameK k1 k2) : Ev X B ρ (.Compare a [.Eq] [b] pos) (.bool true) := ev_cmp (op_deq hu) ha hb (nomark _) (rv_deq h)
theorem et_dne {k1 k2 : List (Key × PyData)} (hu : X.A.units + 66 < cLine) (ha : Ev X B ρ a (.dict (dK k1))) (hb : Ev X B ρ b (.dict (dK k2))) (h : SameK k1 k2) : EvT X B ρ (.Compare a [.NotEq] [b] pos) false := et_cmp (op_dne hu) ha hb (nomark _) (rv_deq h)
theorem et_deq {k1 k2 : List (Key × PyData)} (hu : X.A.units + 66 < cLine) (ha : Ev X B ρ a (.dict (dK k1))) (hb : Ev X B ρ b (.dict (dK k2))) (h : SameK k1 k2) : EvT X B ρ (.Compare a [.Eq] [b] pos) true := et_cmp (op_deq hu) ha hb (nomark _) (rv_deq h)
/-! d.get(k, x) -/
theorem RpO.getD {M : Md} {G : Hp} {x : Option V} {y : Option PyData} {v : V} {d : PyData} (h : RpO M G x y) (r : Rp M G v d) : Rp M G (x.getD v) (y.getD d) := by
  cases x with
  | none => cases y with
    | none => exact r
    | some _ => exact h.elim
  | some _ => cases y with
    | none => exact h.elim
    | some _ => exact h
theorem ev_dgetd {kvs : List (Key × PyData)} {n : Key} {d0 : PyData} (hu : X.A.units + 1 < cLine) (ho : Ev X B ρ o (.dict (dK kvs))) (hb : Ev X B ρ b (kD n)) (hc : Ev X B ρ c d0) (m : M2 X o "get" apos b c cpos := by constructor <;> rfl) : Ev X B ρ (.Call (.Attribute o "get" apos) [b, c] [] cpos) ((lookD kvs n).getD d0) := fun σ G H E Q k => by
  refine wE_of (pe_dget2 hu pe_w pe_w pe_w m) (ho σ G H E _ fun x G1 H1 l1 rx => ?_)
  obtain ⟨q, ks, rfl, ⟨od, hq⟩, rk⟩ := rp_dct rx
  refine ⟨q, rfl, .inl ⟨ks, .inr ⟨od, l1.i _ _ hq⟩⟩, hb σ G1 H1 (E.mono l1) _ fun y G2 H2 l2 ry => hc σ G2 H2 ((E.mono l1).mono l2) _ fun z G3 H3 l3 rz => ?_⟩
  refine ⟨valV ks n, .inl ⟨ks, n, .inr ⟨od, (l1.i.trans (l2.h.trans l3.h)) _ _ hq⟩, rp_key ry, rfl⟩, ?_⟩
  exact k _ G3 H3 ((l1.trans l2).trans l3) ((rk.le (l2.g.trans l3.g)).look n |>.getD rz)
theorem leaf_map {P : Program} {w : World} {h : Heap} {q : Addr} {vs : List (Key × Value)} (d : h.DictOf (mixKind P w) q vs) (i : Int) : ∃ f, h.MapOf (PySem.leafKind P w) q f ∧ f (.num i) = valueAt vs (.inl i) := by
  obtain ⟨o, es, ep, ho, hx, hd, hk, hp, hn⟩ := d
  refine ⟨fun k => findBy (PySem.leafKind P w).is es k, ⟨o, es, ep, ho, hx, hd, fun e he => ?_, fun _ => rfl⟩, ?_⟩
  · obtain ⟨k, k1, k2⟩ := hk e he
    have k1' : keyIs k e.key = true := k1
    rcases keyIs_shape k1' with ⟨j, t, rfl, ek⟩ | ⟨x, t, rfl, ek⟩
    · exact ⟨.num j, by rw [ek]; exact PyProof.Rows.leaf_int j t, k2⟩
    · exact ⟨.text x, by rw [ek]; exact PyProof.Rows.leaf_str x t, k2⟩
  · rw [← hp.find (.inl i)]
    show (es.find? _).map _ = _
    obtain ⟨l⟩ := es
    rw [List.find?_toArray]
    congr 1
    have hk' : ∀ e ∈ l, ∃ k, keyIs k e.key = true := fun e he => by
      obtain ⟨k, k1, _⟩ := hk e (by simpa using he)
      exact ⟨k, k1⟩
    clear hk hp hd
    induction l with
    | nil => rfl
    | cons e l ih =>
      obtain ⟨k, hke⟩ := hk' e (List.mem_cons_self ..)
      have eq1 : (PySem.leafKind P w).is (.num i) e.key = (mixKind P w).is (.inl i) e.key := by
        rcases keyIs_shape hke with ⟨j, t, rfl, ek⟩ | ⟨x, t, rfl, ek⟩ <;> rw [ek] <;> rfl
      have ih' := ih fun e' he' => hk' e' (List.mem_cons_of_mem _ he')
      simp only [List.find?_cons]
      rw [eq1]
      split
      · rfl
      · exact ih'
/-- d.get(True, x): True counts as 1 -/
theorem ev_dgetT {kvs : List (Key × PyData)} {d0 : PyData} (ho : Ev X B ρ o (.dict (dK kvs))) (hb : Ev X B ρ b (.bool true)) (hc : Ev X B ρ c d0) (m : M2 X o "get" apos b c cpos := by constructor <;> rfl) : Ev X B ρ (.Call (.Attribute o "get" apos) [b, c] [] cpos) ((lookD kvs (.inl 1)).getD d0) := fun σ G H E Q k => by
  intro pins s I
  refine wpAny_Call_method m.base m.few m.line PySem.F.plainAttrs_dict PySem.F.slot_dict_get PySem.F.type_dict_get (thn (ho σ G H E (fun x H1 => ∃ G1, Le G H G1 H1 ∧ Rp (md X) G1 x (.dict (dK kvs))) (fun x G1 H1 l1 rx => ⟨G1, l1, rx⟩) pins s I) fun u s1 ⟨x, H1, I1, rx, G1, l1, rd⟩ => ?_)
  obtain ⟨q, ks, rfl, ⟨od, hq⟩, rk⟩ := rp_dct rd
  obtain rfl : u = Value.ref q := rx
  obtain ⟨t1, t2, _⟩ := isD_at I1 (.inl ⟨ks, .inr ⟨od, l1.i _ _ hq⟩⟩)
  refine ⟨t1, t2, ?_⟩
  rw [m.trees]
  refine Calls.callWith_builtin rfl (Calls.evalArgs_plain (Calls.spliced_cons (thn (hb σ G1 H1 (E.mono l1) (fun y H2 => ∃ G2, Le G1 H1 G2 H2 ∧ y = .bl true) (fun y G2 H2 l2 ry => ⟨G2, l2, rp_bl ry⟩) pins s1 I1) fun iv s2 ⟨y, H2, I2, ry, G2, l2, ey⟩ => ?_)))
  subst ey
  obtain rfl : iv = Value.bool true := ry
  refine Calls.spliced_cons (thn (hc σ G2 H2 ((E.mono l1).mono l2) (fun z H3 => ∃ G3, Le G2 H2 G3 H3 ∧ Rp (md X) G3 z d0) (fun z G3 H3 l3 rz => ⟨G3, l3, rz⟩) pins s2 I2) fun fv s3 ⟨z, H3, I3, rz, G3, l3, rd0⟩ => Calls.spliced_nil ?_)
  have hq3 : Rd H3 q (.dK ks) := .inr ⟨od, (l1.i.trans (l2.h.trans l3.h)) _ _ hq⟩
  obtain ⟨_, hd, vs, rel, dd⟩ := dk_rd I3.hok hq3
  obtain ⟨f, hf, hf1⟩ := leaf_map dd 1
  refine call_meetsIn PySem.F.slot_dict_get dd.typeIs PySem.F.entry_dict_get (PySem.F.args_dict_get_3 _ _ _) (meets_dict_get_default (PySem.leafKind X.prog X.w) q PyProof.Rows.leaf_true hd fv) ⟨_, hf, ?_⟩
  rw [hf1]
  exact ⟨_, H3, I3.tok _, (rel.val (.inl 1)).getD rz, k _ G3 H3 ((l1.trans l2).trans l3) ((rk.le (l2.g.trans l3.g)).look (.inl 1) |>.getD rd0)⟩
end
end DH
namespace DH
open PySem PySem.Spec L2
open PyProof.Rows (envOfC)
/-! dict(pairs) -/
theorem mergeK_nodup : ∀ (more acc : List (Key × V)), ((acc ++ more).map (·.1)).Nodup → mergeK acc more = acc ++ more
  | [], acc, _ => by unfold mergeK; rw [List.append_nil]; rfl
  | p :: more, acc, h => by
    have hn : p.1 ∉ acc.map (·.1) := fun hm => by
      rw [List.map_append, List.nodup_append] at h
      exact h.2.2 _ hm _ (List.mem_map.mpr ⟨p, List.mem_cons_self .., rfl⟩) rfl
    have e : putK acc p.1 p.2 = acc ++ [p] := putK_new _ (by
      cases hv : valV acc p.1 with
      | none => rfl
      | some z => exact absurd (valV_in hv) hn)
    show mergeK (putK acc p.1 p.2) more = _
    rw [e, mergeK_nodup more (acc ++ [p]) (by rw [List.append_assoc]; exact h), List.append_assoc]
    rfl
section
variable {X : Cx} {B : Bs} {ρ : List Sl} {e o : Expr} {p pos apos cpos : Pos}
theorem pairs_rp {M : Md} {G : Hp} : ∀ {vs : List V} {kvs : List (Key × PyData)}, RpA M G vs (kvs.map fun q => .tuple [kD q.1, q.2]) → ∃ (ps : List Addr) (ks : List (Key × V)), vs = ps.map V.ref ∧ Paired (fun p kv => SqT M.K G p [kV kv.1, kv.2]) ps ks ∧ RpK M G ks kvs
  | _, [], h => by
    cases h
    exact ⟨[], [], rfl, .nil, .nil⟩
  | _, q :: kvs, h => by
    cases h with
    | cons r t =>
      obtain ⟨ps, ks, rfl, hp, rk⟩ := pairs_rp t
      obtain ⟨a, xs, rfl, hq, rx⟩ := rp_tup r
      obtain ⟨v, u, rfl, r1, r2⟩ := two_rp rx
      obtain rfl := rp_key r1
      exact ⟨a :: ps, (q.1, u) :: ks, rfl, .cons hq hp, .cons r2 rk⟩
theorem paired_same {K : PySem.W.Frag} {G H : Hp} (s : Same G H) {ps : List Addr} {ks : List (Key × V)} (h : Paired (fun p kv => SqT K G p [kV kv.1, kv.2]) ps ks) : Paired (fun p kv => SqT K H p [kV kv.1, kv.2]) ps ks := by
  induction h with
  | nil => exact .nil
  | cons a _ ih => exact .cons (same_t s a) ih
theorem ev_dictP {kvs : List (Key × PyData)} (hc : X.calm = true) (hm : X.mg "dict" = none) (h : Ev X B ρ e (.list (kvs.map fun q => .tuple [kD q.1, q.2]))) (hn : (kvs.map (·.1)).Nodup) (hg : Gl X "dict" := by rfl) (he : starEach (e :: []) X.env = (false, eval e X.env) :: starEach [] X.env := by rfl) (hpl : (backTo pos (starEach [] X.env)).any (·.1) = false := by rfl) : EvR X B ρ (.Call (.Name "dict" p) [e] [] pos) (.m kvs) :=
  ev_callTy (call_dictP hc) hm (ea_cons h ea_nil he) (fun G H vs s r0 Q k => by
    obtain ⟨v, rfl, r⟩ := one_rp r0
    obtain ⟨q, xs, rfl, hq, rx⟩ := rp_lst r
    obtain ⟨ps, ks, rfl, hp, rk⟩ := pairs_rp rx
    refine ⟨q, ps, ks, rfl, same_l s hq, paired_same s hp, fun l hl => ?_⟩
    rw [mergeK_nodup ks [] (by rw [List.nil_append, rk.keys]; exact hn)]
    exact k _ G _ ((Le.refl s).own hl) ⟨l, _, rfl, hl, s.free hl, upd_same, rk⟩) (hg := hg) (he := he) (hpl := hpl)
/-! repr of data without dicts -/
structure Shw (d : PyData) : Prop where
  nd : noD d = true
  sh : d.showable = true
  hd : d.hasDict = false
  dp : d.depth ≤ 60
  ln : d.shown.length ≤ sizeLine
theorem call_reprD (hgd : X.A.guards = some []) (hu : X.A.units + 64 < cLine) : CallR X (.builtin "repr") (fun xs H Q => ∃ (a : Addr) (d : PyData), xs = [.ref a] ∧ Dp X.K H (.ref a) d ∧ Shw d ∧ Q (.str d.shown) H) := by
  intro pins s σ H xs us Q I r h
  obtain ⟨a, d, rfl, hd, hs, q⟩ := h
  obtain rfl := Vals.ref1 r
  obtain ⟨as, r1⟩ := Dp.reads I d (.ref a) (.ref a) hd rfl
  refine repr_of_reads' r1 hs.sh (fun z => by rw [hs.hd] at z; cases z) hgd (by have := hs.dp; omega) (fun _ _ e => e) (fun h' u tk hk => ⟨.str d.shown, H, I.kept (t' := tk) hk, ⟨u, rfl⟩, q⟩) hs.ln
theorem ev_repr {ds : List PyData} (hgd : X.A.guards = some []) (hu : X.A.units + 64 < cLine) (hm : X.mg "repr" = none) (h : Ev X B ρ e (.list ds)) (hs : Shw (.list ds)) (hg : Gl X "repr" := by rfl) (he : starEach (e :: []) X.env = (false, eval e X.env) :: starEach [] X.env := by rfl) (hpl : (backTo pos (starEach [] X.env)).any (·.1) = false := by rfl) : Ev X B ρ (.Call (.Name "repr" p) [e] [] pos) (.str (PyData.list ds).shown) :=
  ev_callB (call_reprD hgd hu) hm (ea_cons h ea_nil he) (fun G H vs s r0 Q k => by
    obtain ⟨v, rfl, r⟩ := one_rp r0
    obtain ⟨q, xs, rfl, hq, rx⟩ := rp_lst r
    exact ⟨q, _, rfl, (r.le s).dp hs.nd, hs, k _ G H (Le.refl s) (.str _)⟩) (hg := hg) (he := he) (hpl := hpl)
end
end DH
namespace SI
open PySem PySem.Spec PyProof.Rows L2 SrtO
section
variable {prog : Program} {w : World} {A : Around} {s : Shared}
/-- v is a pair whose first is the int x -/
def KP (h : Heap) (v : Value) (x : Int) (y : Value) : Prop := ∃ a o t n, v = .ref a ∧ h.get? a = some o ∧ o.cls = .type "tuple" ∧ o.data = .seq #[.int x t, y] n
theorem KP.keeps {h h' : Heap} {v y : Value} {x : Int} (p : KP h v x y) (k : ∀ b o, h.get? b = some o → o.cls = .type "tuple" → h'.get? b = some o) : KP h' v x y := by
  obtain ⟨a, o, t, n, e, ho, hc, hd⟩ := p
  exact ⟨a, o, t, n, e, k _ _ ho hc, hc, hd⟩
theorem swo_key (k : Value → Int) : Swo fun v u => decide (k v < k u) := by
  refine ⟨fun x y h => ?_, fun x y z h1 h2 => ?_⟩
  · have a := of_decide_eq_true h
    exact decide_eq_false (by omega)
  · have a := of_decide_eq_false h1
    have b := of_decide_eq_false h2
    exact decide_eq_false (by omega)
theorem firsts {h : Heap} {k : Value → Int} : ∀ {vs : List Value}, (∀ v ∈ vs, ∃ y, KP h v (k v) y) → ∃ fs : List Value, PySem.W.KatTups h vs fs ∧ fs.length = vs.length ∧ ∀ f ∈ fs, ∃ x t, f = Value.int x t
  | [], _ => ⟨[], PySem.W.KatTups.nil, rfl, nofun⟩
  | v :: vs, hp => by
    obtain ⟨fs, h1, h2, h3⟩ := firsts (vs := vs) fun u hm => hp u (List.mem_cons_of_mem _ hm)
    obtain ⟨y, a, o, t, n, e, ho, hc, hd⟩ := hp v (List.mem_cons_self ..)
    subst e
    refine ⟨.int (k (.ref a)) t :: fs, .cons ho hc hd rfl h1, by simp [h2], fun f hm => ?_⟩
    rcases List.mem_cons.mp hm with rfl | hm
    · exact ⟨_, t, rfl⟩
    · exact h3 f hm
theorem cmp_key {vs : List Value} {k : Value → Int} (hp : ∀ v ∈ vs, ∃ y, KP s.heap v (k v) y) (inj : ∀ v ∈ vs, ∀ u ∈ vs, k v = k u → v = u) : Cmp prog w A s (tuples' true) (fun p => p.1 ∈ vs) (lt2 fun v u => decide (k v < k u)) := by
  intro p q hm hm'
  obtain ⟨y1, a, o, t, n, e, ho, hc, hd⟩ := hp _ hm
  obtain ⟨y2, a', o', t', n', e', ho', hc', hd'⟩ := hp _ hm'
  have hi := inj _ hm _ hm'
  show wpAny (model prog w) A (keyLt' (tuples' true) p.1 q.1) (fun r z => z = s ∧ r = decide (k p.1 < k q.1)) (fun _ _ => False) s
  generalize hx : k p.1 = x at hd hi ⊢
  generalize hx' : k q.1 = x' at hd' hi ⊢
  rw [e, e'] at hi ⊢
  refine PySem.W.kat_lt ho hd ho' hd' ?_
  show PySem.W.KatLex prog w A true (decide (2 < 2)) _ [(.int x t, .int x' t'), (y1, y2)] 0 s
  refine PySem.W.kat_cons (SeqAt.EqAt.int_int x t x' t' prog w _ _ ?_)
  refine PySem.W.kat_go (fun z => ?_) (fun z => ?_)
  · have ex : x = x' := by simpa using z
    have ea := hi ex
    injection ea with ea
    subst ea
    rw [ho] at ho'
    cases ho'
    rw [hd] at hd'
    injection hd' with hd1 hd2
    have ey : y1 = y2 := by
      have := congrArg Array.toList hd1
      simp at this
      exact this.2
    subst ey
    refine PySem.W.kat_yes (PySem.W.kat_cons (SeqAt.EqAt.same _ prog w _ _ ?_))
    refine PySem.W.kat_go (fun _ => ?_) (fun z2 => by cases z2)
    exact PySem.W.kat_yes (PySem.W.kat_nil ⟨rfl, by rw [ex]; exact (decide_eq_false (Int.lt_irrefl _)).symm⟩)
  · exact PySem.W.kat_no (oneLt_int ⟨rfl, rfl⟩)
theorem sortable {a : Addr} {vs : List Value} {k : Value → Int} (h0 : 0 < vs.length) (hp : ∀ v ∈ vs, ∃ y, KP s.heap v (k v) y) (inj : ∀ v ∈ vs, ∀ u ∈ vs, k v = k u → v = u) (ha : ∀ o, s.heap.get? a = some o → o.cls ≠ .type "tuple") : SortableO prog w A s a vs fun v u => decide (k v < k u) := by
  intro h' keep
  have hp' : ∀ v ∈ vs, ∃ y, KP h' v (k v) y := fun v hm => (hp v hm).imp fun y r => r.keeps fun b o e c => keep b o (fun z => by subst z; exact ha o e c) e
  obtain ⟨fs, h1, h2, h3⟩ := firsts hp'
  refine ⟨tuples' true, fun Q E hq => ?_, cmp_key hp' inj⟩
  refine PySem.W.kat_kind (T := .type "int") h1 (by omega) (fun f hm => ?_) (by rfl) ?_
  · obtain ⟨x, t, rfl⟩ := h3 f hm
    exact PySem.W.Looks.now
  · have z : (Value.type "int" != Value.type "tuple") = true := by decide +kernel
    rw [z]
    exact hq
end
end SI
namespace DH
open PySem PySem.Spec L2
open PyProof.Rows (envOfC)
def kI : Key → Int
  | .inl i => i
  | .inr _ => 0
def kOf (h : Heap) (v : Value) : Int := match v with
  | .ref a => (match DT.seqAt0 h a with
    | some (.int i _) => i
    | _ => 0)
  | _ => 0
theorem valV_nd {k : Key} {v : V} : ∀ {xs : List (Key × V)}, (xs.map (·.1)).Nodup → (k, v) ∈ xs → valV xs k = some v
  | q :: xs, h, hm => by
    rw [List.map_cons, List.nodup_cons] at h
    unfold valV
    rcases List.mem_cons.mp hm with e | hm
    · rw [← e]
      rw [List.find?_cons_of_pos (by simp)]
      rfl
    · have hne : q.1 ≠ k := fun z => h.1 (List.mem_map.mpr ⟨_, hm, z.symm⟩)
      rw [List.find?_cons_of_neg (by simpa using hne)]
      exact valV_nd h.2 hm
section
variable {X : Cx} {B : Bs} {ρ : List Sl} {e o : Expr} {p pos apos cpos : Pos} {td : TE}
/-- d.items(): the view -/
def tItems (td : TE) : TE := fun σ H Q => td σ H fun x H1 => ∃ (a : Addr) (kvs : List (Key × V)), x = .ref a ∧ Rd H1 a (.dK kvs) ∧ ∀ p, H1 p = none → Q (.ref p) (upd H1 p (DX.itemsO p a))
theorem pe_items (ho : PE X o td) (hbase : attributeBase o "items" X.env (eval o X.env) = eval o X.env := by rfl) (hline : (apos.endLine == cpos.line) = true := by rfl) : PE X (.Call (.Attribute o "items" apos) [] [] cpos) (tItems td) := by
  refine ⟨fun pins s σ H Q I h => wpAny_Call_method0_late hbase hline (thn (ho.run pins s σ H _ I h) fun v s1 ⟨x, H1, I1, r1, a, kvs, ex, d, q⟩ => ?_)⟩
  subst ex
  obtain rfl : v = Value.ref a := r1
  obtain ⟨t1, t2, _⟩ := isD_at I1 (.inl ⟨kvs, d⟩)
  obtain ⟨_, hd, vs, _, od, es, ep, h1, h2, h3, _⟩ := dk_rd I1.hok d
  refine ⟨"dict", "dict.items", PySem.F.plainAttrs_dict, PySem.F.slot_dict_items, PySem.F.type_dict_items, t1, t2, Calls.callWith_builtin rfl (PySem.evalArgs_none (DT.callItems (es := es) (ep := ep) hd ⟨od, h1, h2, h3⟩ ?_))⟩
  exact ⟨.ref s1.heap.objs.size, upd H1 s1.heap.objs.size (DX.itemsO s1.heap.objs.size a), I1.laid (t' := s1.toks) (fun b u z => Heap.get?_push_of_some _ z) (Nat.le_refl _) (DX.itemsO_ok (Heap.get?_push_size _ rfl)), rfl, q _ (I1.hok.fresh (Nat.le_refl _))⟩
/-- sorted(d.items()), int keys -/
def rSortIt (K : PySem.W.Frag) : List V → Hp → VK → Prop := fun vs H Q => ∃ (p a : Addr) (kvs : List (Key × V)) (ks : List Int), vs = [.ref p] ∧ H p = some (DX.itemsO p a) ∧ Rd H a (.dK kvs) ∧ kvs.map (·.1) = ks.map Sum.inl ∧
  ∀ (H' : Hp) (l : Addr) (zs : List (Addr × Key × V)), (∀ b u, H b = some u → H' b = some u) → H l = none → (zs.map (·.2)).Perm kvs → (zs.map fun z => kI z.2.1).Pairwise (· ≤ ·) → H' l = some (.lst (zs.map fun z => V.ref z.1)) → (∀ z ∈ zs, H z.1 = none ∧ H' z.1 = some (.tup [kV z.2.1, z.2.2])) → Q (.ref l) H'
theorem zip_fst {α β γ : Type} (f : α → γ) : ∀ (as : List α) (ks : List β), as.length = ks.length → (as.zip ks).map (fun z => f z.1) = as.map f
  | [], _, _ => rfl
  | _ :: _, [], h => by simp at h
  | a :: as, k :: ks, h => by
    show f a :: (as.zip ks).map _ = f a :: as.map f
    rw [zip_fst f as ks (by simpa using h)]
theorem cr_sortIt (hc : X.calm = true) : CallR X (.builtin "sorted") (rSortIt X.K) := by
  intro pins s σ H xs us Q I r h
  obtain ⟨p, a, kvs, ks, rfl, hp, ha, hks, q⟩ := h
  obtain rfl := Vals.ref1 r
  have view : s.heap.IsItemsView p a := (show ObjOk X.prog X.w H s.heap p (DX.itemsO p a) from I.hok p _ hp).1
  obtain ⟨hz, hd, vs, rel, ob, es, ep, ho, hx, hdat, hke, hpr, hnd⟩ := dk_rd I.hok ha
  have l1 : kvs.length = vs.length := rel.length
  have l2 : es.size = vs.length := by rw [← hpr.length]; exact Array.length_toList.symm
  refine DT.sortedI (es := es) (ep := ep) (I.ok.hd hc) view ⟨ob, ho, hx, hdat⟩ (by omega) fun h' tk as hk hlt hl hG => ?_
  have lak : as.length = kvs.length := by omega
  have nd : as.Nodup := List.Pairwise.imp (fun h => Nat.ne_of_lt h) hG.rise
  have pr : ∀ (j : Nat) (b : Addr), as[j]? = some b → ∃ (i : Int) (t : Tok) (v : V) (u : Value), kvs[j]? = some (.inl i, v) ∧ RelV v u ∧ h'.get? b = some { cls := .type "tuple", data := .seq #[Value.int i t, u] } := by
    intro j b hj
    obtain ⟨en, he, hg⟩ := hG.pairs j b hj
    have hjl : j < kvs.length := by rw [← lak]; exact (List.getElem?_eq_some_iff.mp hj).1
    have hkj : kvs[j]? = some kvs[j] := List.getElem?_eq_getElem hjl
    obtain ⟨y, hy, r1, r2⟩ := LiI.paired_get rel hkj
    have hkey : ∃ i, kvs[j].1 = .inl i := by
      have := congrArg (fun l => l[j]?) hks
      simp only [List.getElem?_map, hkj] at this
      cases hq : ks[j]? with
      | none => rw [hq] at this; cases this
      | some i => rw [hq] at this; exact ⟨i, Option.some.inj this⟩
    obtain ⟨i, hi⟩ := hkey
    obtain ⟨g1, g2⟩ := hpr.get? (i := j) (e := en) (k := y.1) (v := y.2) (by rw [Array.getElem?_toList]; exact he) hy
    have g1' : keyIs y.1 en.key = true := g1
    rw [← r1, hi] at g1'
    obtain ⟨t, ht⟩ := Value.isInt_shape (show Value.isInt i en.key = true from g1')
    refine ⟨i, t, kvs[j].2, y.2, ?_, r2, ?_⟩
    · rw [hkj, ← hi]
    · rw [hg, ht, g2]
  have hob : (h'.push { cls := .type "list", data := .seq (as.map Value.ref).toArray }).get? h'.objs.size = some (PyProof.Rows.seqObj "list" (as.map Value.ref).toArray 0) := Heap.get?_push_size _ rfl
  generalize hh2 : h'.push { cls := .type "list", data := .seq (as.map Value.ref).toArray } = h2 at hob ⊢
  have ka : ∀ b u, h'.get? b = some u → h2.get? b = some u := fun b u z => by rw [← hh2]; exact Heap.get?_push_of_some _ z
  have kb : ∀ b u, s.heap.get? b = some u → h2.get? b = some u := fun b u z => ka b u (hk b u z)
  have ne0 : ∀ b u, h'.get? b = some u → b ≠ h'.objs.size := fun b u z => Nat.ne_of_lt (Heap.lt_size z)
  have kv : ∀ (j : Nat) (b : Addr), as[j]? = some b → ∃ (i : Int) (v : V) (y : Value), kvs[j]? = some (.inl i, v) ∧ kOf h2 (.ref b) = i ∧ SI.KP h2 (.ref b) i y := fun j b hj => by
    obtain ⟨i, t, v, u, h1, h3, h4⟩ := pr j b hj
    refine ⟨i, v, u, h1, ?_, b, _, t, 0, rfl, ka _ _ h4, rfl, rfl⟩
    show (match DT.seqAt0 h2 b with
      | some (.int i _) => i
      | _ => 0) = i
    rw [DT.seqAt0_of (items := #[Value.int i t, u]) ⟨_, ka _ _ h4, rfl, 0, rfl⟩]
    rfl
  have kp : ∀ v ∈ as.map Value.ref, ∃ y, SI.KP h2 v (kOf h2 v) y := fun v hv => by
    obtain ⟨b, hb, rfl⟩ := List.mem_map.mp hv
    obtain ⟨j, hj⟩ := List.mem_iff_getElem?.mp hb
    obtain ⟨i, v, y, _, h3, h4⟩ := kv j b hj
    rw [h3]
    exact ⟨y, h4⟩
  have ndk : (kvs.map (·.1)).Nodup := by rw [rel.keys]; exact hnd
  have inj : ∀ v ∈ as.map Value.ref, ∀ u ∈ as.map Value.ref, kOf h2 v = kOf h2 u → v = u := fun v hv u hu he => by
    obtain ⟨b, hb, rfl⟩ := List.mem_map.mp hv
    obtain ⟨c, hcc, rfl⟩ := List.mem_map.mp hu
    obtain ⟨j, hj⟩ := List.mem_iff_getElem?.mp hb
    obtain ⟨m, hm⟩ := List.mem_iff_getElem?.mp hcc
    obtain ⟨i1, v1, _, e1, f1, _⟩ := kv j b hj
    obtain ⟨i2, v2, _, e2, f2, _⟩ := kv m c hm
    rw [f1, f2] at he
    subst he
    have g1 : (kvs.map (·.1))[j]? = some (Sum.inl i1) := by rw [List.getElem?_map, e1]; rfl
    have g2 : (kvs.map (·.1))[m]? = some (Sum.inl i1) := by rw [List.getElem?_map, e2]; rfl
    have : j = m := L2.nd_ix ndk g1 g2
    subst this
    rw [hj] at hm
    cases hm
    rfl
  refine wpAny_call_entry PyProof.Rows.slot_list_sort ⟨_, hob, rfl⟩ PyProof.Rows.entry_list_sort
    (SrtO.list_sort_ord (s := { s with heap := h2, toks := tk }) (ltv := fun v u => decide (kOf h2 v < kOf h2 u)) (SI.swo_key _) hob (by rw [List.length_map]; omega) (fun h2' => SI.sortable (by omega) kp inj fun ob' e' => ?_) fun out o1 o2 => ⟨.none, rfl, ?_⟩) (PyProof.Rows.args_list_sort _)
  · have z : some ob' = some (PyProof.Rows.seqObj "list" (as.map Value.ref).toArray 0) := e'.symm.trans hob
    cases z
    intro c
    exact absurd (Value.type.inj c) (by decide)
  · show EP X pins σ Q (.ref h'.objs.size) { s with heap := PyProof.Rows.sortedHeap h2 h'.objs.size (as.map Value.ref) out.toArray, toks := tk }
    obtain ⟨zs, pz, ez⟩ := perm_lift (fun z : Addr × Key × V => Value.ref z.1) o2.perm (as.zip kvs) (zip_fst Value.ref as kvs lak)
    have idx : ∀ z ∈ zs, ∃ j : Nat, as[j]? = some z.1 ∧ kvs[j]? = some z.2 := fun z hz => by
      obtain ⟨j, hj⟩ := List.mem_iff_getElem?.mp (pz.mem_iff.mp hz)
      exact ⟨j, List.getElem?_zip_eq_some.mp hj⟩
    have hperm : (zs.map (·.2)).Perm kvs := by
      have e := pz.map (·.2)
      rw [List.map_snd_zip (by omega)] at e
      exact e
    have hsort : (zs.map fun z => kI z.2.1).Pairwise (· ≤ ·) := by
      have o1' : List.Pairwise _ out := o1
      rw [← ez, List.pairwise_map] at o1'
      rw [List.pairwise_map]
      refine List.Pairwise.imp_of_mem (fun {x y} hx hy h => ?_) o1'
      obtain ⟨j, j1, j2⟩ := idx x hx
      obtain ⟨m, m1, m2⟩ := idx y hy
      obtain ⟨i1, v1, _, e1, f1, _⟩ := kv j _ j1
      obtain ⟨i2, v2, _, e2, f2, _⟩ := kv m _ m1
      rw [j2] at e1
      rw [m2] at e2
      have hh := of_decide_eq_false (show decide (kOf h2 (.ref y.1) < kOf h2 (.ref x.1)) = false from h)
      rw [f1, f2] at hh
      rw [Option.some.inj e1, Option.some.inj e2]
      show i1 ≤ i2
      omega
    have kF : ∀ b u, b ≠ h'.objs.size → h2.get? b = some u → (PyProof.Rows.sortedHeap h2 h'.objs.size (as.map Value.ref) out.toArray).get? b = some u := fun b u hb z => (PyProof.Rows.sortedHeap_old hb (Heap.lt_size z)).trans z
    have kS : ∀ b u, s.heap.get? b = some u → (PyProof.Rows.sortedHeap h2 h'.objs.size (as.map Value.ref) out.toArray).get? b = some u := fun b u z => kF b u (ne0 _ _ (hk b u z)) (kb b u z)
    obtain ⟨eF, heF⟩ := PyProof.Rows.sortedHeap_at (vs := as.map Value.ref) (out := out.toArray) hob
    have I1 : Inv X pins σ H { s with heap := PyProof.Rows.sortedHeap h2 h'.objs.size (as.map Value.ref) out.toArray, toks := tk } := I.kept (t' := tk) kS
    have hn0 : H h'.objs.size = none := I.hok.fresh (Nat.le_of_lt hlt)
    have hlen : (zs.map fun z => V.ref z.1).length ≤ sizeLine := by
      have e := hperm.length_eq
      rw [List.length_map] at e
      rw [List.length_map]
      omega
    have rv : Vals (zs.map fun z => V.ref z.1) out := by
      rw [← ez]
      exact vals_maps (fun z : Addr × Key × V => V.ref z.1) (fun z => Value.ref z.1) zs fun _ _ => rfl
    have I2 : Inv X pins σ (upd H h'.objs.size (.lst (zs.map fun z => V.ref z.1))) { s with heap := PyProof.Rows.sortedHeap h2 h'.objs.size (as.map Value.ref) out.toArray, toks := tk } :=
      I1.take (h' := PyProof.Rows.sortedHeap h2 h'.objs.size (as.map Value.ref) out.toArray) (t' := tk) (fun b ob _ z => z) (I.fpOk (Nat.le_of_lt hlt) hn0) ⟨hlen, out, eF, rv, heF⟩
    obtain ⟨H2, I3, g, qt⟩ := L2.DX.takeT (P := fun b us => ∃ (j : Nat) (i : Int) (v : V), as[j]? = some b ∧ kvs[j]? = some (.inl i, v) ∧ us = [.int i, v]) I as _ I2 nd fun b hb => by
      obtain ⟨j, hj⟩ := List.mem_iff_getElem?.mp hb
      obtain ⟨i, t, v, u, h1, h3, h4⟩ := pr j b hj
      have hbl : s.heap.objs.size ≤ b := Nat.le_of_lt (hG.above b hb)
      refine ⟨hbl, ?_, [.int i, v], ⟨j, i, v, hj, h1, rfl⟩, fun H3 => ⟨(by rw [sizeLine_eq]; show 2 ≤ 16777216; omega), [Value.int i t, u], .cons ⟨t, rfl⟩ (.cons h3 .nil), ⟨_, kF _ _ (ne0 _ _ h4) (ka _ _ h4), rfl, 0, rfl⟩⟩⟩
      rw [upd_ne (ne0 _ _ h4)]
      exact I.hok.fresh hbl
    refine ⟨.ref h'.objs.size, H2, I3, rfl, q H2 h'.objs.size zs (fun b u z => g b u (by rw [upd_ne (ne_of_none z hn0)]; exact z)) hn0 hperm hsort (g _ _ upd_same) fun z hz => ?_⟩
    obtain ⟨m, m1, m2⟩ := idx z hz
    obtain ⟨us, ⟨j, i, v, j1, j2, ev⟩, hH⟩ := qt z.1 (List.mem_of_getElem? m1)
    have eij : m = j := L2.nd_ix nd m1 j1
    subst eij
    rw [m2] at j2
    have ez2 := Option.some.inj j2
    refine ⟨I.hok.fresh (Nat.le_of_lt (hG.above _ (List.mem_of_getElem? m1))), ?_⟩
    rw [hH, ev, ez2]
    rfl
theorem rpa_map {α : Type} {M : Md} {G : Hp} {f : α → V} {g : α → PyData} : ∀ {l : List α}, (∀ x ∈ l, Rp M G (f x) (g x)) → RpA M G (l.map f) (l.map g)
  | [], _ => .nil
  | x :: l, h => .cons (h x (List.mem_cons_self ..)) (rpa_map fun y hy => h y (List.mem_cons_of_mem _ hy))
def itemsOf (kvs : List (Key × PyData)) (ks : List Int) : List PyData := (srt ks).map fun k => .tuple [.int k, (lookD kvs (.inl k)).getD .none]
theorem ev_sortIt {kvs : List (Key × PyData)} {ks : List Int} (hc : X.calm = true) (hm : X.mg "sorted" = none) (h : Ev X B ρ o (.dict (dK kvs))) (hk : kvs.map (·.1) = ks.map Sum.inl) (hnd : ks.Nodup) (hg : Gl X "sorted" := by rfl)
    (hbase : attributeBase o "items" X.env (eval o X.env) = eval o X.env := by rfl) (hline : (apos.endLine == cpos.line) = true := by rfl)
    (he : starEach [.Call (.Attribute o "items" apos) [] [] cpos] X.env = (false, eval (.Call (.Attribute o "items" apos) [] [] cpos) X.env) :: starEach [] X.env := by rfl) (hpl : (backTo pos (starEach [] X.env)).any (·.1) = false := by rfl) :
    Ev X B ρ (.Call (.Name "sorted" p) [.Call (.Attribute o "items" apos) [] [] cpos] [] pos) (.list (itemsOf kvs ks)) := fun σ G H E Q k => by
  refine wE_of (pe_callB (cr_sortIt hc) hg hm (by decide +kernel) (pa_cons (pe_items pe_w hbase hline) pa_nil he) (by decide) (by decide) he hpl) ?_
  refine h σ G H E _ fun x G1 H1 l1 rx => ?_
  obtain ⟨a, xs, rfl, ⟨od, ha⟩, r1⟩ := rp_dct rx
  refine ⟨a, xs, rfl, .inr ⟨od, l1.i _ _ ha⟩, fun v hv => ?_⟩
  have hav : a ≠ v := fun z => by rw [← z, l1.i _ _ ha] at hv; cases hv
  refine ⟨v, a, xs, ks, rfl, upd_same, .inr ⟨od, by rw [upd_ne hav]; exact l1.i _ _ ha⟩, by rw [r1.keys]; exact hk, fun H' l zs hH hl hp hs hH' hz => ?_⟩
  have s1 : Same H1 H' := fun b u z => hH b u (by rw [upd_ne (ne_of_none z hv)]; exact z)
  have hl1 : H1 l = none := by
    cases q : H1 l with
    | none => rfl
    | some u =>
      have : l ≠ v := ne_of_none q hv
      rw [upd_ne this, q] at hl
      cases hl
  have hz1 : ∀ z ∈ zs, H1 z.1 = none := fun z hzz => by
    cases q : H1 z.1 with
    | none => rfl
    | some u =>
      have hl := (hz z hzz).1
      have : z.1 ≠ v := ne_of_none q hv
      rw [upd_ne this, q] at hl
      cases hl
  let G2 : Hp := fun b => if H1 b = none then H' b else G1 b
  have g2n : ∀ {b : Addr}, H1 b = none → G2 b = H' b := fun h => if_pos h
  have g2s : ∀ {b : Addr} {u : HO}, H1 b = some u → G2 b = G1 b := fun {b u} h => if_neg (by rw [h]; exact fun z => by cases z)
  have sg : Same G1 G2 := fun b u z => by rw [g2s (l1.i b u z)]; exact z
  have sgh : Same G2 H' := fun b u z => by
    cases q : H1 b with
    | none => rw [g2n q] at z; exact z
    | some u' =>
      rw [g2s q] at z
      exact s1 b u (l1.i b u z)
  have l2 : Le G1 H1 G2 H' := ⟨sg, s1, sgh, fun b u z => g2s z⟩
  refine k _ G2 H' (l1.trans l2) ?_
  have hks : zs.map (fun z => kI z.2.1) = srt ks := by
    refine srt_one ?_ hs
    have e1 := (hp.map (fun q : Key × V => kI q.1))
    rw [List.map_map] at e1
    refine e1.trans (List.Perm.of_eq ?_)
    have e2 : xs.map (fun q : Key × V => kI q.1) = (xs.map (·.1)).map kI := by rw [List.map_map]; rfl
    rw [e2, r1.keys, hk, List.map_map]
    exact List.map_id _
  refine .lst (SqL.of (by rw [g2n hl1]; exact hH')) ?_
  show RpA _ _ _ (itemsOf kvs ks)
  unfold itemsOf
  rw [← hks, List.map_map]
  refine rpa_map fun z hzz => ?_
  have hm : z.2 ∈ xs := hp.mem_iff.mp (List.mem_map.mpr ⟨z, hzz, rfl⟩)
  have hkz : ∃ i, z.2.1 = .inl i := by
    have : z.2.1 ∈ xs.map (·.1) := List.mem_map.mpr ⟨_, hm, rfl⟩
    rw [r1.keys, hk] at this
    obtain ⟨i, _, h2⟩ := List.mem_map.mp this
    exact ⟨i, h2.symm⟩
  obtain ⟨i, hi⟩ := hkz
  obtain ⟨j, hj⟩ := List.mem_iff_getElem?.mp hm
  have hval : valV xs (.inl i) = some z.2.2 := by
    have ndk : (xs.map (·.1)).Nodup := by
      rw [r1.keys, hk]
      exact List.Pairwise.map _ (fun a b (hab : a ≠ b) q => hab (Sum.inl.inj q)) hnd
    exact valV_nd ndk (by rw [← hi]; exact hm)
  have hlk := r1.look (.inl i)
  rw [hval] at hlk
  have hrp : Rp (md X) G1 z.2.2 ((lookD kvs (.inl i)).getD .none) := by
    cases q : lookD kvs (.inl i) with
    | none => rw [q] at hlk; exact hlk.elim
    | some d => rw [q] at hlk; exact hlk
  refine .tup (xs := [.int i, z.2.2]) (SqT.of (by rw [g2n (hz1 z hzz), (hz z hzz).2, hi]; rfl)) ?_
  show RpA _ _ _ [.int (kI z.2.1), (lookD kvs (.inl (kI z.2.1))).getD .none]
  rw [hi]
  exact .cons (.int _) (.cons (hrp.le sg) .nil)
end
end DH
namespace DH
open PySem PySem.Spec L2
open PyProof.Rows (envOfC IntsAre AllBare)
/-! a def called from a given place (its Around known whole) -/
theorem run_caller {P : Program} {w : World} {K : PySem.W.Frag} {mg : Str → Option Value} {base : Heap} {N : List Str} {x z : Str} {params : Arguments} {body : List Stmt} {scope : Scope} {f : Addr} {fd : FuncData} {k : Nat} {A : Around} {outer : List Env} {s : Shared} {H G : Hp} {d : PyData} {v : V} {u : Value}
    (F : FunD K x x params body scope [] [] f fd) (S : FnScope N [z] scope) (hb : ∀ (s : Shared) (u : Value), BindsTo s fd ⟨[u], []⟩ [(z, u)]) (hr : Room (k + 1) A) (e0 : Env0 P w K mg base A outer s H) (sg : Same G H) (rd : Rp ⟨P, w, K⟩ G v d) (ru : RelV v u)
    (h : ∀ (cdv : Value) (E : XK), Run (cxOf CX0 P w K mg base N x scope f cdv A outer s H E).nox ⟨G, H⟩ body (startS N.length [d]) (retP (.d (.bool true)))) :
    codeAny (model P w) A (.call (.ref f) ⟨[u], []⟩) (CR CX0 outer P w H s (fun v _ => v = .bl true) (fun _ _ _ => False)) s := by
  obtain ⟨o1, o2, v1, v2, v3, v4, n1, cv, v5, sl, rfl, look, code, _, _⟩ := F.ex
  have kin : K.In s.heap := e0.mod.kin.keeps fun b ob q => (e0.bs b ob q).1
  have nl : s.heap.NoLimit := e0.mod.nolimit.keeps fun b ob q => (e0.bs b ob q).1
  refine codeAny_call_function hr.depth (kin _ _ look) rfl S.co S.gen rfl (PySem.W.codeRec_of kin code) (hb s u _ _ _ _ ?_)
  have kinds : ∀ y ∈ [(z, u)], scope.names.lookup y.1 = some .local ∨ (scope.names.lookup y.1 = some .cell ∧ ((cellsFrom (s.heap.objs.size + 1) scope.names []).lookup y.1).isSome = true) := fun y hy => by
    rw [List.mem_singleton.mp hy]
    refine (S.par z (List.mem_singleton.mpr rfl)).imp id fun q => ⟨q, ?_⟩
    exact PySem.W.cellsFrom_some _ _ _ (.inl q)
  refine wpAny_newFunctionEnv_cells S.kind kinds fun env ee s2 ic => ?_
  subst ee
  refine ⟨nl.keeps ic.toInCall.keep, codeAny_func ?_⟩
  have J := inv_start (CX := CX0) (E := fun _ _ _ => False) (us := [u]) (vs := [v]) S hr.hd e0 rfl (.cons ru .nil) ic
  have run := h cv (fun _ _ _ => False) _ G H (en_start sg (.cons rd .nil))
  refine wpAny_mono ((PSs.nox pss_w).run [] s2 _ H _ J run) (fun fl s3 q => ?_) fun ex s3 q => q
  cases fl with
  | ret y =>
    obtain ⟨v', st, H', J', rv, G', r', l, ok, er⟩ := q
    have er' : r' = .d (.bool true) := er
    subst er'
    exact ⟨v', H', J'.os, J'.bare, J'.base, J'.hok, rv, rp_bl ok⟩
  | next =>
    obtain ⟨st, H', J', ρ', G', E', _, er⟩ := q
    exact absurd (show Rs.d (.bool true) = .d .none from er) (fun z => by cases z)
  | brk =>
    obtain ⟨st, H', J', ρ', G', E', _, er⟩ := q
    exact er.elim
  | cont =>
    obtain ⟨st, H', J', ρ', G', E', _, er⟩ := q
    exact er.elim
/-- the law's def called by the claim's caller: nothing but the script may be tracked -/
theorem law_callG {P : Program} {w : World} {K : PySem.W.Frag} {mg mb : Str → Option Value} {fa a : Addr} {s1 : Shared} {us : List Value} {ns : List Int} (kin : K.In s1.heap) (gl : s1.heap.Ns mainGlobals mg) (bl : s1.heap.Ns builtinsNs mb) (bb : ∀ x : Str, x ≠ "__name__" → mb x = bootBuiltins x) (nl : s1.heap.NoLimit) (ng : s1.gens = #[])
    (la : s1.heap.get? a = some { cls := .type "list", data := .seq us.toArray }) (li : IntsAre us ns) (lz : ns.length ≤ sizeLine)
    (F : ∀ (base : Heap) (H : Hp), Env0 P w K mg base callerA [] s1 H → SqL K H a (ns.map V.int) → codeAny (model P w) callerA (.call (.ref fa) ⟨[.ref a], []⟩) (CR CX0 [] P w H s1 (fun v _ => v = .bl true) fun _ _ _ => False) s1) :
    codeAny (model P w) callerA (.call (.ref fa) ⟨[.ref a], []⟩) (fun r z => r = .ok (.ret (.bool true)) ∧ OldK s1.heap z.heap ∧ z.os = s1.os ∧ AllBare z.gens) s1 := by
  have lv := li.length
  have rel := vals_ints li
  generalize hob : ({ cls := .type "list", data := .seq us.toArray } : Obj) = ob at la
  have go : ∀ H : Hp, (∀ b u, H b = some u → b = a ∧ K.lookup a = none ∧ u = .frz ob (.lst (ns.map V.int))) → SqL K H a (ns.map V.int) →
      codeAny (model P w) callerA (.call (.ref fa) ⟨[.ref a], []⟩) (fun r z => r = .ok (.ret (.bool true)) ∧ OldK s1.heap z.heap ∧ z.os = s1.os ∧ AllBare z.gens) s1 := fun H hH hS => by
    have off : ∀ {b : Addr}, b ≠ a → H b = none := fun {b} hne => by
      cases q : H b with
      | none => rfl
      | some u => exact absurd (hH b u q).1 hne
    have nsOf : ∀ {b : Addr} {m : Str → Option Value}, s1.heap.Ns b m → (hidT s1.heap H).Ns b m := fun {b m} h => by
      obtain ⟨o, es, ep, e, d, more⟩ := h
      refine ⟨o, es, ep, hidT_get e (off fun z => ?_), d, more⟩
      subst z
      rw [la] at e
      cases e
      rw [← hob] at d
      cases d
    have kinB : K.In (hidT s1.heap H) := fun b o e => hidT_get (kin b o e) (by
      cases q : H b with
      | none => rfl
      | some u =>
        obtain ⟨rfl, z, _⟩ := hH b u q
        rw [z] at e
        cases e)
    have modB : Mod K mg (hidT s1.heap H) := by
      refine ⟨kinB, nsOf gl, ⟨mb, nsOf bl, bb⟩, ?_⟩
      obtain ⟨mc, z1, z2⟩ := nl
      exact ⟨mc, nsOf z1, z2⟩
    have okH : HOk P w H s1.heap := fun b u q => by
      obtain ⟨rfl, _, rfl⟩ := hH b u q
      refine ⟨la, ?_⟩
      rw [← hob] at la
      exact ⟨by rw [List.length_map]; exact lz, us, _, rel, la⟩
    have e0 : Env0 P w K mg (hidT s1.heap H) callerA [] s1 H := {
      frames := rfl
      mod := modB
      bs := fun _ _ q => of_hidT q
      bsz := Nat.le_of_eq (hidT_size _ _)
      funs := trivial
      frf := fun b z => absurd (show b ∈ ([] : List Addr) from z) List.not_mem_nil
      hok := okH
      bare := AllBare.of_eq ng }
    refine codeAny_mono (F _ H e0 hS) fun r z q => ?_
    match r, q with
    | .ok (.ret y), q =>
      obtain ⟨v, H', q1, q2, q3, q4, q5, q6⟩ := q
      have q6' : v = .bl true := q6
      subst q6'
      obtain rfl : y = Value.bool true := q5
      refine ⟨rfl, OldK.of_keep fun b o e => ?_, q1, q2⟩
      cases t : H b with
      | none => exact q3.keep b o e t (fun z => absurd (show b ∈ ([] : List Addr) from z) List.not_mem_nil) List.not_mem_nil
      | some u =>
        obtain ⟨_, _, rfl⟩ := hH b u t
        have t' := q3.frzs b ob _ t
        have g1 := (okH b _ t).1
        have g2 := (q4 b _ t').1
        rw [e] at g1
        cases g1
        exact g2
  cases hk : K.lookup a with
  | some o =>
    have e := kin a o hk
    rw [la] at e
    cases e
    subst hob
    exact go (fun _ => none) (fun _ _ z => by cases z) (.inr ⟨_, us.toArray, _, hk, rfl, rfl, rfl, by rw [List.size_toArray, lv]; exact lz, by simpa using rel⟩)
  | none =>
    refine go (fun b => if b = a then some (.frz ob (.lst (ns.map V.int))) else none) (fun b u z => ?_) (.inl (.inr ⟨ob, if_pos rfl⟩))
    by_cases hba : b = a
    · have z' := (if_pos hba).symm.trans z
      exact ⟨hba, hk, (Option.some.inj z').symm⟩
    · have z' := (if_neg hba).symm.trans z
      cases z'
end DH
namespace K36
open PySem PySem.Spec L2 DH
open PyProof.Rows (envOfC)
def top (i : Nat) : Stmt := PySem.Challenge.pw_typedbydegrees_k36_whole_heaps_that_are.main.body.getD i (.Pass ⟨0, 0, 0, 0⟩)
abbrev sMix : Stmt := top 36
/-- built-ins that the module leaves as they are -/
structure Bi (mg : Str → Option Value) : Prop where
  len : mg "len" = none
  int : mg "int" = none
theorem scMix : FnScope ["draws", "k", "many", "cell"] ["draws", "k", "many"] (defScope sMix) := ⟨rfl, rfl, rfl, by decide +kernel, rfl, by decide +kernel, by decide +kernel⟩
def cellOf (ns : List Int) (k : Int) : Int := if 0 < ns.length then ns.getD (k % ns.length).toNat 0 else 0
def mix (ns : List Int) (k many : Int) : Int := if k < ns.length then cellOf ns k % many else ((cellOf ns k * 7919 + k * 104729) / 3) % many
def DrawsOk (ns : List Int) : Prop := ∀ n ∈ ns, 0 ≤ n ∧ n < 65536
theorem cellOf_lt {ns : List Int} (h : DrawsOk ns) (k : Int) : 0 ≤ cellOf ns k ∧ cellOf ns k < 65536 := by
  unfold cellOf
  split
  · rw [List.getD_eq_getElem?_getD]
    cases e : ns[(k % (ns.length : Int)).toNat]? with
    | none => exact ⟨by decide, by decide⟩
    | some x => exact h x (List.mem_of_getElem? e)
  · exact ⟨by decide, by decide⟩
theorem atI_ints {ns : List Int} {k : Int} (h0 : 0 ≤ k) (h1 : k < ns.length) : atI (ns.map PyData.int) k = some (.int (ns.getD k.toNat 0)) := by
  unfold atI ixN
  rw [if_pos h0, List.length_map, if_pos h1]
  show (ns.map PyData.int)[k.toNat]? = _
  rw [List.getElem?_map, List.getD_eq_getElem?_getD, List.getElem?_eq_getElem (by omega)]
  rfl
def preMix (ds : List PyData) (r : Rs) : Prop := ∃ (ns : List Int) (k many : Int), ds = [.list (ns.map .int), .int k, .int many] ∧ DrawsOk ns ∧ 0 ≤ k ∧ k < 1000000 ∧ 0 < many ∧ r = .d (.int (mix ns k many))
section
variable {P : Program} {w : World} {K : PySem.W.Frag} {mg : Str → Option Value} {base : Heap}
theorem c_mix (T : Bi mg) (D : Df K mg "_law_mix" sMix) : Cal P w K mg base 1 "_law_mix" ["draws", "k", "many"] preMix := by
  refine cal_of D scMix (fun ds r h => ?_) (fun _ _ _ _ _ _ us hl => match us, hl with | [_, _, _], _ => rfl) (fun f cdv A outer s H E G ds r hr hp => ?_)
  · obtain ⟨ns, k, many, rfl, _⟩ := h
    rfl
  · obtain ⟨ns, k, many, rfl, hns, hk, hk2, hm, rfl⟩ := hp
    have hL : ((ns.map PyData.int).length : Int) = (ns.length : Int) := by rw [List.length_map]
    have hc := cellOf_lt hns k
    refine run_set (i := 3) ev_int scMix.nd rfl (.inl rfl) ?_
    refine run_cons (N := fun ρ => ρ = [.d (.list (ns.map .int)), .d (.int k), .d (.int many), .d (.int (cellOf ns k))]) (run1_if (et_gt (ev_lenL T.len (ev_name (i := 0) rfl rfl (.inl rfl))) ev_int) (fun h => ?_) (fun h => ?_)) ?_
    · have h' : 0 < ns.length := by
        rw [hL] at h
        have := of_decide_eq_true h
        omega
      have e : cellOf ns k = ns.getD (k % ns.length).toNat 0 := if_pos h'
      refine run_set (i := 3) (ev_ixL (ev_name (i := 0) rfl rfl (.inl rfl)) (ev_mod (ev_int1 T.int (ev_name (i := 1) rfl rfl (.inl rfl))) (ev_lenL T.len (ev_name (i := 0) rfl rfl (.inl rfl))) (by rw [hL]; omega)) (by rw [hL]; exact atI_ints (Int.emod_nonneg _ (by omega)) (Int.emod_lt_of_pos _ (by omega)))) scMix.nd rfl (.inl rfl) (run_nil ?_)
      rw [← e]
      rfl
    · refine run_nil ?_
      have h' : ¬ 0 < ns.length := by
        rw [hL] at h
        have := of_decide_eq_false h
        omega
      rw [show cellOf ns k = 0 from if_neg h']
      rfl
    rintro ρ rfl
    refine run_if (et_lt (ev_name (i := 1) rfl rfl (.inl rfl)) (ev_lenL T.len (ev_name (i := 0) rfl rfl (.inl rfl)))) (fun h => ?_) (fun h => run_nil ?_)
    · refine run_ret (ev_mod (ev_int1 T.int (ev_name (i := 3) rfl rfl (.inl rfl))) (ev_name (i := 2) rfl rfl (.inl rfl)) hm) ?_
      show _ = _
      rw [hL] at h
      unfold mix
      rw [if_pos (of_decide_eq_true h)]
    · refine run_ret (ev_mod (ev_int1 T.int (ev_fdiv (ev_int1 T.int (ev_add (ev_mul (ev_name (i := 3) rfl rfl (.inl rfl)) ev_int (.inl ⟨by omega, by omega⟩)) (ev_mul (ev_name (i := 1) rfl rfl (.inl rfl)) ev_int (.inl ⟨by omega, by omega⟩)))) ev_int ⟨by decide, by decide⟩)) (ev_name (i := 2) rfl rfl (.inl rfl)) hm) ?_
      show _ = _
      rw [hL] at h
      unfold mix
      rw [if_neg (of_decide_eq_false h)]
end
end K36
namespace K36
open PySem PySem.Spec L2 DH
open PyProof.Rows (envOfC)
/-! values and cells -/
inductive Vl where
  | int (i : Int)
  | unit
  | nil
  | ref (n : Int)
  | bool (b : Bool)
def Vl.tag : Vl → Str
  | .int _ => "int"
  | .unit => "unit"
  | .nil => "nil"
  | .ref _ => "ref"
  | .bool _ => "bool"
def Vl.arg : Vl → List PyData
  | .int i => [.int i]
  | .unit => []
  | .nil => []
  | .ref n => [.int n]
  | .bool b => [.bool b]
def Vl.d (v : Vl) : PyData := .tuple (.str v.tag :: v.arg)
def Vl.refs : Vl → List Int
  | .ref n => [n]
  | _ => []
def refsOf (vs : List Vl) : List Int := vs.flatMap Vl.refs
inductive Cell where
  | two (cons : Bool) (a b : Vl)
  | clo (n : Int) (vs : List Vl)
def Cell.d : Cell → PyData
  | .two c a b => .tuple [.str (if c then "cons" else "pair"), a.d, b.d]
  | .clo n vs => .tuple [.str "closure", .int n, .tuple (vs.map Vl.d)]
def Cell.vals : Cell → List Vl
  | .two _ a b => [a, b]
  | .clo _ vs => vs
def Cell.ok (c : Cell) : Prop := c.vals.length ≤ 3
structure Tb (M : Md) (mg : Str → Option Value) : Prop where
  fields : TabC M mg "FIELDS" [("pair", .tuple [.int 1, .int 2]), ("cons", .tuple [.int 1, .int 2])] []
  sizes : TabC M mg "SIZES" [("int", .int 2), ("bool", .int 2), ("unit", .int 1), ("nil", .int 1), ("ref", .int 2)] []
  lengths : TabC M mg "LENGTHS" [("closure", .int 3), ("pair", .int 3), ("cons", .int 3)] []
structure Bj (mg : Str → Option Value) : Prop extends Bi mg where
  list : mg "list" = none
  tuple : mg "tuple" = none
  sorted : mg "sorted" = none
  isi : mg "isinstance" = none
  bool : mg "bool" = none
  enum : mg "enumerate" = none
  all : mg "all" = none
  abs : mg "abs" = none
  min : mg "min" = none
  range : mg "range" = none
  repr : mg "repr" = none
  dict : mg "dict" = none
abbrev sVO : Stmt := top 19
theorem scVO : FnScope ["cell", "k"] ["cell"] (defScope sVO) := ⟨rfl, rfl, rfl, by decide +kernel, rfl, by decide +kernel, by decide +kernel⟩
def preVO (ds : List PyData) (r : Rs) : Prop := ∃ c : Cell, ds = [c.d] ∧ c.ok ∧ r = .l (c.vals.map Vl.d)
theorem vl_notNone (v : Vl) : nonD v.d = false := rfl
section
variable {P : Program} {w : World} {K : PySem.W.Frag} {mg : Str → Option Value} {base : Heap}
theorem c_vo (T : Bj mg) (Tb : Tb ⟨P, w, K⟩ mg) (D : Df K mg "values_of" sVO) : Cal P w K mg base 1 "values_of" ["cell"] preVO := by
  refine cal_of D scVO (fun ds r h => ?_) (fun _ _ _ _ _ _ us hl => match us, hl with | [_], _ => rfl) (fun f cdv A outer s H E G ds r hr hp => ?_)
  · obtain ⟨c, rfl, _⟩ := h
    rfl
  · obtain ⟨c, rfl, hc, rfl⟩ := hp
    cases c with
    | clo n vs =>
      refine run_if (et_eq (da := .str "closure") (ev_ixT (nm 0 rfl) ev_int rfl) ev_str) (fun _ => ?_) (fun h => ?_)
      · exact run_ret (ev_listT T.list (ev_ixT (d := .tuple (vs.map Vl.d)) (nm 0 rfl) ev_int rfl)) rfl
      · exact absurd h (by decide)
    | two c a b =>
      refine run_if (et_eq (da := .str (if c then "cons" else "pair")) (ev_ixT (nm 0 rfl) ev_int rfl) ev_str (y := .str "closure") (x := .str (if c then "cons" else "pair"))) (fun h => ?_) (fun h => ?_)
      · cases c <;> exact absurd h (by decide)
      · refine run_nil ?_
        show Run _ _ _ _ _
        refine run_ret (ev_lc (ds := [.int 1, .int 2]) (is := [1]) (own := [("k", 1)]) (tb := fun _ => true) (f := fun d => match d with | .int 1 => a.d | _ => b.d) (rho := fun d => [.d (Cell.two c a b).d, .d d]) rfl scVO.nd
          (ei_tup (ev_tget Tb.fields (ev_ixT (d := .str (if c then "cons" else "pair")) (nm 0 rfl) ev_int rfl) (by cases c <;> simp))) (blkOk_by rfl) (by decide) (fun d _ _ _ _ _ _ => eg_name (i := 1) scVO.nd rfl (.inl rfl) (.inr rfl)) (fun d hd _ _ _ _ _ => ets_one ?_) (fun d hd _ _ _ _ _ _ => ?_) (by decide)) ?_
        · simp only [List.mem_cons, List.mem_nil_iff, or_false] at hd
          rcases hd with rfl | rfl
          · exact et_notN (da := a.d) (ev_ixT (nm 0 rfl) (nm 1 rfl) rfl) ev_non
          · exact et_notN (da := b.d) (ev_ixT (nm 0 rfl) (nm 1 rfl) rfl) ev_non
        · simp only [List.mem_cons, List.mem_nil_iff, or_false] at hd
          rcases hd with rfl | rfl
          · exact ev_ixT (nm 0 rfl) (nm 1 rfl) rfl
          · exact ev_ixT (nm 0 rfl) (nm 1 rfl) rfl
        · rfl
end
end K36
namespace K36
open PySem PySem.Spec L2 DH
open PyProof.Rows (envOfC)
abbrev sSO : Stmt := top 20
abbrev sMV : Stmt := top 21
abbrev sMC : Stmt := top 22
theorem scSO : FnScope ["values", "value"] ["values"] (defScope sSO) := ⟨rfl, rfl, rfl, by decide +kernel, rfl, by decide +kernel, by decide +kernel⟩
theorem scMV : FnScope ["value", "places"] ["value", "places"] (defScope sMV) := ⟨rfl, rfl, rfl, by decide +kernel, rfl, by decide +kernel, by decide +kernel⟩
theorem scMC : FnScope ["cell", "places", "found", "k", "value"] ["cell", "places"] (defScope sMC) := ⟨rfl, rfl, rfl, by decide +kernel, rfl, by decide +kernel, by decide +kernel⟩
def isRef : PyData → Bool
  | .tuple [.str "ref", .int _] => true
  | _ => false
def refOf : PyData → PyData
  | .tuple [.str "ref", .int n] => .int n
  | _ => .none
def Vl.isR : Vl → Bool
  | .ref _ => true
  | _ => false
def rOf (d : PyData) : Bool := match d with
  | .tuple (.str t :: _) => decide (t = "ref")
  | _ => false
def aOf (d : PyData) : PyData := match d with
  | .tuple [_, x] => x
  | _ => .none
theorem rOf_d (v : Vl) : rOf v.d = v.isR := by cases v <;> rfl
theorem tag_eq (v : Vl) : decide (V.str v.tag = V.str "ref") = v.isR := by cases v <;> rfl
theorem spots_eq : ∀ vs : List Vl, ((vs.map Vl.d).filter rOf).map aOf = (refsOf vs).map PyData.int
  | [] => rfl
  | v :: vs => by
    have ih := spots_eq vs
    cases v <;> first | exact ih | exact congrArg (List.cons _) ih
def preSO (ds : List PyData) (r : Rs) : Prop := ∃ vs : List Vl, ds = [.list (vs.map Vl.d)] ∧ vs.length < 1000 ∧ r = .l ((refsOf vs).map .int)
def Vl.mv (g : Int → Int) : Vl → Vl
  | .ref n => .ref (g n)
  | v => v
def Cell.mv (g : Int → Int) : Cell → Cell
  | .two c a b => .two c (a.mv g) (b.mv g)
  | .clo n vs => .clo n (vs.map (Vl.mv g))
def Has (kvs : List (Key × PyData)) (g : Int → Int) (v : Vl) : Prop := ∀ n ∈ v.refs, lookD kvs (.inl n) = some (.int (g n))
def preMV (ds : List PyData) (r : Rs) : Prop := ∃ (v : Vl) (kvs : List (Key × PyData)) (g : Int → Int), ds = [v.d, .dict (dK kvs)] ∧ Has kvs g v ∧ r = .d (v.mv g).d
def preMC (ds : List PyData) (r : Rs) : Prop := ∃ (c : Cell) (kvs : List (Key × PyData)) (g : Int → Int), ds = [c.d, .dict (dK kvs)] ∧ c.ok ∧ (∀ v ∈ c.vals, Has kvs g v) ∧ r = .d (c.mv g).d
def mvD (g : Int → Int) (d : PyData) : PyData := match d with
  | .tuple [.str t, .int n] => if t = "ref" then .tuple [.str t, .int (g n)] else d
  | _ => d
theorem mvD_d (g : Int → Int) (v : Vl) : mvD g v.d = (v.mv g).d := by cases v <;> rfl
section
variable {P : Program} {w : World} {K : PySem.W.Frag} {mg : Str → Option Value} {base : Heap}
theorem c_so (D : Df K mg "spots_of" sSO) : Cal P w K mg base 1 "spots_of" ["values"] preSO := by
  refine cal_of D scSO (fun ds r h => ?_) (fun _ _ _ _ _ _ us hl => match us, hl with | [_], _ => rfl) (fun f cdv A outer s H E G ds r hr hp => ?_)
  · obtain ⟨c, rfl, _⟩ := h
    rfl
  · obtain ⟨vs, rfl, hl, rfl⟩ := hp
    refine run_ret (ev_lc (ds := vs.map Vl.d) (is := [1]) (own := [("value", 1)]) (tb := rOf) (f := aOf) (rho := fun d => [.d (.list (vs.map Vl.d)), .d d]) rfl scSO.nd
          (ei_list (nm 0 rfl)) (blkOk_by rfl) (by decide) (fun d _ _ _ _ _ _ => eg_name (i := 1) scSO.nd rfl (.inl rfl) (.inr rfl)) (fun d hd _ _ _ _ _ => ets_one ?_) (fun d hd ht _ _ _ _ _ => ?_) (by rw [List.length_map]; exact Nat.lt_trans hl (by decide))) ?_
    · obtain ⟨v, hv, rfl⟩ := List.mem_map.mp hd
      exact (et_eq (ev_ixT (d := .str v.tag) (nm 1 rfl) ev_int at0) ev_str).to ((tag_eq v).trans (rOf_d v).symm)
    · obtain ⟨v, hv, rfl⟩ := List.mem_map.mp hd
      cases v with
      | ref n => exact ev_ixT (nm 1 rfl) ev_int rfl
      | _ => cases ht
    · show _ = _
      rw [spots_eq]
theorem c_mv (D : Df K mg "moved_value" sMV) : Cal P w K mg base 1 "moved_value" ["value", "places"] preMV := by
  refine cal_of D scMV (fun ds r h => ?_) (fun _ _ _ _ _ _ us hl => match us, hl with | [_, _], _ => rfl) (fun f cdv A outer s H E G ds r hr hp => ?_)
  · obtain ⟨c, _, _, rfl, _⟩ := h
    rfl
  · obtain ⟨v, kvs, g, rfl, hh, rfl⟩ := hp
    refine run_ret (ev_if (t := true && v.isR) (et_w (ew_and ((et_notN (nm 0 rfl) ev_non).to (by cases v <;> rfl)) (fun _ => ew_and1 ((et_eq (ev_ixT (d := .str v.tag) (nm 0 rfl) ev_int at0) ev_str).to (tag_eq v))))) (fun h => ?_) (fun h => ?_)) rfl
    · cases v with
      | ref n => exact tp (ds := [.str "ref", .int (g n)]) (ea_cons ev_str (ea_cons (ev_dget (n := .inl n) (ru hr) (nm 1 rfl) (ev_ixT (nm 0 rfl) ev_int rfl) (hh n (List.mem_cons_self ..))) ea_nil))
      | _ => cases h
    · cases v with
      | ref n => cases h
      | _ => exact nm 0 rfl
theorem c_mc (T : Bj mg) (Tb : Tb ⟨P, w, K⟩ mg) (D : Df K mg "moved_cell" sMC) (cmv : Cal P w K mg base 1 "moved_value" ["value", "places"] preMV) : Cal P w K mg base 2 "moved_cell" ["cell", "places"] preMC := by
  refine cal_of D scMC (fun ds r h => ?_) (fun _ _ _ _ _ _ us hl => match us, hl with | [_, _], _ => rfl) (fun f cdv A outer s H E G ds r hr hp => ?_)
  · obtain ⟨c, _, _, rfl, _⟩ := h
    rfl
  · obtain ⟨c, kvs, g, rfl, hok, hh, rfl⟩ := hp
    cases c with
    | clo n vs =>
      refine run_if (et_eq (da := .str "closure") (ev_ixT (nm 0 rfl) ev_int at0) ev_str) (fun _ => ?_) (fun h => ?_)
      · refine run_ret (tp (ds := [.str "closure", .int n, .tuple ((vs.map (Vl.mv g)).map Vl.d)]) (ea_cons (ev_ixT (nm 0 rfl) ev_int at0) (ea_cons (ev_ixT (nm 0 rfl) ev_int at1) (ea_cons ?_ ea_nil)))) rfl
        refine (ev_tupleL T.tuple ((ev_lc (ds := vs.map Vl.d) (is := [4]) (own := [("value", 4)]) (tb := fun _ => true) (f := mvD g) (rho := fun d => [.d (Cell.clo n vs).d, .d (.dict (dK kvs)), .no, .no, .d d]) rfl scMC.nd
          (ei_tup (ev_ixT (d := .tuple (vs.map Vl.d)) (nm 0 rfl) ev_int rfl)) (blkOk_by rfl) (by decide) (fun d _ _ _ _ _ _ => eg_name (i := 4) scMC.nd rfl (.inl rfl) (.inr rfl)) (fun d hd _ _ _ _ _ => ets_nil) (fun d hd ht _ _ _ _ _ => ?_) (by rw [List.length_map]; exact Nat.lt_of_le_of_lt hok (by decide))).d)).to ?_
        · obtain ⟨v, hv, rfl⟩ := List.mem_map.mp hd
          exact ev_calC cmv hr (Nat.le_refl _) (ea_cons (nm 4 rfl) (ea_cons (nm 1 rfl) ea_nil)) ⟨v, kvs, g, rfl, hh v hv, by rw [mvD_d]⟩
        · show PyData.tuple _ = _
          rw [List.filter_eq_self.mpr (fun _ _ => rfl), List.map_map, List.map_map]
          congr 1
          exact List.map_congr_left fun v _ => mvD_d g v
      · exact absurd h (by decide)
    | two c a b =>
      refine run_if (et_eq (da := .str (if c then "cons" else "pair")) (ev_ixT (nm 0 rfl) ev_int rfl) ev_str (y := .str "closure") (x := .str (if c then "cons" else "pair"))) (fun h => ?_) (fun h => ?_)
      · cases c <;> exact absurd h (by decide)
      · refine run_nil ?_
        show Run _ _ _ _ _
        refine run_set (i := 2) (ev_listT T.list (nm 0 rfl)) scMC.nd rfl (.inl rfl) ?_
        refine run_for (ds := [.int 1, .int 2]) (is := [3]) (fun i ρ => ∃ d, ρ = [.d (Cell.two c a b).d, .d (.dict (dK kvs)), .l (if i = 0 then [.str (if c then "cons" else "pair"), a.d, b.d] else if i = 1 then [.str (if c then "cons" else "pair"), (a.mv g).d, b.d] else [.str (if c then "cons" else "pair"), (a.mv g).d, (b.mv g).d]), d, .no]) PassesOwn.never rfl
          (ei_tup (ev_tget Tb.fields (ev_ixT (d := .str (if c then "cons" else "pair")) (nm 0 rfl) ev_int rfl) (by cases c <;> simp))) ⟨.no, rfl⟩ ?_ ?_
        · rintro i d ρ' hd ⟨d0, rfl⟩
          match i, hd with
          | 0, hd =>
            cases hd
            refine ⟨_, eg_name (i := 3) scMC.nd rfl (.inl rfl) (.inl rfl), ?_⟩
            refine run_setL (i := 2) (j := 1) (n := 1) (ev_calC cmv hr (Nat.le_refl _) (ea_cons (ev_ixO (i := 2) (nm 3 rfl) rfl at1 rfl (.inl rfl)) (ea_cons (nm 1 rfl) ea_nil)) ⟨a, kvs, g, rfl, hh a (by simp [Cell.vals]), rfl⟩) (nm 3 rfl) rfl rfl rfl (.inl rfl) (run_nil ⟨_, rfl⟩)
          | 1, hd =>
            cases hd
            refine ⟨_, eg_name (i := 3) scMC.nd rfl (.inl rfl) (.inl rfl), ?_⟩
            refine run_setL (i := 2) (j := 2) (n := 2) (ev_calC cmv hr (Nat.le_refl _) (ea_cons (ev_ixO (i := 2) (nm 3 rfl) rfl (show atI [_, _, b.d] 2 = some b.d from rfl) rfl (.inl rfl)) (ea_cons (nm 1 rfl) ea_nil)) ⟨b, kvs, g, rfl, hh b (by simp [Cell.vals]), rfl⟩) (nm 3 rfl) rfl rfl rfl (.inl rfl) (run_nil ⟨_, rfl⟩)
        · rintro ρ' ⟨d0, rfl⟩
          exact run_ret (ev_tupleO (i := 2) T.tuple rfl rfl (.inl rfl)) rfl
end
end K36
namespace K36
open PySem PySem.Spec L2 DH
open PyProof.Rows (envOfC)
/-! heaps -/
abbrev Hpl := List (Int × Cell)
def hpK (h : Hpl) : List (Key × PyData) := h.map fun p => (Sum.inl p.1, p.2.d)
def hpD (h : Hpl) : PyData := .dict (dK (hpK h))
def cellAt (h : Hpl) (n : Int) : Option Cell := (h.find? fun p => decide (p.1 = n)).map (·.2)
theorem look_hp (h : Hpl) (n : Int) : lookD (hpK h) (.inl n) = (cellAt h n).map Cell.d := by
  unfold lookD hpK cellAt
  induction h with
  | nil => rfl
  | cons p h ih =>
    by_cases e : p.1 = n
    · rw [List.map_cons, List.find?_cons_of_pos (by simpa using e), List.find?_cons_of_pos (by simpa using e)]
      rfl
    · rw [List.map_cons, List.find?_cons_of_neg (by simpa using e), List.find?_cons_of_neg (by simpa using e)]
      exact ih
def meet (fs : List Int) (n : Int) : List Int := if n ∈ fs then fs else fs ++ [n]
def meets (fs ns : List Int) : List Int := ns.foldl meet fs
def metK (fs : List Int) : List (Key × PyData) := fs.map fun n => (Sum.inl n, .bool true)
theorem look_met (fs : List Int) (n : Int) : (lookD (metK fs) (.inl n)).isSome = decide (n ∈ fs) := by
  unfold lookD metK
  induction fs with
  | nil => rfl
  | cons a fs ih =>
    by_cases e : a = n
    · rw [List.map_cons, List.find?_cons_of_pos (by simpa using e)]
      subst e
      simp
    · rw [List.map_cons, List.find?_cons_of_neg (by simpa using e), ih]
      have : (n ∈ a :: fs) ↔ n ∈ fs := ⟨fun h => (List.mem_cons.mp h).resolve_left (fun h => e h.symm), List.mem_cons_of_mem _⟩
      exact (decide_eq_decide.mpr this).symm
theorem met_keys (fs : List Int) : (metK fs).map (·.1) = fs.map Sum.inl := by unfold metK; rw [List.map_map]; rfl
theorem met_put {fs : List Int} {n : Int} (h : n ∉ fs) : putD (metK fs) (.inl n) (.bool true) = metK (fs ++ [n]) := by
  rw [putD_new (by rw [met_keys]; simpa using h)]
  unfold metK
  rw [List.map_append]
  rfl
theorem met_len (fs : List Int) : (metK fs).length = fs.length := by unfold metK; rw [List.length_map]
theorem meets_len (ns : List Int) : ∀ fs : List Int, (meets fs ns).length ≤ fs.length + ns.length := by
  induction ns with
  | nil => intro fs; exact Nat.le_refl _
  | cons n ns ih =>
    intro fs
    have h := ih (meet fs n)
    have h2 : (meet fs n).length ≤ fs.length + 1 := by
      unfold meet
      split
      · omega
      · rw [List.length_append]; exact Nat.le_refl _
    show (meets (meet fs n) ns).length ≤ _
    rw [List.length_cons]
    omega
theorem meets_snoc (fs ns : List Int) (n : Int) : meets fs (ns ++ [n]) = meet (meets fs ns) n := by unfold meets; rw [List.foldl_append]; rfl
/-- the walk in breadth: what is found after the first i -/
structure Ordd (h : Hpl) (rs : List Vl) (F : Nat → List Int) (n : Nat) : Prop where
  z : F 0 = meets [] (refsOf rs)
  s : ∀ i < n, ∃ m c, (F i)[i]? = some m ∧ cellAt h m = some c ∧ c.ok ∧ (refsOf c.vals).length ≤ 3 ∧ F (i + 1) = meets (F i) (refsOf c.vals)
  l : (F n).length = n
  b : n < 1000 ∧ rs.length < 1000 ∧ (refsOf rs).length < 1000
theorem refs_len (vs : List Vl) : (refsOf vs).length ≤ vs.length := by
  unfold refsOf
  induction vs with
  | nil => exact Nat.le_refl _
  | cons v vs ih =>
    rw [List.flatMap_cons, List.length_append, List.length_cons]
    have : v.refs.length ≤ 1 := by cases v <;> first | exact Nat.zero_le _ | exact Nat.le_refl _
    omega
abbrev sOO : Stmt := top 23
abbrev sMO : Stmt := top 24
theorem scOO : FnScope ["heap", "roots", "found", "met", "spot", "first"] ["heap", "roots"] (defScope sOO) := ⟨rfl, rfl, rfl, by decide +kernel, rfl, by decide +kernel, by decide +kernel⟩
theorem scMO : FnScope ["heap", "roots", "met", "line", "spot"] ["heap", "roots"] (defScope sMO) := ⟨rfl, rfl, rfl, by decide +kernel, rfl, by decide +kernel, by decide +kernel⟩
def preOO (ds : List PyData) (r : Rs) : Prop := ∃ (h : Hpl) (rs : List Vl) (F : Nat → List Int) (n : Nat), ds = [hpD h, .list (rs.map Vl.d)] ∧ Ordd h rs F n ∧ r = .l ((F n).map .int)
section
variable {P : Program} {w : World} {K : PySem.W.Frag} {mg : Str → Option Value} {base : Heap}
theorem c_oo (T : Bj mg) (D : Df K mg "order_of" sOO) (cso : Cal P w K mg base 1 "spots_of" ["values"] preSO) (cvo : Cal P w K mg base 1 "values_of" ["cell"] preVO) : Cal P w K mg base 2 "order_of" ["heap", "roots"] preOO := by
  refine cal_of D scOO (fun ds r h => ?_) (fun _ _ _ _ _ _ us hl => match us, hl with | [_, _], _ => rfl) (fun f cdv A outer s H E G ds r hr hp => ?_)
  · obtain ⟨_, _, _, _, rfl, _⟩ := h
    rfl
  · obtain ⟨h, rs, F, n, rfl, O, rfl⟩ := hp
    have hz : (16777216 : Nat) = sizeLine := by decide
    refine run_set (i := 2) (ls ea_nil) scOO.nd rfl (.inl rfl) ?_
    refine run_set (i := 3) ev_dnew scOO.nd rfl (.inl rfl) ?_
    refine run_for (ds := (refsOf rs).map .int) (is := [4]) (fun i ρ => ∃ d, ρ = [.d (hpD h), .d (.list (rs.map Vl.d)), .l ((meets [] ((refsOf rs).take i)).map .int), .m (metK (meets [] ((refsOf rs).take i))), d, .no]) PassesOwn.never rfl
      (ei_list (EvR.dl (ev_calC cso hr (Nat.le_refl _) (ea_cons (nm 1 rfl) ea_nil) ⟨rs, rfl, O.b.2.1, rfl⟩))) ⟨.no, rfl⟩ ?_ ?_
    · rintro i d ρ' hd ⟨d0, rfl⟩
      rw [List.getElem?_map] at hd
      obtain ⟨x, hx, rfl⟩ := Option.map_eq_some_iff.mp hd
      have hi : i < (refsOf rs).length := (List.getElem?_eq_some_iff.mp hx).1
      have hb := O.b.2.2
      have ht : (refsOf rs).take (i + 1) = (refsOf rs).take i ++ [x] := by rw [List.take_add_one, hx]; rfl
      have hlen := meets_len ((refsOf rs).take i) []
      rw [List.length_take, List.length_nil] at hlen
      refine ⟨_, eg_name (i := 4) scOO.nd rfl (.inl rfl) (.inl rfl), ?_⟩
      refine run_if ((et_dnotinO (i := 3) (n := .inl x) (ru hr) (nm 4 rfl) rfl rfl (.inl rfl)).to (congrArg _ (look_met _ _))) (fun hq => ?_) (fun hq => ?_)
      · have hn : x ∉ meets [] ((refsOf rs).take i) := of_decide_eq_false (by simpa using hq)
        refine run_setD (i := 3) (n := .inl x) (ru hr) ev_bl (nm 4 rfl) rfl (by rw [met_len, ← hz]; omega) rfl (.inl rfl) ?_
        refine run_append (i := 2) (nm 4 rfl) rfl (by rw [List.length_map, ← hz]; omega) rfl (.inl rfl) (run_nil (run_nil ⟨.d (.int x), ?_⟩))
        rw [ht, meets_snoc, meet, if_neg hn, ← met_put hn, List.map_append]
        rfl
      · have hn : x ∈ meets [] ((refsOf rs).take i) := of_decide_eq_true (by simpa using hq)
        refine run_nil (run_nil ⟨.d (.int x), ?_⟩)
        rw [ht, meets_snoc, meet, if_pos hn]
        rfl
    · rintro ρ' ⟨d0, rfl⟩
      rw [List.length_map, List.take_length, ← O.z]
      refine run_set (i := 5) ev_int scOO.nd rfl (.inl rfl) ?_
      refine run_while (fun m ρ => ∃ i d, m = n - i ∧ i ≤ n ∧ ρ = [.d (hpD h), .d (.list (rs.map Vl.d)), .l ((F i).map .int), .m (metK (F i)), d, .d (.int (i : Int))]) PassesOwn.never n ⟨0, d0, rfl, Nat.zero_le _, rfl⟩ ?_
      rintro m ρ' ⟨i, d, rfl, hin, rfl⟩
      refine ⟨_, et_lt (nm 5 rfl) (ev_lenO (i := 2) T.len rfl rfl (.inl rfl)), fun hb => ?_, fun hb => ?_⟩
      · rw [List.length_map] at hb
        have hb' : i < (F i).length := by have := of_decide_eq_true hb; omega
        have hlt : i < n := by
          rcases Nat.lt_or_ge i n with q | q
          · exact q
          · have e : i = n := by omega
            rw [e, O.l] at hb'
            omega
        obtain ⟨m, c, hm, hc, hok, hr3, hF⟩ := O.s i hlt
        have hFlen : (F i).length ≤ 10000 := by
          have key : ∀ k, k ≤ n → (F k).length ≤ 1000 + 3 * k := fun k => by
            induction k with
            | zero =>
              intro _
              rw [O.z]
              have := meets_len (refsOf rs) []
              have hb := O.b.2.2
              rw [List.length_nil] at this
              omega
            | succ k ih =>
              intro hk
              obtain ⟨_, c', _, _, _, h3, hF'⟩ := O.s k (by omega)
              have := meets_len (refsOf c'.vals) (F k)
              have := ih (by omega)
              rw [hF']
              omega
          have := key i (by omega)
          have := O.b.1
          omega
        refine run_for (ds := (refsOf c.vals).map .int) (is := [4]) (fun j ρ => ∃ d, ρ = [.d (hpD h), .d (.list (rs.map Vl.d)), .l ((meets (F i) ((refsOf c.vals).take j)).map .int), .m (metK (meets (F i) ((refsOf c.vals).take j))), d, .d (.int (i : Int))]) PassesOwn.never rfl
          (ei_list (EvR.dl (ev_calC cso hr (Nat.le_refl _) (ea_cons (EvR.dl (ev_calC cvo hr (Nat.le_refl _) (ea_cons (ev_dget (n := .inl m) (ru hr) (nm 0 rfl) (ev_ixO (i := 2) (nm 5 rfl) rfl (atI_of (by rw [List.getElem?_map, hm]; rfl)) rfl (.inl rfl)) (by rw [look_hp, hc]; rfl)) ea_nil) ⟨c, rfl, hok, rfl⟩)) ea_nil) ⟨c.vals, rfl, Nat.lt_of_le_of_lt hok (by decide), rfl⟩))) ⟨d, rfl⟩ ?_ ?_
        · rintro j d ρ' hd ⟨d0, rfl⟩
          rw [List.getElem?_map] at hd
          obtain ⟨x, hx, rfl⟩ := Option.map_eq_some_iff.mp hd
          have hj : j < (refsOf c.vals).length := (List.getElem?_eq_some_iff.mp hx).1
          have ht : (refsOf c.vals).take (j + 1) = (refsOf c.vals).take j ++ [x] := by rw [List.take_add_one, hx]; rfl
          have hlen := meets_len ((refsOf c.vals).take j) (F i)
          rw [List.length_take] at hlen
          refine ⟨_, eg_name (i := 4) scOO.nd rfl (.inl rfl) (.inl rfl), ?_⟩
          refine run_if ((et_dnotinO (i := 3) (n := .inl x) (ru hr) (nm 4 rfl) rfl rfl (.inl rfl)).to (congrArg _ (look_met _ _))) (fun hq => ?_) (fun hq => ?_)
          · have hn : x ∉ meets (F i) ((refsOf c.vals).take j) := of_decide_eq_false (by simpa using hq)
            refine run_setD (i := 3) (n := .inl x) (ru hr) ev_bl (nm 4 rfl) rfl (by rw [met_len, ← hz]; omega) rfl (.inl rfl) ?_
            refine run_append (i := 2) (nm 4 rfl) rfl (by rw [List.length_map, ← hz]; omega) rfl (.inl rfl) (run_nil (run_nil ⟨.d (.int x), ?_⟩))
            rw [ht, meets_snoc, meet, if_neg hn, ← met_put hn, List.map_append]
            rfl
          · have hn : x ∈ meets (F i) ((refsOf c.vals).take j) := of_decide_eq_true (by simpa using hq)
            refine run_nil (run_nil ⟨.d (.int x), ?_⟩)
            rw [ht, meets_snoc, meet, if_pos hn]
            rfl
        · rintro ρ' ⟨d0, rfl⟩
          rw [List.length_map, List.take_length, ← hF]
          refine run_set (i := 5) (ev_add (nm 5 rfl) ev_int) scOO.nd rfl (.inl rfl) (run_nil ⟨n - (i + 1), by omega, i + 1, d0, rfl, hlt, ?_⟩)
          rfl
      · rw [List.length_map] at hb
        have hb' : ¬ i < (F i).length := by have := of_decide_eq_false hb; omega
        have e : i = n := by
          rcases Nat.lt_or_ge i n with q | q
          · obtain ⟨m, c, hm, _⟩ := O.s i q
            exact absurd (List.getElem?_eq_some_iff.mp hm).1 hb'
          · omega
        subst e
        exact run_retL (i := 2) rfl rfl rfl (.inl rfl)
end
end K36
namespace K36
open PySem PySem.Spec L2 DH
open PyProof.Rows (envOfC)
/-- what is reached -/
structure Mark (h : Hpl) (rs : List Vl) (nums : List Int) : Prop where
  cl : ∀ m ∈ nums, ∃ c, cellAt h m = some c ∧ c.ok ∧ (refsOf c.vals).length ≤ 3 ∧ ∀ x ∈ refsOf c.vals, x ∈ nums
  ro : ∀ x ∈ refsOf rs, x ∈ nums
  re : ∀ S : List Int, (∀ x ∈ refsOf rs, x ∈ S) → (∀ m ∈ S, ∀ c, cellAt h m = some c → ∀ x ∈ refsOf c.vals, x ∈ S) → ∀ m ∈ nums, m ∈ S
  nd : nums.Nodup
  b : nums.length < 64 ∧ rs.length < 1000 ∧ (refsOf rs).length < 1000
def preMO (ds : List PyData) (r : Rs) : Prop := ∃ (h : Hpl) (rs : List Vl) (nums : List Int), ds = [hpD h, .list (rs.map Vl.d)] ∧ Mark h rs nums ∧ r = .l ((srt nums).map .int)
section
variable {P : Program} {w : World} {K : PySem.W.Frag} {mg : Str → Option Value} {base : Heap}
theorem c_mo (T : Bj mg) (D : Df K mg "marked_of" sMO) (cso : Cal P w K mg base 1 "spots_of" ["values"] preSO) (cvo : Cal P w K mg base 1 "values_of" ["cell"] preVO) : Cal P w K mg base 2 "marked_of" ["heap", "roots"] preMO := by
  refine cal_of D scMO (fun ds r h => ?_) (fun _ _ _ _ _ _ us hl => match us, hl with | [_, _], _ => rfl) (fun f cdv A outer s H E G ds r hr hp => ?_)
  · obtain ⟨_, _, _, rfl, _⟩ := h
    rfl
  · obtain ⟨h, rs, nums, rfl, O, rfl⟩ := hp
    have hz : (16777216 : Nat) = sizeLine := by decide
    refine run_set (i := 2) ev_dnew scMO.nd rfl (.inl rfl) ?_
    refine run_set (i := 3) (ev_calC cso hr (Nat.le_refl _) (ea_cons (nm 1 rfl) ea_nil) ⟨rs, rfl, O.b.2.1, rfl⟩) scMO.nd rfl (.inl rfl) ?_
    refine run_while (fun m ρ => ∃ (S ls : List Int) (d : Sl), m = (nums.length - S.length) * 4 + ls.length ∧ S.Nodup ∧ (∀ x ∈ S, x ∈ nums) ∧ (∀ x ∈ ls, x ∈ nums) ∧ (∀ x ∈ refsOf rs, x ∈ S ∨ x ∈ ls) ∧
      (∀ m ∈ S, ∀ c, cellAt h m = some c → ∀ x ∈ refsOf c.vals, x ∈ S ∨ x ∈ ls) ∧ ls.length ≤ 1000 + 3 * S.length ∧ ρ = [.d (hpD h), .d (.list (rs.map Vl.d)), .m (metK S), .l (ls.map .int), d]) PassesOwn.never _ ⟨[], refsOf rs, .no, rfl, List.nodup_nil, nofun, O.ro, fun x hx => .inr hx, nofun, by have := O.b.2.2; omega, rfl⟩ ?_
    rintro m ρ' ⟨S, ls, d, rfl, hS, hSn, hln, hro, hcl, hll, rfl⟩
    have hSl : S.length ≤ nums.length := hS.length_le_of_subset hSn
    have hNb := O.b.1
    refine ⟨_, et_gt (ev_lenO (i := 3) T.len rfl rfl (.inl rfl)) ev_int, fun hb => ?_, fun hb => ?_⟩
    · rw [List.length_map] at hb
      have hb' : 0 < ls.length := by have := of_decide_eq_true hb; omega
      obtain ⟨ls', x, rfl⟩ : ∃ l' x, ls = l' ++ [x] := ⟨ls.dropLast, ls.getLast (List.ne_nil_of_length_pos hb'), (List.dropLast_concat_getLast _).symm⟩
      have hxn : x ∈ nums := hln x (by simp)
      have hlx : (ls' ++ [x]).length = ls'.length + 1 := by rw [List.length_append]; rfl
      refine run_pop (i := 3) (j := 4) (d := .int x) (ds := ls'.map .int) (by rw [List.map_append]; rfl) (by decide) scMO.nd rfl (.inl rfl) rfl (.inl rfl) ?_
      refine run_if ((et_dnotinO (i := 2) (n := .inl x) (ru hr) (nm 4 rfl) rfl rfl (.inl rfl)).to (congrArg _ (look_met _ _))) (fun hq => ?_) (fun hq => ?_)
      · have hn : x ∉ S := of_decide_eq_false (by simpa using hq)
        obtain ⟨c, hc, hok, hr3, hcn⟩ := O.cl x hxn
        have hSl2 : (S ++ [x]).length ≤ nums.length := (List.nodup_append.mpr ⟨hS, List.pairwise_singleton _ _, fun a ha b hb e => by rw [List.mem_singleton.mp hb] at e; exact hn (e ▸ ha)⟩ : (S ++ [x]).Nodup).length_le_of_subset (fun y hy => by
          rcases List.mem_append.mp hy with q | q
          · exact hSn y q
          · rw [List.mem_singleton.mp q]; exact hxn)
        have hlS : (S ++ [x]).length = S.length + 1 := by rw [List.length_append]; rfl
        refine run_setD (i := 2) (n := .inl x) (ru hr) ev_bl (nm 4 rfl) rfl (by rw [met_len, ← hz]; omega) rfl (.inl rfl) ?_
        refine run_extend (i := 3) (ev_calC cso hr (Nat.le_refl _) (ea_cons (EvR.dl (ev_calC cvo hr (Nat.le_refl _) (ea_cons (ev_dget (n := .inl x) (ru hr) (nm 0 rfl) (nm 4 rfl) (by rw [look_hp, hc]; rfl)) ea_nil) ⟨c, rfl, hok, rfl⟩)) ea_nil) ⟨c.vals, rfl, Nat.lt_of_le_of_lt hok (by decide), rfl⟩) rfl (by rw [List.length_map, List.length_map, ← hz]; omega) rfl (.inl rfl) (run_nil (run_nil ?_))
        refine ⟨(nums.length - (S ++ [x]).length) * 4 + (ls' ++ refsOf c.vals).length, ?_, S ++ [x], ls' ++ refsOf c.vals, .d (.int x), rfl, ?_, ?_, ?_, ?_, ?_, ?_, ?_⟩
        · rw [hlS, hlx, List.length_append]; omega
        · exact List.nodup_append.mpr ⟨hS, List.pairwise_singleton _ _, fun a ha b hb e => by rw [List.mem_singleton.mp hb] at e; exact hn (e ▸ ha)⟩
        · intro y hy
          rcases List.mem_append.mp hy with q | q
          · exact hSn y q
          · rw [List.mem_singleton.mp q]; exact hxn
        · intro y hy
          rcases List.mem_append.mp hy with q | q
          · exact hln y (List.mem_append_left _ q)
          · exact hcn y q
        · intro y hy
          rcases hro y hy with q | q
          · exact .inl (List.mem_append_left _ q)
          · rcases List.mem_append.mp q with q | q
            · exact .inr (List.mem_append_left _ q)
            · exact .inl (List.mem_append_right _ q)
        · intro m hm c' hc' y hy
          rcases List.mem_append.mp hm with q | q
          · rcases hcl m q c' hc' y hy with q | q
            · exact .inl (List.mem_append_left _ q)
            · rcases List.mem_append.mp q with q | q
              · exact .inr (List.mem_append_left _ q)
              · exact .inl (List.mem_append_right _ q)
          · rw [List.mem_singleton.mp q, hc] at hc'
            cases hc'
            exact .inr (List.mem_append_right _ hy)
        · rw [hlS, List.length_append]; rw [hlx] at hll; omega
        · have e : (ls' ++ refsOf c.vals).map PyData.int = ls'.map .int ++ (refsOf c.vals).map .int := List.map_append
          rw [← met_put hn, e]
          rfl
      · have hn : x ∈ S := of_decide_eq_true (by simpa using hq)
        refine run_nil (run_nil ?_)
        refine ⟨(nums.length - S.length) * 4 + ls'.length, by rw [hlx]; omega, S, ls', .d (.int x), rfl, hS, hSn, fun y hy => hln y (List.mem_append_left _ hy), ?_, ?_, by rw [hlx] at hll; omega, rfl⟩
        · intro y hy
          rcases hro y hy with q | q
          · exact .inl q
          · rcases List.mem_append.mp q with q | q
            · exact .inr q
            · rw [List.mem_singleton.mp q]; exact .inl hn
        · intro m hm c' hc' y hy
          rcases hcl m hm c' hc' y hy with q | q
          · exact .inl q
          · rcases List.mem_append.mp q with q | q
            · exact .inr q
            · rw [List.mem_singleton.mp q]; exact .inl hn
    · rw [List.length_map] at hb
      have hb' : ls = [] := by
        have := of_decide_eq_false hb
        exact List.eq_nil_of_length_eq_zero (by omega)
      subst hb'
      have hp : S.Perm nums := (List.perm_ext_iff_of_nodup hS O.nd).mpr fun a => ⟨hSn a, O.re S (fun x hx => (hro x hx).resolve_right nofun) (fun m hm c hc x hx => (hcl m hm c hc x hx).resolve_right nofun) a⟩
      refine run_fzD 2 rfl ?_
      refine run_ret (ev_sortedDI (ks := S) rfl T.sorted (nm 2 rfl) (met_keys S) (by omega)) ?_
      show Rs.l _ = Rs.l _
      rw [srt_one ((srt_perm S).trans hp) (srt_pw S)]
end
end K36
namespace K36
open PySem PySem.Spec L2 DH
open PyProof.Rows (envOfC)
abbrev sIS : Stmt := top 25
abbrev sIC : Stmt := top 26
abbrev sIH : Stmt := top 27
abbrev sCH : Stmt := top 28
abbrev sRE : Stmt := top 29
abbrev sSW : Stmt := top 30
theorem scIS : FnScope ["told"] ["told"] (defScope sIS) := ⟨rfl, rfl, rfl, by decide +kernel, rfl, by decide +kernel, by decide +kernel⟩
theorem scIC : FnScope ["cell", "good", "value", "k"] ["cell"] (defScope sIC) := ⟨rfl, rfl, rfl, by decide +kernel, rfl, by decide +kernel, by decide +kernel⟩
theorem scIH : FnScope ["heap", "spot", "one"] ["heap"] (defScope sIH) := ⟨rfl, rfl, rfl, by decide +kernel, rfl, by decide +kernel, by decide +kernel⟩
theorem scCH : FnScope ["heap", "roots", "k", "value"] ["heap", "roots"] (defScope sCH) := ⟨rfl, rfl, rfl, by decide +kernel, rfl, by decide +kernel, by decide +kernel⟩
theorem scRE : FnScope ["heap", "roots"] ["heap", "roots"] (defScope sRE) := ⟨rfl, rfl, rfl, by decide +kernel, rfl, by decide +kernel, by decide +kernel⟩
theorem scSW : FnScope ["heap", "roots", "spot"] ["heap", "roots"] (defScope sSW) := ⟨rfl, rfl, rfl, by decide +kernel, rfl, by decide +kernel, by decide +kernel⟩
theorem bt_tuple : bootBuiltins "tuple" = some (.type "tuple") := by decide +kernel
theorem bt_int : bootBuiltins "int" = some (.type "int") := by decide +kernel
theorem bt_bool : bootBuiltins "bool" = some (.type "bool") := by decide +kernel
theorem plain_vl (v : Vl) : PlainN 1 v.d := by
  refine PlainN.tup (n := 0) fun x hx => ?_
  rcases List.mem_cons.mp hx with rfl | hx
  · cases v
    · exact PlainN.str (x := "int")
    · exact PlainN.str (x := "unit")
    · exact PlainN.str (x := "nil")
    · exact PlainN.str (x := "ref")
    · exact PlainN.str (x := "bool")
  · cases v <;> simp only [Vl.arg, List.mem_cons, List.mem_nil_iff, or_false] at hx
    · rw [hx]; exact .int _
    · rw [hx]; exact .int _
    · rw [hx]; exact .bool _
theorem plainN_le {m n : Nat} {d : PyData} (h : PlainN m d) (hmn : m ≤ n) : PlainN n d := ⟨h.1, h.2.1, Nat.le_trans h.2.2 hmn⟩
theorem plain_cell (c : Cell) : PlainN 3 c.d := by
  cases c with
  | two c a b =>
    refine PlainN.tup (n := 2) fun x hx => ?_
    simp only [List.mem_cons, List.mem_nil_iff, or_false] at hx
    rcases hx with rfl | rfl | rfl
    · cases c <;> exact .str
    · exact plainN_le (plain_vl a) (by decide)
    · exact plainN_le (plain_vl b) (by decide)
  | clo n vs =>
    refine PlainN.tup (n := 2) fun x hx => ?_
    simp only [List.mem_cons, List.mem_nil_iff, or_false] at hx
    rcases hx with rfl | rfl | rfl
    · exact .str
    · exact .int _
    · refine PlainN.tup (n := 1) fun x hx => ?_
      obtain ⟨v, _, rfl⟩ := List.mem_map.mp hx
      exact plain_vl v
def preIS (ds : List PyData) (r : Rs) : Prop := ∃ v : Vl, ds = [v.d] ∧ r = .d (.bool true)
def Cell.good : Cell → Prop
  | .two _ _ _ => True
  | .clo n _ => 0 ≤ n
def preIC (ds : List PyData) (r : Rs) : Prop := ∃ c : Cell, ds = [c.d] ∧ c.ok ∧ c.good ∧ r = .d (.bool true)
structure GoodH (h : Hpl) : Prop where
  c : ∀ n c, cellAt h n = some c → c.ok ∧ c.good ∧ ∀ x ∈ refsOf c.vals, (cellAt h x).isSome = true
  l : h.length < 1000
theorem cellAt_mem {h : Hpl} {p : Int × Cell} (hm : p ∈ h) : ∃ c, cellAt h p.1 = some c := by
  unfold cellAt
  cases e : h.find? (fun q => decide (q.1 = p.1)) with
  | none => exact absurd (List.find?_eq_none.mp e p hm) (by simp)
  | some q => exact ⟨_, rfl⟩
def preIH (ds : List PyData) (r : Rs) : Prop := ∃ h : Hpl, ds = [hpD h] ∧ GoodH h ∧ r = .d (.bool true)
def RootOk (h : Hpl) (rs : List Vl) : Prop := (∀ x ∈ refsOf rs, (cellAt h x).isSome = true) ∧ rs.length < 1000
def preCH (ds : List PyData) (r : Rs) : Prop := ∃ (h : Hpl) (rs : List Vl), ds = [hpD h, .list (rs.map Vl.d)] ∧ GoodH h ∧ RootOk h rs ∧ r = .d .none
def preRE (ds : List PyData) (r : Rs) : Prop := ∃ (h : Hpl) (rs : List Vl) (nums : List Int), ds = [hpD h, .list (rs.map Vl.d)] ∧ GoodH h ∧ RootOk h rs ∧ Mark h rs nums ∧ r = .l ((srt nums).map .int)
def cellD (h : Hpl) (n : Int) : PyData := match cellAt h n with
  | some c => c.d
  | none => .none
def preSW (ds : List PyData) (r : Rs) : Prop := ∃ (h : Hpl) (rs : List Vl) (nums : List Int), ds = [hpD h, .list (rs.map Vl.d)] ∧ GoodH h ∧ RootOk h rs ∧ Mark h rs nums ∧ r = .m ((srt nums).map fun n => (Sum.inl n, cellD h n))
section
variable {P : Program} {w : World} {K : PySem.W.Frag} {mg : Str → Option Value} {base : Heap}
theorem c_is (T : Bj mg) (Tb : Tb ⟨P, w, K⟩ mg) (D : Df K mg "is_small" sIS) : Cal P w K mg base 1 "is_small" ["told"] preIS := by
  refine cal_of D scIS (fun ds r h => ?_) (fun _ _ _ _ _ _ us hl => match us, hl with | [_], _ => rfl) (fun f cdv A outer s H E G ds r hr hp => ?_)
  · obtain ⟨_, rfl, _⟩ := h
    rfl
  · obtain ⟨v, rfl, rfl⟩ := hp
    refine run_if (t := false || (false || false)) (et_w (ew_or ((et_not (et_val (ev_isi (d := v.d) T.isi (nm 0 rfl) T.tuple bt_tuple (show kitB "tuple" "tuple" = some true from rfl)))).to rfl) (fun _ => ew_or
        ((et_eq (ev_lenT T.len (nm 0 rfl)) ev_int).to (by cases v <;> rfl)) (fun _ => ew_or1 ((et_ne (y := .int (v.arg.length + 1 : Nat)) (ev_lenT T.len (nm 0 rfl)) (ev_tgetd (d := .int (v.arg.length + 1 : Nat)) Tb.sizes (ev_ixT (d := .str v.tag) (nm 0 rfl) ev_int at0) ev_int (by cases v <;> simp [Vl.arg, Vl.tag]))).to (by cases v <;> rfl)))))) (fun h => ?_) (fun _ => ?_)
    · exact absurd h (by decide)
    · refine run_nil ?_
      show Run _ _ _ _ _
      cases v with
      | unit => exact run_if (et_eq (ev_lenT T.len (nm 0 rfl)) ev_int) (fun _ => run_ret ev_bl rfl) (fun h => absurd h (by decide))
      | nil => exact run_if (et_eq (ev_lenT T.len (nm 0 rfl)) ev_int) (fun _ => run_ret ev_bl rfl) (fun h => absurd h (by decide))
      | int i =>
        refine run_if (et_eq (ev_lenT T.len (nm 0 rfl)) ev_int) (fun h => absurd (show decide (V.int 2 = V.int 1) = true from h) (by decide)) (fun _ => run_nil ?_)
        show Run _ _ _ _ _
        exact run_ret (ev_and (c := true) (d := true) (ev_isi (d := .int i) T.isi (ev_ixT (nm 0 rfl) ev_int rfl) T.int bt_int rfl) fun _ => ev_one ((ev_eq (da := .bool false) (ev_isi (d := .int i) T.isi (ev_ixT (nm 0 rfl) ev_int rfl) T.bool bt_bool rfl) ((ev_eq (ev_ixT (d := .str "int") (nm 0 rfl) ev_int rfl) ev_str).to (r' := .bool false) rfl)).to rfl)) rfl
      | ref i =>
        refine run_if (et_eq (ev_lenT T.len (nm 0 rfl)) ev_int) (fun h => absurd (show decide (V.int 2 = V.int 1) = true from h) (by decide)) (fun _ => run_nil ?_)
        show Run _ _ _ _ _
        exact run_ret (ev_and (c := true) (d := true) (ev_isi (d := .int i) T.isi (ev_ixT (nm 0 rfl) ev_int rfl) T.int bt_int rfl) fun _ => ev_one ((ev_eq (da := .bool false) (ev_isi (d := .int i) T.isi (ev_ixT (nm 0 rfl) ev_int rfl) T.bool bt_bool rfl) ((ev_eq (ev_ixT (d := .str "ref") (nm 0 rfl) ev_int rfl) ev_str).to (r' := .bool false) rfl)).to rfl)) rfl
      | bool i =>
        refine run_if (et_eq (ev_lenT T.len (nm 0 rfl)) ev_int) (fun h => absurd (show decide (V.int 2 = V.int 1) = true from h) (by decide)) (fun _ => run_nil ?_)
        show Run _ _ _ _ _
        exact run_ret (ev_and (c := true) (d := true) (ev_isi (d := .bool i) T.isi (ev_ixT (nm 0 rfl) ev_int rfl) T.int bt_int rfl) fun _ => ev_one ((ev_eq (da := .bool true) (ev_isi (d := .bool i) T.isi (ev_ixT (nm 0 rfl) ev_int rfl) T.bool bt_bool rfl) ((ev_eq (ev_ixT (d := .str "bool") (nm 0 rfl) ev_int rfl) ev_str).to (r' := .bool true) rfl)).to rfl)) rfl
theorem c_ic (T : Bj mg) (Tb : Tb ⟨P, w, K⟩ mg) (D : Df K mg "is_cell" sIC) (cis : Cal P w K mg base 1 "is_small" ["told"] preIS) : Cal P w K mg base 2 "is_cell" ["cell"] preIC := by
  refine cal_of D scIC (fun ds r h => ?_) (fun _ _ _ _ _ _ us hl => match us, hl with | [_], _ => rfl) (fun f cdv A outer s H E G ds r hr hp => ?_)
  · obtain ⟨_, rfl, _⟩ := h
    rfl
  · obtain ⟨c, rfl, hok, hgd, rfl⟩ := hp
    cases c with
    | clo n vs =>
      refine run_if (t := false || (false || false)) (et_w (ew_or ((et_not (et_val (ev_isi (d := (Cell.clo n vs).d) T.isi (nm 0 rfl) T.tuple bt_tuple (show kitB "tuple" "tuple" = some true from rfl)))).to rfl) (fun _ => ew_or
        ((et_eq (ev_lenT T.len (nm 0 rfl)) ev_int).to rfl) (fun _ => ew_or1 ((et_ne (y := .int 3) (ev_lenT T.len (nm 0 rfl)) (ev_tgetd (d := .int 3) Tb.lengths (ev_ixT (d := .str "closure") (nm 0 rfl) ev_int at0) ev_int (by simp))).to rfl))))) (fun h => absurd h (by decide)) (fun _ => run_nil ?_)
      show Run _ _ _ _ _
      refine run_if (et_eq (da := .str "closure") (ev_ixT (nm 0 rfl) ev_int at0) ev_str) (fun _ => ?_) (fun h => absurd h (by decide))
      refine run_set (i := 1) (ev_and (c := true) (d := true) (ev_isi (d := .int n) T.isi (ev_ixT (nm 0 rfl) ev_int rfl) T.int bt_int rfl) fun _ => ev_and (c := true) (d := true) ((ev_not (ev_isi (d := .int n) T.isi (ev_ixT (nm 0 rfl) ev_int rfl) T.bool bt_bool rfl)).to rfl) fun _ => ev_one ((ev_ge (ev_ixT (d := .int n) (nm 0 rfl) ev_int rfl) ev_int).to (by rw [decide_eq_true (show (0 : Int) ≤ n from hgd)]))) scIC.nd rfl (.inl rfl) ?_
      refine run_set (i := 1) (ev_and (c := true) (d := true) (nm 1 rfl) fun _ => ev_one (ev_isi (d := .tuple (vs.map Vl.d)) T.isi (ev_ixT (nm 0 rfl) ev_int rfl) T.tuple bt_tuple rfl)) scIC.nd rfl (.inl rfl) ?_
      refine run_ret (ev_and (c := true) (d := true) (nm 1 rfl) fun _ => ev_one ((ev_all (ns := vs.map fun _ => true) rfl T.all (EvR.dl ((ev_lc (ds := vs.map Vl.d) (is := [2]) (own := [("value", 2)]) (tb := fun _ => true) (f := fun _ => .bool true) (rho := fun d => [.d (Cell.clo n vs).d, .d (.bool true), .d d, .no]) rfl scIC.nd
          (ei_tup (ev_ixT (d := .tuple (vs.map Vl.d)) (nm 0 rfl) ev_int rfl)) (blkOk_by rfl) (by decide) (fun d _ _ _ _ _ _ => eg_name (i := 2) scIC.nd rfl (.inl rfl) (.inr rfl)) (fun d hd _ _ _ _ _ => ets_nil) (fun d hd ht _ _ _ _ _ => ?_) (by rw [List.length_map]; exact Nat.lt_of_le_of_lt hok (by decide))).to ?_))).to ?_)) rfl
      · obtain ⟨v, hv, rfl⟩ := List.mem_map.mp hd
        exact ev_calC cis hr (Nat.le_refl _) (ea_cons (nm 2 rfl) ea_nil) ⟨v, rfl, rfl⟩
      · rw [List.filter_eq_self.mpr (fun _ _ => rfl), List.map_map, List.map_map]
        rfl
      · congr 1
        rw [List.all_map]
        exact List.all_eq_true.mpr fun _ _ => rfl
    | two c a b =>
      refine run_if (t := false || (false || false)) (et_w (ew_or ((et_not (et_val (ev_isi (d := (Cell.two c a b).d) T.isi (nm 0 rfl) T.tuple bt_tuple (show kitB "tuple" "tuple" = some true from rfl)))).to rfl) (fun _ => ew_or
        ((et_eq (ev_lenT T.len (nm 0 rfl)) ev_int).to rfl) (fun _ => ew_or1 ((et_ne (y := .int 3) (ev_lenT T.len (nm 0 rfl)) (ev_tgetd (d := .int 3) Tb.lengths (ev_ixT (d := .str (if c then "cons" else "pair")) (nm 0 rfl) ev_int at0) ev_int (by cases c <;> simp))).to rfl))))) (fun h => absurd h (by decide)) (fun _ => run_nil ?_)
      show Run _ _ _ _ _
      refine run_if (et_eq (da := .str (if c then "cons" else "pair")) (ev_ixT (nm 0 rfl) ev_int rfl) ev_str (y := .str "closure") (x := .str (if c then "cons" else "pair"))) (fun h => ?_) (fun h => run_nil ?_)
      · cases c <;> exact absurd h (by decide)
      show Run _ _ _ _ _
      refine run_if (t := (false && false) || (false && false)) (et_w (ew_or (et_w (ew_and (d := false) ((et_eq (da := .str (if c then "cons" else "pair")) (ev_ixT (nm 0 rfl) ev_int rfl) ev_str (y := .str "waits") (x := .str (if c then "cons" else "pair"))).to (by cases c <;> rfl)) nofun)) fun _ => ew_or1 (et_w (ew_and (d := false) ((et_eq (da := .str (if c then "cons" else "pair")) (ev_ixT (nm 0 rfl) ev_int rfl) ev_str (y := .str "tagged") (x := .str (if c then "cons" else "pair"))).to (by cases c <;> rfl)) nofun)))) (fun h => absurd h (by decide)) (fun _ => run_nil ?_)
      show Run _ _ _ _ _
      refine run_ret (ev_or (c := false) (d := true) ((ev_eqD (da := (Cell.two c a b).d) (db := .tuple [.str "box", .none]) hr.units (nm 0 rfl) (tp (ea_cons ev_str (ea_cons ev_non ea_nil))) ((plain_cell (.two c a b)).plain) ((PlainN.tup (n := 0) (by intro x hx; simp only [List.mem_cons, List.mem_nil_iff, or_false] at hx; rcases hx with rfl | rfl; exact .str; exact .none)).plain)).to (by cases c <;> rfl)) fun _ => ev_one ((ev_all (ns := [true, true]) rfl T.all (EvR.dl ((ev_lc (ds := [.int 1, .int 2]) (is := [3]) (own := [("k", 3)]) (tb := fun _ => true) (f := fun _ => .bool true) (rho := fun d => [.d (Cell.two c a b).d, .no, .no, .d d]) rfl scIC.nd
          (ei_tup (ev_tget Tb.fields (ev_ixT (d := .str (if c then "cons" else "pair")) (nm 0 rfl) ev_int rfl) (by cases c <;> simp))) (blkOk_by rfl) (by decide) (fun d _ _ _ _ _ _ => eg_name (i := 3) scIC.nd rfl (.inl rfl) (.inr rfl)) (fun d hd _ _ _ _ _ => ets_nil) (fun d hd ht _ _ _ _ _ => ?_) (by decide)).to rfl))).to rfl)) rfl
      simp only [List.mem_cons, List.mem_nil_iff, or_false] at hd
      rcases hd with rfl | rfl
      · exact ev_calC cis hr (Nat.le_refl _) (ea_cons (ev_ixT (d := a.d) (nm 0 rfl) (nm 3 rfl) rfl) ea_nil) ⟨a, rfl, rfl⟩
      · exact ev_calC cis hr (Nat.le_refl _) (ea_cons (ev_ixT (d := b.d) (nm 0 rfl) (nm 3 rfl) rfl) ea_nil) ⟨b, rfl, rfl⟩
end
end K36
namespace K36
open PySem PySem.Spec L2 DH
open PyProof.Rows (envOfC)
section
variable {P : Program} {w : World} {K : PySem.W.Frag} {mg : Str → Option Value} {base : Heap}
theorem look_some {h : Hpl} {n : Int} : (lookD (hpK h) (.inl n)).isSome = (cellAt h n).isSome := by
  rw [look_hp]
  cases cellAt h n <;> rfl
theorem c_ih (T : Bj mg) (D : Df K mg "is_heap" sIH) (cso : Cal P w K mg base 1 "spots_of" ["values"] preSO) (cvo : Cal P w K mg base 1 "values_of" ["cell"] preVO) (cic : Cal P w K mg base 2 "is_cell" ["cell"] preIC) : Cal P w K mg base 3 "is_heap" ["heap"] preIH := by
  refine cal_of D scIH (fun ds r h => ?_) (fun _ _ _ _ _ _ us hl => match us, hl with | [_], _ => rfl) (fun f cdv A outer s H E G ds r hr hp => ?_)
  · obtain ⟨_, rfl, _⟩ := h
    rfl
  · obtain ⟨h, rfl, O, rfl⟩ := hp
    refine run_for (ds := (hpK h).map fun p => kD p.1) (is := [1]) (fun i ρ => ∃ d, ρ = [.d (hpD h), d, .no]) PassesOwn.never rfl (ei_keys (nm 0 rfl)) ⟨.no, rfl⟩ ?_ ?_
    · rintro i d ρ' hd ⟨d0, rfl⟩
      obtain ⟨q, hq, rfl⟩ := List.mem_map.mp (List.mem_of_getElem? hd)
      obtain ⟨p, hp, rfl⟩ := List.mem_map.mp hq
      obtain ⟨c, hc⟩ := cellAt_mem hp
      obtain ⟨hok, hgd, hrf⟩ := O.c _ _ hc
      refine ⟨_, eg_name (i := 1) scIH.nd rfl (.inl rfl) (.inl rfl), ?_⟩
      have hcell : ∀ {ρ : List Sl} {p1 p2 : Pos} {pos : Pos} , True := fun {_} {_} {_} {_} => trivial
      refine run_if (t := false || false) (et_w (ew_or ((et_not (et_val (ev_calC cic hr (Nat.le_refl _) (ea_cons (ev_dget (n := .inl p.1) (ru hr) (nm 0 rfl) (nm 1 rfl) (by rw [look_hp, hc]; rfl)) ea_nil) ⟨c, rfl, hok, hgd, rfl⟩))).to rfl) (fun _ => ew_or1 ((et_not (et_val (ev_all (ns := (refsOf c.vals).map fun _ => true) rfl T.all (EvR.dl ((ev_lc (ds := (refsOf c.vals).map .int) (is := [2]) (own := [("one", 2)]) (tb := fun _ => true) (f := fun _ => .bool true) (rho := fun d => [.d (hpD h), .d (.int p.1), .d d]) rfl scIH.nd
          (ei_list (EvR.dl (ev_calC cso hr (by decide) (ea_cons (EvR.dl (ev_calC cvo hr (by decide) (ea_cons (ev_dget (n := .inl p.1) (ru hr) (nm 0 rfl) (nm 1 rfl) (by rw [look_hp, hc]; rfl)) ea_nil) ⟨c, rfl, hok, rfl⟩)) ea_nil) ⟨c.vals, rfl, Nat.lt_of_le_of_lt hok (by decide), rfl⟩))) (blkOk_by rfl) (by decide) (fun d _ _ _ _ _ _ => eg_name (i := 2) scIH.nd rfl (.inl rfl) (.inr rfl)) (fun d hd _ _ _ _ _ => ets_nil) (fun d hd ht _ _ _ _ _ => ?_) ?_).to ?_))))).to ?_)))) (fun h => absurd h (by decide)) (fun _ => run_nil (run_nil ⟨_, rfl⟩))
      · obtain ⟨x, hx, rfl⟩ := List.mem_map.mp hd
        refine (ev_din (n := .inl x) (ru hr) (nm 2 rfl) (nm 0 rfl)).to ?_
        rw [look_some, hrf x hx]
      · rw [List.length_map]
        exact Nat.lt_of_le_of_lt (Nat.le_trans (refs_len _) hok) (by decide)
      · rw [List.filter_eq_self.mpr (fun _ _ => rfl), List.map_map, List.map_map]
        rfl
      · rw [List.all_map]
        have : ((refsOf c.vals).all (id ∘ fun _ => true)) = true := List.all_eq_true.mpr fun _ _ => rfl
        rw [this]
        rfl
    · rintro ρ' ⟨d0, rfl⟩
      exact run_ret ev_bl rfl
theorem c_ch (T : Bj mg) (D : Df K mg "check_heap" sCH) (cis : Cal P w K mg base 1 "is_small" ["told"] preIS) (cih : Cal P w K mg base 3 "is_heap" ["heap"] preIH) : Cal P w K mg base 4 "check_heap" ["heap", "roots"] preCH := by
  refine cal_of D scCH (fun ds r h => ?_) (fun _ _ _ _ _ _ us hl => match us, hl with | [_, _], _ => rfl) (fun f cdv A outer s H E G ds r hr hp => ?_)
  · obtain ⟨_, _, rfl, _⟩ := h
    rfl
  · obtain ⟨h, rs, rfl, O, R, rfl⟩ := hp
    refine run_if ((et_not (et_val (ev_calC cih hr (Nat.le_refl _) (ea_cons (nm 0 rfl) ea_nil) ⟨h, rfl, O, rfl⟩))).to (r' := false) rfl) (fun h => absurd h (by decide)) (fun _ => run_nil ?_)
    refine run_for (ds := enumD (rs.map Vl.d)) (is := [2, 3]) (fun i ρ => ∃ d e, ρ = [.d (hpD h), .d (.list (rs.map Vl.d)), d, e]) PassesOwn.never rfl (ei_enum T.enum (nm 1 rfl)) ⟨.no, .no, rfl⟩ ?_ ?_
    · rintro i d ρ' hd ⟨d0, e0, rfl⟩
      obtain ⟨x, hx, rfl⟩ := enumD_get hd
      obtain ⟨v, hv, rfl⟩ := List.mem_map.mp (List.mem_of_getElem? hx)
      refine ⟨_, eg_two (i := 2) (j := 3) rfl scCH.nd rfl rfl (.inl rfl) (.inl rfl) (.inl rfl) (.inl rfl), ?_⟩
      refine run_if (t := false || (v.isR && false)) (et_w (ew_or ((et_not (et_val (ev_calC cis hr (by decide) (ea_cons (nm 3 rfl) ea_nil) ⟨v, rfl, rfl⟩))).to rfl) (fun _ => ew_or1 (et_w (ew_and ((et_eq (ev_ixT (d := .str v.tag) (nm 3 rfl) ev_int at0) ev_str).to (tag_eq v)) (fun hR => ew_and1 ?_)))))) (fun h => absurd h (by cases v.isR <;> decide)) (fun _ => run_nil (run_nil ⟨_, _, rfl⟩))
      cases v with
      | ref n =>
        refine (et_dnotin (n := .inl n) (ru hr) (ev_ixT (nm 3 rfl) ev_int at1) (nm 0 rfl)).to ?_
        rw [look_some, R.1 n (List.mem_flatMap.mpr ⟨_, hv, List.mem_cons_self ..⟩)]
        rfl
      | _ => cases hR
    · rintro ρ' ⟨d0, e0, rfl⟩
      exact run_nil rfl
theorem c_re (D : Df K mg "reached" sRE) (cch : Cal P w K mg base 4 "check_heap" ["heap", "roots"] preCH) (cmo : Cal P w K mg base 2 "marked_of" ["heap", "roots"] preMO) : Cal P w K mg base 5 "reached" ["heap", "roots"] preRE := by
  refine cal_of D scRE (fun ds r h => ?_) (fun _ _ _ _ _ _ us hl => match us, hl with | [_, _], _ => rfl) (fun f cdv A outer s H E G ds r hr hp => ?_)
  · obtain ⟨_, _, _, rfl, _⟩ := h
    rfl
  · obtain ⟨h, rs, nums, rfl, O, R, M, rfl⟩ := hp
    refine run_expr (ev_calC cch hr (Nat.le_refl _) (ea_cons (nm 0 rfl) (ea_cons (nm 1 rfl) ea_nil)) ⟨h, rs, rfl, O, R, rfl⟩) ?_
    exact run_ret (ev_calC cmo hr (by decide) (ea_cons (nm 0 rfl) (ea_cons (nm 1 rfl) ea_nil)) ⟨h, rs, nums, rfl, M, rfl⟩) rfl
theorem c_sw (D : Df K mg "swept" sSW) (cch : Cal P w K mg base 4 "check_heap" ["heap", "roots"] preCH) (cmo : Cal P w K mg base 2 "marked_of" ["heap", "roots"] preMO) : Cal P w K mg base 5 "swept" ["heap", "roots"] preSW := by
  refine cal_of D scSW (fun ds r h => ?_) (fun _ _ _ _ _ _ us hl => match us, hl with | [_, _], _ => rfl) (fun f cdv A outer s H E G ds r hr hp => ?_)
  · obtain ⟨_, _, _, rfl, _⟩ := h
    rfl
  · obtain ⟨h, rs, nums, rfl, O, R, M, rfl⟩ := hp
    refine run_expr (ev_calC cch hr (Nat.le_refl _) (ea_cons (nm 0 rfl) (ea_cons (nm 1 rfl) ea_nil)) ⟨h, rs, rfl, O, R, rfl⟩) ?_
    refine run_ret (ev_dc (ds := (srt nums).map .int) (is := [2]) (own := [("spot", 2)]) (kf := fun d => match d with | .int n => .inl n | _ => .inl 0) (f := fun d => match d with | .int n => cellD h n | _ => .none) (rho := fun d => [.d (hpD h), .d (.list (rs.map Vl.d)), .d d]) rfl scSW.nd
          (ei_list (EvR.dl (ev_calC cmo hr (by decide) (ea_cons (nm 0 rfl) (ea_cons (nm 1 rfl) ea_nil)) ⟨h, rs, nums, rfl, M, rfl⟩))) (blkOk_by rfl) (by decide) (fun d _ _ _ _ _ _ => eg_name (i := 2) scSW.nd rfl (.inl rfl) (.inr rfl)) (fun d hd _ _ _ _ _ => ?_) (fun d hd _ _ _ _ _ => ?_) ?_ ?_) ?_
    · obtain ⟨n, hn, rfl⟩ := List.mem_map.mp hd
      exact nm 2 rfl
    · obtain ⟨n, hn, rfl⟩ := List.mem_map.mp hd
      obtain ⟨c, hc, _⟩ := M.cl n ((srt_perm nums).mem_iff.mp hn)
      refine ev_dget (n := .inl n) (ru hr) (nm 0 rfl) (nm 2 rfl) ?_
      rw [look_hp, hc]
      show some c.d = some (cellD h n)
      unfold cellD
      rw [hc]
    · rw [List.map_map]
      have e : (fun n : Int => (Sum.inl n : Key)) = ((fun d => match d with | .int n => Sum.inl n | _ => Sum.inl 0) ∘ PyData.int) := rfl
      refine List.Pairwise.map _ (fun a b (hab : a ≠ b) q => hab (Sum.inl.inj q)) ((srt_perm nums).nodup_iff.mpr M.nd)
    · rw [List.length_map, (srt_perm nums).length_eq]
      exact Nat.lt_trans M.b.1 (by decide)
    · show Rs.m _ = Rs.m _
      rw [List.map_map]
      rfl
end
end K36
namespace K36
open PySem PySem.Spec L2 DH
open PyProof.Rows (envOfC)
abbrev sCO : Stmt := top 31
abbrev sPO : Stmt := top 32
abbrev sMH : Stmt := top 33
theorem scCO : FnScope ["heap", "roots", "places", "value"] ["heap", "roots"] (defScope sCO) := ⟨rfl, rfl, rfl, by decide +kernel, rfl, by decide +kernel, by decide +kernel⟩
theorem scPO : FnScope ["heap", "roots", "told", "spot"] ["heap", "roots"] (defScope sPO) := ⟨rfl, rfl, rfl, by decide +kernel, rfl, by decide +kernel, by decide +kernel⟩
theorem scMH : FnScope ["heap", "places", "olds", "spot"] ["heap", "places"] (defScope sMH) := ⟨rfl, rfl, rfl, by decide +kernel, rfl, by decide +kernel, by decide +kernel⟩
def ix (nums : List Int) (x : Int) : Int := (nums.idxOf x : Nat)
def plK (nums : List Int) : List (Key × PyData) := (srt nums).map fun x => (Sum.inl x, .int (ix nums x))
theorem look_map (f : Int → PyData) (n : Int) : ∀ {l : List Int}, n ∈ l → lookD (l.map fun x => ((Sum.inl x : Key), f x)) (.inl n) = some (f n)
  | a :: l, h => by
    unfold lookD
    by_cases e : a = n
    · rw [List.map_cons, List.find?_cons_of_pos (by simpa using e)]
      subst e
      rfl
    · rw [List.map_cons, List.find?_cons_of_neg (by simpa using e)]
      exact look_map f n ((List.mem_cons.mp h).resolve_left (fun q => e q.symm))
theorem look_pl {nums : List Int} {n : Int} (h : n ∈ nums) : lookD (plK nums) (.inl n) = some (.int (ix nums n)) := look_map (fun x => .int (ix nums x)) n ((srt_perm nums).mem_iff.mpr h)
theorem ix_get {nums : List Int} (nd : nums.Nodup) {i : Nat} {x : Int} (h : nums[i]? = some x) : ix nums x = i := by
  unfold ix
  obtain ⟨hi, he⟩ := List.getElem?_eq_some_iff.mp h
  subst he
  rw [nd.idxOf_getElem i hi]
theorem ix_at {nums : List Int} {x : Int} (h : x ∈ nums) : nums[nums.idxOf x]? = some x := by
  rw [List.getElem?_eq_getElem (List.idxOf_lt_length_of_mem h)]
  exact congrArg some (List.getElem_idxOf _)
theorem ix_before {nums : List Int} {x : Int} {m : Nat} (h : m < nums.idxOf x) : nums[m]? ≠ some x := fun e => by
  obtain ⟨hi, he⟩ := List.getElem?_eq_some_iff.mp e
  exact absurd he (List.not_of_lt_findIdx (p := fun y => y == x) (by simpa [List.idxOf] using h) |> fun q => by simpa using q)
/-- places of the cells that were found -/
structure Fnd (h : Hpl) (nums : List Int) : Prop where
  cl : ∀ m ∈ nums, ∃ c, cellAt h m = some c ∧ c.ok ∧ ∀ x ∈ refsOf c.vals, x ∈ nums
  nd : nums.Nodup
  b : nums.length < 64
def mvAt (h : Hpl) (nums : List Int) (i : Nat) : PyData := match nums[i]? with
  | some x => (match cellAt h x with
    | some c => (c.mv (ix nums)).d
    | none => .none)
  | none => .none
def mvK (h : Hpl) (nums : List Int) : List (Key × PyData) := (List.range nums.length).map fun (i : Nat) => (Sum.inl (i : Int), mvAt h nums i)
def prePO (ds : List PyData) (r : Rs) : Prop := ∃ (h : Hpl) (rs : List Vl) (F : Nat → List Int) (n : Nat), ds = [hpD h, .list (rs.map Vl.d)] ∧ Ordd h rs F n ∧ (F n).Nodup ∧ n < 64 ∧ r = .m (plK (F n))
def preMH (ds : List PyData) (r : Rs) : Prop := ∃ (h : Hpl) (nums : List Int), ds = [hpD h, .dict (dK (plK nums))] ∧ Fnd h nums ∧ r = .m (mvK h nums)
def preCO (ds : List PyData) (r : Rs) : Prop := ∃ (h : Hpl) (rs : List Vl) (F : Nat → List Int) (n : Nat), ds = [hpD h, .list (rs.map Vl.d)] ∧ GoodH h ∧ RootOk h rs ∧ Ordd h rs F n ∧ Fnd h (F n) ∧ (∀ x ∈ refsOf rs, x ∈ F n) ∧
  r = .d (.tuple [.dict (dK (mvK h (F n))), .list ((rs.map (Vl.mv (ix (F n)))).map Vl.d), .dict (dK (plK (F n)))])
theorem has_pl {nums : List Int} {v : Vl} (h : ∀ x ∈ v.refs, x ∈ nums) : Has (plK nums) (ix nums) v := fun n hn => look_pl (h n hn)
section
variable {P : Program} {w : World} {K : PySem.W.Frag} {mg : Str → Option Value} {base : Heap}
theorem c_po (T : Bj mg) (D : Df K mg "places_of" sPO) (coo : Cal P w K mg base 2 "order_of" ["heap", "roots"] preOO) : Cal P w K mg base 3 "places_of" ["heap", "roots"] prePO := by
  refine cal_of D scPO (fun ds r h => ?_) (fun _ _ _ _ _ _ us hl => match us, hl with | [_, _], _ => rfl) (fun f cdv A outer s H E G ds r hr hp => ?_)
  · obtain ⟨_, _, _, _, rfl, _⟩ := h
    rfl
  · obtain ⟨h, rs, F, n, rfl, O, hnd, hn, rfl⟩ := hp
    refine run_set (i := 2) (ev_calC coo hr (Nat.le_refl _) (ea_cons (nm 0 rfl) (ea_cons (nm 1 rfl) ea_nil)) ⟨h, rs, F, n, rfl, O, rfl⟩) scPO.nd rfl (.inr rfl) ?_
    refine run_fzL 2 rfl ?_
    refine run_ret (ev_dc (ds := (srt (F n)).map .int) (is := [3]) (own := [("spot", 3)]) (kf := fun d => match d with | .int n => .inl n | _ => .inl 0) (f := fun d => match d with | .int x => .int (ix (F n) x) | _ => .none) (rho := fun d => [.d (hpD h), .d (.list (rs.map Vl.d)), .d (.list ((F n).map .int)), .d d]) rfl scPO.nd
          (ei_list (EvR.dl (ev_sortedL T.sorted (nm 2 rfl)))) (blkOk_by rfl) (by decide) (fun d _ _ _ _ _ _ => eg_name (i := 3) scPO.nd rfl (.inl rfl) (.inr rfl)) (fun d hd _ _ _ _ _ => ?_) (fun d hd _ _ _ _ _ => ?_) ?_ ?_) ?_
    · obtain ⟨x, hx, rfl⟩ := List.mem_map.mp hd
      exact nm 3 rfl
    · obtain ⟨x, hx, rfl⟩ := List.mem_map.mp hd
      exact ev_index (nm 2 rfl) (nm 3 rfl) (ix_at ((srt_perm _).mem_iff.mp hx)) fun m hm => ix_before hm
    · rw [List.map_map]
      exact List.Pairwise.map _ (fun a b (hab : a ≠ b) q => hab (Sum.inl.inj q)) ((srt_perm _).nodup_iff.mpr hnd)
    · rw [List.length_map, (srt_perm _).length_eq, O.l]
      exact Nat.lt_trans hn (by decide)
    · show Rs.m _ = Rs.m _
      rw [List.map_map]
      rfl
theorem ks_eq {nums : List Int} (nd : nums.Nodup) : srt ((srt nums).map (ix nums)) = (List.range nums.length).map fun (i : Nat) => (i : Int) := by
  refine (srt_one ?_ ?_).symm
  · have h1 : ((srt nums).map (ix nums)).Perm (nums.map (ix nums)) := (srt_perm nums).map _
    refine List.Perm.trans (List.Perm.of_eq ?_) h1.symm
    apply List.ext_getElem?
    intro i
    rw [List.getElem?_map, List.getElem?_map]
    by_cases hi : i < nums.length
    · rw [List.getElem?_range hi, List.getElem?_eq_getElem hi]
      exact congrArg some (ix_get nd (List.getElem?_eq_getElem hi)).symm
    · rw [List.getElem?_eq_none (by rw [List.length_range]; omega), List.getElem?_eq_none (by omega)]
      rfl
  · refine List.Pairwise.map _ (fun a b (hab : a ≤ b) => Int.ofNat_le.mpr hab) ?_
    exact List.Pairwise.imp (fun h => Nat.le_of_lt h) List.pairwise_lt_range
theorem c_mh (T : Bj mg) (D : Df K mg "moved_heap" sMH) (cmc : Cal P w K mg base 2 "moved_cell" ["cell", "places"] preMC) : Cal P w K mg base 3 "moved_heap" ["heap", "places"] preMH := by
  refine cal_of D scMH (fun ds r h => ?_) (fun _ _ _ _ _ _ us hl => match us, hl with | [_, _], _ => rfl) (fun f cdv A outer s H E G ds r hr hp => ?_)
  · obtain ⟨_, _, rfl, _⟩ := h
    rfl
  · obtain ⟨h, nums, rfl, O, rfl⟩ := hp
    have ndi : ((srt nums).map (ix nums)).Nodup := by
      have hp : ((srt nums).map (ix nums)).Perm ((List.range nums.length).map fun (i : Nat) => (i : Int)) := by rw [← ks_eq O.nd]; exact (srt_perm _).symm
      refine hp.nodup_iff.mpr (List.Pairwise.map _ (fun a b (hab : a ≠ b) q => hab (Int.ofNat.inj q)) List.nodup_range)
    refine run_set (i := 2) (ev_dc (ds := (plK nums).map fun p => kD p.1) (is := [3]) (own := [("spot", 3)]) (kf := fun d => match d with | .int n => .inl (ix nums n) | _ => .inl 0) (f := fun d => d) (rho := fun d => [.d (hpD h), .d (.dict (dK (plK nums))), .no, .d d]) rfl scMH.nd
          (ei_keys (nm 1 rfl)) (blkOk_by rfl) (by decide) (fun d _ _ _ _ _ _ => eg_name (i := 3) scMH.nd rfl (.inl rfl) (.inr rfl)) (fun d hd _ _ _ _ _ => ?_) (fun d hd _ _ _ _ _ => ?_) ?_ ?_) scMH.nd rfl (.inr rfl) ?_
    · obtain ⟨q, hq, rfl⟩ := List.mem_map.mp hd
      obtain ⟨x, hx, rfl⟩ := List.mem_map.mp hq
      exact ev_dget (n := .inl x) (ru hr) (nm 1 rfl) (nm 3 rfl) (look_pl ((srt_perm _).mem_iff.mp hx))
    · exact nm 3 rfl
    · unfold plK
      rw [List.map_map, List.map_map]
      have := List.Pairwise.map (S := fun a b : Key => a ≠ b) (fun z : Int => (Sum.inl z : Key)) (fun a b (hab : a ≠ b) q => hab (Sum.inl.inj q)) ndi
      rw [List.map_map] at this
      exact this
    · unfold plK
      rw [List.length_map, List.length_map, (srt_perm _).length_eq]
      exact Nat.lt_trans O.b (by decide)
    refine run_fzD 2 rfl ?_
    have hol : ∀ (i : Nat) (x : Int), nums[i]? = some x → lookD (((plK nums).map fun p => kD p.1).map fun d => ((match d with | .int n => .inl (ix nums n) | _ => .inl 0 : Key), d)) (.inl (i : Int)) = some (.int x) := fun i x hx => by
      have hm : x ∈ srt nums := (srt_perm _).mem_iff.mpr (List.mem_of_getElem? hx)
      have key : ∀ l : List Int, (∀ y ∈ l, ∃ j : Nat, nums[j]? = some y) → x ∈ l → lookD (l.map fun y => ((Sum.inl (ix nums y) : Key), PyData.int y)) (.inl (i : Int)) = some (.int x) := fun l => by
        induction l with
        | nil => intro _ h; cases h
        | cons a l ih =>
          intro hl hx'
          unfold lookD
          obtain ⟨j, hj⟩ := hl a (List.mem_cons_self ..)
          by_cases e : ix nums a = (i : Int)
          · rw [List.map_cons, List.find?_cons_of_pos (by simpa using e)]
            rw [ix_get O.nd hj] at e
            have : j = i := Int.ofNat.inj e
            subst this
            rw [hx] at hj
            cases hj
            rfl
          · rw [List.map_cons, List.find?_cons_of_neg (by simpa using e)]
            refine ih (fun y hy => hl y (List.mem_cons_of_mem _ hy)) ((List.mem_cons.mp hx').resolve_left fun q => e ?_)
            rw [← q]
            exact ix_get O.nd hx
      have := key (srt nums) (fun y hy => List.mem_iff_getElem?.mp ((srt_perm _).mem_iff.mp hy)) hm
      unfold plK
      rw [List.map_map, List.map_map]
      exact this
    refine run_ret (ev_dc (ds := ((List.range nums.length).map fun (i : Nat) => (i : Int)).map .int) (is := [3]) (own := [("spot", 3)]) (kf := fun d => match d with | .int n => .inl n | _ => .inl 0) (f := fun d => match d with | .int n => mvAt h nums n.toNat | _ => .none) (rho := fun d => [.d (hpD h), .d (.dict (dK (plK nums))), .d (.dict (dK (((plK nums).map fun p => kD p.1).map fun d => ((match d with | .int n => .inl (ix nums n) | _ => .inl 0 : Key), d)))), .d d]) rfl scMH.nd
          (ei_list (EvR.dl ((ev_sortedDI (ks := (srt nums).map (ix nums)) rfl T.sorted (nm 2 rfl) ?_ ?_).to (by rw [ks_eq O.nd])))) (blkOk_by rfl) (by decide) (fun d _ _ _ _ _ _ => eg_name (i := 3) scMH.nd rfl (.inl rfl) (.inr rfl)) (fun d hd _ _ _ _ _ => ?_) (fun d hd _ _ _ _ _ => ?_) ?_ ?_) ?_
    · unfold plK
      rw [List.map_map, List.map_map, List.map_map, List.map_map]
      rfl
    · rw [List.length_map, (srt_perm _).length_eq]
      exact O.b
    · obtain ⟨x, hx, rfl⟩ := List.mem_map.mp hd
      exact nm 3 rfl
    · obtain ⟨x, hx, rfl⟩ := List.mem_map.mp hd
      obtain ⟨i, hi, rfl⟩ := List.mem_map.mp hx
      have hi' : i < nums.length := List.mem_range.mp hi
      have hg : nums[i]? = some nums[i] := List.getElem?_eq_getElem hi'
      obtain ⟨c, hc, hok, hrf⟩ := O.cl _ (List.getElem_mem hi')
      refine ev_calC cmc hr (Nat.le_refl _) (ea_cons (ev_dget (n := .inl nums[i]) (d := c.d) (ru hr) (nm 0 rfl) (ev_dget (n := .inl (i : Int)) (d := .int nums[i]) (ru hr) (nm 2 rfl) (nm 3 rfl) (hol i _ hg)) (by rw [look_hp, hc]; rfl)) (ea_cons (nm 1 rfl) ea_nil)) ⟨c, plK nums, ix nums, rfl, hok, fun v hv => has_pl fun x hx => hrf x (List.mem_flatMap.mpr ⟨v, hv, hx⟩), ?_⟩
      show Rs.d (mvAt h nums (Int.toNat i)) = _
      unfold mvAt
      rw [Int.toNat_natCast, hg]
      dsimp only
      rw [hc]
    · rw [List.map_map, List.map_map]
      exact List.Pairwise.map _ (fun a b (hab : a ≠ b) q => hab (Int.ofNat.inj (Sum.inl.inj q))) List.nodup_range
    · rw [List.length_map, List.length_map, List.length_range]
      exact Nat.lt_trans O.b (by decide)
    · show Rs.m _ = Rs.m _
      rw [List.map_map, List.map_map]
      rfl
theorem c_co (T : Bj mg) (D : Df K mg "copied" sCO) (cch : Cal P w K mg base 4 "check_heap" ["heap", "roots"] preCH) (cpo : Cal P w K mg base 3 "places_of" ["heap", "roots"] prePO) (cmh : Cal P w K mg base 3 "moved_heap" ["heap", "places"] preMH) (cmv : Cal P w K mg base 1 "moved_value" ["value", "places"] preMV) : Cal P w K mg base 5 "copied" ["heap", "roots"] preCO := by
  refine cal_of D scCO (fun ds r h => ?_) (fun _ _ _ _ _ _ us hl => match us, hl with | [_, _], _ => rfl) (fun f cdv A outer s H E G ds r hr hp => ?_)
  · obtain ⟨_, _, _, _, rfl, _⟩ := h
    rfl
  · obtain ⟨h, rs, F, n, rfl, hG, hR, O, hF, hrn, rfl⟩ := hp
    refine run_expr (ev_calC cch hr (Nat.le_refl _) (ea_cons (nm 0 rfl) (ea_cons (nm 1 rfl) ea_nil)) ⟨h, rs, rfl, hG, hR, rfl⟩) ?_
    refine run_set (i := 2) (ev_calC cpo hr (by decide) (ea_cons (nm 0 rfl) (ea_cons (nm 1 rfl) ea_nil)) ⟨h, rs, F, n, rfl, O, hF.nd, by have := hF.b; rw [O.l] at this; exact this, rfl⟩) scCO.nd rfl (.inr rfl) ?_
    refine run_fzD 2 rfl ?_
    refine run_ret (tp (ds := [.dict (dK (mvK h (F n))), .list ((rs.map (Vl.mv (ix (F n)))).map Vl.d), .dict (dK (plK (F n)))]) (ea_cons (EvR.dm (ev_calC cmh hr (by decide) (ea_cons (nm 0 rfl) (ea_cons (nm 2 rfl) ea_nil)) ⟨h, F n, rfl, hF, rfl⟩)) (ea_cons (EvR.dl ((ev_lc (ds := rs.map Vl.d) (is := [3]) (own := [("value", 3)]) (tb := fun _ => true) (f := mvD (ix (F n))) (rho := fun d => [.d (hpD h), .d (.list (rs.map Vl.d)), .d (.dict (dK (plK (F n)))), .d d]) rfl scCO.nd
          (ei_list (nm 1 rfl)) (blkOk_by rfl) (by decide) (fun d _ _ _ _ _ _ => eg_name (i := 3) scCO.nd rfl (.inl rfl) (.inr rfl)) (fun d hd _ _ _ _ _ => ets_nil) (fun d hd ht _ _ _ _ _ => ?_) ?_).to ?_)) (ea_cons (nm 2 rfl) ea_nil)))) rfl
    · obtain ⟨v, hv, rfl⟩ := List.mem_map.mp hd
      exact ev_calC cmv hr (by decide) (ea_cons (nm 3 rfl) (ea_cons (nm 2 rfl) ea_nil)) ⟨v, plK (F n), ix (F n), rfl, has_pl fun x hx => hrn x (List.mem_flatMap.mpr ⟨v, hv, hx⟩), by rw [mvD_d]⟩
    · rw [List.length_map]
      exact Nat.lt_trans hR.2 (by decide)
    · show Rs.l _ = Rs.l _
      rw [List.filter_eq_self.mpr (fun _ _ => rfl), List.map_map, List.map_map]
      congr 1
      exact List.map_congr_left fun v _ => mvD_d _ v
end
end K36
namespace K36
open PySem PySem.Spec L2 DH
open PyProof.Rows (envOfC)
abbrev sLD : Stmt := top 35
abbrev sLC : Stmt := top 37
abbrev sLE : Stmt := top 38
theorem scLD : FnScope ["script", "draws", "k", "rest", "turn", "stirred"] ["script"] (defScope sLD) := ⟨rfl, rfl, rfl, by decide +kernel, rfl, by decide +kernel, by decide +kernel⟩
theorem scLC : FnScope ["kind", "values", "rows"] ["kind", "values"] (defScope sLC) := ⟨rfl, rfl, rfl, by decide +kernel, rfl, by decide +kernel, by decide +kernel⟩
theorem scLE : FnScope ["many", "two", "i", "t"] ["many", "two"] (defScope sLE) := ⟨rfl, rfl, rfl, by decide +kernel, rfl, by decide +kernel, by decide +kernel⟩
/-! draws -/
def absI (i : Int) : Int := if i < 0 then -i else i
theorem absI_nn (i : Int) : 0 ≤ absI i := by unfold absI; split <;> omega
def wd (r : Int) : Nat → List Int × Int
  | 0 => ([], r)
  | t + 1 => if 0 < (wd r t).2 then ((wd r t).1 ++ [(wd r t).2 % 65536], (wd r t).2 / 65536) else wd r t
theorem wd_len (r : Int) (t : Nat) : (wd r t).1.length ≤ t := by
  induction t with
  | zero => exact Nat.le_refl _
  | succ t ih =>
    unfold wd
    split
    · rw [List.length_append]; exact Nat.succ_le_succ ih
    · exact Nat.le_succ_of_le ih
theorem wd_ok (r : Int) (t : Nat) : DrawsOk (wd r t).1 := by
  induction t with
  | zero => intro n h; cases h
  | succ t ih =>
    unfold wd
    split
    · intro n h
      rcases List.mem_append.mp h with h | h
      · exact ih n h
      · rw [List.mem_singleton.mp h]
        exact ⟨Int.emod_nonneg _ (by decide), Int.emod_lt_of_pos _ (by decide)⟩
    · exact ih
def stir (rest : Int) (k : Int) : Int := ((rest * 48271 + (k + 1) * 69621) % 2147483647 * 16807 + 11 * k + 5) % 2147483629
def dk (x : Int) (k : Nat) : List Int := if 1000000000000000000 ≤ absI x then (wd (absI x) 60).1 else [stir (absI x) k % 65536, stir (absI x) k / 65536 % 32768]
theorem dk_len (x : Int) (k : Nat) : (dk x k).length ≤ 60 := by
  unfold dk
  split
  · exact wd_len _ _
  · exact (by decide : 2 ≤ 60)
theorem dk_ok (x : Int) (k : Nat) : DrawsOk (dk x k) := by
  unfold dk
  split
  · exact wd_ok _ _
  · intro n h
    rcases List.mem_cons.mp h with rfl | h
    · exact ⟨Int.emod_nonneg _ (by decide), Int.emod_lt_of_pos _ (by decide)⟩
    · rw [List.mem_singleton.mp h]
      have h1 := Int.emod_nonneg (stir (absI x) k / 65536) (show (32768 : Int) ≠ 0 by decide)
      have h2 := Int.emod_lt_of_pos (stir (absI x) k / 65536) (show (0 : Int) < 32768 by decide)
      exact ⟨h1, by omega⟩
def drawsTo (ns : List Int) : Nat → List Int
  | 0 => []
  | k + 1 => drawsTo ns k ++ dk (ns.getD k 0) k
theorem drawsTo_len (ns : List Int) (k : Nat) : (drawsTo ns k).length ≤ 60 * k := by
  induction k with
  | zero => exact Nat.le_refl _
  | succ k ih =>
    unfold drawsTo
    rw [List.length_append]
    have := dk_len (ns.getD k 0) k
    omega
theorem drawsTo_ok (ns : List Int) (k : Nat) : DrawsOk (drawsTo ns k) := by
  induction k with
  | zero => intro n h; cases h
  | succ k ih =>
    intro n h
    unfold drawsTo at h
    rcases List.mem_append.mp h with h | h
    · exact ih n h
    · exact dk_ok _ _ n h
def drawsOf (ns : List Int) : List Int := drawsTo ns ns.length
def preLD (ds : List PyData) (r : Rs) : Prop := ∃ ns : List Int, ds = [.list (ns.map .int)] ∧ ns.length ≤ 63 ∧ r = .l ((drawsOf ns).map .int)
def lawCell (k : Int) (a b : Vl) : Cell := if k = 0 then .two false a b else if k = 1 then .two true a b else if k = 2 then .clo 3 [a, b] else .clo 0 [.int 5, a, b]
def preLC (ds : List PyData) (r : Rs) : Prop := ∃ (k : Int) (a b : Vl), ds = [.int k, .tuple [a.d, b.d]] ∧ 0 ≤ k ∧ k < 4 ∧ r = .d (lawCell k a b).d
def kids (two : Bool) (many : Int) (i : Int) : List Int := [2 * i + (if two then 2 else 1), 2 * i + (if two then 3 else 2)].filter fun t => decide (t < many)
def preLE (ds : List PyData) (r : Rs) : Prop := ∃ (many : Nat) (two : Bool), ds = [.int many, .bool two] ∧ many ≤ 1000 ∧ r = .l ((List.range many).map fun (i : Nat) => .list ((kids two many i).map .int))
section
variable {P : Program} {w : World} {K : PySem.W.Frag} {mg : Str → Option Value} {base : Heap}
theorem c_ld (T : Bj mg) (D : Df K mg "_law_draws" sLD) : Cal P w K mg base 1 "_law_draws" ["script"] preLD := by
  refine cal_of D scLD (fun ds r h => ?_) (fun _ _ _ _ _ _ us hl => match us, hl with | [_], _ => rfl) (fun f cdv A outer s H E G ds r hr hp => ?_)
  · obtain ⟨_, rfl, _⟩ := h
    rfl
  · obtain ⟨ns, rfl, hl, rfl⟩ := hp
    have hz : (16777216 : Nat) = sizeLine := by decide
    refine run_set (i := 1) (ls ea_nil) scLD.nd rfl (.inl rfl) ?_
    refine run_for (ds := rngD 0 ns.length) (is := [2]) (fun k ρ => ∃ a b c d, ρ = [.d (.list (ns.map .int)), .l ((drawsTo ns k).map .int), a, b, c, d]) PassesOwn.never rfl
      ((ei_range1 (n := ns.length) T.range ((ev_min2 rfl T.min (ea_cons ev_int (ea_cons (ev_lenL T.len (nm 0 rfl)) ea_nil))).to ?_) (by omega) (by omega))) ⟨.no, .no, .no, .no, rfl⟩ ?_ ?_
    · rw [List.length_map]
      congr 1
      split <;> omega
    · rintro k d ρ' hd ⟨a, b, c, e, rfl⟩
      unfold rngD at hd
      rw [List.getElem?_map] at hd
      obtain ⟨k', hk', rfl⟩ := Option.map_eq_some_iff.mp hd
      obtain ⟨hk1, hk2⟩ := List.getElem?_eq_some_iff.mp hk'
      rw [List.length_range] at hk1
      rw [List.getElem_range] at hk2
      subst hk2
      have hx : ns[k]? = some (ns.getD k 0) := by rw [List.getD_eq_getElem?_getD, List.getElem?_eq_getElem hk1]; rfl
      have hdl := drawsTo_len ns k
      have hab := absI_nn (ns.getD k 0)
      have e0 : ((0 : Int) + (k : Int)) = (k : Int) := by omega
      rw [e0]
      refine ⟨_, eg_name (i := 2) scLD.nd rfl (.inl rfl) (.inl rfl), ?_⟩
      refine run_set (i := 3) (ev_abs T.abs (ev_ixL (d := .int (ns.getD k 0)) (nm 0 rfl) (nm 2 rfl) (atI_of (by rw [List.getElem?_map, hx]; rfl)))) scLD.nd rfl (.inl rfl) ?_
      refine run_if (et_ge (nm 3 rfl) (ev_pow ev_int ev_int ⟨by decide, by decide, by decide⟩)) (fun hb => ?_) (fun hb => ?_)
      · have hb' : (1000000000000000000 : Int) ≤ absI (ns.getD k 0) := of_decide_eq_true hb
        have e1 : dk (ns.getD k 0) k = (wd (absI (ns.getD k 0)) 60).1 := if_pos hb'
        refine run_for (ds := rngD 0 60) (is := [4]) (fun t ρ => ∃ c d, ρ = [.d (.list (ns.map .int)), .l ((drawsTo ns k ++ (wd (absI (ns.getD k 0)) t).1).map .int), .d (.int (k : Int)), .d (.int (wd (absI (ns.getD k 0)) t).2), c, d]) PassesOwn.never rfl
          (ei_range1 (n := 60) T.range ev_int (by decide) (by decide)) ⟨c, e, ?_⟩ ?_ ?_
        · show _ = [_, Sl.l ((drawsTo ns k ++ []).map .int), _, _, _, _]
          rw [List.append_nil]
          rfl
        · rintro t d ρ' hd ⟨c, e, rfl⟩
          have ht : t < 60 := by
            have := (List.getElem?_eq_some_iff.mp hd).1
            unfold rngD at this
            rw [List.length_map, List.length_range] at this
            exact this
          have hwl := wd_len (absI (ns.getD k 0)) t
          refine ⟨_, eg_name (i := 4) scLD.nd rfl (.inl rfl) (.inl rfl), ?_⟩
          refine run_if (et_gt (nm 3 rfl) ev_int) (fun hq => ?_) (fun hq => ?_)
          · have hq' : 0 < (wd (absI (ns.getD k 0)) t).2 := of_decide_eq_true hq
            refine run_append (i := 1) (ev_mod (ev_int1 T.int (nm 3 rfl)) ev_int (by decide)) rfl (by rw [List.length_map, List.length_append, ← hz]; omega) rfl (.inl rfl) ?_
            refine run_set (i := 3) (ev_fdiv (nm 3 rfl) ev_int ⟨by decide, by decide⟩) scLD.nd rfl (.inl rfl) (run_nil (run_nil ⟨.d d, e, ?_⟩))
            have e2 : wd (absI (ns.getD k 0)) (t + 1) = ((wd (absI (ns.getD k 0)) t).1 ++ [(wd (absI (ns.getD k 0)) t).2 % 65536], (wd (absI (ns.getD k 0)) t).2 / 65536) := if_pos hq'
            rw [e2]
            dsimp only
            rw [← List.append_assoc, List.map_append (l₁ := drawsTo ns k ++ _)]
            rfl
          · have hq' : ¬ 0 < (wd (absI (ns.getD k 0)) t).2 := of_decide_eq_false hq
            refine run_nil (run_nil ⟨.d d, e, ?_⟩)
            have e2 : wd (absI (ns.getD k 0)) (t + 1) = wd (absI (ns.getD k 0)) t := if_neg hq'
            rw [e2]
            rfl
        · rintro ρ' ⟨c, e, rfl⟩
          refine run_nil (run_nil ⟨.d (.int (k : Int)), .d (.int (wd (absI (ns.getD k 0)) 60).2), c, e, ?_⟩)
          have e3 : drawsTo ns (k + 1) = drawsTo ns k ++ (wd (absI (ns.getD k 0)) 60).1 := by
            show drawsTo ns k ++ dk (ns.getD k 0) k = _
            rw [e1]
          have e4 : (rngD 0 60).length = 60 := by unfold rngD; rw [List.length_map, List.length_range]
          rw [e3, e4]
      · have hb' : ¬ (1000000000000000000 : Int) ≤ absI (ns.getD k 0) := of_decide_eq_false hb
        have e1 : dk (ns.getD k 0) k = [stir (absI (ns.getD k 0)) k % 65536, stir (absI (ns.getD k 0)) k / 65536 % 32768] := if_neg hb'
        have hs0 : 0 ≤ stir (absI (ns.getD k 0)) k := Int.emod_nonneg _ (by decide)
        refine run_set (i := 5) (ev_mod (ev_int1 T.int (ev_add (ev_mul (nm 3 rfl) ev_int (.inr ⟨by decide, by decide⟩)) (ev_mul (ev_add (nm 2 rfl) ev_int) ev_int (.inr ⟨by decide, by decide⟩)))) ev_int (by decide)) scLD.nd rfl (.inl rfl) ?_
        refine run_set (i := 5) (ev_mod (ev_int1 T.int (ev_add (ev_add (ev_mul (nm 5 rfl) ev_int (.inr ⟨by decide, by decide⟩)) (ev_mul ev_int (nm 2 rfl) (.inl ⟨by decide, by decide⟩))) ev_int)) ev_int (by decide)) scLD.nd rfl (.inl rfl) ?_
        refine run_append (i := 1) (ev_mod (ev_int1 T.int (nm 5 rfl)) ev_int (by decide)) rfl (by rw [List.length_map, ← hz]; omega) rfl (.inl rfl) ?_
        refine run_append (i := 1) (ev_mod (ev_int1 T.int (ev_fdiv (nm 5 rfl) ev_int ⟨by decide, by decide⟩)) ev_int (by decide)) rfl (by rw [List.length_append, List.length_map, ← hz]; show _ + 1 < _; omega) rfl (.inl rfl) (run_nil (run_nil ⟨.d (.int (k : Int)), .d (.int (absI (ns.getD k 0))), c, .d (.int (stir (absI (ns.getD k 0)) k)), ?_⟩))
        have e2 : drawsTo ns (k + 1) = drawsTo ns k ++ [stir (absI (ns.getD k 0)) k % 65536] ++ [stir (absI (ns.getD k 0)) k / 65536 % 32768] := by
          show drawsTo ns k ++ dk (ns.getD k 0) k = _
          rw [e1, List.append_assoc]
          rfl
        rw [e2, List.map_append (l₁ := drawsTo ns k ++ _), List.map_append (l₁ := drawsTo ns k)]
        rfl
    · rintro ρ' ⟨a, b, c, d, rfl⟩
      refine run_retL (i := 1) rfl ?_ rfl (.inl rfl)
      show Rs.l _ = Rs.l _
      unfold rngD
      rw [List.length_map, List.length_range]
      rfl
theorem c_lc (D : Df K mg "_law_cell" sLC) : Cal P w K mg base 1 "_law_cell" ["kind", "values"] preLC := by
  refine cal_of D scLC (fun ds r h => ?_) (fun _ _ _ _ _ _ us hl => match us, hl with | [_, _], _ => rfl) (fun f cdv A outer s H E G ds r hr hp => ?_)
  · obtain ⟨_, _, _, rfl, _⟩ := h
    rfl
  · obtain ⟨k, a, b, rfl, h0, h4, rfl⟩ := hp
    refine run_set (i := 2) (ls (ds := [(Cell.two false a b).d, (Cell.two true a b).d, (Cell.clo 3 [a, b]).d, (Cell.clo 0 [.int 5, a, b]).d]) (ea_cons (ev_catT (xs := [.str "pair"]) (ys := [a.d, b.d]) (tp (ea_cons ev_str ea_nil)) (nm 1 rfl) (Nat.le_of_ble_eq_true rfl)) (ea_cons (ev_catT (xs := [.str "cons"]) (ys := [a.d, b.d]) (tp (ea_cons ev_str ea_nil)) (nm 1 rfl) (Nat.le_of_ble_eq_true rfl)) (ea_cons (tp (ds := [.str "closure", .int 3, .tuple [a.d, b.d]]) (ea_cons ev_str (ea_cons ev_int (ea_cons (nm 1 rfl) ea_nil)))) (ea_cons (tp (ds := [.str "closure", .int 0, .tuple [(Vl.int 5).d, a.d, b.d]]) (ea_cons ev_str (ea_cons ev_int (ea_cons (ev_catT (xs := [(Vl.int 5).d]) (ys := [a.d, b.d]) (tp (ea_cons (tp (ea_cons ev_str (ea_cons ev_int ea_nil))) ea_nil)) (nm 1 rfl) (Nat.le_of_ble_eq_true rfl)) ea_nil)))) ea_nil))))) scLC.nd rfl (.inl rfl) ?_
    refine run_fzL 2 rfl ?_
    refine run_ret (ev_ixL (d := (lawCell k a b).d) (nm 2 rfl) (nm 0 rfl) ?_) rfl
    have : k = 0 ∨ k = 1 ∨ k = 2 ∨ k = 3 := by omega
    rcases this with rfl | rfl | rfl | rfl <;> rfl
theorem c_le (T : Bj mg) (D : Df K mg "_law_edges" sLE) : Cal P w K mg base 1 "_law_edges" ["many", "two"] preLE := by
  refine cal_of D scLE (fun ds r h => ?_) (fun _ _ _ _ _ _ us hl => match us, hl with | [_, _], _ => rfl) (fun f cdv A outer s H E G ds r hr hp => ?_)
  · obtain ⟨_, _, rfl, _⟩ := h
    rfl
  · obtain ⟨many, two, rfl, hm, rfl⟩ := hp
    have inner : ∀ (o1 o2 : Int), (fun d : PyData => match d with | .int i => PyData.list (([2 * i + o1, 2 * i + o2].filter fun t => decide (t < (many : Int))).map .int) | _ => .none) = (fun d : PyData => match d with | .int i => PyData.list (([2 * i + o1, 2 * i + o2].filter fun t => decide (t < (many : Int))).map .int) | _ => .none) := fun _ _ => rfl
    have fin : ∀ (o1 o2 : Int), (((rngD 0 many).filter fun _ => true).map (fun d : PyData => match d with | .int i => PyData.list (([2 * i + o1, 2 * i + o2].filter fun t => decide (t < (many : Int))).map .int) | _ => .none)) = (List.range many).map fun (i : Nat) => PyData.list (([2 * (i : Int) + o1, 2 * (i : Int) + o2].filter fun t => decide (t < (many : Int))).map .int) := fun o1 o2 => by
      rw [List.filter_eq_self.mpr (fun _ _ => rfl)]
      unfold rngD
      rw [List.map_map]
      apply List.map_congr_left
      intro i hi
      show (match PyData.int (0 + (i : Int)) with | .int i => PyData.list (([2 * i + o1, 2 * i + o2].filter fun t => decide (t < (many : Int))).map .int) | _ => .none) = _
      rw [show (0 : Int) + (i : Int) = (i : Int) by omega]
    cases two with
    | true =>
      refine run_if (et_val (nm 1 rfl)) (fun _ => ?_) (fun h => by cases h)
      refine run_ret (ev_lc (ds := rngD 0 many) (is := [2]) (own := [("i", 2)]) (tb := fun _ => true) (f := fun d => match d with | .int i => .list (([2 * i + 2, 2 * i + 3].filter fun t => decide (t < (many : Int))).map .int) | _ => .none) (rho := fun d => [.d (.int many), .d (.bool true), .d d, .no]) rfl scLE.nd
          (ei_range1 (n := many) T.range (nm 0 rfl) (by omega) (by omega)) (blkOk_by rfl) (by decide) (fun d _ _ _ _ _ _ => eg_name (i := 2) scLE.nd rfl (.inl rfl) (by first | exact .inl rfl | exact .inr rfl)) (fun d hd _ _ _ _ _ => ets_nil) (fun d hd ht _ _ _ _ _ => ?_) ?_) ?_
      · unfold rngD at hd
        obtain ⟨i, hi, rfl⟩ := List.mem_map.mp hd
        refine EvR.dl ((ev_lc (ds := [.int (2 * (0 + (i : Int)) + 2), .int (2 * (0 + (i : Int)) + 3)]) (is := [3]) (own := [("t", 3)]) (tb := fun d => match d with | .int t => decide (t < (many : Int)) | _ => false) (f := fun d => d) (rho := fun d => [.d (.int many), .d (.bool true), .d (.int (0 + (i : Int))), .d d]) rfl scLE.nd
          (ei_list (EvR.dl (ls (ea_cons (ev_add (ev_mul ev_int (nm 2 rfl) (.inl ⟨by decide, by decide⟩)) ev_int) (ea_cons (ev_add (ev_mul ev_int (nm 2 rfl) (.inl ⟨by decide, by decide⟩)) ev_int) ea_nil))))) (blkOk_by rfl) (by decide) (fun d _ _ _ _ _ _ => eg_name (i := 3) scLE.nd rfl (.inl rfl) (.inr rfl)) (fun d hd _ _ _ _ _ => ets_one ?_) (fun d hd ht _ _ _ _ _ => nm 3 rfl) (by exact Nat.lt_of_lt_of_le (by decide : 2 < 3) (by decide))).to ?_)
        · simp only [List.mem_cons, List.mem_nil_iff, or_false] at hd
          rcases hd with rfl | rfl
          · exact et_lt (nm 3 rfl) (nm 0 rfl)
          · exact et_lt (nm 3 rfl) (nm 0 rfl)
        · show Rs.l _ = Rs.l _
          simp only [List.filter_cons, List.filter_nil]
          split <;> split <;> rfl
      · unfold rngD
        rw [List.length_map, List.length_range]
        exact Nat.lt_of_le_of_lt hm (by decide)
      · show Rs.l _ = Rs.l _
        rw [fin 2 3]
        rfl
    | false =>
      refine run_if (et_val (nm 1 rfl)) (fun h => by cases h) (fun _ => run_nil ?_)
      show Run _ _ _ _ _
      refine run_ret (ev_lc (ds := rngD 0 many) (is := [2]) (own := [("i", 2)]) (tb := fun _ => true) (f := fun d => match d with | .int i => .list (([2 * i + 1, 2 * i + 2].filter fun t => decide (t < (many : Int))).map .int) | _ => .none) (rho := fun d => [.d (.int many), .d (.bool false), .d d, .no]) rfl scLE.nd
          (ei_range1 (n := many) T.range (nm 0 rfl) (by omega) (by omega)) (blkOk_by rfl) (by decide) (fun d _ _ _ _ _ _ => eg_name (i := 2) scLE.nd rfl (.inl rfl) (by first | exact .inl rfl | exact .inr rfl)) (fun d hd _ _ _ _ _ => ets_nil) (fun d hd ht _ _ _ _ _ => ?_) ?_) ?_
      · unfold rngD at hd
        obtain ⟨i, hi, rfl⟩ := List.mem_map.mp hd
        refine EvR.dl ((ev_lc (ds := [.int (2 * (0 + (i : Int)) + 1), .int (2 * (0 + (i : Int)) + 2)]) (is := [3]) (own := [("t", 3)]) (tb := fun d => match d with | .int t => decide (t < (many : Int)) | _ => false) (f := fun d => d) (rho := fun d => [.d (.int many), .d (.bool false), .d (.int (0 + (i : Int))), .d d]) rfl scLE.nd
          (ei_list (EvR.dl (ls (ea_cons (ev_add (ev_mul ev_int (nm 2 rfl) (.inl ⟨by decide, by decide⟩)) ev_int) (ea_cons (ev_add (ev_mul ev_int (nm 2 rfl) (.inl ⟨by decide, by decide⟩)) ev_int) ea_nil))))) (blkOk_by rfl) (by decide) (fun d _ _ _ _ _ _ => eg_name (i := 3) scLE.nd rfl (.inl rfl) (.inr rfl)) (fun d hd _ _ _ _ _ => ets_one ?_) (fun d hd ht _ _ _ _ _ => nm 3 rfl) (by exact Nat.lt_of_lt_of_le (by decide : 2 < 3) (by decide))).to ?_)
        · simp only [List.mem_cons, List.mem_nil_iff, or_false] at hd
          rcases hd with rfl | rfl
          · exact et_lt (nm 3 rfl) (nm 0 rfl)
          · exact et_lt (nm 3 rfl) (nm 0 rfl)
        · show Rs.l _ = Rs.l _
          simp only [List.filter_cons, List.filter_nil]
          split <;> split <;> rfl
      · unfold rngD
        rw [List.length_map, List.length_range]
        exact Nat.lt_of_le_of_lt hm (by decide)
      · show Rs.l _ = Rs.l _
        rw [fin 1 2]
        rfl
end
end K36
namespace K36
open PySem PySem.Spec L2 DH
open PyProof.Rows (envOfC)
abbrev sLH : Stmt := top 39
theorem scLH : FnScope ["draws", "many", "two", "numbers", "found", "i", "below", "at", "values", "t"] ["draws", "many", "two", "numbers"] (defScope sLH) := ⟨rfl, rfl, rfl, by decide +kernel, rfl, by decide +kernel, by decide +kernel⟩
def fillV (dr nums : List Int) (i t : Nat) : Vl :=
  let m := mix dr (100 + 10 * i + 4 + t) 4
  if m = 0 then .int i else if m = 1 then .unit else if m = 2 then .ref (nums.getD (mix dr (100 + 10 * i + t) (i + 1)).toNat 0) else .nil
def valsV (dr nums : List Int) (many : Nat) (two : Bool) (i : Nat) : List Vl :=
  ((kids two many i).map fun t => .ref (nums.getD t.toNat 0)) ++ (List.range (2 - (kids two many i).length)).map (fillV dr nums i)
theorem kids_len (two : Bool) (many i : Int) : (kids two many i).length ≤ 2 := by
  unfold kids
  exact Nat.le_trans (List.length_filter_le _ _) (by exact Nat.le_refl 2)
theorem valsV_len (dr nums : List Int) (many : Nat) (two : Bool) (i : Nat) : (valsV dr nums many two i).length = 2 := by
  unfold valsV
  have := kids_len two many i
  rw [List.length_append, List.length_map, List.length_map, List.length_range]
  omega
def v0 (dr nums : List Int) (many : Nat) (two : Bool) (i : Nat) : Vl := (valsV dr nums many two i).getD 0 .unit
def v1 (dr nums : List Int) (many : Nat) (two : Bool) (i : Nat) : Vl := (valsV dr nums many two i).getD 1 .unit
theorem valsV_eq (dr nums : List Int) (many : Nat) (two : Bool) (i : Nat) : valsV dr nums many two i = [v0 dr nums many two i, v1 dr nums many two i] := by
  have h := valsV_len dr nums many two i
  unfold v0 v1
  match e : valsV dr nums many two i, h with
  | [a, b], _ => rfl
def cellV (dr nums : List Int) (many : Nat) (two : Bool) (i : Nat) : Cell := lawCell (mix dr (100 + 10 * i + 8) 4) (v0 dr nums many two i) (v1 dr nums many two i)
def lawH (dr nums : List Int) (many : Nat) (two : Bool) : Hpl := (List.range many).map fun i => (nums.getD i 0, cellV dr nums many two i)
def preLH (ds : List PyData) (r : Rs) : Prop := ∃ (dr nums : List Int) (many : Nat) (two : Bool), ds = [.list (dr.map .int), .int many, .bool two, .list (nums.map .int)] ∧ DrawsOk dr ∧ nums.length = many ∧ nums.Nodup ∧ many ≤ 1000 ∧ r = .m (hpK (lawH dr nums many two))
theorem mix_range {dr : List Int} (h : DrawsOk dr) (k many : Int) (hk : 0 ≤ k) (hm : 0 < many) : 0 ≤ mix dr k many ∧ mix dr k many < many := by
  unfold mix
  split
  · exact ⟨Int.emod_nonneg _ (by omega), Int.emod_lt_of_pos _ hm⟩
  · exact ⟨Int.emod_nonneg _ (by omega), Int.emod_lt_of_pos _ hm⟩
theorem kids_mem {two : Bool} {many i t : Int} (h : t ∈ kids two many i) (hi : 0 ≤ i) : i < t ∧ t < many := by
  unfold kids at h
  rw [List.mem_filter] at h
  obtain ⟨h1, h2⟩ := h
  have h3 := of_decide_eq_true h2
  simp only [List.mem_cons, List.mem_nil_iff, or_false] at h1
  cases two
  · have : t = 2 * i + 1 ∨ t = 2 * i + 2 := h1
    omega
  · have : t = 2 * i + 2 ∨ t = 2 * i + 3 := h1
    omega
theorem getD_at {nums : List Int} {t : Int} (h0 : 0 ≤ t) (h1 : t < nums.length) : atI (nums.map PyData.int) t = some (.int (nums.getD t.toNat 0)) := atI_ints h0 h1
section
variable {P : Program} {w : World} {K : PySem.W.Frag} {mg : Str → Option Value} {base : Heap}
theorem c_lh (T : Bj mg) (D : Df K mg "_law_heap" sLH) (cmx : Cal P w K mg base 1 "_law_mix" ["draws", "k", "many"] preMix) (cle : Cal P w K mg base 1 "_law_edges" ["many", "two"] preLE) (clc : Cal P w K mg base 1 "_law_cell" ["kind", "values"] preLC) : Cal P w K mg base 2 "_law_heap" ["draws", "many", "two", "numbers"] preLH := by
  refine cal_of D scLH (fun ds r h => ?_) (fun _ _ _ _ _ _ us hl => match us, hl with | [_, _, _, _], _ => rfl) (fun f cdv A outer s H E G ds r hr hp => ?_)
  · obtain ⟨_, _, _, _, rfl, _⟩ := h
    rfl
  · obtain ⟨dr, nums, many, two, rfl, hd0, hlen, hnd, hm, rfl⟩ := hp
    have hz : (16777216 : Nat) = sizeLine := by decide
    refine run_set (i := 4) ev_dnew scLH.nd rfl (.inl rfl) ?_
    refine run_for (ds := rngD 0 many) (is := [5]) (fun i ρ => ∃ a b c d e, ρ = [.d (.list (dr.map .int)), .d (.int many), .d (.bool two), .d (.list (nums.map .int)), .m (hpK ((List.range i).map fun j => (nums.getD j 0, cellV dr nums many two j))), a, b, c, d, e]) PassesOwn.never rfl
      (ei_range1 (n := many) T.range (nm 1 rfl) (by omega) (by omega)) ⟨.no, .no, .no, .no, .no, rfl⟩ ?_ ?_
    · rintro i d ρ' hd ⟨a, b, c, d1, e, rfl⟩
      unfold rngD at hd
      rw [List.getElem?_map] at hd
      obtain ⟨k', hk', rfl⟩ := Option.map_eq_some_iff.mp hd
      obtain ⟨hk1, hk2⟩ := List.getElem?_eq_some_iff.mp hk'
      rw [List.length_range] at hk1
      rw [List.getElem_range] at hk2
      subst hk2
      have hi : i < many := by omega
      have e0 : ((0 : Int) + (i : Int)) = (i : Int) := by omega
      rw [e0]
      have hkl := kids_len two many i
      have km : ∀ t ∈ kids two many i, 0 ≤ t ∧ t < nums.length := fun t ht => by
        have := kids_mem ht (by omega)
        omega
      refine ⟨_, eg_name (i := 5) scLH.nd rfl (.inl rfl) (.inl rfl), ?_⟩
      refine run_par (i := 6) (j := 7) (d1 := .list ((kids two many i).map .int)) (d2 := .int (100 + 10 * (i : Int))) rfl scLH.nd rfl rfl (by decide) rfl rfl (ea_cons (ev_ixL (EvR.dl (ev_calC cle hr (Nat.le_refl _) (ea_cons (nm 1 rfl) (ea_cons (nm 2 rfl) ea_nil)) ⟨many, two, rfl, hm, rfl⟩)) (nm 5 rfl) (atI_of (by rw [List.getElem?_map, List.getElem?_range hi]; rfl))) (ea_cons (ev_add ev_int (ev_mul ev_int (nm 5 rfl) (.inl ⟨by decide, by decide⟩))) ea_nil)) ?_
      refine run_setLc (i := 8) (ds := (kids two many i).map .int) (is := [9]) (own := [("t", 9)]) (tb := fun _ => true) (f := fun d => match d with | .int t => (Vl.ref (nums.getD t.toNat 0)).d | _ => .none) (rho := fun d => [.d (.list (dr.map .int)), .d (.int many), .d (.bool two), .d (.list (nums.map .int)), .m (hpK ((List.range i).map fun j => (nums.getD j 0, cellV dr nums many two j))), .d (.int i), .d (.list ((kids two many i).map .int)), .d (.int (100 + 10 * (i : Int))), d1, .d d]) (r := .l (((kids two many i).map fun t => Vl.ref (nums.getD t.toNat 0)).map Vl.d)) rfl scLH.nd rfl rfl
          (ei_list (nm 6 rfl)) (blkOk_by rfl) (by decide) (fun d _ _ _ _ _ _ => eg_name (i := 9) scLH.nd rfl (.inl rfl) (.inr rfl)) (fun d hd _ _ _ _ _ => ets_nil) (fun d hd ht _ _ _ _ _ => ?_) (by rw [List.length_map, ← hz]; omega) ?_ ?_
      · obtain ⟨t, ht, rfl⟩ := List.mem_map.mp hd
        obtain ⟨h0, h1⟩ := km t ht
        exact tp (ds := [.str "ref", .int (nums.getD t.toNat 0)]) (ea_cons ev_str (ea_cons (ev_ixL (nm 3 rfl) (nm 9 rfl) (getD_at h0 h1)) ea_nil))
      · show Rs.l _ = Rs.l _
        rw [List.filter_eq_self.mpr (fun _ _ => rfl), List.map_map, List.map_map]
        rfl
      refine run_for (ds := rngD 0 (2 - (kids two many i).length)) (is := [9]) (fun j ρ => ∃ e, ρ = [.d (.list (dr.map .int)), .d (.int many), .d (.bool two), .d (.list (nums.map .int)), .m (hpK ((List.range i).map fun j => (nums.getD j 0, cellV dr nums many two j))), .d (.int i), .d (.list ((kids two many i).map .int)), .d (.int (100 + 10 * (i : Int))), .l ((((kids two many i).map fun t => Vl.ref (nums.getD t.toNat 0)) ++ (List.range j).map (fillV dr nums i)).map Vl.d), e]) PassesOwn.never rfl
        (EvI_to (ei_range1 T.range (ev_sub ev_int (ev_lenL T.len (nm 6 rfl))) (by rw [List.length_map]; omega) (by omega)) (by rw [List.length_map]; congr 1; omega)) ⟨e, ?_⟩ ?_ ?_
      · show _ = [_, _, _, _, _, _, _, _, Sl.l (List.map Vl.d (_ ++ [])), _]
        rw [List.append_nil]
        rfl
      · rintro j d ρ' hd ⟨e, rfl⟩
        unfold rngD at hd
        rw [List.getElem?_map] at hd
        obtain ⟨k', hk', rfl⟩ := Option.map_eq_some_iff.mp hd
        obtain ⟨hk3, hk4⟩ := List.getElem?_eq_some_iff.mp hk'
        rw [List.length_range] at hk3
        rw [List.getElem_range] at hk4
        subst hk4
        have e1 : ((0 : Int) + (j : Int)) = (j : Int) := by omega
        rw [e1]
        have hmr := mix_range hd0 (100 + 10 * (i : Int) + (j : Int)) ((i : Int) + 1) (by omega) (by omega)
        have hm4 := mix_range hd0 (100 + 10 * (i : Int) + 4 + (j : Int)) 4 (by omega) (by decide)
        refine ⟨_, eg_name (i := 9) scLH.nd rfl (.inl rfl) (.inl rfl), ?_⟩
        refine run_append (i := 8) (d := (fillV dr nums i j).d) (ev_ixL (ds := [(Vl.int i).d, Vl.unit.d, (Vl.ref (nums.getD (mix dr (100 + 10 * (i : Int) + (j : Int)) ((i : Int) + 1)).toNat 0)).d, Vl.nil.d]) (EvR.dl (ls (ea_cons (tp (ea_cons ev_str (ea_cons (nm 5 rfl) ea_nil))) (ea_cons (tp (ea_cons ev_str ea_nil)) (ea_cons (tp (ds := [.str "ref", .int (nums.getD (mix dr (100 + 10 * (i : Int) + (j : Int)) ((i : Int) + 1)).toNat 0)]) (ea_cons ev_str (ea_cons (ev_ixL (nm 3 rfl) (ev_calC cmx hr (Nat.le_refl _) (ea_cons (nm 0 rfl) (ea_cons (ev_add (nm 7 rfl) (nm 9 rfl)) (ea_cons (ev_add (nm 5 rfl) ev_int) ea_nil))) ⟨dr, _, _, rfl, hd0, by omega, by omega, by omega, rfl⟩) (getD_at hmr.1 (by omega))) ea_nil))) (ea_cons (tp (ea_cons ev_str ea_nil)) ea_nil))))))
          (ev_calC cmx hr (Nat.le_refl _) (ea_cons (nm 0 rfl) (ea_cons (ev_add (ev_add (nm 7 rfl) ev_int) (nm 9 rfl)) (ea_cons ev_int ea_nil))) ⟨dr, _, _, rfl, hd0, by omega, by omega, by decide, rfl⟩) ?_) rfl (by rw [List.length_map, List.length_append, List.length_map, List.length_map, List.length_range, ← hz]; omega) rfl (.inl rfl) (run_nil ⟨.d (.int (j : Int)), ?_⟩)
        · unfold fillV
          have : mix dr (100 + 10 * (i : Int) + 4 + (j : Int)) 4 = 0 ∨ mix dr (100 + 10 * (i : Int) + 4 + (j : Int)) 4 = 1 ∨ mix dr (100 + 10 * (i : Int) + 4 + (j : Int)) 4 = 2 ∨ mix dr (100 + 10 * (i : Int) + 4 + (j : Int)) 4 = 3 := by omega
          dsimp only
          rcases this with h | h | h | h <;> rw [h] <;> rfl
        · have e2 : (List.range (j + 1)).map (fillV dr nums i) = (List.range j).map (fillV dr nums i) ++ [fillV dr nums i j] := by rw [List.range_succ, List.map_append]; rfl
          rw [e2, ← List.append_assoc, List.map_append (l₁ := _ ++ List.map (fillV dr nums i) (List.range j))]
          rfl
      · rintro ρ' ⟨e, rfl⟩
        have hm8 := mix_range hd0 (100 + 10 * (i : Int) + 8) 4 (by omega) (by decide)
        have e3 : (((kids two many i).map fun t => Vl.ref (nums.getD t.toNat 0)) ++ (List.range (rngD 0 (2 - (kids two many i).length)).length).map (fillV dr nums i)) = [v0 dr nums many two i, v1 dr nums many two i] := by
          rw [← valsV_eq]
          unfold valsV rngD
          rw [List.length_map, List.length_range]
        rw [e3]
        have hgi : nums[i]? = some (nums.getD i 0) := by rw [List.getD_eq_getElem?_getD, List.getElem?_eq_getElem (by omega)]; rfl
        have hnew : (Sum.inl (nums.getD i 0) : Key) ∉ (hpK ((List.range i).map fun j => (nums.getD j 0, cellV dr nums many two j))).map (·.1) := by
          unfold hpK
          rw [List.map_map, List.map_map]
          intro hmem
          obtain ⟨j, hj, hje⟩ := List.mem_map.mp hmem
          have hj' := List.mem_range.mp hj
          have hq : nums.getD j 0 = nums.getD i 0 := Sum.inl.inj hje
          have hgj : nums[j]? = some (nums.getD j 0) := by rw [List.getD_eq_getElem?_getD, List.getElem?_eq_getElem (by omega)]; rfl
          rw [hq, ← hgi] at hgj
          have := (List.getElem?_inj (by omega) hnd).mp hgj
          omega
        refine run_setD (i := 4) (n := .inl (nums.getD i 0)) (d := (cellV dr nums many two i).d) (ru hr) (ev_calC clc hr (Nat.le_refl _) (ea_cons (ev_calC cmx hr (Nat.le_refl _) (ea_cons (nm 0 rfl) (ea_cons (ev_add (nm 7 rfl) ev_int) (ea_cons ev_int ea_nil))) ⟨dr, _, _, rfl, hd0, by omega, by omega, by decide, rfl⟩) (ea_cons (ev_tupleO (i := 8) T.tuple rfl rfl (.inl rfl)) ea_nil)) ⟨_, _, _, rfl, hm8.1, hm8.2, rfl⟩) (ev_ixL (d := .int (nums.getD i 0)) (nm 3 rfl) (nm 5 rfl) (atI_of (by rw [List.getElem?_map, hgi]; rfl))) rfl (by unfold hpK; rw [List.length_map, List.length_map, List.length_range, ← hz]; omega) rfl (.inl rfl) (run_nil ⟨.d (.int (i : Int)), .d (.list ((kids two many i).map .int)), .d (.int (100 + 10 * (i : Int))), .l ([v0 dr nums many two i, v1 dr nums many two i].map Vl.d), e, ?_⟩)
        rw [putD_new hnew]
        have e4 : (List.range (i + 1)).map (fun j => (nums.getD j 0, cellV dr nums many two j)) = (List.range i).map (fun j => (nums.getD j 0, cellV dr nums many two j)) ++ [(nums.getD i 0, cellV dr nums many two i)] := by rw [List.range_succ, List.map_append]; rfl
        rw [e4]
        unfold hpK
        rw [List.map_append (l₁ := List.map (fun j => (nums.getD j 0, cellV dr nums many two j)) (List.range i))]
        rfl
    · rintro ρ' ⟨a, b, c, d, e, rfl⟩
      refine run_retD (i := 4) rfl ?_ rfl (.inl rfl)
      show Rs.m _ = Rs.m _
      unfold rngD
      rw [List.length_map, List.length_range]
      rfl
end
end K36
namespace K36
open PySem PySem.Spec L2 DH
/-! the plain law -/
def hpX (dr nums : List Int) (M : Nat) (two : Bool) (ext : Hpl) : Hpl := lawH dr nums M two ++ ext
def rootsV (nums : List Int) (two : Bool) : List Vl := [.int 3, .ref (nums.getD 0 0), .unit] ++ (if two then [.ref (nums.getD 1 0)] else []) ++ [.ref (nums.getD 0 0), .bool true]
structure SU (dr nums : List Int) (M : Nat) (two : Bool) (ext : Hpl) : Prop where
  ok : DrawsOk dr
  len : nums.length = M
  nd : nums.Nodup
  pos : 0 < M
  lt : M ≤ 40
  tw : two = true → 1 < M
  rng : ∀ n ∈ nums, 0 ≤ n ∧ n < 500
  ex : ∀ p ∈ ext, 500 ≤ p.1 ∧ p.1 < 600 ∧ ∃ x ∈ nums, p.2 = .two false (.ref 500) (.ref x)
  e5 : ∀ p ∈ ext, (cellAt ext 500).isSome = true
  el : ext.length ≤ 5
  en : (ext.map (·.1)).Nodup
theorem cellAt_nd {n : Int} {c : Cell} : ∀ {h : Hpl}, (h.map (·.1)).Nodup → (n, c) ∈ h → cellAt h n = some c
  | q :: h, hn, hm => by
    rw [List.map_cons, List.nodup_cons] at hn
    unfold cellAt
    rcases List.mem_cons.mp hm with e | hm
    · rw [← e]
      rw [List.find?_cons_of_pos (by simp)]
      rfl
    · have hne : q.1 ≠ n := fun z => hn.1 (List.mem_map.mpr ⟨_, hm, z.symm⟩)
      rw [List.find?_cons_of_neg (by simpa using hne)]
      exact cellAt_nd hn.2 hm
theorem cellAt_in {n : Int} {c : Cell} {h : Hpl} (e : cellAt h n = some c) : (n, c) ∈ h := by
  unfold cellAt at e
  obtain ⟨p, hp, rfl⟩ := Option.map_eq_some_iff.mp e
  have h1 := List.find?_some hp
  have h2 := List.mem_of_find?_eq_some hp
  have h3 : p.1 = n := of_decide_eq_true h1
  rw [← h3]
  exact h2
theorem cellAt_app (h1 h2 : Hpl) (n : Int) : cellAt (h1 ++ h2) n = (cellAt h1 n).or (cellAt h2 n) := by
  unfold cellAt
  rw [List.find?_append]
  cases h1.find? (fun p => decide (p.1 = n)) <;> rfl
section
variable {dr nums : List Int} {M : Nat} {two : Bool} {ext : Hpl}
theorem getD_get {i : Nat} (h : i < nums.length) : nums[i]? = some (nums.getD i 0) := by rw [List.getD_eq_getElem?_getD, List.getElem?_eq_getElem h]; rfl
theorem lawH_keys (h : nums.length = M) : (lawH dr nums M two).map (·.1) = nums := by
  unfold lawH
  rw [List.map_map]
  apply List.ext_getElem?
  intro i
  rw [List.getElem?_map]
  by_cases hi : i < M
  · rw [List.getElem?_range hi, getD_get (by omega)]
    rfl
  · rw [List.getElem?_eq_none (by rw [List.length_range]; omega), List.getElem?_eq_none (by omega)]
    rfl
theorem hpX_keys (S : SU dr nums M two ext) : ((hpX dr nums M two ext).map (·.1)).Nodup := by
  unfold hpX
  rw [List.map_append, lawH_keys S.len, List.nodup_append]
  refine ⟨S.nd, S.en, fun a ha b hb e => ?_⟩
  obtain ⟨p, hp, rfl⟩ := List.mem_map.mp hb
  have := (S.ex p hp).1
  have := (S.rng a ha).2
  omega
theorem cell_at (S : SU dr nums M two ext) {i : Nat} (hi : i < M) : cellAt (hpX dr nums M two ext) (nums.getD i 0) = some (cellV dr nums M two i) :=
  cellAt_nd (hpX_keys S) (List.mem_append_left _ (List.mem_map.mpr ⟨i, List.mem_range.mpr hi, rfl⟩))
theorem mem_nums (S : SU dr nums M two ext) {n : Int} (h : n ∈ nums) : ∃ i, i < M ∧ n = nums.getD i 0 := by
  obtain ⟨i, hi⟩ := List.mem_iff_getElem?.mp h
  have hl := (List.getElem?_eq_some_iff.mp hi).1
  rw [getD_get hl] at hi
  exact ⟨i, by rw [← S.len]; exact hl, (Option.some.inj hi).symm⟩
theorem nums_mem (S : SU dr nums M two ext) {i : Nat} (h : i < M) : nums.getD i 0 ∈ nums := List.mem_of_getElem? (getD_get (by rw [S.len]; exact h))
theorem lawCell_vals (k : Int) (a b : Vl) : refsOf (lawCell k a b).vals = refsOf [a, b] ∧ (lawCell k a b).ok ∧ (lawCell k a b).good := by
  unfold lawCell
  split
  · exact ⟨rfl, Nat.le_of_ble_eq_true rfl, trivial⟩
  · split
    · exact ⟨rfl, Nat.le_of_ble_eq_true rfl, trivial⟩
    · split
      · exact ⟨rfl, Nat.le_of_ble_eq_true rfl, (by decide : (0 : Int) ≤ 3)⟩
      · exact ⟨rfl, Nat.le_of_ble_eq_true rfl, (by decide : (0 : Int) ≤ 0)⟩
def backs (dr nums : List Int) (M : Nat) (two : Bool) (i : Nat) : List Int := refsOf ((List.range (2 - (kids two M i).length)).map (fillV dr nums i))
theorem refs_cellV (dr nums : List Int) (M : Nat) (two : Bool) (i : Nat) : refsOf (cellV dr nums M two i).vals = (kids two M i).map (fun t => nums.getD t.toNat 0) ++ backs dr nums M two i := by
  unfold cellV
  rw [(lawCell_vals _ _ _).1, ← valsV_eq]
  unfold valsV backs refsOf
  rw [List.flatMap_append, List.flatMap_map]
  congr 1
  induction kids two M i with
  | nil => rfl
  | cons t l ih => rw [List.flatMap_cons, ih]; rfl
theorem backs_mem (hd : DrawsOk dr) {i : Nat} {x : Int} (h : x ∈ backs dr nums M two i) : ∃ j, j ≤ i ∧ x = nums.getD j 0 := by
  unfold backs refsOf at h
  obtain ⟨v, hv, hx⟩ := List.mem_flatMap.mp h
  obtain ⟨t, _, rfl⟩ := List.mem_map.mp hv
  unfold fillV at hx
  dsimp only at hx
  split at hx
  · cases hx
  · split at hx
    · cases hx
    · split at hx
      · have := mix_range hd (100 + 10 * (i : Int) + (t : Int)) ((i : Int) + 1) (by omega) (by omega)
        exact ⟨_, by omega, List.mem_singleton.mp hx⟩
      · cases hx
def oo (two : Bool) : Nat := if two then 1 else 0
theorem kids_iff {two : Bool} {M i : Nat} {t : Int} : t ∈ kids two M i ↔ ∃ u : Nat, t = (u : Int) ∧ (u = 2 * i + 1 + oo two ∨ u = 2 * i + 2 + oo two) ∧ u < M := by
  unfold kids oo
  rw [List.mem_filter, decide_eq_true_eq]
  simp only [List.mem_cons, List.mem_nil_iff, or_false]
  cases two
  · constructor
    · rintro ⟨h1 | h1, h2⟩
      · exact ⟨2 * i + 1, by simp at h1; omega, .inl rfl, by simp at h1; omega⟩
      · exact ⟨2 * i + 2, by simp at h1; omega, .inr rfl, by simp at h1; omega⟩
    · rintro ⟨u, rfl, h1 | h1, h2⟩
      · exact ⟨.inl (by simp at h1 ⊢; omega), by omega⟩
      · exact ⟨.inr (by simp at h1 ⊢; omega), by omega⟩
  · constructor
    · rintro ⟨h1 | h1, h2⟩
      · exact ⟨2 * i + 2, by simp at h1; omega, .inl rfl, by simp at h1; omega⟩
      · exact ⟨2 * i + 3, by simp at h1; omega, .inr rfl, by simp at h1; omega⟩
    · rintro ⟨u, rfl, h1 | h1, h2⟩
      · exact ⟨.inl (by simp at h1 ⊢; omega), by omega⟩
      · exact ⟨.inr (by simp at h1 ⊢; omega), by omega⟩
theorem refs_in (S : SU dr nums M two ext) {i : Nat} (hi : i < M) {x : Int} (h : x ∈ refsOf (cellV dr nums M two i).vals) : x ∈ nums := by
  rw [refs_cellV] at h
  rcases List.mem_append.mp h with h | h
  · obtain ⟨t, ht, rfl⟩ := List.mem_map.mp h
    obtain ⟨u, rfl, _, hu⟩ := kids_iff.mp ht
    exact nums_mem S (by simpa using hu)
  · obtain ⟨j, hj, rfl⟩ := backs_mem S.ok h
    exact nums_mem S (by omega)
theorem goodH (S : SU dr nums M two ext) : GoodH (hpX dr nums M two ext) where
  c := fun n c hc => by
    have isS : ∀ x ∈ nums, (cellAt (hpX dr nums M two ext) x).isSome = true := fun x hx => by
      obtain ⟨i, hi, rfl⟩ := mem_nums S hx
      rw [cell_at S hi]
      rfl
    rcases List.mem_append.mp (cellAt_in hc) with h | h
    · obtain ⟨i, hi, e⟩ := List.mem_map.mp h
      cases e
      have hi' := List.mem_range.mp hi
      refine ⟨(lawCell_vals _ _ _).2.1, (lawCell_vals _ _ _).2.2, fun x hx => isS x (refs_in S hi' hx)⟩
    · obtain ⟨h1, _, x, hx, he⟩ := S.ex _ h
      have he' : c = .two false (.ref 500) (.ref x) := he
      subst he'
      refine ⟨Nat.le_of_ble_eq_true rfl, trivial, fun y hy => ?_⟩
      have hy' : y = 500 ∨ y = x := by simpa [refsOf, Cell.vals, Vl.refs] using hy
      rcases hy' with rfl | rfl
      · unfold hpX
        rw [cellAt_app, Option.isSome_or, S.e5 _ h, Bool.or_true]
      · exact isS _ hx
  l := by
    unfold hpX lawH
    rw [List.length_append, List.length_map, List.length_range]
    have := S.lt
    have := S.el
    omega
theorem roots_refs (nums : List Int) (two : Bool) : refsOf (rootsV nums two) = nums.getD 0 0 :: ((if two then [nums.getD 1 0] else []) ++ [nums.getD 0 0]) := by
  cases two <;> rfl
theorem roots_in (S : SU dr nums M two ext) {x : Int} (h : x ∈ refsOf (rootsV nums two)) : x ∈ nums := by
  rw [roots_refs] at h
  have h0 := nums_mem S S.pos
  cases ht : two
  · rw [ht] at h
    simp at h
    rw [h]
    simpa using h0
  · rw [ht] at h
    simp at h
    have h1 := nums_mem S (S.tw ht)
    rw [List.getD_eq_getElem?_getD] at h0 h1
    rcases h with h | h | h
    · rw [h]; exact h0
    · rw [h]; exact h1
    · rw [h]; exact h0
theorem roots_len (nums : List Int) (two : Bool) : (rootsV nums two).length ≤ 6 := by cases two <;> exact Nat.le_of_ble_eq_true rfl
theorem rootOk (S : SU dr nums M two ext) : RootOk (hpX dr nums M two ext) (rootsV nums two) := by
  refine ⟨fun x hx => ?_, Nat.lt_of_le_of_lt (roots_len _ _) (by decide)⟩
  obtain ⟨i, hi, rfl⟩ := mem_nums S (roots_in S hx)
  rw [cell_at S hi]
  rfl
theorem fnd (S : SU dr nums M two ext) : Fnd (hpX dr nums M two ext) nums where
  cl := fun m hm => by
    obtain ⟨i, hi, rfl⟩ := mem_nums S hm
    exact ⟨_, cell_at S hi, (lawCell_vals _ _ _).2.1, fun x hx => refs_in S hi hx⟩
  nd := S.nd
  b := by rw [S.len]; have := S.lt; omega
theorem refs3 (dr nums : List Int) (M : Nat) (two : Bool) (i : Nat) : (refsOf (cellV dr nums M two i).vals).length ≤ 3 := by
  refine Nat.le_trans ?_ (by decide : 2 ≤ 3)
  unfold cellV
  rw [(lawCell_vals _ _ _).1]
  exact refs_len _
theorem mark (S : SU dr nums M two ext) : Mark (hpX dr nums M two ext) (rootsV nums two) nums where
  cl := fun m hm => by
    obtain ⟨i, hi, rfl⟩ := mem_nums S hm
    exact ⟨_, cell_at S hi, (lawCell_vals _ _ _).2.1, refs3 _ _ _ _ _, fun x hx => refs_in S hi hx⟩
  ro := fun x hx => roots_in S hx
  re := fun Sx hr hc m hm => by
    obtain ⟨j, hj, rfl⟩ := mem_nums S hm
    have key : ∀ n j, j ≤ n → j < M → nums.getD j 0 ∈ Sx := fun n => by
      induction n with
      | zero =>
        intro j hj _
        have : j = 0 := by omega
        subst this
        exact hr _ (by rw [roots_refs]; exact List.mem_cons_self ..)
      | succ n ih =>
        intro j hjn hjM
        by_cases h0 : j = 0
        · exact ih j (by omega) hjM
        · by_cases h1 : two = true ∧ j = 1
          · obtain ⟨ht, rfl⟩ := h1
            refine hr _ ?_
            rw [roots_refs, ht]
            simp
          · have ho : oo two = 0 ∨ (oo two = 1 ∧ j ≠ 1) := by
              unfold oo
              cases two with
              | false => exact .inl rfl
              | true => exact .inr ⟨rfl, fun z => h1 ⟨rfl, z⟩⟩
            have hp : ∃ i, i < j ∧ (j = 2 * i + 1 + oo two ∨ j = 2 * i + 2 + oo two) := by
              rcases ho with ho | ⟨ho, hj1⟩
              · refine ⟨(j - 1) / 2, by omega, by omega⟩
              · refine ⟨(j - 2) / 2, by omega, by omega⟩
            obtain ⟨i, hij, hji⟩ := hp
            refine hc _ (ih i (by omega) (by omega)) _ (cell_at S (by omega)) _ ?_
            rw [refs_cellV]
            refine List.mem_append_left _ (List.mem_map.mpr ⟨(j : Int), kids_iff.mpr ⟨j, rfl, hji, hjM⟩, ?_⟩)
            simp
    exact key j j (Nat.le_refl _) hj
  nd := S.nd
  b := by
    have h1 := roots_len nums two
    have h2 := refs_len (rootsV nums two)
    have h3 := S.lt
    have h4 := S.len
    exact ⟨by omega, by omega, by omega⟩
/-! breadth first -/
theorem meet_new (hn : nums.Nodup) {g : Nat} (hg : g < nums.length) : meet (nums.take g) (nums.getD g 0) = nums.take (g + 1) := by
  have hx := getD_get hg
  have : nums.getD g 0 ∉ nums.take g := fun hm => by
    obtain ⟨j, hj⟩ := List.mem_iff_getElem?.mp hm
    have hjl := (List.getElem?_eq_some_iff.mp hj).1
    rw [List.length_take] at hjl
    rw [List.getElem?_take_of_lt (by omega)] at hj
    have := L2.nd_ix hn hj hx
    omega
  unfold meet
  rw [if_neg this, List.take_add_one, hx]
  rfl
theorem meet_old {g j : Nat} (hj : j < g) (hjl : j < nums.length) : meet (nums.take g) (nums.getD j 0) = nums.take g := by
  have : nums.getD j 0 ∈ nums.take g := List.mem_of_getElem? (i := j) (by rw [List.getElem?_take_of_lt hj]; exact getD_get hjl)
  unfold meet
  rw [if_pos this]
theorem meets_old {g : Nat} : ∀ {ns : List Int}, (∀ x ∈ ns, ∃ j, j < g ∧ j < nums.length ∧ x = nums.getD j 0) → meets (nums.take g) ns = nums.take g
  | [], _ => rfl
  | x :: ns, h => by
    obtain ⟨j, h1, h2, rfl⟩ := h x (List.mem_cons_self ..)
    show meets (meet (nums.take g) _) ns = _
    rw [meet_old h1 h2]
    exact meets_old fun y hy => h y (List.mem_cons_of_mem _ hy)
theorem meets_app (fs a b : List Int) : meets fs (a ++ b) = meets (meets fs a) b := by unfold meets; rw [List.foldl_append]
def gg (M : Nat) (two : Bool) (i : Nat) : Nat := min M (2 * i + 1 + oo two)
theorem kids_eq (two : Bool) (M i : Nat) : kids two M i = (if 2 * i + 1 + oo two < M then [((2 * i + 1 + oo two : Nat) : Int)] else []) ++ (if 2 * i + 2 + oo two < M then [((2 * i + 2 + oo two : Nat) : Int)] else []) := by
  unfold kids oo
  cases two
  · simp only [Bool.false_eq_true, if_false, List.filter_cons, List.filter_nil]
    have e1 : decide (2 * (i : Int) + 1 < (M : Int)) = decide (2 * i + 1 + 0 < M) := decide_eq_decide.mpr (by omega)
    have e2 : decide (2 * (i : Int) + 2 < (M : Int)) = decide (2 * i + 2 + 0 < M) := decide_eq_decide.mpr (by omega)
    rw [e1, e2]
    by_cases h1 : 2 * i + 1 + 0 < M <;> by_cases h2 : 2 * i + 2 + 0 < M <;> simp [h1, h2]
  · simp only [if_true, List.filter_cons, List.filter_nil]
    have e1 : decide (2 * (i : Int) + 2 < (M : Int)) = decide (2 * i + 1 + 1 < M) := decide_eq_decide.mpr (by omega)
    have e2 : decide (2 * (i : Int) + 3 < (M : Int)) = decide (2 * i + 2 + 1 < M) := decide_eq_decide.mpr (by omega)
    rw [e1, e2]
    by_cases h1 : 2 * i + 1 + 1 < M <;> by_cases h2 : 2 * i + 2 + 1 < M <;> simp [h1, h2] <;> omega
theorem ordd (S : SU dr nums M two ext) : Ordd (hpX dr nums M two ext) (rootsV nums two) (fun i => nums.take (gg M two i)) M where
  z := by
    have hl := S.len
    have hp := S.pos
    have e0 : meet [] (nums.getD 0 0) = nums.take 1 := meet_new S.nd (g := 0) (by omega)
    rw [roots_refs]
    cases ht : two
    · have e : gg M false 0 = 1 := by unfold gg oo; simp; omega
      rw [e]
      show _ = meet (meet [] _) _
      rw [e0, meet_old (by decide) (by omega)]
    · have h1 := S.tw ht
      have e : gg M true 0 = 2 := by unfold gg oo; simp; omega
      rw [e]
      show _ = meet (meet (meet [] _) _) _
      rw [e0, meet_new S.nd (by omega), meet_old (by decide) (by omega)]
  s := fun i hi => by
    have hl := S.len
    have hgi : i < gg M two i := by unfold gg; omega
    refine ⟨nums.getD i 0, cellV dr nums M two i, ?_, cell_at S hi, (lawCell_vals _ _ _).2.1, refs3 _ _ _ _ _, ?_⟩
    · rw [List.getElem?_take_of_lt hgi]
      exact getD_get (by omega)
    · have hb : ∀ g, i < g → meets (nums.take g) (backs dr nums M two i) = nums.take g := fun g hg => meets_old fun x hx => by
        obtain ⟨j, h1, h2⟩ := backs_mem S.ok hx
        exact ⟨j, by omega, by omega, h2⟩
      rw [refs_cellV, meets_app, kids_eq, List.map_append, meets_app]
      by_cases h1 : 2 * i + 1 + oo two < M
      · have g1 : gg M two i = 2 * i + 1 + oo two := by unfold gg; omega
        rw [if_pos h1, g1]
        have m1 : meets (nums.take (2 * i + 1 + oo two)) ([((2 * i + 1 + oo two : Nat) : Int)].map fun t => nums.getD t.toNat 0) = nums.take (2 * i + 1 + oo two + 1) := by
          show meet _ (nums.getD (Int.toNat _) 0) = _
          rw [Int.toNat_natCast]
          exact meet_new S.nd (by omega)
        rw [m1]
        by_cases h2 : 2 * i + 2 + oo two < M
        · have g2 : gg M two (i + 1) = 2 * i + 2 + oo two + 1 := by unfold gg; omega
          rw [if_pos h2, g2]
          have e : 2 * i + 1 + oo two + 1 = 2 * i + 2 + oo two := by omega
          rw [e]
          have m2 : meets (nums.take (2 * i + 2 + oo two)) ([((2 * i + 2 + oo two : Nat) : Int)].map fun t => nums.getD t.toNat 0) = nums.take (2 * i + 2 + oo two + 1) := by
            show meet _ (nums.getD (Int.toNat _) 0) = _
            rw [Int.toNat_natCast]
            exact meet_new S.nd (by omega)
          rw [m2]
          exact (hb _ (by omega)).symm
        · have g2 : gg M two (i + 1) = 2 * i + 1 + oo two + 1 := by unfold gg; omega
          rw [if_neg h2, g2]
          exact (hb _ (by omega)).symm
      · have g1 : gg M two i = M := by unfold gg; omega
        have g2 : gg M two (i + 1) = M := by unfold gg; omega
        rw [if_neg h1, if_neg (by omega), g1, g2]
        exact (hb _ hi).symm
  l := by
    have e : gg M two M = M := by unfold gg; omega
    rw [e, List.length_take, S.len]
    exact Nat.min_self _
  b := by
    have h1 := roots_len nums two
    have h2 := refs_len (rootsV nums two)
    have h3 := S.lt
    exact ⟨by omega, by omega, by omega⟩
theorem ordd_end (S : SU dr nums M two ext) : nums.take (gg M two M) = nums := by
  have e : gg M two M = M := by unfold gg; omega
  rw [e, ← S.len, List.take_length]
end
end K36
namespace K36
open PySem PySem.Spec L2 DH
/-! the copy -/
def idn (M : Nat) : List Int := (List.range M).map fun (i : Nat) => (i : Int)
theorem idn_len (M : Nat) : (idn M).length = M := by unfold idn; rw [List.length_map, List.length_range]
theorem idn_get {M i : Nat} (h : i < M) : (idn M).getD i 0 = (i : Int) := by
  rw [List.getD_eq_getElem?_getD]
  unfold idn
  rw [List.getElem?_map, List.getElem?_range h]
  rfl
theorem idn_nd (M : Nat) : (idn M).Nodup := List.Pairwise.map _ (fun a b (hab : a ≠ b) q => hab (Int.ofNat.inj q)) List.nodup_range
section
variable {dr nums : List Int} {M : Nat} {two : Bool} {ext : Hpl}
theorem SU.idn (S : SU dr nums M two ext) : SU dr (idn M) M two [] where
  ok := S.ok
  len := idn_len M
  nd := idn_nd M
  pos := S.pos
  lt := S.lt
  tw := S.tw
  rng := fun n hn => by
    obtain ⟨i, hi, rfl⟩ := List.mem_map.mp hn
    have := List.mem_range.mp hi
    have := S.lt
    exact ⟨by omega, by omega⟩
  ex := nofun
  e5 := nofun
  el := Nat.zero_le _
  en := List.nodup_nil
theorem ix_nums (S : SU dr nums M two ext) {i : Nat} (h : i < M) : ix nums (nums.getD i 0) = i := ix_get S.nd (getD_get (by rw [S.len]; exact h))
theorem lawCell_mv (g : Int → Int) (k : Int) (a b : Vl) : (lawCell k a b).mv g = lawCell k (a.mv g) (b.mv g) := by
  unfold lawCell
  split
  · rfl
  · split
    · rfl
    · split <;> rfl
theorem fill_mv (S : SU dr nums M two ext) {i : Nat} (hi : i < M) (t : Nat) : (fillV dr nums i t).mv (ix nums) = fillV dr (idn M) i t := by
  unfold fillV
  dsimp only
  split
  · rfl
  · split
    · rfl
    · split
      · have hm := mix_range S.ok (100 + 10 * (i : Int) + (t : Int)) ((i : Int) + 1) (by omega) (by omega)
        show Vl.ref (ix nums _) = Vl.ref _
        rw [ix_nums S (by omega), idn_get (by omega)]
      · rfl
theorem vals_mv (S : SU dr nums M two ext) {i : Nat} (hi : i < M) : (valsV dr nums M two i).map (Vl.mv (ix nums)) = valsV dr (idn M) M two i := by
  unfold valsV
  rw [List.map_append, List.map_map, List.map_map]
  congr 1
  · refine List.map_congr_left fun t ht => ?_
    obtain ⟨u, rfl, _, hu⟩ := kids_iff.mp ht
    show Vl.ref (ix nums (nums.getD (Int.toNat u) 0)) = Vl.ref ((idn M).getD (Int.toNat u) 0)
    rw [Int.toNat_natCast, ix_nums S hu, idn_get hu]
  · exact List.map_congr_left fun t _ => fill_mv S hi t
theorem cellV_mv (S : SU dr nums M two ext) {i : Nat} (hi : i < M) : (cellV dr nums M two i).mv (ix nums) = cellV dr (idn M) M two i := by
  unfold cellV
  rw [lawCell_mv]
  have h := vals_mv S hi
  rw [valsV_eq, valsV_eq] at h
  simp only [List.map_cons, List.map_nil, List.cons.injEq, and_true] at h
  rw [h.1, h.2]
theorem mvK_eq (S : SU dr nums M two ext) : mvK (hpX dr nums M two ext) nums = hpK (lawH dr (idn M) M two) := by
  unfold mvK hpK lawH
  rw [List.map_map, S.len]
  refine List.map_congr_left fun i hi => ?_
  have hi' := List.mem_range.mp hi
  show (Sum.inl (i : Int), mvAt _ nums i) = (Sum.inl ((idn M).getD i 0), (cellV dr (idn M) M two i).d)
  unfold mvAt
  rw [idn_get hi', getD_get (by rw [S.len]; exact hi')]
  dsimp only
  rw [cell_at S hi']
  dsimp only
  rw [cellV_mv S hi']
theorem roots_mv (S : SU dr nums M two ext) : (rootsV nums two).map (Vl.mv (ix nums)) = rootsV (idn M) two := by
  have h0 := ix_nums S S.pos
  have g0 := idn_get S.pos
  unfold rootsV
  cases ht : two
  · simp only [Bool.false_eq_true, if_false, List.append_nil, List.map_append, List.map_cons, List.map_nil, Vl.mv]
    rw [h0, g0]
  · have h1 := ix_nums S (S.tw ht)
    have g1 := idn_get (S.tw ht)
    simp only [if_true, List.map_append, List.map_cons, List.map_nil, Vl.mv]
    rw [h0, g0, h1, g1]
theorem hpX_nil (dr nums : List Int) (M : Nat) (two : Bool) : hpX dr nums M two [] = lawH dr nums M two := by unfold hpX; rw [List.append_nil]
/-! dicts of the same pairs -/
theorem plain_int (i : Int) : Plain (.int i) := (PlainN.int (n := 0) i).plain
theorem sameK_pl (S : SU dr nums M two ext) : SameK (plK nums) ((List.range M).map fun i => ((Sum.inl (nums.getD i 0) : Key), .int (i : Int))) := by
  refine ⟨by unfold plK; rw [List.length_map, List.length_map, List.length_range, (srt_perm _).length_eq, S.len], fun p hp => ?_⟩
  obtain ⟨x, hx, rfl⟩ := List.mem_map.mp hp
  obtain ⟨i, hi, rfl⟩ := mem_nums S ((srt_perm _).mem_iff.mp hx)
  refine ⟨?_, plain_int _⟩
  show _ = some (PyData.int (ix nums (nums.getD i 0)))
  rw [ix_nums S hi]
  have key : (List.range M).map (fun i => ((Sum.inl (nums.getD i 0) : Key), PyData.int (i : Int))) = nums.map fun x => ((Sum.inl x : Key), PyData.int (ix nums x)) := by
    apply List.ext_getElem?
    intro j
    rw [List.getElem?_map, List.getElem?_map]
    by_cases hj : j < M
    · rw [List.getElem?_range hj, getD_get (by rw [S.len]; exact hj)]
      show some (_, PyData.int (j : Int)) = some (_, PyData.int (ix nums (nums.getD j 0)))
      rw [ix_nums S hj]
    · rw [List.getElem?_eq_none (by rw [List.length_range]; omega), List.getElem?_eq_none (by rw [S.len]; omega)]
      rfl
  rw [key, look_map _ _ (nums_mem S hi), ix_nums S hi]
theorem plain_cellD (S : SU dr nums M two ext) {x : Int} (hx : x ∈ nums) : lookD (hpK (hpX dr nums M two ext)) (.inl x) = some (cellD (hpX dr nums M two ext) x) ∧ Plain (cellD (hpX dr nums M two ext) x) := by
  obtain ⟨i, hi, rfl⟩ := mem_nums S hx
  unfold cellD
  rw [look_hp, cell_at S hi]
  exact ⟨rfl, (plain_cell _).plain⟩
theorem sameK_sw (S : SU dr nums M two ext) : SameK ((srt nums).map fun n => ((Sum.inl n : Key), cellD (hpX dr nums M two ext) n)) (nums.map fun n => ((Sum.inl n : Key), cellD (hpX dr nums M two ext) n)) := by
  refine ⟨by rw [List.length_map, List.length_map, (srt_perm _).length_eq], fun p hp => ?_⟩
  obtain ⟨x, hx, rfl⟩ := List.mem_map.mp hp
  have hx' := (srt_perm _).mem_iff.mp hx
  exact ⟨look_map _ _ hx', (plain_cellD S hx').2⟩
theorem sameK_sw2 (S : SU dr nums M two []) : SameK ((srt nums).map fun n => ((Sum.inl n : Key), cellD (hpX dr nums M two []) n)) (hpK (hpX dr nums M two [])) := by
  refine ⟨by rw [List.length_map, (srt_perm _).length_eq, hpX_nil]; unfold hpK lawH; rw [List.length_map, List.length_map, List.length_range, S.len], fun p hp => ?_⟩
  obtain ⟨x, hx, rfl⟩ := List.mem_map.mp hp
  exact plain_cellD S ((srt_perm _).mem_iff.mp hx)
theorem sameK_refl (S : SU dr nums M two ext) : SameK (hpK (hpX dr nums M two ext)) (hpK (hpX dr nums M two ext)) := by
  refine ⟨rfl, fun p hp => ?_⟩
  obtain ⟨q, hq, rfl⟩ := List.mem_map.mp hp
  refine ⟨?_, (plain_cell _).plain⟩
  rw [look_hp, cellAt_nd (hpX_keys S) (show (q.1, q.2) ∈ _ from hq)]
  rfl
/-! the text's size -/
structure Sm (W : Nat) (d : PyData) : Prop where
  sh : d.showable = true
  hd : d.hasDict = false
  is : d.intsShort 13 = true
  wt : d.weight ≤ W
theorem Sm.le {V W : Nat} {d : PyData} (h : Sm V d) (hw : V ≤ W) : Sm W d := ⟨h.sh, h.hd, h.is, Nat.le_trans h.wt hw⟩
theorem sm_all {W : Nat} : ∀ {xs : List PyData}, (∀ x ∈ xs, Sm W x) → PyData.showableAll xs = true ∧ PyData.hasDictAll xs = false ∧ PyData.intsShortAll 13 xs = true ∧ PyData.weightAll xs ≤ xs.length * (W + 1)
  | [], _ => ⟨by rw [PyData.showableAll], by rw [PyData.hasDictAll], by rw [PyData.intsShortAll], by rw [PyData.weightAll]; exact Nat.zero_le _⟩
  | x :: xs, h => by
    have a := h x (List.mem_cons_self ..)
    obtain ⟨b1, b2, b3, b4⟩ := sm_all fun y hy => h y (List.mem_cons_of_mem _ hy)
    refine ⟨by rw [PyData.showableAll, a.sh, b1]; rfl, by rw [PyData.hasDictAll, a.hd, b2]; rfl, by rw [PyData.intsShortAll, a.is, b3]; rfl, ?_⟩
    rw [PyData.weightAll, List.length_cons, Nat.add_mul]
    have := a.wt
    omega
theorem Sm.tup {W N V : Nat} {xs : List PyData} (h : ∀ x ∈ xs, Sm W x) (hl : xs.length ≤ N) (hV : N * (W + 1) ≤ V) : Sm V (.tuple xs) := by
  obtain ⟨b1, b2, b3, b4⟩ := sm_all h
  exact ⟨by rw [PyData.showable]; exact b1, by rw [PyData.hasDict]; exact b2, by rw [PyData.intsShort]; exact b3, by rw [PyData.weight]; exact Nat.le_trans b4 (Nat.le_trans (Nat.mul_le_mul_right _ hl) hV)⟩
theorem Sm.lst {W N V : Nat} {xs : List PyData} (h : ∀ x ∈ xs, Sm W x) (hl : xs.length ≤ N) (hV : N * (W + 1) ≤ V) : Sm V (.list xs) := by
  obtain ⟨b1, b2, b3, b4⟩ := sm_all h
  exact ⟨by rw [PyData.showable]; exact b1, by rw [PyData.hasDict]; exact b2, by rw [PyData.intsShort]; exact b3, by rw [PyData.weight]; exact Nat.le_trans b4 (Nat.le_trans (Nat.mul_le_mul_right _ hl) hV)⟩
def intSm (i : Int) : Bool := (PyData.int i).showable && (!(PyData.int i).hasDict && ((PyData.int i).intsShort 13 && decide ((PyData.int i).weight ≤ 10)))
theorem ints_sm : ((List.range 1000).all fun n => intSm (n : Int)) = true := by decide +kernel
theorem Sm.int {i : Int} (h0 : 0 ≤ i) (h1 : i < 1000) : Sm 10 (.int i) := by
  have h := List.all_eq_true.mp ints_sm i.toNat (List.mem_range.mpr (by omega))
  rw [Int.toNat_of_nonneg h0] at h
  unfold intSm at h
  simp only [Bool.and_eq_true, Bool.not_eq_true', decide_eq_true_eq] at h
  exact ⟨h.1, h.2.1, h.2.2.1, h.2.2.2⟩
def strSm (x : Str) : Bool := (PyData.str x).showable && (!(PyData.str x).hasDict && ((PyData.str x).intsShort 13 && decide ((PyData.str x).weight ≤ 10)))
theorem Sm.str {x : Str} (h : strSm x = true := by decide +kernel) : Sm 10 (.str x) := by
  unfold strSm at h
  simp only [Bool.and_eq_true, Bool.not_eq_true', decide_eq_true_eq] at h
  exact ⟨h.1, h.2.1, h.2.2.1, h.2.2.2⟩
theorem Sm.bool (b : Bool) : Sm 10 (.bool b) := by cases b <;> exact ⟨by decide +kernel, by decide +kernel, by decide +kernel, by decide +kernel⟩
def Vl.sm : Vl → Prop
  | .int i => 0 ≤ i ∧ i < 1000
  | .ref i => 0 ≤ i ∧ i < 1000
  | _ => True
theorem vl_sm {v : Vl} (h : v.sm) : Sm 22 v.d := by
  refine Sm.tup (W := 10) (N := 2) (fun x hx => ?_) (by cases v <;> exact Nat.le_of_ble_eq_true rfl) (by decide)
  rcases List.mem_cons.mp hx with rfl | hx
  · cases v
    · exact Sm.str (x := "int")
    · exact Sm.str (x := "unit")
    · exact Sm.str (x := "nil")
    · exact Sm.str (x := "ref")
    · exact Sm.str (x := "bool")
  · cases v <;> simp only [Vl.arg, List.mem_cons, List.mem_nil_iff, or_false] at hx
    · rw [hx]; exact .int h.1 h.2
    · rw [hx]; exact .int h.1 h.2
    · rw [hx]; exact .bool _
def Cell.sm : Cell → Prop
  | .two _ a b => a.sm ∧ b.sm
  | .clo n vs => 0 ≤ n ∧ n < 1000 ∧ vs.length ≤ 3 ∧ ∀ v ∈ vs, v.sm
theorem cell_sm {c : Cell} (h : c.sm) : Sm 300 c.d := by
  cases c with
  | two c a b =>
    refine Sm.tup (W := 22) (N := 3) (fun x hx => ?_) (Nat.le_refl 3) (by decide)
    simp only [List.mem_cons, List.mem_nil_iff, or_false] at hx
    rcases hx with rfl | rfl | rfl
    · cases c
      · exact (Sm.str (x := "pair")).le (by decide)
      · exact (Sm.str (x := "cons")).le (by decide)
    · exact vl_sm h.1
    · exact vl_sm h.2
  | clo n vs =>
    refine Sm.tup (W := 69) (N := 3) (fun x hx => ?_) (Nat.le_refl 3) (by decide)
    simp only [List.mem_cons, List.mem_nil_iff, or_false] at hx
    rcases hx with rfl | rfl | rfl
    · exact (Sm.str (x := "closure")).le (by decide)
    · exact (Sm.int h.1 h.2.1).le (by decide)
    · refine Sm.tup (W := 22) (N := 3) (fun x hx => ?_) (by rw [List.length_map]; exact h.2.2.1) (by decide)
      obtain ⟨v, hv, rfl⟩ := List.mem_map.mp hx
      exact vl_sm (h.2.2.2 v hv)
theorem lawCell_sm {k : Int} {a b : Vl} (ha : a.sm) (hb : b.sm) : (lawCell k a b).sm := by
  unfold lawCell
  split
  · exact ⟨ha, hb⟩
  · split
    · exact ⟨ha, hb⟩
    · split
      · refine ⟨by decide, by decide, Nat.le_of_ble_eq_true rfl, fun v hv => ?_⟩
        simp only [List.mem_cons, List.mem_nil_iff, or_false] at hv
        rcases hv with rfl | rfl
        · exact ha
        · exact hb
      · refine ⟨by decide, by decide, Nat.le_of_ble_eq_true rfl, fun v hv => ?_⟩
        simp only [List.mem_cons, List.mem_nil_iff, or_false] at hv
        rcases hv with rfl | rfl | rfl
        · exact ⟨by decide, by decide⟩
        · exact ha
        · exact hb
theorem vals_sm (S : SU dr nums M two ext) {i : Nat} (hi : i < M) : ∀ v ∈ valsV dr nums M two i, v.sm := fun v hv => by
  have hn : ∀ {j : Nat}, j < M → 0 ≤ nums.getD j 0 ∧ nums.getD j 0 < 1000 := fun hj => by
    have := S.rng _ (nums_mem S hj)
    omega
  have hM := S.lt
  rcases List.mem_append.mp hv with h | h
  · obtain ⟨t, ht, rfl⟩ := List.mem_map.mp h
    obtain ⟨u, rfl, _, hu⟩ := kids_iff.mp ht
    exact hn (by rw [Int.toNat_natCast]; exact hu)
  · obtain ⟨t, _, rfl⟩ := List.mem_map.mp h
    unfold fillV
    dsimp only
    split
    · exact ⟨by omega, by omega⟩
    · split
      · trivial
      · split
        · have hm := mix_range S.ok (100 + 10 * (i : Int) + (t : Int)) ((i : Int) + 1) (by omega) (by omega)
          exact hn (by omega)
        · trivial
theorem hpX_sm (S : SU dr nums M two ext) {n : Int} {c : Cell} (h : cellAt (hpX dr nums M two ext) n = some c) : c.sm := by
  rcases List.mem_append.mp (cellAt_in h) with h | h
  · obtain ⟨i, hi, e⟩ := List.mem_map.mp h
    cases e
    have hi' := List.mem_range.mp hi
    have hv := vals_sm S hi'
    rw [valsV_eq] at hv
    exact lawCell_sm (hv _ (by simp)) (hv _ (by simp))
  · obtain ⟨_, _, x, hx, he⟩ := S.ex _ h
    have he' : c = .two false (.ref 500) (.ref x) := he
    subst he'
    have := S.rng x hx
    exact ⟨⟨by decide, by decide⟩, by omega, by omega⟩
theorem shw (S : SU dr nums M two ext) : Shw (.list (itemsOf (hpK (hpX dr nums M two ext)) ((hpX dr nums M two ext).map (·.1)))) := by
  have hlen : (itemsOf (hpK (hpX dr nums M two ext)) ((hpX dr nums M two ext).map (·.1))).length ≤ 45 := by
    unfold itemsOf
    rw [List.length_map, (srt_perm _).length_eq]
    unfold hpX lawH
    rw [List.length_map, List.length_append, List.length_map, List.length_range]
    have := S.lt
    have := S.el
    omega
  have each : ∀ d ∈ itemsOf (hpK (hpX dr nums M two ext)) ((hpX dr nums M two ext).map (·.1)), PlainN 4 d ∧ Sm 700 d := fun d hd => by
    obtain ⟨k, hk, rfl⟩ := List.mem_map.mp hd
    obtain ⟨p, hp, rfl⟩ := List.mem_map.mp ((srt_perm _).mem_iff.mp hk)
    have hc : cellAt (hpX dr nums M two ext) p.1 = some p.2 := cellAt_nd (hpX_keys S) hp
    have hb : 0 ≤ p.1 ∧ p.1 < 1000 := by
      rcases List.mem_append.mp hp with h | h
      · obtain ⟨i, hi, rfl⟩ := List.mem_map.mp h
        have := S.rng _ (nums_mem S (List.mem_range.mp hi))
        exact ⟨this.1, by show nums.getD i 0 < 1000; omega⟩
      · obtain ⟨h1, h2, _⟩ := S.ex _ h
        omega
    rw [look_hp, hc]
    refine ⟨.tup (n := 3) fun x hx => ?_, Sm.tup (W := 300) (N := 2) (fun x hx => ?_) (Nat.le_refl 2) (by decide)⟩
    · simp only [List.mem_cons, List.mem_nil_iff, or_false] at hx
      rcases hx with rfl | rfl
      · exact .int _
      · exact plain_cell _
    · simp only [List.mem_cons, List.mem_nil_iff, or_false] at hx
      rcases hx with rfl | rfl
      · exact (Sm.int hb.1 hb.2).le (by decide)
      · exact cell_sm (hpX_sm S hc)
  have pl := PlainN.lst (n := 4) fun x hx => (each x hx).1
  have sm := Sm.lst (W := 700) (N := 45) (V := 40000) (fun x hx => (each x hx).2) hlen (by decide)
  refine ⟨pl.1, sm.sh, sm.hd, Nat.le_trans pl.2.2 (by decide), Nat.le_trans (PyProof.Rows.shown_le13 ?_ sm.is) (by decide)⟩
  unfold PyData.layable0
  rw [pl.2.1, decide_eq_true (Nat.le_trans pl.2.2 (by decide)), decide_eq_true (Nat.le_trans sm.wt (by decide))]
  rfl
end
end K36
namespace K36
open PySem PySem.Spec L2 DH
open PyProof.Rows (envOfC)
/-! the script's quantities -/
def swp (l : List Int) (t o : Nat) : List Int := (l.set t (l.getD o 0)).set o (l.getD t 0)
theorem swp_len (l : List Int) (t o : Nat) : (swp l t o).length = l.length := by unfold swp; rw [List.length_set, List.length_set]
theorem swp_get {l : List Int} {t o : Nat} (ht : t < l.length) (ho : o < l.length) (k : Nat) : (swp l t o)[k]? = l[if k = o then t else if k = t then o else k]? := by
  unfold swp
  rw [List.getElem?_set, List.getElem?_set, List.length_set]
  by_cases h1 : k = o
  · rw [if_pos h1.symm, if_pos h1, if_pos (by omega)]
    exact (getD_get ht).symm
  · rw [if_neg (fun z => h1 z.symm), if_neg h1]
    by_cases h2 : k = t
    · rw [if_pos h2.symm, if_pos h2, if_pos (by omega)]
      exact (getD_get ho).symm
    · rw [if_neg (fun z => h2 z.symm), if_neg h2]
theorem swp_nd {l : List Int} (hn : l.Nodup) {t o : Nat} (ht : t < l.length) (ho : o < l.length) : (swp l t o).Nodup := by
  refine List.pairwise_iff_getElem.mpr fun i j hi hj hij he => ?_
  have h1 : (swp l t o)[i]? = some (swp l t o)[i] := List.getElem?_eq_getElem hi
  have h2 : (swp l t o)[j]? = some (swp l t o)[i] := by rw [List.getElem?_eq_getElem hj, he]
  rw [swp_get ht ho] at h1 h2
  have := L2.nd_ix hn h1 h2
  split at this <;> split at this <;> (try split at this) <;> (try split at this) <;> omega
theorem swp_mem {l : List Int} {t o : Nat} (ht : t < l.length) (ho : o < l.length) {x : Int} (h : x ∈ swp l t o) : x ∈ l := by
  obtain ⟨k, hk⟩ := List.mem_iff_getElem?.mp h
  rw [swp_get ht ho] at hk
  exact List.mem_of_getElem? hk
def oth (dr : List Int) (M t : Nat) : Nat := (mix dr (700 + t) M).toNat
def spotsTo (dr : List Int) (M : Nat) : Nat → List Int
  | 0 => idn M
  | t + 1 => swp (spotsTo dr M t) t (oth dr M t)
theorem oth_lt {dr : List Int} (hd : DrawsOk dr) {M t : Nat} (hM : 0 < M) : oth dr M t < M := by
  have := mix_range hd (700 + (t : Int)) (M : Int) (by omega) (by omega)
  unfold oth
  omega
theorem spots_ok {dr : List Int} (hd : DrawsOk dr) {M : Nat} (hM : 0 < M) : ∀ t, t ≤ M → (spotsTo dr M t).length = M ∧ (spotsTo dr M t).Nodup ∧ ∀ x ∈ spotsTo dr M t, 0 ≤ x ∧ x < M
  | 0, _ => ⟨idn_len M, idn_nd M, fun x hx => by
    obtain ⟨i, hi, rfl⟩ := List.mem_map.mp hx
    have := List.mem_range.mp hi
    exact ⟨by omega, by omega⟩⟩
  | t + 1, h => by
    obtain ⟨h1, h2, h3⟩ := spots_ok hd hM t (by omega)
    have ho := oth_lt hd (t := t) hM
    refine ⟨by show (swp _ _ _).length = M; rw [swp_len, h1], swp_nd h2 (by omega) (by omega), fun x hx => h3 x (swp_mem (by omega) (by omega) hx)⟩
def qM (dr : List Int) : Nat := (1 + mix dr 1 40).toNat
def qT (dr : List Int) : Bool := decide (mix dr 2 2 = 0) && decide ((1 : Int) < qM dr)
def qS (dr : List Int) : Int := 1 + mix dr 3 5
def qN (dr : List Int) : List Int := (spotsTo dr (qM dr) (qM dr)).map fun s => mix dr 4 9 + qS dr * s
def extC (dr nums : List Int) (M j : Nat) : Cell := .two false (.ref 500) (.ref (nums.getD (mix dr (20 + j) M).toNat 0))
def extTo (dr nums : List Int) (M t : Nat) : Hpl := (List.range t).map fun (j : Nat) => (500 + (j : Int), extC dr nums M j)
theorem qM_ok {dr : List Int} (hd : DrawsOk dr) : (qM dr : Int) = 1 + mix dr 1 40 ∧ 0 < qM dr ∧ qM dr ≤ 40 := by
  have := mix_range hd 1 40 (by decide) (by decide)
  unfold qM
  omega
theorem su {dr : List Int} (hd : DrawsOk dr) {t : Nat} (ht : t ≤ 5) : SU dr (qN dr) (qM dr) (qT dr) (extTo dr (qN dr) (qM dr) t) := by
  obtain ⟨hM1, hM2, hM3⟩ := qM_ok hd
  obtain ⟨h1, h2, h3⟩ := spots_ok hd hM2 (qM dr) (Nat.le_refl _)
  have hs := mix_range hd 3 5 (by decide) (by decide)
  have hb := mix_range hd 4 9 (by decide) (by decide)
  have hS : 1 ≤ qS dr ∧ qS dr ≤ 5 := by unfold qS; omega
  have hlen : (qN dr).length = qM dr := by unfold qN; rw [List.length_map, h1]
  have rng : ∀ n ∈ qN dr, 0 ≤ n ∧ n < 500 := fun n hn => by
    obtain ⟨s, hs, rfl⟩ := List.mem_map.mp hn
    obtain ⟨a, b⟩ := h3 s hs
    have hs40 : s ≤ 39 := by omega
    have h5 : qS dr * s ≤ 5 * 39 := Int.mul_le_mul hS.2 hs40 a (by decide)
    have h0 : 0 ≤ qS dr * s := Int.mul_nonneg (by omega) a
    exact ⟨by omega, by omega⟩
  refine ⟨hd, hlen, ?_, hM2, hM3, fun h => ?_, rng, fun p hp => ?_, fun p hp => ?_, ?_, ?_⟩
  · refine List.Pairwise.map _ (fun a b (hab : a ≠ b) q => hab ?_) h2
    have : qS dr * a = qS dr * b := by omega
    exact Int.eq_of_mul_eq_mul_left (by omega) this
  · unfold qT at h
    rw [Bool.and_eq_true] at h
    have := of_decide_eq_true h.2
    omega
  · obtain ⟨j, hj, rfl⟩ := List.mem_map.mp hp
    have hj' := List.mem_range.mp hj
    have hm := mix_range hd (20 + (j : Int)) (qM dr : Int) (by omega) (by omega)
    refine ⟨by show (500 : Int) ≤ 500 + (j : Int); omega, by show (500 : Int) + (j : Int) < 600; omega, _, ?_, rfl⟩
    exact List.mem_of_getElem? (getD_get (by omega))
  · obtain ⟨j, hj, rfl⟩ := List.mem_map.mp hp
    have hj' := List.mem_range.mp hj
    have : (extTo dr (qN dr) (qM dr) t).map (·.1) = (List.range t).map fun (j : Nat) => 500 + (j : Int) := by unfold extTo; rw [List.map_map]; rfl
    have hm : ((500 : Int), extC dr (qN dr) (qM dr) 0) ∈ extTo dr (qN dr) (qM dr) t := List.mem_map.mpr ⟨0, List.mem_range.mpr (by omega), rfl⟩
    obtain ⟨c, hc⟩ := cellAt_mem hm
    rw [hc]
    rfl
  · unfold extTo
    rw [List.length_map, List.length_range]
    exact ht
  · unfold extTo
    rw [List.map_map]
    exact List.Pairwise.map _ (fun a b (hab : a ≠ b) q => hab (by have q' : (500 : Int) + (a : Int) = 500 + (b : Int) := q; omega)) List.nodup_range
end K36
namespace K36
open PySem PySem.Spec L2 DH
open PyProof.Rows (envOfC)
abbrev sLaw : Stmt := top 40
abbrev lawN : List Str := ["script", "draws", "many", "two", "step", "spots", "t", "other", "one", "numbers", "heap", "fresh", "roots", "before", "names", "due", "told", "there", "moves", "again", "spot", "number", "i", "value"]
theorem scLaw : FnScope lawN ["script"] (defScope sLaw) := ⟨rfl, rfl, rfl, by decide +kernel, rfl, by decide +kernel, by decide +kernel⟩
theorem drawsOf_ok (ns : List Int) : DrawsOk (drawsOf ns) := drawsTo_ok ns _
structure CalS (P : Program) (w : World) (K : PySem.W.Frag) (mg : Str → Option Value) (base : Heap) : Prop where
  ld : Cal P w K mg base 1 "_law_draws" ["script"] preLD
  mx : Cal P w K mg base 1 "_law_mix" ["draws", "k", "many"] preMix
  lh : Cal P w K mg base 2 "_law_heap" ["draws", "many", "two", "numbers"] preLH
  co : Cal P w K mg base 5 "copied" ["heap", "roots"] preCO
  re : Cal P w K mg base 5 "reached" ["heap", "roots"] preRE
  sw : Cal P w K mg base 5 "swept" ["heap", "roots"] preSW
theorem rngD_idn (M : Nat) : rngD 0 M = (idn M).map .int := by
  unfold rngD idn
  rw [List.map_map]
  refine List.map_congr_left fun i _ => ?_
  show PyData.int (0 + (i : Int)) = PyData.int (i : Int)
  rw [show (0 : Int) + (i : Int) = (i : Int) by omega]
theorem idn_at {M i : Nat} {d : PyData} (h : (rngD 0 M)[i]? = some d) : i < M ∧ d = .int (i : Int) := by
  rw [rngD_idn, List.getElem?_map] at h
  obtain ⟨x, hx, rfl⟩ := Option.map_eq_some_iff.mp h
  unfold idn at hx
  rw [List.getElem?_map] at hx
  obtain ⟨j, hj, rfl⟩ := Option.map_eq_some_iff.mp hx
  obtain ⟨h1, h2⟩ := List.getElem?_eq_some_iff.mp hj
  rw [List.length_range] at h1
  rw [List.getElem_range] at h2
  subst h2
  exact ⟨h1, rfl⟩
def rfD : PyData → PyData
  | .int x => (Vl.ref x).d
  | _ => .none
theorem roots_cat (nums : List Int) (two : Bool) (hl : two = true → 1 < nums.length) :
    (([(Vl.int 3).d, (Vl.ref (nums.getD 0 0)).d, Vl.unit.d] ++ (((((nums.map PyData.int).drop (min 1 (nums.map PyData.int).length)).take (min 2 (nums.map PyData.int).length - min 1 (nums.map PyData.int).length)).filter fun _ => two).map rfD)) ++ [(Vl.ref (nums.getD 0 0)).d, (Vl.bool true).d]) = (rootsV nums two).map Vl.d := by
  cases two with
  | false =>
    rw [List.filter_eq_nil_iff.mpr (fun _ _ => by decide)]
    rfl
  | true =>
    have h := hl rfl
    rw [List.filter_eq_self.mpr (fun _ _ => rfl), List.length_map]
    match nums, h with
    | a :: b :: l, _ =>
      have e1 : min 1 (a :: b :: l).length = 1 := by rw [List.length_cons, List.length_cons]; omega
      have e2 : min 2 (a :: b :: l).length = 2 := by rw [List.length_cons, List.length_cons]; omega
      rw [e1, e2]
      rfl
def refD (g : Int → Int) (d : PyData) : PyData := mvD g d
def namesK (nums : List Int) (M : Nat) : List (Key × PyData) := (List.range M).map fun i => ((Sum.inl (nums.getD i 0) : Key), .int (i : Int))
def npD (nums : List Int) : PyData → PyData
  | .int i => .tuple [.int (nums.getD i.toNat 0), .int i]
  | _ => .none
theorem names_eq (nums : List Int) (M : Nat) : ((rngD 0 M).filter fun _ => true).map (npD nums) = (namesK nums M).map fun q => .tuple [kD q.1, q.2] := by
  rw [List.filter_eq_self.mpr (fun _ _ => rfl)]
  unfold rngD namesK
  rw [List.map_map, List.map_map]
  refine List.map_congr_left fun i _ => ?_
  show npD nums (.int (0 + (i : Int))) = PyData.tuple [.int (nums.getD i 0), .int (i : Int)]
  rw [show (0 : Int) + (i : Int) = (i : Int) by omega]
  rfl
theorem names_nd {dr nums : List Int} {M : Nat} {two : Bool} {ext : Hpl} (S : SU dr nums M two ext) : ((namesK nums M).map (·.1)).Nodup := by
  have e : (namesK nums M).map (·.1) = nums.map fun x => (Sum.inl x : Key) := by
    unfold namesK
    rw [List.map_map]
    apply List.ext_getElem?
    intro j
    rw [List.getElem?_map, List.getElem?_map]
    by_cases hj : j < M
    · rw [List.getElem?_range hj, getD_get (by rw [S.len]; exact hj)]
      rfl
    · rw [List.getElem?_eq_none (by rw [List.length_range]; omega), List.getElem?_eq_none (by rw [S.len]; omega)]
      rfl
  rw [e]
  exact List.Pairwise.map _ (fun a b (hab : a ≠ b) q => hab (Sum.inl.inj q)) S.nd
theorem hpK_keys (h : Hpl) : (hpK h).map (·.1) = (h.map (·.1)).map Sum.inl := by unfold hpK; rw [List.map_map, List.map_map]; rfl
theorem preCO_S {dr nums : List Int} {M : Nat} {two : Bool} {ext : Hpl} (S : SU dr nums M two ext) : preCO [hpD (hpX dr nums M two ext), .list ((rootsV nums two).map Vl.d)] (.d (.tuple [.dict (dK (hpK (lawH dr (idn M) M two))), .list ((rootsV (idn M) two).map Vl.d), .dict (dK (plK nums))])) :=
  ⟨hpX dr nums M two ext, rootsV nums two, _, M, rfl, goodH S, rootOk S, ordd S, by rw [ordd_end S]; exact fnd S, fun x hx => by rw [ordd_end S]; exact roots_in S hx, by rw [ordd_end S, mvK_eq S, roots_mv S]⟩
theorem preRE_S {dr nums : List Int} {M : Nat} {two : Bool} {ext : Hpl} (S : SU dr nums M two ext) : preRE [hpD (hpX dr nums M two ext), .list ((rootsV nums two).map Vl.d)] (.l ((srt nums).map .int)) :=
  ⟨hpX dr nums M two ext, rootsV nums two, nums, rfl, goodH S, rootOk S, mark S, rfl⟩
theorem preSW_S {dr nums : List Int} {M : Nat} {two : Bool} {ext : Hpl} (S : SU dr nums M two ext) : preSW [hpD (hpX dr nums M two ext), .list ((rootsV nums two).map Vl.d)] (.m ((srt nums).map fun n => (Sum.inl n, cellD (hpX dr nums M two ext) n))) :=
  ⟨hpX dr nums M two ext, rootsV nums two, nums, rfl, goodH S, rootOk S, mark S, rfl⟩
theorem roots_mem {dr nums : List Int} {M : Nat} {two : Bool} {ext : Hpl} {v : Vl} (S : SU dr nums M two ext) (h : v ∈ rootsV nums two) : v = .int 3 ∨ v = .unit ∨ v = .bool true ∨ ∃ x ∈ nums, v = .ref x := by
  have h0 := nums_mem S S.pos
  unfold rootsV at h
  rcases List.mem_append.mp h with h | h
  · rcases List.mem_append.mp h with h | h
    · simp only [List.mem_cons, List.mem_nil_iff, or_false] at h
      rcases h with rfl | rfl | rfl
      · exact .inl rfl
      · exact .inr (.inr (.inr ⟨_, h0, rfl⟩))
      · exact .inr (.inl rfl)
    · cases ht : two with
      | false => rw [ht] at h; cases h
      | true =>
        rw [ht] at h
        rw [List.mem_singleton.mp h]
        exact .inr (.inr (.inr ⟨_, nums_mem S (S.tw ht), rfl⟩))
  · simp only [List.mem_cons, List.mem_nil_iff, or_false] at h
    rcases h with rfl | rfl
    · exact .inr (.inr (.inr ⟨_, h0, rfl⟩))
    · exact .inr (.inr (.inl rfl))
theorem names_look {dr nums : List Int} {M : Nat} {two : Bool} {ext : Hpl} (S : SU dr nums M two ext) {x : Int} (hx : x ∈ nums) : lookD (namesK nums M) (.inl x) = some (.int (ix nums x)) :=
  ((sameK_pl S).2 (Sum.inl x, .int (ix nums x)) (List.mem_map.mpr ⟨x, (srt_perm _).mem_iff.mpr hx, rfl⟩)).1
def swD (h : Hpl) : PyData → PyData
  | .int x => .tuple [.int x, cellD h x]
  | _ => .none
def iiD : PyData → PyData
  | .int i => .tuple [.int i, .int i]
  | _ => .none
theorem ii_eq (M : Nat) : ((rngD 0 M).filter fun _ => true).map iiD = (namesK (idn M) M).map fun q => .tuple [kD q.1, q.2] := by
  rw [List.filter_eq_self.mpr (fun _ _ => rfl)]
  unfold rngD namesK
  rw [List.map_map, List.map_map]
  refine List.map_congr_left fun i hi => ?_
  show iiD (.int (0 + (i : Int))) = PyData.tuple [.int ((idn M).getD i 0), .int (i : Int)]
  rw [show (0 : Int) + (i : Int) = (i : Int) by omega, idn_get (List.mem_range.mp hi)]
  rfl
def txtD (h : Hpl) : Str := (PyData.list (itemsOf (hpK h) (h.map (·.1)))).shown
section
variable {P : Program} {w : World} {K : PySem.W.Frag} {mg : Str → Option Value} {base : Heap}
theorem law_run4 (T : Bj mg) (C : CalS P w K mg base) {f : Addr} {cdv : Value} {A : Around} {outer : List Env} {s : Shared} {H : Hp} {E : XK} {G : Hp} {d0 : PyData} {d1' : Sl} {sp a b c e11 : Sl} {dr nums : List Int} {M : Nat} {two : Bool} {ext : Hpl} (S : SU dr nums M two ext) (hgd : A.guards = some []) (hr : Room 5 (A.deeper (envOfC "law" (defScope sLaw) s.heap.objs.size f cdv))) :
    Run (cxOf CX0 P w K mg base lawN "law" (defScope sLaw) f cdv A outer s H E).nox ⟨G, H⟩ ((defBody sLaw).drop 13) [.d d0, .d (.list (dr.map .int)), .d (.int M), .d (.bool two), d1', sp, a, b, c, .d (.list (nums.map .int)), .d (hpD (hpX dr nums M two ext)), e11, .d (.list ((rootsV nums two).map Vl.d)), .d (.str (txtD (hpX dr nums M two ext))), .d (.dict (dK (namesK nums M))), .d (.dict (dK (hpK (lawH dr (idn M) M two)))), .d (.dict (dK (hpK (lawH dr (idn M) M two)))), .d (.list ((rootsV (idn M) two).map Vl.d)), .d (.dict (dK (plK nums))), .no, .no, .no, .no, .no] (retP (.d (.bool true))) := by
  have hz : (16777216 : Nat) = sizeLine := by decide
  have hd := S.ok
  have hM2 := S.pos
  have hM3 := S.lt
  have SI := S.idn
  have hu66 : ∀ {A' : Around}, Room 5 A' → A'.units + 66 < cLine := fun r => by have := r.un; omega
  have same0 := sameK_refl SI
  have same2 := sameK_sw2 SI
  have pco := preCO_S SI
  have psw := preSW_S SI
  rw [hpX_nil] at same0 same2 pco psw
  have plr : Plain (.list ((rootsV (idn M) two).map Vl.d)) := (PlainN.lst (n := 1) fun x hx => by
    obtain ⟨v, _, rfl⟩ := List.mem_map.mp hx
    exact plain_vl v).plain
  have pli : ∀ l : List Int, Plain (.list (l.map .int)) := fun l => (PlainN.ints (n := 0) l).plain
  refine run_if (t := false || (false || false)) (et_w (ew_or (et_dne (hu66 hr) (nm 16 rfl) (nm 15 rfl) same0) (fun _ => ew_or ((et_neD hr.units (nm 17 rfl) (EvR.dl ((ev_lc (ds := (rootsV nums two).map Vl.d) (is := [23]) (own := [("value", 23)]) (tb := fun _ => true) (f := mvD (ix nums)) (rho := fun d => [.d d0, .d (.list (dr.map .int)), .d (.int M), .d (.bool two), d1', sp, a, b, c, .d (.list (nums.map .int)), .d (hpD (hpX dr nums M two ext)), e11, .d (.list ((rootsV nums two).map Vl.d)), .d (.str (txtD (hpX dr nums M two ext))), .d (.dict (dK (namesK nums M))), .d (.dict (dK (hpK (lawH dr (idn M) M two)))), .d (.dict (dK (hpK (lawH dr (idn M) M two)))), .d (.list ((rootsV (idn M) two).map Vl.d)), .d (.dict (dK (plK nums))), .no, .no, .no, .no, .d d]) rfl scLaw.nd
      (ei_list (nm 12 rfl)) (blkOk_by rfl) (by decide) (fun d _ _ _ _ _ _ => eg_name (i := 23) scLaw.nd rfl (.inl rfl) (.inr rfl)) (fun d hd' _ _ _ _ _ => ets_nil) (fun d hd' ht _ _ _ _ _ => ?_) ?_).to (r' := .l ((rootsV (idn M) two).map Vl.d)) ?_)) plr plr).to (by rw [eqv_self plr]; rfl)) (fun _ => ew_or1 (et_dne (hu66 hr) (nm 18 rfl) (nm 14 rfl) (sameK_pl S)))))) (fun h => absurd h (by decide)) (fun _ => run_nil ?_)
  · obtain ⟨v, hv, rfl⟩ := List.mem_map.mp hd'
    rcases roots_mem S hv with rfl | rfl | rfl | ⟨x, hx, rfl⟩
    · exact ev_ixL (EvR.dl (ls (ea_cons (nm 23 rfl) (ea_cons (tp (ea_cons ev_str (ea_cons (ev_dgetd (n := .inl 3) (ru hr) (nm 14 rfl) (ev_ixT (d := .int 3) (nm 23 rfl) (ev_neg ev_int) rfl) ev_int) ea_nil))) ea_nil)))) (ev_intB T.int (ev_eq (ev_ixT (d := .str "int") (nm 23 rfl) ev_int at0) ev_str)) rfl
    · exact ev_ixL (EvR.dl (ls (ea_cons (nm 23 rfl) (ea_cons (tp (ea_cons ev_str (ea_cons (ev_dgetd (n := .inr "unit") (ru hr) (nm 14 rfl) (ev_ixT (d := .str "unit") (nm 23 rfl) (ev_neg ev_int) rfl) ev_int) ea_nil))) ea_nil)))) (ev_intB T.int (ev_eq (ev_ixT (d := .str "unit") (nm 23 rfl) ev_int at0) ev_str)) rfl
    · exact ev_ixL (EvR.dl (ls (ea_cons (nm 23 rfl) (ea_cons (tp (ea_cons ev_str (ea_cons (ev_dgetT (nm 14 rfl) (ev_ixT (d := .bool true) (nm 23 rfl) (ev_neg ev_int) rfl) ev_int) ea_nil))) ea_nil)))) (ev_intB T.int (ev_eq (ev_ixT (d := .str "bool") (nm 23 rfl) ev_int at0) ev_str)) rfl
    · refine ev_ixL (EvR.dl (ls (ea_cons (nm 23 rfl) (ea_cons (tp (ea_cons ev_str (ea_cons (ev_dgetd (n := .inl x) (ru hr) (nm 14 rfl) (ev_ixT (d := .int x) (nm 23 rfl) (ev_neg ev_int) rfl) ev_int) ea_nil))) ea_nil)))) (ev_intB T.int (ev_eq (ev_ixT (d := .str "ref") (nm 23 rfl) ev_int at0) ev_str)) ?_
      rw [names_look S hx]
      rfl
  · rw [List.length_map, ← hz]
    exact Nat.lt_of_le_of_lt (roots_len _ _) (by decide)
  · show Rs.l _ = Rs.l _
    rw [List.filter_eq_self.mpr (fun _ _ => rfl), List.map_map, ← roots_mv S, List.map_map]
    congr 1
    exact List.map_congr_left fun v _ => mvD_d _ v
  show Run _ _ _ _ _
  have kT : (hpK (lawH dr (idn M) M two)).map (·.1) = (idn M).map Sum.inl := by rw [hpK_keys, lawH_keys (idn_len M)]
  have kP : (plK nums).map (·.1) = (srt nums).map Sum.inl := by unfold plK; rw [List.map_map]; rfl
  refine run_if (t := false || (false || false)) (et_w (ew_or ((et_neD hr.units (EvR.dl (ev_listDI rfl T.list (nm 16 rfl) kT)) (EvR.dl ((ev_listRg rfl T.list T.range (nm 2 rfl) (by omega) (by omega)).to (r' := .l ((idn M).map .int)) (by rw [Int.toNat_natCast, rngD_idn]))) (pli _) (pli _)).to (by rw [eqv_self (pli _)]; rfl)) (fun _ => ew_or
    ((et_neD hr.units (EvR.dl (ev_listDI rfl T.list (nm 18 rfl) kP)) (EvR.dl (ev_sortedL T.sorted (nm 9 rfl))) (pli _) (pli _)).to (by rw [eqv_self (pli _)]; rfl)) (fun _ => ew_or1
    ((et_neD hr.units (EvR.dl (ev_calC C.re hr (Nat.le_refl _) (ea_cons (nm 10 rfl) (ea_cons (nm 12 rfl) ea_nil)) (preRE_S S))) (EvR.dl (ev_sortedL T.sorted (nm 9 rfl))) (pli _) (pli _)).to (by rw [eqv_self (pli _)]; rfl)))))) (fun h => absurd h (by decide)) (fun _ => run_nil ?_)
  show Run _ _ _ _ _
  refine run_if (t := false || false) (et_w (ew_or (et_dne (hu66 hr) (EvR.dm (ev_calC C.sw hr (Nat.le_refl _) (ea_cons (nm 10 rfl) (ea_cons (nm 12 rfl) ea_nil)) (preSW_S S))) (EvR.dm (ev_dictP (kvs := nums.map fun n => ((Sum.inl n : Key), cellD (hpX dr nums M two ext) n)) rfl T.dict (EvR.dl ((ev_lc (ds := nums.map .int) (is := [21]) (own := [("number", 21)]) (tb := fun _ => true) (f := swD (hpX dr nums M two ext)) (rho := fun d => [.d d0, .d (.list (dr.map .int)), .d (.int M), .d (.bool two), d1', sp, a, b, c, .d (.list (nums.map .int)), .d (hpD (hpX dr nums M two ext)), e11, .d (.list ((rootsV nums two).map Vl.d)), .d (.str (txtD (hpX dr nums M two ext))), .d (.dict (dK (namesK nums M))), .d (.dict (dK (hpK (lawH dr (idn M) M two)))), .d (.dict (dK (hpK (lawH dr (idn M) M two)))), .d (.list ((rootsV (idn M) two).map Vl.d)), .d (.dict (dK (plK nums))), .no, .no, .d d, .no, .no]) rfl scLaw.nd
      (ei_list (nm 9 rfl)) (blkOk_by rfl) (by decide) (fun d _ _ _ _ _ _ => eg_name (i := 21) scLaw.nd rfl (.inl rfl) (.inr rfl)) (fun d hd' _ _ _ _ _ => ets_nil) (fun d hd' ht _ _ _ _ _ => ?_) ?_).to ?_)) ?_)) (sameK_sw S)) (fun _ => ew_or1 ((et_ne (ev_repr hgd hr.units T.repr (ev_sortIt (kvs := hpK (hpX dr nums M two ext)) rfl T.sorted (nm 10 rfl) (hpK_keys _) (hpX_keys S)) (shw S)) (nm 13 rfl)).to (by show (!decide (V.str (txtD _) = V.str (txtD _))) = false; rw [decide_eq_true rfl]; rfl))))) (fun h => absurd h (by decide)) (fun _ => run_nil ?_)
  · obtain ⟨x, hx, rfl⟩ := List.mem_map.mp hd'
    exact tp (ds := [.int x, cellD (hpX dr nums M two ext) x]) (ea_cons (nm 21 rfl) (ea_cons (ev_dget (n := .inl x) (ru hr) (nm 10 rfl) (nm 21 rfl) (plain_cellD S hx).1) ea_nil))
  · rw [List.length_map, S.len, ← hz]
    omega
  · show Rs.l _ = Rs.l _
    rw [List.filter_eq_self.mpr (fun _ _ => rfl), List.map_map, List.map_map]
    rfl
  · rw [List.map_map]
    exact List.Pairwise.map _ (fun a b (hab : a ≠ b) q => hab (Sum.inl.inj q)) S.nd
  show Run _ _ _ _ _
  refine run_set (i := 19) (ev_calC C.co hr (Nat.le_refl _) (ea_cons (nm 16 rfl) (ea_cons (nm 17 rfl) ea_nil)) pco) scLaw.nd rfl (.inl rfl) ?_
  refine run_ret (ev_and (c := true) (d := true) (ev_deq (hu66 hr) (ev_ixT (nm 19 rfl) ev_int at0) (nm 16 rfl) same0) fun _ => ev_and (c := true) (d := true) ((ev_eqD hr.units (ev_ixT (nm 19 rfl) ev_int at1) (nm 17 rfl) plr plr).to (by rw [eqv_self plr])) fun _ => ev_and (c := true) (d := true)
    (ev_deq (hu66 hr) (ev_ixT (d := .dict (dK (plK (idn M)))) (nm 19 rfl) ev_int rfl) (EvR.dm (ev_dictP (kvs := namesK (idn M) M) rfl T.dict (EvR.dl ((ev_lc (ds := rngD 0 M) (is := [22]) (own := [("i", 22)]) (tb := fun _ => true) (f := iiD) (rho := fun d => [.d d0, .d (.list (dr.map .int)), .d (.int M), .d (.bool two), d1', sp, a, b, c, .d (.list (nums.map .int)), .d (hpD (hpX dr nums M two ext)), e11, .d (.list ((rootsV nums two).map Vl.d)), .d (.str (txtD (hpX dr nums M two ext))), .d (.dict (dK (namesK nums M))), .d (.dict (dK (hpK (lawH dr (idn M) M two)))), .d (.dict (dK (hpK (lawH dr (idn M) M two)))), .d (.list ((rootsV (idn M) two).map Vl.d)), .d (.dict (dK (plK nums))), .d (.tuple [.dict (dK (hpK (lawH dr (idn M) M two))), .list ((rootsV (idn M) two).map Vl.d), .dict (dK (plK (idn M)))]), .no, .no, .d d, .no]) rfl scLaw.nd
      (EvI_to (ei_range1 T.range (nm 2 rfl) (by omega) (by omega)) (by rw [Int.toNat_natCast])) (blkOk_by rfl) (by decide) (fun d _ _ _ _ _ _ => eg_name (i := 22) scLaw.nd rfl (.inl rfl) (.inr rfl)) (fun d hd' _ _ _ _ _ => ets_nil) (fun d hd' ht _ _ _ _ _ => ?_) ?_).to (by rw [ii_eq]))) (names_nd SI))) (sameK_pl SI)) fun _ => ev_one
    (ev_deq (hu66 hr) (EvR.dm (ev_calC C.sw hr (Nat.le_refl _) (ea_cons (nm 16 rfl) (ea_cons (nm 17 rfl) ea_nil)) psw)) (nm 16 rfl) same2)) rfl
  · obtain ⟨j, hj⟩ := List.mem_iff_getElem?.mp hd'
    obtain ⟨hjM, rfl⟩ := idn_at hj
    exact tp (ds := [.int (j : Int), .int (j : Int)]) (ea_cons (nm 22 rfl) (ea_cons (nm 22 rfl) ea_nil))
  · rw [rngD_idn, List.length_map, idn_len, ← hz]
    omega
theorem law_run3 (T : Bj mg) (C : CalS P w K mg base) {f : Addr} {cdv : Value} {A : Around} {outer : List Env} {s : Shared} {H : Hp} {E : XK} {G : Hp} {d0 : PyData} {d1' : Sl} {sp a b c e11 : Sl} {dr nums : List Int} {M : Nat} {two : Bool} {ext : Hpl} (S : SU dr nums M two ext) (hgd : A.guards = some []) (hr : Room 5 (A.deeper (envOfC "law" (defScope sLaw) s.heap.objs.size f cdv))) :
    Run (cxOf CX0 P w K mg base lawN "law" (defScope sLaw) f cdv A outer s H E).nox ⟨G, H⟩ ((defBody sLaw).drop 10) [.d d0, .d (.list (dr.map .int)), .d (.int M), .d (.bool two), d1', sp, a, b, c, .d (.list (nums.map .int)), .m (hpK (hpX dr nums M two ext)), e11, .l ((rootsV nums two).map Vl.d), .no, .no, .no, .no, .no, .no, .no, .no, .no, .no, .no] (retP (.d (.bool true))) := by
  have hz : (16777216 : Nat) = sizeLine := by decide
  have hd := S.ok
  have hM2 := S.pos
  have hM3 := S.lt
  refine run_fzD 10 rfl ?_
  refine run_asg (tp (ds := [.str (txtD (hpX dr nums M two ext)), .dict (dK (namesK nums M))]) (ea_cons (ev_repr hgd hr.units T.repr (ev_sortIt (kvs := hpK (hpX dr nums M two ext)) rfl T.sorted (nm 10 rfl) (hpK_keys _) (hpX_keys S)) (shw S)) (ea_cons (EvR.dm (ev_dictP (kvs := namesK nums M) rfl T.dict (EvR.dl ((ev_lc (ds := rngD 0 M) (is := [22]) (own := [("i", 22)]) (tb := fun _ => true) (f := npD nums) (rho := fun d => [.d d0, .d (.list (dr.map .int)), .d (.int M), .d (.bool two), d1', sp, a, b, c, .d (.list (nums.map .int)), .d (hpD (hpX dr nums M two ext)), e11, .l ((rootsV nums two).map Vl.d), .no, .no, .no, .no, .no, .no, .no, .no, .no, .d d, .no]) rfl scLaw.nd
      (EvI_to (ei_range1 T.range (nm 2 rfl) (by omega) (by omega)) (by rw [Int.toNat_natCast])) (blkOk_by rfl) (by decide) (fun d _ _ _ _ _ _ => eg_name (i := 22) scLaw.nd rfl (.inl rfl) (.inr rfl)) (fun d hd' _ _ _ _ _ => ets_nil) (fun d hd' ht _ _ _ _ _ => ?_) ?_).to (by rw [names_eq]))) (names_nd S))) ea_nil)))
    (eg_two (i := 13) (j := 14) rfl scLaw.nd rfl rfl (by first | exact .inl rfl | exact .inr rfl) (by first | exact .inl rfl | exact .inr rfl) (.inl rfl) (.inl rfl)) ?_
  · obtain ⟨j, hj⟩ := List.mem_iff_getElem?.mp hd'
    obtain ⟨hjM, rfl⟩ := idn_at hj
    exact tp (ds := [.int (nums.getD (Int.toNat (j : Int)) 0), .int (j : Int)]) (ea_cons (ev_ixL (nm 9 rfl) (nm 22 rfl) (atI_ints (by omega) (by rw [S.len]; omega))) (ea_cons (nm 22 rfl) ea_nil))
  · rw [rngD_idn, List.length_map, idn_len, ← hz]
    omega
  refine run_set (i := 15) (ev_calC C.lh hr (by decide) (ea_cons (nm 1 rfl) (ea_cons (nm 2 rfl) (ea_cons (nm 3 rfl) (ea_cons (EvR.dl ((ev_listRg rfl T.list T.range (nm 2 rfl) (by omega) (by omega)).to (r' := .l ((idn M).map .int)) (by rw [Int.toNat_natCast, rngD_idn]))) ea_nil)))) ⟨dr, idn M, M, two, rfl, hd, idn_len M, idn_nd M, by omega, rfl⟩) scLaw.nd rfl (.inl rfl) ?_
  refine run_fzD 15 rfl ?_
  refine run_fzL 12 rfl ?_
  refine run_asg (ev_calC C.co hr (Nat.le_refl _) (ea_cons (nm 10 rfl) (ea_cons (nm 12 rfl) ea_nil)) (preCO_S S)) (eg_three (i := 16) (j := 17) (l := 18) rfl scLaw.nd rfl rfl rfl (by first | exact .inl rfl | exact .inr rfl) (by first | exact .inl rfl | exact .inr rfl) (by first | exact .inl rfl | exact .inr rfl) (.inl rfl) (.inl rfl) (.inl rfl)) ?_
  exact law_run4 T C S hgd hr
end
end K36
namespace K36
open PySem PySem.Spec L2 DH
open PyProof.Rows (envOfC)
section
variable {P : Program} {w : World} {K : PySem.W.Frag} {mg : Str → Option Value} {base : Heap}
theorem law_run2 (T : Bj mg) (C : CalS P w K mg base) {f : Addr} {cdv : Value} {A : Around} {outer : List Env} {s : Shared} {H : Hp} {E : XK} {G : Hp} {d0 : PyData} {sp a b c : Sl} {dr nums : List Int} {M : Nat} {two : Bool} {step : Int} {ext : Hpl} (S : SU dr nums M two ext) (hgd : A.guards = some []) (hr : Room 5 (A.deeper (envOfC "law" (defScope sLaw) s.heap.objs.size f cdv))) :
    Run (cxOf CX0 P w K mg base lawN "law" (defScope sLaw) f cdv A outer s H E).nox ⟨G, H⟩ ((defBody sLaw).drop 9) [.d d0, .d (.list (dr.map .int)), .d (.int M), .d (.bool two), .d (.int step), sp, a, b, c, .d (.list (nums.map .int)), .m (hpK (hpX dr nums M two ext)), .d (.int 500), .no, .no, .no, .no, .no, .no, .no, .no, .no, .no, .no, .no] (retP (.d (.bool true))) := by
  have hz : (16777216 : Nat) = sizeLine := by decide
  have el3 := S.len
  have hM2 := S.pos
  have hM3 := S.lt
  have hNl := S.len
  have hqt : two = true → 1 < nums.length := fun h => by rw [S.len]; exact S.tw h
  refine run_set (i := 12) (((ev_cat (ev_cat (ls (ds := [(Vl.int 3).d, (Vl.ref (nums.getD 0 0)).d, Vl.unit.d]) (ea_cons (tp (ea_cons ev_str (ea_cons ev_int ea_nil))) (ea_cons (tp (ds := [.str "ref", .int (nums.getD 0 0)]) (ea_cons ev_str (ea_cons (ev_ixL (nm 9 rfl) ev_int (atI_of (i := 0) (by rw [List.getElem?_map, getD_get (by omega)]; rfl))) ea_nil))) (ea_cons (tp (ea_cons ev_str ea_nil)) ea_nil))))
      (ev_lc (ds := ((nums.map PyData.int).drop (min 1 (nums.map PyData.int).length)).take (min 2 (nums.map PyData.int).length - min 1 (nums.map PyData.int).length)) (is := [21]) (own := [("number", 21)]) (tb := fun _ => two) (f := rfD) (rho := fun d => [.d d0, .d (.list (dr.map .int)), .d (.int M), .d (.bool two), .d (.int step), sp, a, b, c, .d (.list (nums.map .int)), .m (hpK (hpX dr nums M two ext)), .d (.int 500), .no, .no, .no, .no, .no, .no, .no, .no, .no, .d d, .no, .no]) rfl scLaw.nd
        (ei_list (EvR.dl (ev_slL (i := 1) (j := 2) (nm 9 rfl) ev_int ev_int (by rw [List.length_map, ← hz]; omega)))) (blkOk_by rfl) (by decide) (fun d _ _ _ _ _ _ => eg_name (i := 21) scLaw.nd rfl (.inl rfl) (.inr rfl)) (fun d hd' _ _ _ _ _ => ets_one (et_val (nm 3 rfl))) (fun d hd' ht _ _ _ _ _ => ?_) ?_) ?_)
      (ls (ds := [(Vl.ref (nums.getD 0 0)).d, (Vl.bool true).d]) (ea_cons (tp (ds := [.str "ref", .int (nums.getD 0 0)]) (ea_cons ev_str (ea_cons (ev_ixL (nm 9 rfl) ev_int (atI_of (i := 0) (by rw [List.getElem?_map, getD_get (by omega)]; rfl))) ea_nil))) (ea_cons (tp (ea_cons ev_str (ea_cons ev_bl ea_nil))) ea_nil))) ?_)).to (r' := .l ((rootsV nums two).map Vl.d)) (by rw [← roots_cat nums two hqt])) scLaw.nd rfl (by first | exact .inl rfl | exact .inr rfl) ?_
  · have hd2 := List.mem_of_mem_drop (List.mem_of_mem_take hd')
    obtain ⟨x, hx, rfl⟩ := List.mem_map.mp hd2
    exact tp (ds := [.str "ref", .int x]) (ea_cons ev_str (ea_cons (nm 21 rfl) ea_nil))
  · rw [List.length_take, List.length_drop, List.length_map, ← hz]
    omega
  · have h1 : (((((nums.map PyData.int).drop (min 1 (nums.map PyData.int).length)).take (min 2 (nums.map PyData.int).length - min 1 (nums.map PyData.int).length)).filter fun _ => two).map rfD).length ≤ 100 := by
      rw [List.length_map]
      refine Nat.le_trans (List.length_filter_le _ _) ?_
      rw [List.length_take, List.length_drop, List.length_map]
      omega
    rw [← hz]
    exact Nat.le_trans (Nat.add_le_add_left h1 _) (Nat.le_of_ble_eq_true rfl)
  · have h1 : (((((nums.map PyData.int).drop (min 1 (nums.map PyData.int).length)).take (min 2 (nums.map PyData.int).length - min 1 (nums.map PyData.int).length)).filter fun _ => two).map rfD).length ≤ 100 := by
      rw [List.length_map]
      refine Nat.le_trans (List.length_filter_le _ _) ?_
      rw [List.length_take, List.length_drop, List.length_map]
      omega
    rw [← hz, List.length_append]
    exact Nat.le_trans (Nat.add_le_add_right (Nat.add_le_add_left h1 _) _) (Nat.le_of_ble_eq_true rfl)
  exact law_run3 T C S hgd hr
end
end K36
namespace K36
open PySem PySem.Spec L2 DH
open PyProof.Rows (envOfC)
section
variable {P : Program} {w : World} {K : PySem.W.Frag} {mg : Str → Option Value} {base : Heap}
theorem law_run (T : Bj mg) (C : CalS P w K mg base) {f : Addr} {cdv : Value} {A : Around} {outer : List Env} {s : Shared} {H : Hp} {E : XK} {G : Hp} {ns : List Int} (hl : ns.length ≤ 63) (hgd : A.guards = some []) (hr : Room 5 (A.deeper (envOfC "law" (defScope sLaw) s.heap.objs.size f cdv))) :
    Run (cxOf CX0 P w K mg base lawN "law" (defScope sLaw) f cdv A outer s H E).nox ⟨G, H⟩ (defBody sLaw) (startS lawN.length [.list (ns.map .int)]) (retP (.d (.bool true))) := by
  have hz : (16777216 : Nat) = sizeLine := by decide
  have hd := drawsOf_ok ns
  generalize hdr : drawsOf ns = dr at hd
  obtain ⟨hM1, hM2, hM3⟩ := qM_ok hd
  have hu66 : ∀ {A' : Around}, Room 5 A' → A'.units + 66 < cLine := fun r => by have := r.un; omega
  refine run_set (i := 1) (ev_calC C.ld hr (by decide) (ea_cons (nm 0 rfl) ea_nil) ⟨ns, rfl, hl, rfl⟩) scLaw.nd rfl (.inr rfl) ?_
  rw [hdr]
  refine run_fzL 1 rfl ?_
  refine run_asg (tp (ds := [.int (qM dr), .bool (decide (mix dr 2 2 = 0)), .int (qS dr)]) (ea_cons ((ev_add ev_int (ev_calC C.mx hr (by decide) (ea_cons (nm 1 rfl) (ea_cons ev_int (ea_cons ev_int ea_nil))) ⟨dr, 1, 40, rfl, hd, by decide, by decide, by decide, rfl⟩)).to (by rw [hM1]))
    (ea_cons ((ev_eq (da := .int (mix dr 2 2)) (ev_calC C.mx hr (by decide) (ea_cons (nm 1 rfl) (ea_cons ev_int (ea_cons ev_int ea_nil))) ⟨dr, 2, 2, rfl, hd, by decide, by decide, by decide, rfl⟩) ev_int).to (by rw [dec_int]; congr 1)) (ea_cons (ev_add ev_int (ev_calC C.mx hr (by decide) (ea_cons (nm 1 rfl) (ea_cons ev_int (ea_cons ev_int ea_nil))) ⟨dr, 3, 5, rfl, hd, by decide, by decide, by decide, rfl⟩)) ea_nil))))
    (eg_three (i := 2) (j := 3) (l := 4) rfl scLaw.nd rfl rfl rfl (by first | exact .inl rfl | exact .inr rfl) (by first | exact .inl rfl | exact .inr rfl) (by first | exact .inl rfl | exact .inr rfl) (.inl rfl) (.inl rfl) (.inl rfl)) ?_
  refine run_set (i := 3) (ev_and (nm 3 rfl) (fun _ => ev_one (ev_gt (nm 2 rfl) ev_int))) scLaw.nd rfl (by first | exact .inl rfl | exact .inr rfl) ?_
  show Run _ _ _ [_, _, _, Sl.d (.bool (qT dr)), _, _, _, _, _, _, _, _, _, _, _, _, _, _, _, _, _, _, _, _] _
  refine run_set (i := 5) ((ev_listRg rfl T.list T.range (nm 2 rfl) (by omega) (by omega)).to (r' := .l ((idn (qM dr)).map .int)) (by rw [Int.toNat_natCast, rngD_idn])) scLaw.nd rfl (by first | exact .inl rfl | exact .inr rfl) ?_
  refine run_for (ds := rngD 0 (qM dr)) (is := [6]) (fun t ρ => ∃ a b c, ρ = [.d (.list (ns.map .int)), .d (.list (dr.map .int)), .d (.int (qM dr)), .d (.bool (qT dr)), .d (.int (qS dr)), .l ((spotsTo dr (qM dr) t).map .int), a, b, c, .no, .no, .no, .no, .no, .no, .no, .no, .no, .no, .no, .no, .no, .no, .no]) PassesOwn.never rfl
    (EvI_to (ei_range1 T.range (nm 2 rfl) (by omega) (by omega)) (by rw [Int.toNat_natCast])) ⟨.no, .no, .no, rfl⟩ ?_ ?_
  · rintro t d ρ' hdt ⟨a, b, c, rfl⟩
    obtain ⟨ht, rfl⟩ := idn_at hdt
    obtain ⟨h1, _, _⟩ := spots_ok hd hM2 t (by omega)
    have ho := oth_lt hd (t := t) hM2
    have hom : mix dr (700 + (t : Int)) (qM dr) = (oth dr (qM dr) t : Int) := by
      have := mix_range hd (700 + (t : Int)) (qM dr : Int) (by omega) (by omega)
      unfold oth
      omega
    have gt : ∀ {l : List Int} {k : Nat}, k < l.length → atI (l.map PyData.int) (k : Int) = some (.int (l.getD k 0)) := fun hk => atI_of (by rw [List.getElem?_map, getD_get hk]; rfl)
    refine ⟨_, eg_name (i := 6) scLaw.nd rfl (.inl rfl) (.inl rfl), ?_⟩
    refine run_set (i := 7) ((ev_calC C.mx hr (by decide) (ea_cons (nm 1 rfl) (ea_cons (ev_add ev_int (nm 6 rfl)) (ea_cons (nm 2 rfl) ea_nil))) ⟨dr, _, _, rfl, hd, by omega, by omega, by omega, rfl⟩ : EvR _ _ _ _ (.d (.int (mix dr (700 + (t : Int)) (qM dr))))).to (by rw [hom])) scLaw.nd rfl (.inl rfl) ?_
    refine run_set (i := 8) (ev_ixO (i := 5) (d := .int ((spotsTo dr (qM dr) t).getD t 0)) (nm 6 rfl) rfl (gt (by omega)) rfl (.inl rfl)) scLaw.nd rfl (.inl rfl) ?_
    refine run_setL (i := 5) (j := t) (n := (t : Int)) (d := .int ((spotsTo dr (qM dr) t).getD (oth dr (qM dr) t) 0)) (ev_ixO (i := 5) (nm 7 rfl) rfl (gt (by omega)) rfl (.inl rfl)) (nm 6 rfl) rfl (by unfold ixN; rw [List.length_map, if_pos (by omega), if_pos (by omega)]; rfl) rfl (.inl rfl) ?_
    refine run_setL (i := 5) (j := oth dr (qM dr) t) (n := (oth dr (qM dr) t : Int)) (nm 8 rfl) (nm 7 rfl) rfl (by unfold ixN; rw [List.length_set, List.length_map, if_pos (by omega), if_pos (by omega)]; rfl) rfl (.inl rfl) (run_nil ⟨.d (.int (t : Int)), .d (.int (oth dr (qM dr) t : Int)), .d (.int ((spotsTo dr (qM dr) t).getD t 0)), ?_⟩)
    have e : (spotsTo dr (qM dr) (t + 1)).map PyData.int = (((spotsTo dr (qM dr) t).map PyData.int).set t (.int ((spotsTo dr (qM dr) t).getD (oth dr (qM dr) t) 0))).set (oth dr (qM dr) t) (.int ((spotsTo dr (qM dr) t).getD t 0)) := by
      show (swp _ _ _).map _ = _
      unfold swp
      rw [List.map_set, List.map_set]
    rw [e]
    rfl
  rintro ρ' ⟨a, b, c, rfl⟩
  have el : (rngD 0 (qM dr)).length = qM dr := by rw [rngD_idn, List.length_map, idn_len]
  rw [el]
  obtain ⟨hsp, _, _⟩ := spots_ok hd hM2 (qM dr) (Nat.le_refl _)
  have hm4 := mix_range hd 4 9 (by decide) (by decide)
  refine run_fzL 5 rfl ?_
  refine run_set (i := 9) ((ev_lc (ds := (spotsTo dr (qM dr) (qM dr)).map .int) (is := [20]) (own := [("spot", 20)]) (tb := fun _ => true) (f := fun d => match d with | .int x => .int (mix dr 4 9 + qS dr * x) | _ => .none) (rho := fun d => [.d (.list (ns.map .int)), .d (.list (dr.map .int)), .d (.int (qM dr)), .d (.bool (qT dr)), .d (.int (qS dr)), .d (.list ((spotsTo dr (qM dr) (qM dr)).map .int)), a, b, c, .no, .no, .no, .no, .no, .no, .no, .no, .no, .no, .no, .d d, .no, .no, .no]) rfl scLaw.nd
      (ei_list (nm 5 rfl)) (blkOk_by rfl) (by decide) (fun d _ _ _ _ _ _ => eg_name (i := 20) scLaw.nd rfl (.inl rfl) (.inr rfl)) (fun d hd _ _ _ _ _ => ets_nil) (fun d hd' ht _ _ _ _ _ => ?_) (by rw [List.length_map, hsp, ← hz]; omega)).to (r' := .l ((qN dr).map .int)) ?_) scLaw.nd rfl (by first | exact .inl rfl | exact .inr rfl) ?_
  · obtain ⟨x, hx, rfl⟩ := List.mem_map.mp hd'
    have hS : qS dr = 1 + mix dr 3 5 := rfl
    have hs35 := mix_range hd 3 5 (by decide) (by decide)
    exact ev_add (ev_calC C.mx hr (by decide) (ea_cons (nm 1 rfl) (ea_cons ev_int (ea_cons ev_int ea_nil))) ⟨dr, 4, 9, rfl, hd, by decide, by decide, by decide, rfl⟩) (ev_mul (nm 4 rfl) (nm 20 rfl) (.inl ⟨by omega, by omega⟩))
  · show Rs.l _ = Rs.l _
    rw [List.filter_eq_self.mpr (fun _ _ => rfl), List.map_map]
    unfold qN
    rw [List.map_map]
    rfl
  refine run_fzL 9 rfl ?_
  have S0 := su hd (t := 0) (by decide)
  have hNl := S0.len
  refine run_set (i := 10) (ev_calC C.lh hr (by decide) (ea_cons (nm 1 rfl) (ea_cons (nm 2 rfl) (ea_cons (nm 3 rfl) (ea_cons (nm 9 rfl) ea_nil)))) ⟨dr, qN dr, qM dr, qT dr, rfl, hd, S0.len, S0.nd, by omega, rfl⟩) scLaw.nd rfl (by first | exact .inl rfl | exact .inr rfl) ?_
  refine run_set (i := 11) ev_int scLaw.nd rfl (.inl rfl) ?_
  have hm5 := mix_range hd 5 6 (by decide) (by decide)
  refine run_for (ds := rngD 0 (mix dr 5 6).toNat) (is := [6]) (fun t ρ => ∃ a, ρ = [.d (.list (ns.map .int)), .d (.list (dr.map .int)), .d (.int (qM dr)), .d (.bool (qT dr)), .d (.int (qS dr)), .d (.list ((spotsTo dr (qM dr) (qM dr)).map .int)), a, b, c, .d (.list ((qN dr).map .int)), .m (hpK (hpX dr (qN dr) (qM dr) (qT dr) (extTo dr (qN dr) (qM dr) t))), .d (.int 500), .no, .no, .no, .no, .no, .no, .no, .no, .no, .no, .no, .no]) PassesOwn.never rfl
    (ei_range1 (n := mix dr 5 6) T.range (ev_calC C.mx hr (by decide) (ea_cons (nm 1 rfl) (ea_cons ev_int (ea_cons ev_int ea_nil))) ⟨dr, 5, 6, rfl, hd, by decide, by decide, by decide, rfl⟩) (by omega) (by omega)) ⟨a, ?_⟩ ?_ ?_
  · show _ = [_, _, _, _, _, _, _, _, _, _, Sl.m (hpK (hpX dr (qN dr) (qM dr) (qT dr) [])), _, _, _, _, _, _, _, _, _, _, _, _, _]
    rw [hpX_nil]
    rfl
  · rintro t d ρ' hdt ⟨a, rfl⟩
    obtain ⟨ht, rfl⟩ := idn_at hdt
    have ht5 : t ≤ 5 := by omega
    have hmt := mix_range hd (20 + (t : Int)) (qM dr : Int) (by omega) (by omega)
    refine ⟨_, eg_name (i := 6) scLaw.nd rfl (.inl rfl) (.inl rfl), ?_⟩
    have hnew : (Sum.inl (500 + (t : Int)) : Key) ∉ (hpK (hpX dr (qN dr) (qM dr) (qT dr) (extTo dr (qN dr) (qM dr) t))).map (·.1) := fun hm => by
      unfold hpK hpX at hm
      rw [List.map_map] at hm
      obtain ⟨p, hp, he⟩ := List.mem_map.mp hm
      have he' : p.1 = 500 + (t : Int) := Sum.inl.inj he
      rcases List.mem_append.mp hp with h | h
      · obtain ⟨i, hi, rfl⟩ := List.mem_map.mp h
        have := S0.rng _ (nums_mem S0 (List.mem_range.mp hi))
        have he2 : (qN dr).getD i 0 = 500 + (t : Int) := he'
        omega
      · obtain ⟨j, hj, rfl⟩ := List.mem_map.mp h
        have := List.mem_range.mp hj
        have he2 : (500 : Int) + (j : Int) = 500 + (t : Int) := he'
        omega
    have hlen : (hpK (hpX dr (qN dr) (qM dr) (qT dr) (extTo dr (qN dr) (qM dr) t))).length < sizeLine := by
      unfold hpK hpX lawH extTo
      rw [List.length_map, List.length_append, List.length_map, List.length_map, List.length_range, List.length_range, ← hz]
      omega
    refine run_setD (i := 10) (n := .inl (500 + (t : Int))) (d := (extC dr (qN dr) (qM dr) t).d) (ru hr) (tp (ds := [.str "pair", (Vl.ref 500).d, (Vl.ref ((qN dr).getD (mix dr (20 + (t : Int)) (qM dr)).toNat 0)).d]) (ea_cons ev_str (ea_cons (tp (ds := [.str "ref", .int 500]) (ea_cons ev_str (ea_cons (nm 11 rfl) ea_nil))) (ea_cons (tp (ds := [.str "ref", .int ((qN dr).getD (mix dr (20 + (t : Int)) (qM dr)).toNat 0)]) (ea_cons ev_str (ea_cons (ev_ixL (nm 9 rfl) (ev_calC C.mx hr (by decide) (ea_cons (nm 1 rfl) (ea_cons (ev_add ev_int (nm 6 rfl)) (ea_cons (nm 2 rfl) ea_nil))) ⟨dr, _, _, rfl, hd, by omega, by omega, by omega, rfl⟩) (atI_ints hmt.1 (by omega))) ea_nil))) ea_nil)))) (ev_add (nm 11 rfl) (nm 6 rfl)) rfl hlen rfl (by first | exact .inl rfl | exact .inr (.inl rfl)) (run_nil ⟨.d (.int (t : Int)), ?_⟩)
    rw [putD_new hnew]
    have e4 : hpK (hpX dr (qN dr) (qM dr) (qT dr) (extTo dr (qN dr) (qM dr) (t + 1))) = hpK (hpX dr (qN dr) (qM dr) (qT dr) (extTo dr (qN dr) (qM dr) t)) ++ [(Sum.inl (500 + (t : Int)), (extC dr (qN dr) (qM dr) t).d)] := by
      have ee : extTo dr (qN dr) (qM dr) (t + 1) = extTo dr (qN dr) (qM dr) t ++ [(500 + (t : Int), extC dr (qN dr) (qM dr) t)] := by unfold extTo; rw [List.range_succ, List.map_append]; rfl
      unfold hpK hpX
      rw [ee, ← List.append_assoc, List.map_append (l₁ := lawH _ _ _ _ ++ _)]
      rfl
    rw [e4]
    rfl
  rintro ρ' ⟨a, rfl⟩
  have el2 : (rngD 0 (mix dr 5 6).toNat).length = (mix dr 5 6).toNat := by rw [rngD_idn, List.length_map, idn_len]
  rw [el2]
  have S := su hd (t := (mix dr 5 6).toNat) (by omega)
  exact law_run2 T C S hgd hr
end
end K36
namespace K36
open PySem PySem.Spec L2 DH
def tupA (K : PySem.W.Frag) (p : Addr) (ns : List Int) : Bool := match K.lookup p with
  | some ⟨.type c, _, .seq its _, _⟩ => decide (c = "tuple") && (decide (its.size ≤ sizeLine) && He.relAll (ns.map V.int) its.toList)
  | _ => false
theorem tupA_ok {K : PySem.W.Frag} {p : Addr} {ns : List Int} (h : tupA K p ns = true) (H : Hp) : SqT K H p (ns.map V.int) := by
  unfold tupA at h
  cases q : K.lookup p with
  | none =>
    rw [q] at h
    cases h
  | some o =>
    obtain ⟨oc, od, dt, osl⟩ := o
    rw [q] at h
    cases oc with
    | type c =>
      cases dt with
      | seq its n =>
        obtain ⟨h1, h2⟩ := He.ba (show (decide (c = "tuple") && (decide (its.size ≤ sizeLine) && He.relAll (ns.map V.int) its.toList)) = true from h)
        obtain ⟨h3, h4⟩ := He.ba h2
        exact .inr ⟨_, its, n, q, congrArg Value.type (of_decide_eq_true h1), rfl, of_decide_eq_true h3, He.relAll_ok h4⟩
      | _ => cases h
    | _ => cases dt <;> cases h
/-- the table's values are tuples of ints -/
def tabTB (K : PySem.W.Frag) (a : Addr) (kvs : List (Str × List Int)) : Bool := kvs.all fun q => match PySem.W.nsIn K a q.1 with
  | some (some (.ref p)) => tupA K p q.2
  | _ => false
theorem tabTB_ok {K : PySem.W.Frag} {a : Addr} {kvs : List (Str × List Int)} (h : tabTB K a kvs = true) {q : Str × List Int} (hq : q ∈ kvs) : ∃ p, PySem.W.nsIn K a q.1 = some (some (.ref p)) ∧ ∀ H, SqT K H p (q.2.map V.int) := by
  have h2 := List.all_eq_true.mp h q hq
  cases e : PySem.W.nsIn K a q.1 with
  | none =>
    rw [e] at h2
    cases h2
  | some r =>
    rw [e] at h2
    cases r with
    | none => cases h2
    | some u =>
      cases u with
      | ref p => exact ⟨p, rfl, fun H => tupA_ok h2 H⟩
      | _ => cases h2
def d_values_of : He.DefD := ⟨("values_of", none), "values_of", "values_of", defArgs (top 19), defBody (top 19), defScope (top 19), [], []⟩
def d_spots_of : He.DefD := ⟨("spots_of", none), "spots_of", "spots_of", defArgs (top 20), defBody (top 20), defScope (top 20), [], []⟩
def d_moved_value : He.DefD := ⟨("moved_value", none), "moved_value", "moved_value", defArgs (top 21), defBody (top 21), defScope (top 21), [], []⟩
def d_moved_cell : He.DefD := ⟨("moved_cell", none), "moved_cell", "moved_cell", defArgs (top 22), defBody (top 22), defScope (top 22), [], []⟩
def d_order_of : He.DefD := ⟨("order_of", none), "order_of", "order_of", defArgs (top 23), defBody (top 23), defScope (top 23), [], []⟩
def d_marked_of : He.DefD := ⟨("marked_of", none), "marked_of", "marked_of", defArgs (top 24), defBody (top 24), defScope (top 24), [], []⟩
def d_is_small : He.DefD := ⟨("is_small", none), "is_small", "is_small", defArgs (top 25), defBody (top 25), defScope (top 25), [], []⟩
def d_is_cell : He.DefD := ⟨("is_cell", none), "is_cell", "is_cell", defArgs (top 26), defBody (top 26), defScope (top 26), [], []⟩
def d_is_heap : He.DefD := ⟨("is_heap", none), "is_heap", "is_heap", defArgs (top 27), defBody (top 27), defScope (top 27), [], []⟩
def d_check_heap : He.DefD := ⟨("check_heap", none), "check_heap", "check_heap", defArgs (top 28), defBody (top 28), defScope (top 28), [], []⟩
def d_reached : He.DefD := ⟨("reached", none), "reached", "reached", defArgs (top 29), defBody (top 29), defScope (top 29), [], []⟩
def d_swept : He.DefD := ⟨("swept", none), "swept", "swept", defArgs (top 30), defBody (top 30), defScope (top 30), [], []⟩
def d_copied : He.DefD := ⟨("copied", none), "copied", "copied", defArgs (top 31), defBody (top 31), defScope (top 31), [], []⟩
def d_places_of : He.DefD := ⟨("places_of", none), "places_of", "places_of", defArgs (top 32), defBody (top 32), defScope (top 32), [], []⟩
def d_moved_heap : He.DefD := ⟨("moved_heap", none), "moved_heap", "moved_heap", defArgs (top 33), defBody (top 33), defScope (top 33), [], []⟩
def d__law_draws : He.DefD := ⟨("_law_draws", none), "_law_draws", "_law_draws", defArgs (top 35), defBody (top 35), defScope (top 35), [], []⟩
def d__law_mix : He.DefD := ⟨("_law_mix", none), "_law_mix", "_law_mix", defArgs (top 36), defBody (top 36), defScope (top 36), [], []⟩
def d__law_cell : He.DefD := ⟨("_law_cell", none), "_law_cell", "_law_cell", defArgs (top 37), defBody (top 37), defScope (top 37), [], []⟩
def d__law_edges : He.DefD := ⟨("_law_edges", none), "_law_edges", "_law_edges", defArgs (top 38), defBody (top 38), defScope (top 38), [], []⟩
def d__law_heap : He.DefD := ⟨("_law_heap", none), "_law_heap", "_law_heap", defArgs (top 39), defBody (top 39), defScope (top 39), [], []⟩
def d_law : He.DefD := ⟨("law", none), "law", "law", defArgs (top 40), defBody (top 40), defScope (top 40), [], []⟩
def hfn : List He.DefD := [d_values_of, d_spots_of, d_moved_value, d_moved_cell, d_order_of, d_marked_of, d_is_small, d_is_cell, d_is_heap, d_check_heap, d_reached, d_swept, d_copied, d_places_of, d_moved_heap, d__law_draws, d__law_mix, d__law_cell, d__law_edges, d__law_heap, d_law]
def hfa : List He.Fa := [.glo "values_of", .glo "spots_of", .glo "moved_value", .glo "moved_cell", .glo "order_of", .glo "marked_of", .glo "is_small", .glo "is_cell", .glo "is_heap", .glo "check_heap", .glo "reached", .glo "swept", .glo "copied", .glo "places_of", .glo "moved_heap", .glo "_law_draws", .glo "_law_mix", .glo "_law_cell", .glo "_law_edges", .glo "_law_heap", .glo "law", .glo "FIELDS", .glo "SIZES", .glo "LENGTHS", .free "len", .free "int", .free "list", .free "tuple", .free "sorted", .free "isinstance", .free "bool", .free "enumerate", .free "all", .free "abs", .free "min", .free "range", .free "repr", .free "dict"]
def hts : List He.Tab := [(fun K => He.ga K "FIELDS", ["pair", "cons", "cell", "box", "waits", "tagged"]), (fun K => He.ga K "SIZES", ["int", "bool", "unit", "nil", "ref"]), (fun K => He.ga K "LENGTHS", ["closure", "pair", "cons", "cell", "box", "waits", "tagged"])]
def tFields : List (Str × List Int) := [("pair", [1, 2]), ("cons", [1, 2]), ("cell", [1]), ("box", [1]), ("waits", [2]), ("tagged", [2])]
def tSizes : List (Str × He.Dv) := [("int", .int 2), ("bool", .int 2), ("unit", .int 1), ("nil", .int 1), ("ref", .int 2)]
def tLengths : List (Str × He.Dv) := [("closure", .int 3), ("pair", .int 3), ("cons", .int 3), ("cell", .int 2), ("box", .int 2), ("waits", .int 3), ("tagged", .int 3)]
def hex (K : PySem.W.Frag) : Bool := tabTB K (He.ga K "FIELDS") tFields && (He.valsB K (He.ga K "SIZES") tSizes && He.valsB K (He.ga K "LENGTHS") tLengths)
abbrev R36 : PySem.W.OpenRow := PySem.W.OpenLaw.row PySem.Challenge.rw_typedbydegrees_k36_whole_heaps_that_are
abbrev hk36 : PySem.W.Hook := He.hookX 4 hfa hfn hts [] hex
def ob36 (s : PySem.W.SharedT) : He.AlX := He.obsX 4 hfa hfn hts [] hex (HandSHeadRun.getT s)
theorem ob36_eq (s : PySem.W.SharedT) : ob36 s = hk36.obs s.abs := He.obsX_eq (HandSHeadRun.getT_eq s)
def loose36 : List Str := (["LanguageError", "BadHeap", "BadRoots", "ANY", "BASES", "HEADS", "PARTS", "is_label", "is_place", "is_plain", "source", "is_middle"] : List Str) ++ (["is_coercion", "FIELDS", "SIZES", "LENGTHS", "values_of", "spots_of", "moved_value", "moved_cell", "order_of", "marked_of", "is_small", "is_cell"] : List Str) ++ (["is_heap", "check_heap", "reached", "swept", "copied", "places_of", "moved_heap", "_law_draws", "_law_mix", "_law_cell", "_law_edges", "_law_heap"] : List Str)
theorem run36 (w0 : World) : HandSHeadRun.RunEq R36 (PySem.W.view R36.prog [40]) hk36 ob36 2500 loose36 w0 := by
  refine PySem.W.byRow2 "special-get-raises" (P := fun w => HandSHeadRun.RunEq R36 (PySem.W.view R36.prog [40]) hk36 ob36 2500 loose36 w) (fun w os => ?_) (fun w os => ?_) w0
  · kernel_rfl
  · kernel_rfl
end K36
namespace K36
open PySem PySem.Spec L2 DH
open PyProof.Rows (envOfC)
section
variable {w : World} {h : Heap} {K : PySem.W.Frag} {mg : Str → Option Value}
theorem df_of (X : K.In h) (G : h.Ns mainGlobals mg) (c : He.SaysX hfa hfn hts [] hex w h K) {x : Str} {st : Stmt} (hd : (⟨(x, none), x, x, defArgs st, defBody st, defScope st, [], []⟩ : He.DefD) ∈ hfn) (hg : He.Fa.glo x ∈ hfa) : Df K mg x st := by
  obtain ⟨fd, F⟩ := c.t.d.defs hd
  exact ⟨_, fd, F, He.glo_ok X G (c.t.d.facts hg)⟩
theorem free_of (X : K.In h) (G : h.Ns mainGlobals mg) (c : He.SaysX hfa hfn hts [] hex w h K) {x : Str} (hg : He.Fa.free x ∈ hfa) : mg x = none := He.free_ok X G (c.t.d.facts hg)
theorem bj_of (X : K.In h) (G : h.Ns mainGlobals mg) (c : He.SaysX hfa hfn hts [] hex w h K) : Bj mg where
  len := free_of X G c (by simp [hfa])
  int := free_of X G c (by simp [hfa])
  list := free_of X G c (by simp [hfa])
  tuple := free_of X G c (by simp [hfa])
  sorted := free_of X G c (by simp [hfa])
  isi := free_of X G c (by simp [hfa])
  bool := free_of X G c (by simp [hfa])
  enum := free_of X G c (by simp [hfa])
  all := free_of X G c (by simp [hfa])
  abs := free_of X G c (by simp [hfa])
  min := free_of X G c (by simp [hfa])
  range := free_of X G c (by simp [hfa])
  repr := free_of X G c (by simp [hfa])
  dict := free_of X G c (by simp [hfa])
theorem tabI {P : Program} {a : Addr} {kvs : List (Str × He.Dv)} (hv : He.valsB K a kvs = true) {z : Str} {i : Int} (hm : (z, He.Dv.int i) ∈ kvs) : ∃ (u : Value) (v : V), PySem.W.nsIn K a z = some (some u) ∧ RelV v u ∧ ∀ G, Rp ⟨P, w, K⟩ G v (.int i) := by
  obtain ⟨u, h1, h2⟩ := He.valsB_ok hv hm
  exact ⟨u, .int i, h1, h2, fun _ => .int i⟩
theorem tb_of {P : Program} (X : K.In h) (G : h.Ns mainGlobals mg) (c : He.SaysX hfa hfn hts [] hex w h K) : Tb ⟨P, w, K⟩ mg := by
  have hx := c.more
  unfold hex at hx
  obtain ⟨x1, x2⟩ := He.ba hx
  obtain ⟨x2, x3⟩ := He.ba x2
  have tT : ∀ {z : Str} {ns : List Int}, (z, ns) ∈ tFields → ∃ (u : Value) (v : V), PySem.W.nsIn K (He.ga K "FIELDS") z = some (some u) ∧ RelV v u ∧ ∀ G, Rp ⟨P, w, K⟩ G v (.tuple (ns.map .int)) := fun {z ns} hm => by
    obtain ⟨p, h1, h2⟩ := tabTB_ok x1 hm
    exact ⟨.ref p, .ref p, h1, rfl, fun G => .tup (h2 G) (rpa_of_ints ns)⟩
  refine ⟨⟨?_⟩, ⟨?_⟩, ⟨?_⟩⟩
  · obtain ⟨es, n, kd⟩ := c.t.tab 0
    refine ⟨_, es, n, He.glo_ok X G (c.t.d.facts (f := .glo "FIELDS") (by simp [hfa])), kd, fun q hq => ?_, nofun⟩
    simp only [List.mem_cons, List.mem_nil_iff, or_false] at hq
    rcases hq with rfl | rfl
    · exact tT (z := "pair") (ns := [1, 2]) (by simp [tFields])
    · exact tT (z := "cons") (ns := [1, 2]) (by simp [tFields])
  · obtain ⟨es, n, kd⟩ := c.t.tab 1
    refine ⟨_, es, n, He.glo_ok X G (c.t.d.facts (f := .glo "SIZES") (by simp [hfa])), kd, fun q hq => ?_, nofun⟩
    simp only [List.mem_cons, List.mem_nil_iff, or_false] at hq
    rcases hq with rfl | rfl | rfl | rfl | rfl
    · exact tabI x2 (by simp [tSizes])
    · exact tabI x2 (by simp [tSizes])
    · exact tabI x2 (by simp [tSizes])
    · exact tabI x2 (by simp [tSizes])
    · exact tabI x2 (by simp [tSizes])
  · obtain ⟨es, n, kd⟩ := c.t.tab 2
    refine ⟨_, es, n, He.glo_ok X G (c.t.d.facts (f := .glo "LENGTHS") (by simp [hfa])), kd, fun q hq => ?_, nofun⟩
    simp only [List.mem_cons, List.mem_nil_iff, or_false] at hq
    rcases hq with rfl | rfl | rfl
    · exact tabI x3 (by simp [tLengths])
    · exact tabI x3 (by simp [tLengths])
    · exact tabI x3 (by simp [tLengths])
theorem cal_all {P : Program} (X : K.In h) (G : h.Ns mainGlobals mg) (c : He.SaysX hfa hfn hts [] hex w h K) (base : Heap) : CalS P w K mg base := by
  have T := bj_of X G c
  have Tt : Tb ⟨P, w, K⟩ mg := tb_of X G c
  have vo : Cal P w K mg base 1 _ _ _ := c_vo T Tt (df_of X G c (by simp [hfn, d_values_of]) (by simp [hfa]))
  have so : Cal P w K mg base 1 _ _ _ := c_so (df_of X G c (by simp [hfn, d_spots_of]) (by simp [hfa]))
  have mv : Cal P w K mg base 1 _ _ _ := c_mv (df_of X G c (by simp [hfn, d_moved_value]) (by simp [hfa]))
  have mc : Cal P w K mg base 2 _ _ _ := c_mc T Tt (df_of X G c (by simp [hfn, d_moved_cell]) (by simp [hfa])) mv
  have oo : Cal P w K mg base 2 _ _ _ := c_oo T (df_of X G c (by simp [hfn, d_order_of]) (by simp [hfa])) so vo
  have mo : Cal P w K mg base 2 _ _ _ := c_mo T (df_of X G c (by simp [hfn, d_marked_of]) (by simp [hfa])) so vo
  have is : Cal P w K mg base 1 _ _ _ := c_is T Tt (df_of X G c (by simp [hfn, d_is_small]) (by simp [hfa]))
  have ic : Cal P w K mg base 2 _ _ _ := c_ic T Tt (df_of X G c (by simp [hfn, d_is_cell]) (by simp [hfa])) is
  have ih : Cal P w K mg base 3 _ _ _ := c_ih T (df_of X G c (by simp [hfn, d_is_heap]) (by simp [hfa])) so vo ic
  have ch : Cal P w K mg base 4 _ _ _ := c_ch T (df_of X G c (by simp [hfn, d_check_heap]) (by simp [hfa])) is ih
  have po : Cal P w K mg base 3 _ _ _ := c_po T (df_of X G c (by simp [hfn, d_places_of]) (by simp [hfa])) oo
  have mh : Cal P w K mg base 3 _ _ _ := c_mh T (df_of X G c (by simp [hfn, d_moved_heap]) (by simp [hfa])) mc
  have mx : Cal P w K mg base 1 _ _ _ := c_mix T.toBi (df_of X G c (by simp [hfn, d__law_mix]) (by simp [hfa]))
  have le : Cal P w K mg base 1 _ _ _ := c_le T (df_of X G c (by simp [hfn, d__law_edges]) (by simp [hfa]))
  have lc : Cal P w K mg base 1 _ _ _ := c_lc (df_of X G c (by simp [hfn, d__law_cell]) (by simp [hfa]))
  exact {
    ld := c_ld T (df_of X G c (by simp [hfn, d__law_draws]) (by simp [hfa]))
    mx := mx
    lh := c_lh T (df_of X G c (by simp [hfn, d__law_heap]) (by simp [hfa])) mx le lc
    co := c_co T (df_of X G c (by simp [hfn, d_copied]) (by simp [hfa])) ch po mh mv
    re := c_re (df_of X G c (by simp [hfn, d_reached]) (by simp [hfa])) ch mo
    sw := c_sw (df_of X G c (by simp [hfn, d_swept]) (by simp [hfa])) ch mo }
end
end K36
open PySem PySem.W PySem.Calls PyProof.Rows
set_option maxHeartbeats 0 in
theorem PySem.Challenge.cw_typedbydegrees_k36_whole_heaps_that_are_holds : PySem.Challenge.rw_typedbydegrees_k36_whole_heaps_that_are.Holds := by
  w_on; o_law
  refine HandSHeadRun.head_any (r := OpenLaw.row PySem.Challenge.rw_typedbydegrees_k36_whole_heaps_that_are) (q := view (OpenLaw.row PySem.Challenge.rw_typedbydegrees_k36_whole_heaps_that_are).prog [40]) (H := K36.hk36) (ob := K36.ob36) (M := 2500) (loose := K36.loose36) (d := HandSHeadRun.topDef (OpenLaw.row PySem.Challenge.rw_typedbydegrees_k36_whole_heaps_that_are).prog 40) (kwd := []) K36.ob36_eq
    (by kernel_rfl) (fun s => by kernel_rfl) K36.run36 (by kernel_rfl) (by kernel_rfl) (by kernel_rfl) (by rfl) (by first | assumption | decide +kernel) (by decide +kernel) ⟨rfl, rfl, rfl, rfl, rfl, by decide +kernel⟩ ?hw ?hc
  case hw => w_witness2
  case hc =>
    refine Att.attach_call (l := PySem.Challenge.rw_typedbydegrees_k36_whole_heaps_that_are) (n := 63) rfl (by kernel_rfl) fun w s0 s1 mg mb fa o pm cd doc a us ns G Y _ _ _ hmg0 hobj hints hlen hg => ?_
    obtain ⟨K, KX, c⟩ := Y
    have hmg : mg ("law" : PySem.Str) = some (.ref fa) := by
      have e : (HandSHeadRun.topDef (OpenLaw.row PySem.Challenge.rw_typedbydegrees_k36_whole_heaps_that_are).prog 40).name = ("law" : PySem.Str) := by kernel_rfl
      rw [← e]
      exact hmg0
    obtain ⟨f, fd, F, hf⟩ := K36.df_of KX G.T.g c (x := "law") (st := K36.top 40) (by simp [K36.hfn, K36.d_law]) (by simp [K36.hfa])
    have ef : f = fa := by
      have := hf.symm.trans hmg
      cases this
      rfl
    subst ef
    have hb := L2.FunD.bindsA (ps := ["script"]) F fun _ _ _ _ _ _ us hl => match us, hl with | [_], _ => rfl
    have hr : L2.Room 6 callerA := ⟨rfl, by decide, by decide⟩
    refine DH.law_callG KX G.T.g G.T.b G.T.builtins G.T.nolimit hg hobj hints (Nat.le_trans hlen (by decide)) fun base H e0 hS => ?_
    exact DH.run_caller F K36.scLaw (fun s u => hb s [u] rfl) hr e0 (L2.Same.refl H) (.lst hS (DH.rpa_of_ints ns)) rfl fun cdv E => K36.law_run (K36.bj_of KX G.T.g c) (K36.cal_all KX G.T.g c base) hlen rfl (hr.deeper _)
