import PyProof.Rows.All
import Wide.All
import OpenK.AllK
import Wide.FinOn
import HandS.Conv
import HandS.Dict
import HandS.EndTab
import HandS.ExcField
import HandS.ExcInit
import HandS.ExcIs
import HandS.ExcOwn
import HandS.ExcSuper
import HandS.ExcValue
import HandS.ForExc
import HandS.ForMost
import HandS.Head0
import HandS.Head1
import HandS.Head2
import HandS.HeadEnd
import HandS.HeadHook1
import HandS.HeadHook2
import HandS.HeadHook3
import HandS.HeadHook4
import HandS.HeadNt
import HandS.HeadWalk
import HandS.IsInst
import HandS.Lambda
import HandS.Nested
import HandS.NestedK
import HandS.TryMany
import HandS.TryOnly
import HandS.TupAny
import HandS.TupMul
import HandS.Walk
import HandS.WordsExc
import HandS.Zip
import KE.GoesNew
import KE.KDictSum
import KE.KExcIs
import KE.KExcSuper
import KE.KLam
import KE.KSuper
import KE.SortData
import PySem.Challenge.RW_flatrounds_k93_whole_strangers_learned
set_option Elab.async false
set_option linter.all false
set_option maxRecDepth 100000
set_option maxHeartbeats 4000000
/-! K93A: data over the heap, the judgements by data. -/
namespace K93
open PySem PySem.Spec PyProof.Rows L2

/-! ### data -/
/-- a tuple of ints, as data -/
def TI (ns : List Int) : PyData := .tuple (ns.map .int)
mutual
def fl : PyData → Bool
  | .list _ => false
  | .dict _ => false
  | .tuple ds => fls ds
  | _ => true
def fls : List PyData → Bool
  | [] => true
  | d :: ds => fl d && fls ds
end
theorem fls_all : ∀ {ds : List PyData}, (∀ d ∈ ds, fl d = true) → fls ds = true
  | [], _ => rfl
  | d :: ds, h => by
    unfold fls
    rw [h d List.mem_cons_self, fls_all fun e he => h e (List.mem_cons_of_mem _ he)]
    rfl
theorem fls_mem : ∀ {ds : List PyData}, fls ds = true → ∀ d ∈ ds, fl d = true
  | [], _, d, hd => nomatch hd
  | e :: ds, h, d, hd => by
    unfold fls at h
    rw [Bool.and_eq_true] at h
    rcases List.mem_cons.mp hd with rfl | hd
    · exact h.1
    · exact fls_mem h.2 d hd
theorem fl_tup {ds : List PyData} : fl (.tuple ds) = fls ds := by unfold fl; rfl
theorem fl_int (i : Int) : fl (.int i) = true := by unfold fl; rfl
theorem fl_TI (ns : List Int) : fl (TI ns) = true := by
  unfold TI
  rw [fl_tup]
  refine fls_all fun d hd => ?_
  obtain ⟨i, _, rfl⟩ := List.mem_map.mp hd
  exact fl_int i
/-- what isinstance asks of a class that is no tuple, no list, no int -/
structure InsK (K : PySem.W.Frag) (C : Addr) : Prop where
  cl : Cls K C
  ha : PySem.W.findIn K (.ref C) "__class__" = some (some (.builtin "object.__class__"))
  hn : PySem.W.specialIn K (.builtin "object.__class__") "__get__" = some (some (.builtin "getset_descriptor.__get__"))
  tk : PySem.W.takesIn K (.builtin "object.__class__") = some true
  mo : PySem.W.mroIn K C (.type "object") = some true
  kt : PySem.W.kitOne K (.ref C) (.type "tuple") = some false
  kl : PySem.W.kitOne K (.ref C) (.type "list") = some false
/-- an object of another kind: a dict without items, an instance -/
def Opq (K : PySem.W.Frag) (H : Hp) (a : Addr) : Prop := H a = some (.dK []) ∨ ∃ C dx fs, H a = some (.ins C dx fs) ∧ InsK K C
mutual
/-- v reads as the data d; what lies at pa (a list that others write) is no part of it -/
inductive DD (K : PySem.W.Frag) (pa : List Addr) (H : Hp) : V → PyData → Prop
  | non : DD K pa H .non .none
  | bl (b : Bool) : DD K pa H (.bl b) (.bool b)
  | int (i : Int) : DD K pa H (.int i) (.int i)
  | str (x : Str) : DD K pa H (.str x) (.str x)
  | lst {a : Addr} {xs : List V} {ds : List PyData} : H a = some (.lst xs) → a ∉ pa → DDs K pa H xs ds → DD K pa H (.ref a) (.list ds)
  | tup {a : Addr} {xs : List V} {ds : List PyData} : H a = some (.tup xs) → a ∉ pa → DDs K pa H xs ds → DD K pa H (.ref a) (.tuple ds)
  | opq {a : Addr} : Opq K H a → a ∉ pa → DD K pa H (.ref a) (.dict [])
inductive DDs (K : PySem.W.Frag) (pa : List Addr) (H : Hp) : List V → List PyData → Prop
  | nil : DDs K pa H [] []
  | cons {v : V} {vs : List V} {d : PyData} {ds : List PyData} : DD K pa H v d → DDs K pa H vs ds → DDs K pa H (v :: vs) (d :: ds)
end
/-- all but the tables and what lies at pa stands -/
def Ex (pa : List Addr) (H H' : Hp) : Prop := ∀ b o, H b = some o → (∀ ps, o ≠ .tbl ps) → b ∉ pa → H' b = some o
theorem Ex.refl {pa : List Addr} (H : Hp) : Ex pa H H := fun _ _ h _ _ => h
theorem Ex.trans {pa : List Addr} {H H1 H2 : Hp} (a : Ex pa H H1) (b : Ex pa H1 H2) : Ex pa H H2 := fun c o h n m => b c o (a c o h n m) n m
/-- what data may be -/
def Dt : HO → Bool
  | .lst _ => true
  | .tup _ => true
  | .dK _ => true
  | .dT _ => true
  | .ins _ _ _ => true
  | _ => false
def Ey (pa : List Addr) (H H' : Hp) : Prop := ∀ b o, H b = some o → Dt o = true → b ∉ pa → H' b = some o
theorem Ex.ey {pa : List Addr} {H H' : Hp} (e : Ex pa H H') : Ey pa H H' := fun b o h d n => e b o h (fun ps z => by rw [z] at d; cases d) n
section
variable {K : PySem.W.Frag} {pa : List Addr} {H H' : Hp}
theorem Opq.mono {a : Addr} (e : Ey pa H H') (n : a ∉ pa) (h : Opq K H a) : Opq K H' a := by
  rcases h with h | ⟨C, dx, fs, h, k⟩
  · exact .inl (e a _ h rfl n)
  · exact .inr ⟨C, dx, fs, e a _ h rfl n, k⟩
mutual
theorem DD.mono_ (e : Ey pa H H') : ∀ (d : PyData) (v : V), DD K pa H v d → DD K pa H' v d
  | .none, _, h => by cases h; exact .non
  | .bool _, _, h => by cases h; exact .bl _
  | .int _, _, h => by cases h; exact .int _
  | .str _, _, h => by cases h; exact .str _
  | .list ds, _, h => by
    cases h with
    | lst h1 h2 h3 => exact .lst (e _ _ h1 rfl h2) h2 (DDs.mono_ e ds _ h3)
  | .tuple ds, _, h => by
    cases h with
    | tup h1 h2 h3 => exact .tup (e _ _ h1 rfl h2) h2 (DDs.mono_ e ds _ h3)
  | .dict _, _, h => by
    cases h with
    | opq h1 h2 => exact .opq (h1.mono e h2) h2
theorem DDs.mono_ (e : Ey pa H H') : ∀ (ds : List PyData) (vs : List V), DDs K pa H vs ds → DDs K pa H' vs ds
  | [], _, h => by cases h; exact .nil
  | d :: ds, _, h => by
    cases h with
    | cons h1 h2 => exact .cons (DD.mono_ e d _ h1) (DDs.mono_ e ds _ h2)
end
mutual
/-- flat data stand while all tuples stand -/
theorem DD.tups (t : ∀ b xs, H b = some (.tup xs) → H' b = some (.tup xs)) : ∀ (d : PyData) (v : V), fl d = true → DD K pa H v d → DD K pa H' v d
  | .none, _, _, h => by cases h; exact .non
  | .bool _, _, _, h => by cases h; exact .bl _
  | .int _, _, _, h => by cases h; exact .int _
  | .str _, _, _, h => by cases h; exact .str _
  | .list ds, _, f, h => by unfold fl at f; cases f
  | .tuple ds, _, f, h => by
    rw [fl_tup] at f
    cases h with
    | tup h1 h2 h3 => exact .tup (t _ _ h1) h2 (DDs.tups t ds _ f h3)
  | .dict _, _, f, h => by unfold fl at f; cases f
theorem DDs.tups (t : ∀ b xs, H b = some (.tup xs) → H' b = some (.tup xs)) : ∀ (ds : List PyData) (vs : List V), fls ds = true → DDs K pa H vs ds → DDs K pa H' vs ds
  | [], _, _, h => by cases h; exact .nil
  | d :: ds, _, f, h => by
    unfold fls at f
    rw [Bool.and_eq_true] at f
    cases h with
    | cons h1 h2 => exact .cons (DD.tups t d _ f.1 h1) (DDs.tups t ds _ f.2 h2)
end
theorem DD.mono {d : PyData} {v : V} (h : DD K pa H v d) (e : Ex pa H H') : DD K pa H' v d := DD.mono_ e.ey d v h
theorem DDs.mono {ds : List PyData} {vs : List V} (h : DDs K pa H vs ds) (e : Ex pa H H') : DDs K pa H' vs ds := DDs.mono_ e.ey ds vs h
theorem upd_tups {p : Addr} {o o' : HO} (h : H p = some o) (n : ∀ xs, o ≠ .tup xs) : ∀ b xs, H b = some (.tup xs) → upd H p o' b = some (.tup xs) := fun b xs e => by
  rw [upd_ne (fun z => n xs (by rw [z, h] at e; exact Option.some.inj e))]
  exact e
theorem DDs.length : ∀ {ds : List PyData} {vs : List V}, DDs K pa H vs ds → vs.length = ds.length
  | [], _, h => by cases h; rfl
  | d :: ds, _, h => by
    cases h with
    | cons h1 h2 => rw [List.length_cons, List.length_cons, DDs.length h2]
theorem DDs.get : ∀ {ds : List PyData} {vs : List V} {i : Nat} {d : PyData}, DDs K pa H vs ds → ds[i]? = some d → ∃ v, vs[i]? = some v ∧ DD K pa H v d
  | [], _, _, _, h, e => by simp at e
  | d :: ds, _, i, x, h, e => by
    cases h with
    | cons h1 h2 =>
      cases i with
      | zero =>
        simp only [List.getElem?_cons_zero, Option.some.injEq] at e
        subst e
        exact ⟨_, rfl, h1⟩
      | succ i =>
        obtain ⟨v, a, b⟩ := DDs.get h2 (i := i) (by simpa using e)
        exact ⟨v, by simpa using a, b⟩
theorem DDs.getV {ds : List PyData} {vs : List V} {i : Nat} {v : V} (h : DDs K pa H vs ds) (e : vs[i]? = some v) : ∃ d, ds[i]? = some d ∧ DD K pa H v d := by
  have hl := h.length
  have hi : i < ds.length := by
    have := (List.getElem?_eq_some_iff.mp e).1
    omega
  obtain ⟨v', a, b⟩ := h.get (List.getElem?_eq_getElem hi)
  rw [e] at a
  cases a
  exact ⟨_, List.getElem?_eq_getElem hi, b⟩
theorem DDs.append : ∀ {ds es : List PyData} {vs us : List V}, DDs K pa H vs ds → DDs K pa H us es → DDs K pa H (vs ++ us) (ds ++ es)
  | [], _, _, _, h, g => by cases h; exact g
  | d :: ds, _, _, _, h, g => by
    cases h with
    | cons h1 h2 => exact .cons h1 (DDs.append h2 g)
theorem DDs.take : ∀ {ds : List PyData} {vs : List V} (n : Nat), DDs K pa H vs ds → DDs K pa H (vs.take n) (ds.take n)
  | _, _, 0, h => by simp only [List.take_zero]; exact .nil
  | [], _, n + 1, h => by cases h; exact .nil
  | d :: ds, _, n + 1, h => by
    cases h with
    | cons h1 h2 => exact .cons h1 (DDs.take n h2)
theorem DDs.drop : ∀ {ds : List PyData} {vs : List V} (n : Nat), DDs K pa H vs ds → DDs K pa H (vs.drop n) (ds.drop n)
  | _, _, 0, h => h
  | [], _, n + 1, h => by cases h; exact .nil
  | d :: ds, _, n + 1, h => by
    cases h with
    | cons h1 h2 => exact DDs.drop n h2
theorem DDs.cut {ds : List PyData} {vs : List V} (h : DDs K pa H vs ds) (a b : Nat) : DDs K pa H ((vs.drop a).take b) ((ds.drop a).take b) := (h.drop a).take b
theorem DDs.snoc {ds : List PyData} {vs : List V} {d : PyData} {v : V} (h : DDs K pa H vs ds) (g : DD K pa H v d) : DDs K pa H (vs ++ [v]) (ds ++ [d]) := h.append (.cons g .nil)
theorem DDs.set : ∀ {ds : List PyData} {vs : List V} {d : PyData} {v : V} (i : Nat), DDs K pa H vs ds → DD K pa H v d → DDs K pa H (vs.set i v) (ds.set i d)
  | [], _, _, _, i, h, g => by cases h; exact .nil
  | d :: ds, _, _, _, 0, h, g => by
    cases h with
    | cons h1 h2 => exact .cons g h2
  | d :: ds, _, _, _, i + 1, h, g => by
    cases h with
    | cons h1 h2 => exact .cons h1 (DDs.set i h2 g)
theorem DDs.tail {ds : List PyData} {vs : List V} (h : DDs K pa H vs ds) : DDs K pa H vs.tail ds.tail := by
  cases h with
  | nil => exact .nil
  | cons _ h2 => exact h2
theorem DDs.ints : ∀ {ns : List Int} {vs : List V}, DDs K pa H vs (ns.map .int) → vs = ns.map V.int
  | [], _, h => by cases h; rfl
  | n :: ns, _, h => by
    cases h with
    | cons h1 h2 =>
      cases h1
      rw [List.map_cons, DDs.ints h2]
theorem DDs.ofInts : ∀ ns : List Int, DDs K pa H (ns.map V.int) (ns.map .int)
  | [] => .nil
  | n :: ns => .cons (.int n) (DDs.ofInts ns)
theorem DDs.bls : ∀ {ns : List Bool} {vs : List V}, DDs K pa H vs (ns.map .bool) → vs = ns.map V.bl
  | [], _, h => by cases h; rfl
  | n :: ns, _, h => by
    cases h with
    | cons h1 h2 =>
      cases h1
      rw [List.map_cons, DDs.bls h2]
theorem DDs.map {α : Type} {f : α → PyData} {vs : List V} (l : List α) (hl : vs.length = l.length) (h : ∀ (i : Nat) (v : V) (x : α), vs[i]? = some v → l[i]? = some x → DD K pa H v (f x)) : DDs K pa H vs (l.map f) := by
  induction l generalizing vs with
  | nil =>
    cases vs with
    | nil => exact .nil
    | cons a b => simp at hl
  | cons x l ih =>
    cases vs with
    | nil => simp at hl
    | cons a b => exact .cons (h 0 a x rfl rfl) (ih (by simpa using hl) fun i v y h1 h2 => h (i + 1) v y (by simpa using h1) (by simpa using h2))
theorem DD.intOf {v : V} {i : Int} (h : DD K pa H v (.int i)) : v = .int i := by cases h; rfl
theorem DD.blOf {v : V} {b : Bool} (h : DD K pa H v (.bool b)) : v = .bl b := by cases h; rfl
theorem DD.tupOf {v : V} {ds : List PyData} (h : DD K pa H v (.tuple ds)) : ∃ a xs, v = .ref a ∧ H a = some (.tup xs) ∧ a ∉ pa ∧ DDs K pa H xs ds := by
  cases h with
  | tup h1 h2 h3 => exact ⟨_, _, rfl, h1, h2, h3⟩
theorem DD.lstOf {v : V} {ds : List PyData} (h : DD K pa H v (.list ds)) : ∃ a xs, v = .ref a ∧ H a = some (.lst xs) ∧ a ∉ pa ∧ DDs K pa H xs ds := by
  cases h with
  | lst h1 h2 h3 => exact ⟨_, _, rfl, h1, h2, h3⟩
theorem DD.TIof {v : V} {ns : List Int} (h : DD K pa H v (TI ns)) : ∃ a, v = .ref a ∧ H a = some (.tup (ns.map V.int)) ∧ a ∉ pa := by
  obtain ⟨a, xs, rfl, h1, h2, h3⟩ := DD.tupOf h
  rw [h3.ints] at h1
  exact ⟨a, rfl, h1, h2⟩
end
/-! ### data without other objects are the layer's data -/
mutual
def pl : PyData → Bool
  | .dict _ => false
  | .tuple ds => pls ds
  | .list ds => pls ds
  | _ => true
def pls : List PyData → Bool
  | [] => true
  | d :: ds => pl d && pls ds
end
section
variable {K : PySem.W.Frag} {pa : List Addr} {H : Hp}
mutual
theorem DD.dp : ∀ (d : PyData) (v : V), pl d = true → DD K pa H v d → Dp K H v d
  | .none, _, _, h => by cases h; exact .non
  | .bool _, _, _, h => by cases h; exact .bl _
  | .int _, _, _, h => by cases h; exact .int _
  | .str _, _, _, h => by cases h; exact .str _
  | .list ds, _, f, h => by
    unfold pl at f
    cases h with
    | lst h1 h2 h3 => exact .lst (.of h1) (DDs.dp ds _ f h3)
  | .tuple ds, _, f, h => by
    unfold pl at f
    cases h with
    | tup h1 h2 h3 => exact .tup (.of h1) (DDs.dp ds _ f h3)
  | .dict _, _, f, h => by unfold pl at f; cases f
theorem DDs.dp : ∀ (ds : List PyData) (vs : List V), pls ds = true → DDs K pa H vs ds → DpAll K H vs ds
  | [], _, _, h => by cases h; exact .nil
  | d :: ds, _, f, h => by
    unfold pls at f
    rw [Bool.and_eq_true] at f
    cases h with
    | cons h1 h2 => exact .cons (DD.dp d _ f.1 h1) (DDs.dp ds _ f.2 h2)
end
end
/-! ### the state that everything keeps -/
/-- the code tables; the lists that change under way -/
structure Kx where
  T : List NdefX.NTab
  pa : List Addr
/-- what is known of the lists that change -/
structure Ix (pa : List Addr) where
  P : Hp → Prop
  sta : ∀ H H' : Hp, P H → (∀ p ∈ pa, H' p = H p) → (∀ b xs, H b = some (.tup xs) → H' b = some (.tup xs)) → P H'
/-- objects that may change -/
def Mo : HO → Bool
  | .lst _ => true
  | .dK _ => true
  | .dT _ => true
  | .ins _ _ _ => true
  | _ => false
structure Ok (c : Kx) (I : Ix c.pa) (H : Hp) : Prop where
  tab : NdefX.TabsN c.T H
  live : ∀ p ∈ c.pa, ∃ o, H p = some o ∧ Mo o = true
  inv : I.P H
structure Le (c : Kx) (I : Ix c.pa) (H H' : Hp) : Prop where
  ex : Ex c.pa H H'
  ok : Ok c I H'
  fr : ∀ p, H' p = none → H p = none
section
variable {c : Kx} {I J : Ix c.pa} {H H1 H2 : Hp} {p : Addr} {o o' : HO}
theorem Le.refl (k : Ok c I H) : Le c I H H := ⟨.refl H, k, fun _ z => z⟩
theorem Le.trans (a : Le c I H H1) (b : Le c J H1 H2) : Le c J H H2 := ⟨a.ex.trans b.ex, b.ok, fun p z => a.fr p (b.fr p z)⟩
theorem upd_new (h : H p = none) : ∀ b u, H b = some u → upd H p o b = some u := fun b u e => by
  rw [upd_ne (ne_of_none e h)]
  exact e
theorem upd_gone {q : Addr} (e : upd H p o q = none) : q ≠ p ∧ H q = none := by
  unfold upd at e
  split at e
  · cases e
  · exact ⟨by assumption, e⟩
theorem Ok.npa (k : Ok c I H) (h : H p = none) : p ∉ c.pa := fun z => by
  obtain ⟨xs, h1, _⟩ := k.live p z
  rw [h] at h1
  cases h1
theorem Ok.ntup (k : Ok c I H) {xs : List V} (h : H p = some (.tup xs)) : p ∉ c.pa := fun z => by
  obtain ⟨ys, h1, m⟩ := k.live p z
  rw [h] at h1
  cases h1
  cases m
theorem Ok.new (k : Ok c I H) (h : H p = none) : Ok c I (upd H p o) := by
  have n := k.npa h
  refine ⟨k.tab.ext (upd_new h), fun q hq => ?_, I.sta H _ k.inv (fun q hq => upd_ne fun z => n (z ▸ hq)) fun b xs e => upd_new h _ _ e⟩
  obtain ⟨xs, e, m⟩ := k.live q hq
  exact ⟨xs, upd_new h _ _ e, m⟩
theorem Le.new (l : Le c I H H1) (h : H1 p = none) : Le c I H (upd H1 p o) := ⟨fun b u e n m => upd_new h b u (l.ex b u e n m), l.ok.new h, fun q z => l.fr q (upd_gone z).2⟩
theorem tab_mut {T : List NdefX.NTab} (h : H p = some o) (m : Mo o = true) (t : NdefX.TabsN T H) : NdefX.TabsN T (upd H p o') := fun q hq => by
  obtain ⟨ps, h1, h2, h3⟩ := t q hq
  have ne : ∀ b u, H b = some u → Mo u = false → upd H p o' b = some u := fun b u e mu => by
    rw [upd_ne]
    · exact e
    · rintro rfl
      rw [h] at e
      cases e
      rw [m] at mu
      cases mu
  refine ⟨ps, ne _ _ h1 rfl, h2, fun pos cv hc => ?_⟩
  obtain ⟨d, e1, e2⟩ := h3 pos cv hc
  exact ⟨d, e1, ne _ _ e2 rfl⟩
theorem Mo.notup (m : Mo o = true) : ∀ xs, o ≠ .tup xs := fun xs e => by
  rw [e] at m
  cases m
theorem Ok.mut (k : Ok c I H) (h : H p = some o) (m : Mo o = true) (n : p ∉ c.pa) : Ok c I (upd H p o') := by
  refine ⟨tab_mut h m k.tab, fun q hq => ?_, I.sta H _ k.inv (fun q hq => upd_ne fun z => n (z ▸ hq)) (upd_tups h (Mo.notup m))⟩
  obtain ⟨xs, e, m⟩ := k.live q hq
  exact ⟨xs, (upd_ne fun z : q = p => n (z ▸ hq)).trans e, m⟩
/-- an object younger than H changes -/
theorem Le.mut (l : Le c I H H1) (h0 : H p = none) (h : H1 p = some o) (m : Mo o = true) (n : p ∉ c.pa) : Le c I H (upd H1 p o') :=
  ⟨fun b u e a d => by
    rw [upd_ne (ne_of_none e h0)]
    exact l.ex b u e a d, l.ok.mut h m n, fun q z => l.fr q (upd_gone z).2⟩
/-- one of the lists that change does so -/
theorem Le.chg (l : Le c I H H1) (hp : p ∈ c.pa) (h : H1 p = some o) (m : Mo o = true) (m' : Mo o' = true) (q : J.P (upd H1 p o')) : Le c J H (upd H1 p o') :=
  ⟨fun b u e n m => by
    exact (upd_ne fun z : b = p => m (z ▸ hp)).trans (l.ex b u e n m), ⟨tab_mut h m l.ok.tab, fun q hq => by
      by_cases z : q = p
      · rw [z, upd_same]
        exact ⟨_, rfl, m'⟩
      · rw [upd_ne z]
        exact l.ok.live q hq, q⟩, fun q z => l.fr q (upd_gone z).2⟩
/-- what is known may be less -/
theorem Ok.imp (k : Ok c I H) (h : I.P H → J.P H) : Ok c J H := ⟨k.tab, k.live, h k.inv⟩
theorem Le.imp (l : Le c I H H1) (h : I.P H1 → J.P H1) : Le c J H H1 := ⟨l.ex, l.ok.imp h, l.fr⟩
theorem Le.at (l : Le c I H H1) (h : H p = some o) (n : ∀ ps, o ≠ .tbl ps) (m : p ∉ c.pa) : H1 p = some o := l.ex p o h n m
theorem Le.lst (l : Le c I H H1) {xs : List V} (h : H p = some (.lst xs)) (m : p ∉ c.pa) : H1 p = some (.lst xs) := l.ex p _ h (fun _ z => nomatch z) m
theorem Le.tup (l : Le c I H H1) {xs : List V} (k : Ok c J H) (h : H p = some (.tup xs)) : H1 p = some (.tup xs) := l.ex p _ h (fun _ z => nomatch z) (k.ntup h)
theorem Le.dd {K : PySem.W.Frag} (l : Le c I H H1) {d : PyData} {v : V} (h : DD K c.pa H v d) : DD K c.pa H1 v d := h.mono l.ex
theorem Le.dds {K : PySem.W.Frag} (l : Le c I H H1) {ds : List PyData} {vs : List V} (h : DDs K c.pa H vs ds) : DDs K c.pa H1 vs ds := h.mono l.ex
end
/-! ### for what is asked of what -/
section
variable {K : PySem.W.Frag} {pa pb : List Addr} {H : Hp}
mutual
theorem DD.less (s : ∀ a ∈ pb, a ∈ pa) : ∀ (d : PyData) (v : V), DD K pa H v d → DD K pb H v d
  | .none, _, h => by cases h; exact .non
  | .bool _, _, h => by cases h; exact .bl _
  | .int _, _, h => by cases h; exact .int _
  | .str _, _, h => by cases h; exact .str _
  | .list ds, _, h => by
    cases h with
    | lst h1 h2 h3 => exact .lst h1 (fun z => h2 (s _ z)) (DDs.less s ds _ h3)
  | .tuple ds, _, h => by
    cases h with
    | tup h1 h2 h3 => exact .tup h1 (fun z => h2 (s _ z)) (DDs.less s ds _ h3)
  | .dict _, _, h => by
    cases h with
    | opq h1 h2 => exact .opq h1 fun z => h2 (s _ z)
theorem DDs.less (s : ∀ a ∈ pb, a ∈ pa) : ∀ (ds : List PyData) (vs : List V), DDs K pa H vs ds → DDs K pb H vs ds
  | [], _, h => by cases h; exact .nil
  | d :: ds, _, h => by
    cases h with
    | cons h1 h2 => exact .cons (DD.less s d _ h1) (DDs.less s ds _ h2)
end
mutual
/-- a new list is no part of what stood before it -/
theorem DD.more {q : Addr} (n : H q = none) : ∀ (d : PyData) (v : V), DD K pa H v d → DD K (q :: pa) H v d
  | .none, _, h => by cases h; exact .non
  | .bool _, _, h => by cases h; exact .bl _
  | .int _, _, h => by cases h; exact .int _
  | .str _, _, h => by cases h; exact .str _
  | .list ds, _, h => by
    cases h with
    | lst h1 h2 h3 => exact .lst h1 (fun z => (List.mem_cons.mp z).elim (ne_of_none h1 n) h2) (DDs.more n ds _ h3)
  | .tuple ds, _, h => by
    cases h with
    | tup h1 h2 h3 => exact .tup h1 (fun z => (List.mem_cons.mp z).elim (ne_of_none h1 n) h2) (DDs.more n ds _ h3)
  | .dict _, _, h => by
    cases h with
    | opq h1 h2 =>
      refine .opq h1 fun z => (List.mem_cons.mp z).elim ?_ h2
      rcases h1 with h1 | ⟨_, _, _, h1, _⟩
      · exact ne_of_none h1 n
      · exact ne_of_none h1 n
theorem DDs.more {q : Addr} (n : H q = none) : ∀ (ds : List PyData) (vs : List V), DDs K pa H vs ds → DDs K (q :: pa) H vs ds
  | [], _, h => by cases h; exact .nil
  | d :: ds, _, h => by
    cases h with
    | cons h1 h2 => exact .cons (DD.more n d _ h1) (DDs.more n ds _ h2)
end
end
/-! ### a container of our own joins those that change -/
def Ix.up {pa : List Addr} (I : Ix pa) (a : Addr) : Ix (a :: pa) := ⟨I.P, fun H H' p e t => I.sta H H' p (fun q hq => e q (List.mem_cons_of_mem _ hq)) t⟩
def Ix.pin {pa : List Addr} (I : Ix pa) (a : Addr) (m : a ∈ pa) (o : HO) : Ix pa := ⟨fun H => I.P H ∧ H a = some o, fun H H' p e t => ⟨I.sta H H' p.1 e t, (e a m).trans p.2⟩⟩
abbrev Kx.up (c : Kx) (a : Addr) : Kx := ⟨c.T, a :: c.pa⟩
section
variable {c : Kx} {I J : Ix c.pa} {H H0 H1 H2 : Hp} {a : Addr} {o : HO}
theorem Ex.up {pa : List Addr} (x : Ex pa H H1) : Ex (a :: pa) H H1 := fun b o e n m => x b o e n fun z => m (List.mem_cons_of_mem _ z)
theorem Ok.up (k : Ok c I H) (h : H a = some o) (m : Mo o = true) : Ok (c.up a) (I.up a) H := ⟨k.tab, fun p hp => (List.mem_cons.mp hp).elim (fun z => z ▸ ⟨o, h, m⟩) (k.live p), k.inv⟩
theorem Ok.down (k : Ok (c.up a) (I.up a) H) : Ok c I H := ⟨k.tab, fun p hp => k.live p (List.mem_cons_of_mem _ hp), k.inv⟩
theorem Le.down (l : Le c I H0 H1) (h0 : H0 a = none) (l' : Le (c.up a) (I.up a) H1 H2) : Le c I H0 H2 :=
  ⟨fun b o e n m => l'.ex b o (l.ex b o e n m) n fun z => (List.mem_cons.mp z).elim (ne_of_none e h0) m, l'.ok.down, fun p z => l.fr p (l'.fr p z)⟩
theorem Ok.pin (k : Ok c I H) (m : a ∈ c.pa) (h : H a = some o) : Ok c (I.pin a m o) H := k.imp fun p => ⟨p, h⟩
theorem Le.unpin {m : a ∈ c.pa} (l : Le c (I.pin a m o) H H1) : Le c I H H1 := l.imp And.left
theorem Ok.unpin {m : a ∈ c.pa} (l : Ok c (I.pin a m o) H) : Ok c I H := l.imp And.left
/-- what was known before the container was made -/
theorem DD.upAt {K : PySem.W.Frag} {d : PyData} {v : V} (h : DD K c.pa H0 v d) (h0 : H0 a = none) (l : Le c I H0 H1) : DD K (c.up a).pa H1 v d := (DD.more h0 d v h).mono l.ex.up
theorem DDs.upAt {K : PySem.W.Frag} {ds : List PyData} {vs : List V} (h : DDs K c.pa H0 vs ds) (h0 : H0 a = none) (l : Le c I H0 H1) : DDs K (c.up a).pa H1 vs ds := (DDs.more h0 ds vs h).mono l.ex.up
/-- the container changes -/
theorem Le.put {o' : HO} (na : a ∉ c.pa) (l : Le (c.up a) (I.up a) H H1) (h : H1 a = some o) (m : Mo o = true) (m' : Mo o' = true) : Le (c.up a) (I.up a) H (upd H1 a o') :=
  .chg l (List.mem_cons_self ..) h m m' (I.sta H1 _ l.ok.inv (fun q hq => upd_ne fun z : q = a => na (z ▸ hq)) (upd_tups h (Mo.notup m)))
theorem Ex.chg {pa : List Addr} (m : a ∈ pa) : Ex pa H (upd H a o) := fun b o e n k => (upd_ne fun z : b = a => k (z ▸ m)).trans e
end
end K93
set_option maxHeartbeats 4000000
/-! K93B: the judgements by data, the rules of expressions and statements. -/
namespace K93
open PySem PySem.Spec PyProof.Rows L2

abbrev St := L2.St
/-! ### the widest readings; each stands behind a box, so that nothing looks into it unasked -/
structure Bx (p : Prop) : Prop where
  out : p
def tS (X : Cx) (e : Expr) : TE := fun σ H Q => Bx (∀ pins s, Inv X pins σ H s → wpAny (model X.prog X.w) X.A (eval e X.env) (EP X pins σ Q) X.xe s)
def tST (X : Cx) (e : Expr) : TT := fun σ H Q => Bx (∀ pins s, Inv X pins σ H s → wpAny (model X.prog X.w) X.A (isTrue e X.env (eval e X.env)) (TP X pins σ Q) X.xe s)
def tSW (X : Cx) (e : Expr) : TT := fun σ H Q => Bx (∀ (whole : Sem Value) pins s, Inv X pins σ H s → wpAny (model X.prog X.w) X.A (isTrue e X.env whole) (TP X pins σ Q) X.xe s)
def tSA (X : Cx) (es : List Expr) : TA := fun σ H Q => Bx (∀ (pos : Pos) pins s, Inv X pins σ H s → wpAny (model X.prog X.w) X.A (spliced (backTo pos (starEach es X.env))) (AP X pins σ Q) X.xe s)
def tSS (X : Cx) (st : Stmt) : TS := fun D σ H => Bx (∀ pins s, Inv X pins σ H s → wpAny (model X.prog X.w) X.A (exec st X.env) (SP X pins D) X.xe s)
def tSB (X : Cx) (st : List Stmt) : TS := fun D σ H => Bx (∀ pins s, Inv X pins σ H s → wpAny (model X.prog X.w) X.A (execs st X.env) (SP X pins D) X.xe s)
section
variable {X : Cx}
theorem peS {e : Expr} : PE X e (tS X e) := ⟨fun pins s σ H Q I h => h.out pins s I⟩
theorem ptS {e : Expr} : PT X e (tST X e) := ⟨fun pins s σ H Q I h => h.out pins s I⟩
theorem pwS {e : Expr} : PW X e (tSW X e) := ⟨fun w pins s σ H Q I h => h.out w pins s I⟩
theorem paS {es : List Expr} : PA X es (tSA X es) := ⟨fun pos pins s σ H Q I h => h.out pos pins s I⟩
theorem psS {st : Stmt} : PS X st (tSS X st) := ⟨fun pins s σ H D I h => h.out pins s I⟩
theorem pbS {st : List Stmt} : PSs X st (tSB X st) := ⟨fun pins s σ H D I h => h.out pins s I⟩
end
/-! ### the judgements -/
section
variable (X : Cx) (c : Kx) (I J : Ix c.pa)
/-- from H on, in a state that keeps I: e gives a v of which P holds, then J is kept -/
def EV (e : Expr) (σ : St) (H : Hp) (P : V → Hp → Prop) : Prop := ∀ H1, Le c I H H1 → ∀ Q : VK, (∀ v H2, Le c J H1 H2 → P v H2 → Q v H2) → tS X e σ H1 Q
abbrev ED (e : Expr) (σ : St) (H : Hp) (d : PyData) : Prop := EV X c I J e σ H fun v H' => DD X.K c.pa H' v d
def TV (e : Expr) (σ : St) (H : Hp) (b : Bool) : Prop := ∀ H1, Le c I H H1 → ∀ Q : Bool → Hp → Prop, (∀ H2, Le c J H1 H2 → Q b H2) → tST X e σ H1 Q
def WV (e : Expr) (σ : St) (H : Hp) (b : Bool) : Prop := ∀ H1, Le c I H H1 → ∀ Q : Bool → Hp → Prop, (∀ H2, Le c J H1 H2 → Q b H2) → tSW X e σ H1 Q
def AV (es : List Expr) (σ : St) (H : Hp) (R : List V → Hp → Prop) : Prop := ∀ H1, Le c I H H1 → ∀ Q : List V → Hp → Prop, (∀ vs H2, Le c J H1 H2 → R vs H2 → Q vs H2) → tSA X es σ H1 Q
abbrev AD (es : List Expr) (σ : St) (H : Hp) (ds : List PyData) : Prop := AV X c I J es σ H fun vs H' => DDs X.K c.pa H' vs ds
end
abbrev SS (X : Cx) (D : Ends) (st : Stmt) (σ : St) (H : Hp) : Prop := tSS X st D σ H
abbrev SB (X : Cx) (D : Ends) (st : List Stmt) (σ : St) (H : Hp) : Prop := tSB X st D σ H

section
variable {X : Cx} {c : Kx} {I J L : Ix c.pa} {σ : St} {H H' : Hp} {e a b : Expr} {es : List Expr} {P P' : V → Hp → Prop} {ta tb te : TE} {pos : Pos}
theorem EV.of (p : PE X e te) (q : ∀ H1, Le c I H H1 → ∀ Q : VK, (∀ v H2, Le c J H1 H2 → P v H2 → Q v H2) → te σ H1 Q) : EV X c I J e σ H P := fun H1 l Q k => ⟨fun pins s i => p.run pins s σ H1 Q i (q H1 l Q k)⟩
theorem TV.of {tt : TT} {k : Bool} (p : PT X e tt) (q : ∀ H1, Le c I H H1 → ∀ Q : Bool → Hp → Prop, (∀ H2, Le c J H1 H2 → Q k H2) → tt σ H1 Q) : TV X c I J e σ H k := fun H1 l Q k => ⟨fun pins s i => p.run pins s σ H1 Q i (q H1 l Q k)⟩
theorem EV.imp (h : EV X c I J e σ H P) (k : ∀ v H1, Le c J H H1 → P v H1 → P' v H1) : EV X c I J e σ H P' := fun H1 l Q q => h H1 l Q fun v H2 l2 p => q v H2 l2 (k v H2 (l.trans l2) p)
theorem EV.mono (h : EV X c I J e σ H P) (l : Le c L H H') : EV X c I J e σ H' P := fun H1 l1 Q q => h H1 (l.trans l1) Q q
theorem TV.mono {k : Bool} (h : TV X c I J e σ H k) (l : Le c L H H') : TV X c I J e σ H' k := fun H1 l1 Q q => h H1 (l.trans l1) Q q
theorem ED.is {d d' : PyData} (h : ED X c I J e σ H d) (q : d = d') : ED X c I J e σ H d' := q ▸ h
theorem TV.is {k k' : Bool} (h : TV X c I J e σ H k) (q : k = k') : TV X c I J e σ H k' := q ▸ h

/-! ### names and constants -/
theorem ev_var (i : Nat) {x : Str} {v : V} (hs : σ[i]? = some (some v)) (hN : X.N[i]? = some x := by rfl) (hv : Vis X.env.scope x := by first | exact Or.inl rfl | exact Or.inr (Or.inl rfl) | exact Or.inr (Or.inr rfl))
    (hd : (x == ("__debug__" : Str)) = false := by decide) (hcd : (x == ("__classdict__" : Str)) = false := by decide) : EV X c I I (.Name x pos) σ H fun v' _ => v' = v :=
  EV.of (pe_var hN hv hd hcd) fun H1 l Q k => ⟨v, hs, k v H1 (.refl l.ok) rfl⟩
theorem ed_var (i : Nat) {x : Str} {v : V} {d : PyData} (hs : σ[i]? = some (some v)) (hd' : DD X.K c.pa H v d) (hN : X.N[i]? = some x := by rfl) (hv : Vis X.env.scope x := by first | exact Or.inl rfl | exact Or.inr (Or.inl rfl) | exact Or.inr (Or.inr rfl))
    (hd : (x == ("__debug__" : Str)) = false := by decide) (hcd : (x == ("__classdict__" : Str)) = false := by decide) : ED X c I I (.Name x pos) σ H d :=
  EV.of (pe_var hN hv hd hcd) fun H1 l Q k => ⟨v, hs, k v H1 (.refl l.ok) (l.dd hd')⟩
theorem ed_int {i : Int} {j : Nat} : ED X c I I (.Constant (.int i) j pos) σ H (.int i) := EV.of pe_int fun H1 l Q k => k _ H1 (.refl l.ok) (.int i)
theorem ed_bl {i : Bool} {j : Nat} : ED X c I I (.Constant (.bool i) j pos) σ H (.bool i) := EV.of pe_bl fun H1 l Q k => k _ H1 (.refl l.ok) (.bl i)
theorem ed_str {i : Str} {j : Nat} : ED X c I I (.Constant (.str i) j pos) σ H (.str i) := EV.of pe_str fun H1 l Q k => k _ H1 (.refl l.ok) (.str i)
theorem ed_non {j : Nat} : ED X c I I (.Constant .none j pos) σ H .none := EV.of pe_non fun H1 l Q k => k _ H1 (.refl l.ok) .non
/-- a module's int -/
theorem ed_glob {x : Str} {i : Int} {t : Tok} (hg : Gl X x) (hm : X.mg x = some (.int i t)) (hd : (x == ("__debug__" : Str)) = false := by decide) : ED X c I I (.Name x pos) σ H (.int i) :=
  EV.of (pe_glob (v := .int i) hg hm ⟨t, rfl⟩ hd) fun H1 l Q k => k _ H1 (.refl l.ok) (.int i)

/-! ### two operands -/
theorem ev_op {op : Operator} {r : R2} {Pa Pb Pz : V → Hp → Prop} (ho : OpR X (binaryOp op) r) (ha : EV X c I J a σ H Pa) (hb : EV X c J L b σ H Pb) (ma : ∀ v H1 H2, Le c L H1 H2 → Pa v H1 → Pa v H2)
    (hr : ∀ x y H1, Le c L H H1 → Pa x H1 → Pb y H1 → ∀ Q : VK, (∀ z H2, Le c L H1 H2 → Pz z H2 → Q z H2) → r x y H1 Q) : EV X c I L (.BinOp a op b pos) σ H Pz :=
  EV.of (pe_op ho peS peS) fun H1 l Q k => ha H1 l _ fun x H2 l2 p => hb H2 (l.trans l2) _ fun y H3 l3 q => hr x y H3 ((l.trans l2).trans l3) (ma x H2 H3 l3 p) q Q fun z H4 l4 w => k z H4 ((l2.trans l3).trans l4) w
theorem mdd {d : PyData} {K : PySem.W.Frag} : ∀ v H1 H2, Le c L H1 H2 → DD K c.pa H1 v d → DD K c.pa H2 v d := fun _ _ _ l h => l.dd h
theorem meq {x : V} : ∀ v H1 H2, Le c L H1 H2 → v = x → v = x := fun _ _ _ _ h => h
theorem ed_opI {op : Operator} {C : Int → Int → Prop} {g : Int → Int → Int} {i j : Int} (ho : OpR X (binaryOp op) (rI C fun i j => .int (g i j))) (hc : C i j) (ha : ED X c I J a σ H (.int i)) (hb : ED X c J L b σ H (.int j)) : ED X c I L (.BinOp a op b pos) σ H (.int (g i j)) :=
  ev_op ho ha hb mdd fun x y H1 l p q Q k => ⟨i, j, p.intOf, q.intOf, hc, k _ H1 (.refl l.ok) (.int _)⟩
theorem ed_opI0 {op : Operator} {g : Int → Int → Int} {i j : Int} (ho : OpR X (binaryOp op) (rI0 fun i j => .int (g i j))) (ha : ED X c I J a σ H (.int i)) (hb : ED X c J L b σ H (.int j)) : ED X c I L (.BinOp a op b pos) σ H (.int (g i j)) :=
  ev_op ho ha hb mdd fun x y H1 l p q Q k => ⟨i, j, p.intOf, q.intOf, k _ H1 (.refl l.ok) (.int _)⟩
theorem ed_add {i j : Int} (ha : ED X c I J a σ H (.int i)) (hb : ED X c J L b σ H (.int j)) : ED X c I L (.BinOp a .Add b pos) σ H (.int (i + j)) := ed_opI0 op_add ha hb
theorem ed_sub {i j : Int} (ha : ED X c I J a σ H (.int i)) (hb : ED X c J L b σ H (.int j)) : ED X c I L (.BinOp a .Sub b pos) σ H (.int (i - j)) := ed_opI0 op_sub ha hb
theorem ed_mul {i j : Int} (hc : CMul i j) (ha : ED X c I J a σ H (.int i)) (hb : ED X c J L b σ H (.int j)) : ED X c I L (.BinOp a .Mult b pos) σ H (.int (i * j)) := ed_opI op_mul hc ha hb
theorem ed_mod {i j : Int} (hc : 0 < j) (ha : ED X c I J a σ H (.int i)) (hb : ED X c J L b σ H (.int j)) : ED X c I L (.BinOp a .Mod b pos) σ H (.int (i % j)) := ed_opI op_mod hc ha hb
theorem ed_div {i j : Int} (hc : CDiv i j) (ha : ED X c I J a σ H (.int i)) (hb : ED X c J L b σ H (.int j)) : ED X c I L (.BinOp a .FloorDiv b pos) σ H (.int (i / j)) := ed_opI op_fdiv hc ha hb
theorem ed_pow {i j : Int} (hc : CPow i j) (ha : ED X c I J a σ H (.int i)) (hb : ED X c J L b σ H (.int j)) : ED X c I L (.BinOp a .Pow b pos) σ H (.int (i ^ j.toNat)) := ed_opI op_pow hc ha hb

/-! ### comparisons -/
theorem ev_cmp {op : CmpOp} {r : R2} {Pa Pb Pz : V → Hp → Prop} (ho : OpR X (compareOp op) r) (ha : EV X c I J a σ H Pa) (hb : EV X c J L b σ H Pb) (ma : ∀ v H1 H2, Le c L H1 H2 → Pa v H1 → Pa v H2)
    (hr : ∀ x y H1, Le c L H H1 → Pa x H1 → Pb y H1 → ∀ Q : VK, (∀ z H2, Le c L H1 H2 → Pz z H2 → Q z H2) → r x y H1 Q) (hm : behindInMarks op b = false) : EV X c I L (.Compare a [op] [b] pos) σ H Pz :=
  EV.of (pe_cmpR ho peS peS hm) fun H1 l Q k => ha H1 l _ fun x H2 l2 p => hb H2 (l.trans l2) _ fun y H3 l3 q => hr x y H3 ((l.trans l2).trans l3) (ma x H2 H3 l3 p) q Q fun z H4 l4 w => k z H4 ((l2.trans l3).trans l4) w
theorem tv_cmp {op : CmpOp} {r : R2} {Pa Pb : V → Hp → Prop} {k : Bool} (ho : OpR X (compareOp op) r) (ha : EV X c I J a σ H Pa) (hb : EV X c J L b σ H Pb) (ma : ∀ v H1 H2, Le c L H1 H2 → Pa v H1 → Pa v H2)
    (hr : ∀ x y H1, Le c L H H1 → Pa x H1 → Pb y H1 → ∀ Q : VK, (∀ H2, Le c L H1 H2 → Q (.bl k) H2) → r x y H1 Q) (hm : behindInMarks op b = false) : TV X c I L (.Compare a [op] [b] pos) σ H k :=
  TV.of (pt_cmpR ho peS peS hm) fun H1 l Q q => ha H1 l _ fun x H2 l2 p => hb H2 (l.trans l2) _ fun y H3 l3 p2 => hr x y H3 ((l.trans l2).trans l3) (ma x H2 H3 l3 p) p2 _ fun H4 l4 => ⟨k, rfl, q H4 ((l2.trans l3).trans l4)⟩
theorem tv_cmpI {op : CmpOp} {g : Int → Int → Bool} {i j : Int} (ho : OpR X (compareOp op) (rI0 fun i j => .bl (g i j))) (ha : ED X c I J a σ H (.int i)) (hb : ED X c J L b σ H (.int j)) (hm : behindInMarks op b = false) : TV X c I L (.Compare a [op] [b] pos) σ H (g i j) :=
  tv_cmp ho ha hb mdd (fun x y H1 l p q Q k => ⟨i, j, p.intOf, q.intOf, k H1 (.refl l.ok)⟩) hm
theorem ed_cmpI {op : CmpOp} {g : Int → Int → Bool} {i j : Int} (ho : OpR X (compareOp op) (rI0 fun i j => .bl (g i j))) (ha : ED X c I J a σ H (.int i)) (hb : ED X c J L b σ H (.int j)) (hm : behindInMarks op b = false) : ED X c I L (.Compare a [op] [b] pos) σ H (.bool (g i j)) :=
  ev_cmp ho ha hb mdd (fun x y H1 l p q Q k => ⟨i, j, p.intOf, q.intOf, k _ H1 (.refl l.ok) (.bl _)⟩) hm
theorem tv_lt {i j : Int} (ha : ED X c I J a σ H (.int i)) (hb : ED X c J L b σ H (.int j)) : TV X c I L (.Compare a [.Lt] [b] pos) σ H (decide (i < j)) := tv_cmpI op_lt ha hb (nomark _)
theorem tv_le {i j : Int} (ha : ED X c I J a σ H (.int i)) (hb : ED X c J L b σ H (.int j)) : TV X c I L (.Compare a [.LtE] [b] pos) σ H (decide (i ≤ j)) := tv_cmpI op_le ha hb (nomark _)
theorem tv_gt {i j : Int} (ha : ED X c I J a σ H (.int i)) (hb : ED X c J L b σ H (.int j)) : TV X c I L (.Compare a [.Gt] [b] pos) σ H (decide (j < i)) := tv_cmpI op_gt ha hb (nomark _)
theorem tv_ge {i j : Int} (ha : ED X c I J a σ H (.int i)) (hb : ED X c J L b σ H (.int j)) : TV X c I L (.Compare a [.GtE] [b] pos) σ H (decide (j ≤ i)) := tv_cmpI op_ge ha hb (nomark _)
theorem ed_lt {i j : Int} (ha : ED X c I J a σ H (.int i)) (hb : ED X c J L b σ H (.int j)) : ED X c I L (.Compare a [.Lt] [b] pos) σ H (.bool (decide (i < j))) := ed_cmpI op_lt ha hb (nomark _)
theorem ed_le {i j : Int} (ha : ED X c I J a σ H (.int i)) (hb : ED X c J L b σ H (.int j)) : ED X c I L (.Compare a [.LtE] [b] pos) σ H (.bool (decide (i ≤ j))) := ed_cmpI op_le ha hb (nomark _)
theorem ed_gt {i j : Int} (ha : ED X c I J a σ H (.int i)) (hb : ED X c J L b σ H (.int j)) : ED X c I L (.Compare a [.Gt] [b] pos) σ H (.bool (decide (j < i))) := ed_cmpI op_gt ha hb (nomark _)
theorem ed_ge {i j : Int} (ha : ED X c I J a σ H (.int i)) (hb : ED X c J L b σ H (.int j)) : ED X c I L (.Compare a [.GtE] [b] pos) σ H (.bool (decide (j ≤ i))) := ed_cmpI op_ge ha hb (nomark _)
theorem tv_eqI {i j : Int} (ha : ED X c I J a σ H (.int i)) (hb : ED X c J L b σ H (.int j)) : TV X c I L (.Compare a [.Eq] [b] pos) σ H (decide (i = j)) :=
  tv_cmp op_eq ha hb mdd (fun x y H1 l p q Q k => by
    rw [p.intOf, q.intOf]
    refine ⟨rfl, ?_⟩
    rw [dec_int, Bool.beq_eq_decide_eq]
    exact k H1 (.refl l.ok)) (nomark _)
theorem ed_eqI {i j : Int} (ha : ED X c I J a σ H (.int i)) (hb : ED X c J L b σ H (.int j)) : ED X c I L (.Compare a [.Eq] [b] pos) σ H (.bool (decide (i = j))) :=
  ev_cmp op_eq ha hb mdd (fun x y H1 l p q Q k => by
    rw [p.intOf, q.intOf]
    refine ⟨rfl, ?_⟩
    rw [dec_int, Bool.beq_eq_decide_eq]
    exact k _ H1 (.refl l.ok) (.bl _)) (nomark _)
theorem tv_neI {i j : Int} (ha : ED X c I J a σ H (.int i)) (hb : ED X c J L b σ H (.int j)) : TV X c I L (.Compare a [.NotEq] [b] pos) σ H (!decide (i = j)) :=
  tv_cmp op_ne ha hb mdd (fun x y H1 l p q Q k => by
    rw [p.intOf, q.intOf]
    refine ⟨rfl, ?_⟩
    rw [dec_int, Bool.beq_eq_decide_eq]
    exact k H1 (.refl l.ok)) (nomark _)
/-- == and != of data without other objects -/
theorem tv_eqD {d d' : PyData} (hu : X.A.units + 64 < cLine) (ha : ED X c I J a σ H d) (hb : ED X c J L b σ H d') (p1 : pl d = true) (p2 : pl d' = true) (s1 : SeqAt.shaped d = true) (s2 : SeqAt.shaped d' = true) : TV X c I L (.Compare a [.Eq] [b] pos) σ H (PyData.eqv d d') :=
  tv_cmp (op_eqD hu) ha hb mdd (fun x y H1 l p q Q k => ⟨d, d', p.dp _ _ p1, q.dp _ _ p2, s1, s2, k H1 (.refl l.ok)⟩) (nomark _)
theorem ed_eqD {d d' : PyData} (hu : X.A.units + 64 < cLine) (ha : ED X c I J a σ H d) (hb : ED X c J L b σ H d') (p1 : pl d = true) (p2 : pl d' = true) (s1 : SeqAt.shaped d = true) (s2 : SeqAt.shaped d' = true) : ED X c I L (.Compare a [.Eq] [b] pos) σ H (.bool (PyData.eqv d d')) :=
  ev_cmp (op_eqD hu) ha hb mdd (fun x y H1 l p q Q k => ⟨d, d', p.dp _ _ p1, q.dp _ _ p2, s1, s2, k _ H1 (.refl l.ok) (.bl _)⟩) (nomark _)
theorem tv_neD {d d' : PyData} (hu : X.A.units + 64 < cLine) (ha : ED X c I J a σ H d) (hb : ED X c J L b σ H d') (p1 : pl d = true) (p2 : pl d' = true) (s1 : SeqAt.shaped d = true) (s2 : SeqAt.shaped d' = true) : TV X c I L (.Compare a [.NotEq] [b] pos) σ H (!PyData.eqv d d') :=
  tv_cmp (op_neD hu) ha hb mdd (fun x y H1 l p q Q k => ⟨d, d', p.dp _ _ p1, q.dp _ _ p2, s1, s2, k H1 (.refl l.ok)⟩) (nomark _)
/-- a <= b <= c, of ints -/
theorem ed_chainLe {z : Expr} {i j k : Int} (ha : ED X c I I a σ H (.int i)) (hb : ED X c I I b σ H (.int j)) (hz : ED X c I I z σ H (.int k)) (hm : lastMarks [CmpOp.LtE, CmpOp.LtE] [b, z] = false := by rfl) : ED X c I I (.Compare a [.LtE, .LtE] [b, z] pos) σ H (.bool (decide (i ≤ j) && decide (j ≤ k))) :=
  EV.of (pe_chain op_le op_le peS peS peS hm) fun H1 l Q q => ha H1 l _ fun x H2 l2 p => hb H2 (l.trans l2) _ fun y H3 l3 p2 => ⟨i, j, p.intOf, p2.intOf, decide (i ≤ j), rfl, by
    revert q
    cases decide (i ≤ j) with
    | true => exact fun q => hz H3 ((l.trans l2).trans l3) _ fun z H4 l4 p3 => ⟨j, k, p2.intOf, p3.intOf, q _ H4 ((l2.trans l3).trans l4) (.bl _)⟩
    | false => exact fun q => q _ H3 (l2.trans l3) (.bl _)⟩
theorem tv_chainLe {z : Expr} {i j k : Int} (ha : ED X c I I a σ H (.int i)) (hb : ED X c I I b σ H (.int j)) (hz : ED X c I I z σ H (.int k)) (hm : lastMarks [CmpOp.LtE, CmpOp.LtE] [b, z] = false := by rfl) : TV X c I I (.Compare a [.LtE, .LtE] [b, z] pos) σ H (decide (i ≤ j) && decide (j ≤ k)) :=
  TV.of (pt_chain op_le op_le peS peS peS hm) fun H1 l Q q => ha H1 l _ fun x H2 l2 p => hb H2 (l.trans l2) _ fun y H3 l3 p2 => ⟨i, j, p.intOf, p2.intOf, decide (i ≤ j), rfl, by
    revert q
    cases decide (i ≤ j) with
    | true => exact fun q => hz H3 ((l.trans l2).trans l3) _ fun z H4 l4 p3 => ⟨j, k, p2.intOf, p3.intOf, _, rfl, q H4 ((l2.trans l3).trans l4)⟩
    | false => exact fun q => ⟨_, rfl, q H3 (l2.trans l3)⟩⟩
end
end K93
set_option maxHeartbeats 4000000
/-! K93C: zip of three tuples, zip of a tuple and a list. -/
namespace K93
open PySem PySem.Spec PyProof.Rows L2
theorem mem5 {b N : Nat} (h : b ∈ [N + 5, N + 4, N, N + 1, N + 2]) : b ∈ [N + 5, N + 3, N + 4, N, N + 1, N + 2] := by
  simp only [List.mem_cons, List.not_mem_nil, or_false] at h ⊢
  omega
theorem mem4 {b N : Nat} (h : b ∈ [N + 4, N + 3, N, N + 1]) : b ∈ [N + 4, N + 2, N + 3, N, N + 1] := by
  simp only [List.mem_cons, List.not_mem_nil, or_false] at h ⊢
  omega
theorem ge5 {b N : Nat} (h : b ∈ [N + 5, N + 3, N + 4, N, N + 1, N + 2]) : N ≤ b := by
  simp only [List.mem_cons, List.not_mem_nil, or_false] at h
  omega
theorem ge4 {b N : Nat} (h : b ∈ [N + 4, N + 2, N + 3, N, N + 1]) : N ≤ b := by
  simp only [List.mem_cons, List.not_mem_nil, or_false] at h
  omega
/-- what an iterator of a tuple or a list at a (u: a tuple) is at turn i; its items -/
def SeqIt (u : Bool) (h : Heap) (it a : Addr) (i : Nat) : Prop := if u then h.IsTupleIter it a i else h.IsListIter it a i
def SeqAt' (u : Bool) (h : Heap) (a : Addr) (its : Array Value) : Prop := if u then h.IsTuple a its else h.IsList a its
def SeqH (u : Bool) (H : Hp) (a : Addr) (xs : List V) : Prop := H a = some (if u then .tup xs else .lst xs)
theorem SeqIt.at {u : Bool} {h h' : Heap} {it a : Addr} {i : Nat} (s : SeqIt u h it a i) (k : ∀ o, h.get? it = some o → h'.get? it = some o) : SeqIt u h' it a i := by
  unfold SeqIt at *
  cases u with
  | true => exact Heap.IsTupleIter.at (by simpa using s) k
  | false => exact Heap.IsListIter.at (by simpa using s) k
theorem SeqIt.obj {u : Bool} {h : Heap} {it a : Addr} {i : Nat} (s : SeqIt u h it a i) : ∃ o, h.get? it = some o ∧ ∀ v, o.data ≠ .cell v := by
  unfold SeqIt at s
  cases u with
  | true =>
    obtain ⟨o, e, _, d⟩ := (by simpa using s : h.IsTupleIter it a i)
    exact ⟨o, e, fun v q => by rw [d] at q; cases q⟩
  | false =>
    obtain ⟨o, e, _, d⟩ := (by simpa using s : h.IsListIter it a i)
    exact ⟨o, e, fun v q => by rw [d] at q; cases q⟩
theorem seq_draws {prog : Program} {w : World} {A : Around} (hh : A.handled = none) (u : Bool) (it a : Addr) (hne : a ≠ it) (items : Array Value) :
    Draws prog w A it [it, a] items.size (fun i v => items[i]? = some v) (fun i h => SeqIt u h it a i ∧ SeqAt' u h a items) := by
  cases u with
  | true => exact Draws.tuple hh it a hne items
  | false => exact Draws.list hh it a hne items
theorem seq_of {X : Cx} {pins : List (Addr × Obj)} {σ : L2.St} {H : Hp} {s : Shared} (I : Inv X pins σ H s) {u : Bool} {a : Addr} {xs : List V} (h : SeqH u H a xs) :
    ∃ its : List Value, Vals xs its ∧ SeqAt' u s.heap a its.toArray ∧ a < s.heap.objs.size := by
  unfold SeqH at h
  cases u with
  | true =>
    obtain ⟨its, r, p, _⟩ := I.tuple (.of h)
    exact ⟨its, r, p, (I.hok a _ h).lt⟩
  | false =>
    obtain ⟨its, r, p, _⟩ := I.list (.of h)
    exact ⟨its, r, p.isList, (I.hok a _ h).lt⟩
def itObj (u : Bool) (a : Addr) : Obj := { cls := .type (if u then "tuple_iterator" else "list_iterator"), data := .fields #[.ref a, .int 0 0] }
theorem seq_begins (u : Bool) (a : Addr) (its : Array Value) : Begins (.ref a) (itObj u a) (fun h => SeqAt' u h a its) := by
  cases u with
  | true => exact begins_tuple a its
  | false => exact begins_list a its
theorem seq_begun {u : Bool} {h : Heap} {it a : Addr} (e : h.get? it = some (itObj u a)) : SeqIt u h it a 0 := by
  unfold SeqIt
  cases u with
  | true => exact ⟨_, e, rfl, rfl⟩
  | false => exact ⟨_, e, rfl, rfl⟩
theorem val_at {xs : List V} {its : List Value} (r : Vals xs its) {i : Nat} {v : Value} (e : its.toArray[i]? = some v) : ∃ x, xs[i]? = some x ∧ RelV x v := by
  have e1 : its[i]? = some v := by simpa using e
  cases q : xs[i]? with
  | none =>
    rw [r.none_of q] at e1
    cases e1
  | some x =>
    obtain ⟨u, h1, h2⟩ := r.get q
    rw [h1] at e1
    cases e1
    exact ⟨x, rfl, h2⟩
/-- zip of three tuples, of xs, ys, zs -/
def ItZ3 (a b d : Addr) (xs ys zs : List V) : It :=
  ⟨fun i H => SeqH true H a xs ∧ SeqH true H b ys ∧ SeqH true H d zs ∧ i < min (min xs.length ys.length) zs.length,
    fun i H v H' => ∃ T x y z, v = .ref T ∧ H T = none ∧ H' = upd H T (.tup [x, y, z]) ∧ xs[i]? = some x ∧ ys[i]? = some y ∧ zs[i]? = some z,
    fun i H => SeqH true H a xs ∧ SeqH true H b ys ∧ SeqH true H d zs ∧ i = min (min xs.length ys.length) zs.length⟩
theorem turn_z3 {P : Program} {w : World} {K : PySem.W.Frag} {elts : List Expr} {kk : Nat} {tpos : Pos} {a b d : Addr} {xs ys zs : List V} {N : Nat} (ha : a < N) (hb : b < N) (hd : d < N) :
    Turn P w K (.Tuple elts kk tpos) (ItZ3 a b d xs ys zs) [N + 5, N + 3, N + 4, N, N + 1, N + 2] (N + 5) (fun i h => IsZip h (N + 5) (N + 3) (N + 4) .none ∧ IsTupOf3 h (N + 3) (.ref N) (.ref (N + 1)) (.ref (N + 2)) ∧ (∃ x y z, IsTupOf3 h (N + 4) x y z) ∧
      SeqIt true h N a i ∧ SeqIt true h (N + 1) b i ∧ SeqIt true h (N + 2) d i) where
  mem := by simp
  obj := fun i h st c hc => by
    obtain ⟨hz, hT, ⟨x, y, z, hO⟩, h1, h2, h3⟩ := st
    have e' : c = N + 5 ∨ c = N + 3 ∨ c = N + 4 ∨ c = N ∨ c = N + 1 ∨ c = N + 2 := by simpa using hc
    rcases e' with rfl | rfl | rfl | rfl | rfl | rfl
    · exact ⟨_, hz, fun v q => nomatch q⟩
    · exact ⟨_, hT, fun v q => nomatch q⟩
    · exact ⟨_, hO, fun v q => nomatch q⟩
    · exact h1.obj
    · exact h2.obj
    · exact h3.obj
  keep := fun i h h' st k => by
    obtain ⟨hz, hT, ⟨x, y, z, hO⟩, h1, h2, h3⟩ := st
    exact ⟨k (N + 5) (by simp) _ hz, k (N + 3) (by simp) _ hT, ⟨x, y, z, k (N + 4) (by simp) _ hO⟩, h1.at fun o q => k N (by simp) o q, h2.at fun o q => k (N + 1) (by simp) o q, h3.at fun o q => k (N + 2) (by simp) o q⟩
  item := by
    intro X hP hw hK hc i pins s σ H E I hf st hg
    subst hP hw hK
    obtain ⟨hz, hT, hO, h1, h2, h3⟩ := st
    obtain ⟨qa, qb, qd, hi⟩ := hg
    obtain ⟨ia, ra, pa, _⟩ := seq_of I qa
    obtain ⟨ib, rb, pb, _⟩ := seq_of I qb
    obtain ⟨id', rd, pd, _⟩ := seq_of I qd
    have hh : X.A.in1.handled = none := I.ok.hd hc
    have W := GoesN.zip3 (prog := X.prog) (w := X.w) (elts := elts) (x1 := kk) (pos := tpos) (zip_sep3 (N := N) (fp1 := [a]) (fp2 := [b]) (fp3 := [d]) (by simpa using ha) (by simpa using hb) (by simpa using hd))
      (seq_draws hh true N a (Nat.ne_of_lt ha) ia.toArray) (seq_draws hh true (N + 1) b (Nat.ne_of_lt (Nat.lt_succ_of_lt hb)) ib.toArray) (seq_draws hh true (N + 2) d (Nat.ne_of_lt (Nat.lt_succ_of_lt (Nat.lt_succ_of_lt hd))) id'.toArray)
    have la := ra.length
    have lb := rb.length
    have ld := rd.length
    refine wpAny_mono (W.goes i s (fun u s2 => ∃ x H', Inv X pins σ H' s2 ∧ RelV x u ∧ (ItZ3 a b d xs ys zs).yld i H x H' ∧ _ ∧ ∀ b ∈ [N + 5, N + 3, N + 4, N, N + 1, N + 2], H' b = none) E (by simp only [List.size_toArray]; omega) ⟨hz, hT, hO, ⟨h1, pa⟩, ⟨h2, pb⟩, ⟨h3, pd⟩⟩ fun v h' tk hY st' hk htk => ?_) (fun r s1 ⟨v, e, q⟩ => ⟨v, e, q⟩) fun _ _ z => z
    obtain ⟨T, x, y, u, ev, hge, hx, hy, hu, hTu⟩ := hY
    subst ev
    obtain ⟨vx, ex, rx⟩ := val_at ra hx
    obtain ⟨vy, ey, ry⟩ := val_at rb hy
    obtain ⟨vu, eu, ru⟩ := val_at rd hu
    have nT : H T = none := I.hok.fresh hge
    obtain ⟨oT, oT1, oT2, nn, oT3⟩ := hTu
    have new : ObjOk X.prog X.w (upd H T (.tup [vx, vy, vu])) h' T (.tup [vx, vy, vu]) := ⟨by show 3 ≤ sizeLine; decide, [x, y, u], .cons rx (.cons ry (.cons ru .nil)), ⟨oT, oT1, oT2, nn, oT3⟩⟩
    obtain ⟨hz', hT', hO', ⟨h1', _⟩, ⟨h2', _⟩, ⟨h3', _⟩⟩ := st'
    refine ⟨.ref T, upd H T (.tup [vx, vy, vu]), I.turnedNew (ch := [N + 5, N + 4, N, N + 1, N + 2]) (fun b o hb q => hk b o hb q) (fun b hb => hf b (mem5 hb)) hge new, rfl, ⟨T, vx, vy, vu, rfl, nT, rfl, ex, ey, eu⟩, ⟨hz', hT', hO', h1', h2', h3'⟩, fun b hb => ?_⟩
    · have hlt : b < s.heap.objs.size := by
        have e' : b = N + 5 ∨ b = N + 3 ∨ b = N + 4 ∨ b = N ∨ b = N + 1 ∨ b = N + 2 := by simpa using hb
        obtain ⟨_, _, _, hO⟩ := hO
        obtain ⟨_, e1, _⟩ := h1.obj
        obtain ⟨_, e2, _⟩ := h2.obj
        obtain ⟨_, e3, _⟩ := h3.obj
        rcases e' with rfl | rfl | rfl | rfl | rfl | rfl
        · exact Heap.lt_size hz
        · exact Heap.lt_size hT
        · exact Heap.lt_size hO
        · exact Heap.lt_size e1
        · exact Heap.lt_size e2
        · exact Heap.lt_size e3
      rw [upd_ne (Nat.ne_of_lt (Nat.lt_of_lt_of_le hlt hge))]
      exact (hf b hb).1
  done := by
    intro X hP hw hK hc i pins s σ H E I hf st hg
    subst hP hw hK
    obtain ⟨hz, hT, hO, h1, h2, h3⟩ := st
    obtain ⟨qa, qb, qd, hi⟩ := hg
    obtain ⟨ia, ra, pa, _⟩ := seq_of I qa
    obtain ⟨ib, rb, pb, _⟩ := seq_of I qb
    obtain ⟨id', rd, pd, _⟩ := seq_of I qd
    have hh : X.A.in1.handled = none := I.ok.hd hc
    have W := GoesN.zip3 (prog := X.prog) (w := X.w) (elts := elts) (x1 := kk) (pos := tpos) (zip_sep3 (N := N) (fp1 := [a]) (fp2 := [b]) (fp3 := [d]) (by simpa using ha) (by simpa using hb) (by simpa using hd))
      (seq_draws hh true N a (Nat.ne_of_lt ha) ia.toArray) (seq_draws hh true (N + 1) b (Nat.ne_of_lt (Nat.lt_succ_of_lt hb)) ib.toArray) (seq_draws hh true (N + 2) d (Nat.ne_of_lt (Nat.lt_succ_of_lt (Nat.lt_succ_of_lt hd))) id'.toArray)
    have la := ra.length
    have lb := rb.length
    have ld := rd.length
    have en : min (min ia.toArray.size ib.toArray.size) id'.toArray.size = i := by simp only [List.size_toArray]; omega
    refine W.stops s (fun s1 => Inv X pins σ H s1) E (by rw [en]; exact ⟨hz, hT, hO, ⟨h1, pa⟩, ⟨h2, pb⟩, ⟨h3, pd⟩⟩) fun h' tk hk htk => ?_
    refine I.turnedL (ch := [N + 5, N + 4, N, N + 1, N + 2]) (fun b o hb q => hk b o hb q) fun b hb => hf b (mem5 hb)
  self := fun A i s Q E st h => wpAny_pyIter_zip st.1 h
def iZ3 (ta : TA) : L2.TI := fun σ H R => ta σ H fun vs H1 => ∃ a b d xs ys zs, vs = [.ref a, .ref b, .ref d] ∧ H1 a = some (.tup xs) ∧ H1 b = some (.tup ys) ∧ H1 d = some (.tup zs) ∧ R (ItZ3 a b d xs ys zs) H1
theorem pi_z3 {X : Cx} {e e2 e3 : Expr} {ta : TA} {p pos tpos : Pos} {elts : List Expr} {kk : Nat} (hg : Gl X "zip") (hm : X.mg "zip" = none) (ha : PA X [e, e2, e3] ta)
    (hs : starEach [e, e2, e3] X.env = (false, eval e X.env) :: starEach [e2, e3] X.env := by rfl) (hpl : (backTo pos (starEach [e2, e3] X.env)).any (·.1) = false := by rfl) :
    PI X (.Tuple elts kk tpos) (.Call (.Name "zip" p) [e, e2, e3] [] pos) (iZ3 ta) := by
  refine ⟨fun pins s σ H R I h => ?_⟩
  refine Call_ (ld_blt I hg hm boot_zip (callWith_type1 (thn (ha.run pos pins s σ H _ I h) fun us s1 ⟨vs, H1, I1, r1, q1⟩ => ?_) hs hpl))
  obtain ⟨a, b, d, xs, ys, zs, ex, qa, qb, qd, q⟩ := q1
  subst ex
  cases r1 with
  | cons r rr =>
    cases rr with
    | cons r' rr =>
      cases rr with
      | cons r'' rr =>
        cases rr
        cases r
        cases r'
        cases r''
        obtain ⟨ia, ra, pa, la⟩ := seq_of (u := true) I1 qa
        obtain ⟨ib, rb, pb, lb⟩ := seq_of (u := true) I1 qb
        obtain ⟨id', rd, pd, ld⟩ := seq_of (u := true) I1 qd
        refine zip_begins3 (seq_begins true a ia.toArray) (seq_begins true b ib.toArray) (seq_begins true d id'.toArray) pa pb pd fun h' hz hT hO h1 h2 h3 hsz hk => wpAny_pyIter_zip hz ?_
        have I2 : Inv X pins σ H1 { s1 with heap := h' } := I1.kept (t' := s1.toks) hk
        refine ⟨_, _, _, _, H1, rfl, I2, turn_z3 la lb ld, ⟨hz, hT, ⟨_, _, _, hO⟩, seq_begun h1, seq_begun h2, seq_begun h3⟩, fun c hc => ?_, q⟩
        have hle : s1.heap.objs.size ≤ c := ge5 hc
        exact I1.fpOk hle (I1.hok.fresh hle)
/-- zip of a tuple and a list, of xs, ys -/
def ItZ2 (a b : Addr) (xs ys : List V) : It :=
  ⟨fun i H => SeqH true H a xs ∧ SeqH false H b ys ∧ i < min xs.length ys.length,
    fun i H v H' => ∃ T x y, v = .ref T ∧ H T = none ∧ H' = upd H T (.tup [x, y]) ∧ xs[i]? = some x ∧ ys[i]? = some y,
    fun i H => SeqH true H a xs ∧ SeqH false H b ys ∧ i = min xs.length ys.length⟩
theorem turn_z2 {P : Program} {w : World} {K : PySem.W.Frag} {elts : List Expr} {kk : Nat} {tpos : Pos} {a b : Addr} {xs ys : List V} {N : Nat} (ha : a < N) (hb : b < N) :
    Turn P w K (.Tuple elts kk tpos) (ItZ2 a b xs ys) [N + 4, N + 2, N + 3, N, N + 1] (N + 4) (fun i h => IsZip h (N + 4) (N + 2) (N + 3) .none ∧ IsTupOf2 h (N + 2) (.ref N) (.ref (N + 1)) ∧ (∃ x y, IsTupOf2 h (N + 3) x y) ∧
      SeqIt true h N a i ∧ SeqIt false h (N + 1) b i) where
  mem := by simp
  obj := fun i h st c hc => by
    obtain ⟨hz, hT, ⟨x, y, hO⟩, h1, h2⟩ := st
    have e' : c = N + 4 ∨ c = N + 2 ∨ c = N + 3 ∨ c = N ∨ c = N + 1 := by simpa using hc
    rcases e' with rfl | rfl | rfl | rfl | rfl
    · exact ⟨_, hz, fun v q => nomatch q⟩
    · exact ⟨_, hT, fun v q => nomatch q⟩
    · exact ⟨_, hO, fun v q => nomatch q⟩
    · exact h1.obj
    · exact h2.obj
  keep := fun i h h' st k => by
    obtain ⟨hz, hT, ⟨x, y, hO⟩, h1, h2⟩ := st
    exact ⟨k (N + 4) (by simp) _ hz, k (N + 2) (by simp) _ hT, ⟨x, y, k (N + 3) (by simp) _ hO⟩, h1.at fun o q => k N (by simp) o q, h2.at fun o q => k (N + 1) (by simp) o q⟩
  item := by
    intro X hP hw hK hc i pins s σ H E I hf st hg
    subst hP hw hK
    obtain ⟨hz, hT, hO, h1, h2⟩ := st
    obtain ⟨qa, qb, hi⟩ := hg
    obtain ⟨ia, ra, pa, _⟩ := seq_of I qa
    obtain ⟨ib, rb, pb, _⟩ := seq_of I qb
    have hh : X.A.in1.handled = none := I.ok.hd hc
    have W := GoesN.zip2 (prog := X.prog) (w := X.w) (elts := elts) (x1 := kk) (pos := tpos) (zip_sep2 (N := N) (fp1 := [a]) (fp2 := [b]) (by simpa using ha) (by simpa using hb))
      (seq_draws hh true N a (Nat.ne_of_lt ha) ia.toArray) (seq_draws hh false (N + 1) b (Nat.ne_of_lt (Nat.lt_succ_of_lt hb)) ib.toArray)
    have la := ra.length
    have lb := rb.length
    refine wpAny_mono (W.goes i s (fun u s2 => ∃ x H', Inv X pins σ H' s2 ∧ RelV x u ∧ (ItZ2 a b xs ys).yld i H x H' ∧ _ ∧ ∀ b ∈ [N + 4, N + 2, N + 3, N, N + 1], H' b = none) E (by simp only [List.size_toArray]; omega) ⟨hz, hT, hO, ⟨h1, pa⟩, ⟨h2, pb⟩⟩ fun v h' tk hY st' hk htk => ?_) (fun r s1 ⟨v, e, q⟩ => ⟨v, e, q⟩) fun _ _ z => z
    obtain ⟨T, x, y, ev, hge, hx, hy, hTu⟩ := hY
    subst ev
    obtain ⟨vx, ex, rx⟩ := val_at ra hx
    obtain ⟨vy, ey, ry⟩ := val_at rb hy
    have nT : H T = none := I.hok.fresh hge
    obtain ⟨oT, oT1, oT2, nn, oT3⟩ := hTu
    have new : ObjOk X.prog X.w (upd H T (.tup [vx, vy])) h' T (.tup [vx, vy]) := ⟨by show 2 ≤ sizeLine; decide, [x, y], .cons rx (.cons ry .nil), ⟨oT, oT1, oT2, nn, oT3⟩⟩
    obtain ⟨hz', hT', hO', ⟨h1', _⟩, ⟨h2', _⟩⟩ := st'
    refine ⟨.ref T, upd H T (.tup [vx, vy]), I.turnedNew (ch := [N + 4, N + 3, N, N + 1]) (fun b o hb q => hk b o hb q) (fun b hb => hf b (mem4 hb)) hge new, rfl, ⟨T, vx, vy, rfl, nT, rfl, ex, ey⟩, ⟨hz', hT', hO', h1', h2'⟩, fun b hb => ?_⟩
    · have hlt : b < s.heap.objs.size := by
        have e' : b = N + 4 ∨ b = N + 2 ∨ b = N + 3 ∨ b = N ∨ b = N + 1 := by simpa using hb
        obtain ⟨_, _, hO⟩ := hO
        obtain ⟨_, e1, _⟩ := h1.obj
        obtain ⟨_, e2, _⟩ := h2.obj
        rcases e' with rfl | rfl | rfl | rfl | rfl
        · exact Heap.lt_size hz
        · exact Heap.lt_size hT
        · exact Heap.lt_size hO
        · exact Heap.lt_size e1
        · exact Heap.lt_size e2
      rw [upd_ne (Nat.ne_of_lt (Nat.lt_of_lt_of_le hlt hge))]
      exact (hf b hb).1
  done := by
    intro X hP hw hK hc i pins s σ H E I hf st hg
    subst hP hw hK
    obtain ⟨hz, hT, hO, h1, h2⟩ := st
    obtain ⟨qa, qb, hi⟩ := hg
    obtain ⟨ia, ra, pa, _⟩ := seq_of I qa
    obtain ⟨ib, rb, pb, _⟩ := seq_of I qb
    have hh : X.A.in1.handled = none := I.ok.hd hc
    have W := GoesN.zip2 (prog := X.prog) (w := X.w) (elts := elts) (x1 := kk) (pos := tpos) (zip_sep2 (N := N) (fp1 := [a]) (fp2 := [b]) (by simpa using ha) (by simpa using hb))
      (seq_draws hh true N a (Nat.ne_of_lt ha) ia.toArray) (seq_draws hh false (N + 1) b (Nat.ne_of_lt (Nat.lt_succ_of_lt hb)) ib.toArray)
    have la := ra.length
    have lb := rb.length
    have en : min ia.toArray.size ib.toArray.size = i := by simp only [List.size_toArray]; omega
    refine W.stops s (fun s1 => Inv X pins σ H s1) E (by rw [en]; exact ⟨hz, hT, hO, ⟨h1, pa⟩, ⟨h2, pb⟩⟩) fun h' tk hk htk => ?_
    refine I.turnedL (ch := [N + 4, N + 3, N, N + 1]) (fun b o hb q => hk b o hb q) fun b hb => hf b (mem4 hb)
  self := fun A i s Q E st h => wpAny_pyIter_zip st.1 h
def iZ2 (ta : TA) : L2.TI := fun σ H R => ta σ H fun vs H1 => ∃ a b xs ys, vs = [.ref a, .ref b] ∧ H1 a = some (.tup xs) ∧ H1 b = some (.lst ys) ∧ R (ItZ2 a b xs ys) H1
theorem pi_z2 {X : Cx} {e e2 : Expr} {ta : TA} {p pos tpos : Pos} {elts : List Expr} {kk : Nat} (hg : Gl X "zip") (hm : X.mg "zip" = none) (ha : PA X [e, e2] ta)
    (hs : starEach [e, e2] X.env = (false, eval e X.env) :: starEach [e2] X.env := by rfl) (hpl : (backTo pos (starEach [e2] X.env)).any (·.1) = false := by rfl) :
    PI X (.Tuple elts kk tpos) (.Call (.Name "zip" p) [e, e2] [] pos) (iZ2 ta) := by
  refine ⟨fun pins s σ H R I h => ?_⟩
  refine Call_ (ld_blt I hg hm boot_zip (callWith_type1 (thn (ha.run pos pins s σ H _ I h) fun us s1 ⟨vs, H1, I1, r1, q1⟩ => ?_) hs hpl))
  obtain ⟨a, b, xs, ys, ex, qa, qb, q⟩ := q1
  subst ex
  cases r1 with
  | cons r rr =>
    cases rr with
    | cons r' rr =>
      cases rr
      cases r
      cases r'
      obtain ⟨ia, ra, pa, la⟩ := seq_of (u := true) I1 qa
      obtain ⟨ib, rb, pb, lb⟩ := seq_of (u := false) I1 qb
      refine zip_begins2 (seq_begins true a ia.toArray) (seq_begins false b ib.toArray) pa pb fun h' hz hT hO h1 h2 hsz hk => wpAny_pyIter_zip hz ?_
      have I2 : Inv X pins σ H1 { s1 with heap := h' } := I1.kept (t' := s1.toks) hk
      refine ⟨_, _, _, _, H1, rfl, I2, turn_z2 la lb, ⟨hz, hT, ⟨_, _, hO⟩, seq_begun h1, seq_begun h2⟩, fun c hc => ?_, q⟩
      have hle : s1.heap.objs.size ≤ c := ge4 hc
      exact I1.fpOk hle (I1.hok.fresh hle)
end K93
set_option maxHeartbeats 4000000
/-! K93C2: enumerate of a tuple or a list. -/
namespace K93
open PySem PySem.Spec PyProof.Rows L2
theorem meets_enumB {v : Value} {o : Obj} {Hb : Heap → Prop} (B : Begins v o Hb) :
    Meets (Builtin.«enumerate.__new__» ⟨[.type "enumerate", v], []⟩) (fun _ R s => Hb s.heap ∧
      R (.ok (.ret (.ref (s.heap.push o).objs.size))) { s with heap := (s.heap.push o).push { cls := .type "enumerate", data := .fields #[.none, .bool false, .ref s.heap.objs.size, rawInt 0, .none, .none] } }) :=
  .of_wp fun prog w A R s h => by
    obtain ⟨hp, g, dr, tk, os⟩ := s
    obtain ⟨hH, hR⟩ := h
    have hsub := sub_enumerate
    have hI : ∀ (A : Around) (E : Value → Shared → Prop) (Q : Value → Shared → Prop), Q (.ref hp.objs.size) ⟨hp.push o, g, dr, tk, os⟩ → wpAny (model prog w) A (pyIter v) Q E ⟨hp, g, dr, tk, os⟩ := fun A E Q q => B.iter prog w A E ⟨hp, g, dr, tk, os⟩ Q hH q
    wp_walk using hI
    refine wpAny_stack_any fun st => wpAny_pure ?_
    split
    · rename_i cc _ _ _ _ _
      cases (cc == Value.type "enumerate") <;> (wp_walk using hI; exact ⟨_, rfl, hR⟩)
    · wp_walk using hI
      exact ⟨_, rfl, hR⟩
theorem call_enumB {prog : Program} {w : World} {A : Around} {E : Value → Shared → Prop} {s : Shared} {v : Value} {o : Obj} {Hb : Heap → Prop} {Q : Value → Shared → Prop} (B : Begins v o Hb) (h1 : Hb s.heap) (fa : ∀ obj, argsOk "object.__init__" ⟨[obj, v], []⟩)
    (ft : ∀ M : Model, True) (h : ∀ h', IsEnum h' (s.heap.objs.size + 1) s.heap.objs.size 0 .none → h'.get? s.heap.objs.size = some o → (∀ b o, s.heap.get? b = some o → h'.get? b = some o) → Q (.ref (s.heap.objs.size + 1)) { s with heap := h' }) :
    wpAny (model prog w) A (call (.type "enumerate") [v]) Q E s := by
  refine callType_new F.called_enumerate (by decide) (F.typeCall_enumerate_1 _) (F.newCall_enumerate_1 _) (fun obj => F.args_object_init_2 obj _) F.entry_enumerate_new (meets_enumB B) ⟨h1, ?_⟩
  have hz : (s.heap.push o).objs.size = s.heap.objs.size + 1 := Heap.size_push ..
  show _ ∧ _
  rw [hz]
  have he := Heap.get?_push_size (s.heap.push o) (o := { cls := .type "enumerate", data := .fields #[.none, .bool false, .ref s.heap.objs.size, rawInt 0, .none, .none] }) rfl
  rw [hz] at he
  exact ⟨⟨_, he, rfl⟩, h _ he (Heap.get?_push_of_some _ (Heap.get?_push_size _ B.free)) fun b ob x => Heap.get?_push_of_some _ (Heap.get?_push_of_some _ x)⟩
theorem memE {b N : Nat} (h : b ∈ [N + 1, N]) : N ≤ b := by
  simp only [List.mem_cons, List.not_mem_nil, or_false] at h
  omega
/-- enumerate of the tuple (u) or list at a, of xs -/
def ItEn (u : Bool) (a : Addr) (xs : List V) : It :=
  ⟨fun i H => SeqH u H a xs ∧ i < xs.length, fun i H v H' => ∃ T x, v = .ref T ∧ H T = none ∧ H' = upd H T (.tup [.int (i : Nat), x]) ∧ xs[i]? = some x, fun i H => SeqH u H a xs ∧ i = xs.length⟩
theorem turn_en {P : Program} {w : World} {K : PySem.W.Frag} {elts : List Expr} {kk : Nat} {tpos : Pos} {u : Bool} {a : Addr} {xs : List V} {N : Nat} (ha : a < N) :
    Turn P w K (.Tuple elts kk tpos) (ItEn u a xs) [N + 1, N] (N + 1) (fun i h => (∃ old, IsEnum h (N + 1) N (0 + (i : Int)) old) ∧ SeqIt u h N a i) where
  mem := by simp
  obj := fun i h st b hb => by
    obtain ⟨⟨old, he⟩, h1⟩ := st
    have e' : b = N + 1 ∨ b = N := by simpa using hb
    rcases e' with rfl | rfl
    · exact ⟨_, he, fun v q => nomatch q⟩
    · exact h1.obj
  keep := fun i h h' st k => by
    obtain ⟨⟨old, he⟩, h1⟩ := st
    exact ⟨⟨old, k (N + 1) (by simp) _ he⟩, h1.at fun o q => k N (by simp) o q⟩
  item := by
    intro X hP hw hK hc i pins s σ H E I hf st hg
    subst hP hw hK
    obtain ⟨he, h1⟩ := st
    obtain ⟨qa, hi⟩ := hg
    obtain ⟨ia, ra, pa, _⟩ := seq_of I qa
    have hh : X.A.in1.handled = none := I.ok.hd hc
    have W := GoesN.enumFrom (prog := X.prog) (w := X.w) (A := X.A) (elts := elts) (x1 := kk) (pos := tpos) 0 (seq_draws hh u N a (Nat.ne_of_lt ha) ia.toArray) (N + 1) (Nat.succ_ne_self N) (by
      simp only [List.mem_cons, List.not_mem_nil, or_false, not_or]
      exact ⟨Nat.succ_ne_self N, Nat.ne_of_gt (Nat.lt_succ_of_lt ha)⟩) List.mem_cons_self
    have la := ra.length
    refine wpAny_mono (W.goes i s (fun z s2 => ∃ x H', Inv X pins σ H' s2 ∧ RelV x z ∧ (ItEn u a xs).yld i H x H' ∧ _ ∧ ∀ b ∈ [N + 1, N], H' b = none) E (by simp only [List.size_toArray]; omega) ⟨he, h1, pa⟩ fun v h' tk hY st' hk htk => ?_) (fun r s1 ⟨v, e, q⟩ => ⟨v, e, q⟩) fun _ _ z => z
    obtain ⟨T, t, x, ev, hge, hx, hTu⟩ := hY
    subst ev
    obtain ⟨vx, ex, rx⟩ := val_at ra hx
    have nT : H T = none := I.hok.fresh hge
    obtain ⟨oT, oT1, oT2, nn, oT3⟩ := hTu
    have new : ObjOk X.prog X.w (upd H T (.tup [.int (i : Nat), vx])) h' T (.tup [.int (i : Nat), vx]) := ⟨by show 2 ≤ sizeLine; decide, [.int (0 + (i : Int)) t, x], .cons ⟨t, by rw [Int.zero_add]⟩ (.cons rx .nil), ⟨oT, oT1, oT2, nn, oT3⟩⟩
    obtain ⟨he', h1', _⟩ := st'
    refine ⟨.ref T, upd H T (.tup [.int (i : Nat), vx]), I.turnedNew (ch := [N + 1, N]) (fun b o hb q => hk b o hb q) hf hge new, rfl, ⟨T, vx, rfl, nT, rfl, ex⟩, ⟨he', h1'⟩, fun b hb => ?_⟩
    have hlt : b < s.heap.objs.size := by
      have e' : b = N + 1 ∨ b = N := by simpa using hb
      obtain ⟨_, he⟩ := he
      obtain ⟨_, e1, _⟩ := h1.obj
      rcases e' with rfl | rfl
      · exact Heap.lt_size he
      · exact Heap.lt_size e1
    rw [upd_ne (Nat.ne_of_lt (Nat.lt_of_lt_of_le hlt hge))]
    exact (hf b hb).1
  done := by
    intro X hP hw hK hc i pins s σ H E I hf st hg
    subst hP hw hK
    obtain ⟨he, h1⟩ := st
    obtain ⟨qa, hi⟩ := hg
    obtain ⟨ia, ra, pa, _⟩ := seq_of I qa
    have hh : X.A.in1.handled = none := I.ok.hd hc
    have W := GoesN.enumFrom (prog := X.prog) (w := X.w) (A := X.A) (elts := elts) (x1 := kk) (pos := tpos) 0 (seq_draws hh u N a (Nat.ne_of_lt ha) ia.toArray) (N + 1) (Nat.succ_ne_self N) (by
      simp only [List.mem_cons, List.not_mem_nil, or_false, not_or]
      exact ⟨Nat.succ_ne_self N, Nat.ne_of_gt (Nat.lt_succ_of_lt ha)⟩) List.mem_cons_self
    have en : ia.toArray.size = i := by rw [List.size_toArray, ← ra.length, hi]
    exact W.stops s (fun s1 => Inv X pins σ H s1) E (by rw [en]; exact ⟨he, h1, pa⟩) fun h' tk hk htk => I.turnedL (ch := [N + 1, N]) (fun b o hb q => hk b o hb q) hf
  self := fun A i s Q E st h => by
    obtain ⟨⟨old, he⟩, _⟩ := st
    exact wpAny_pyIter_enum he h
def iEn (u : Bool) (ta : TA) : L2.TI := fun σ H R => ta σ H fun vs H1 => ∃ a xs, vs = [.ref a] ∧ SeqH u H1 a xs ∧ R (ItEn u a xs) H1
theorem pi_en {X : Cx} {e : Expr} {ta : TA} {p pos tpos : Pos} {elts : List Expr} {kk : Nat} (u : Bool) (hg : Gl X "enumerate") (hm : X.mg "enumerate" = none) (ha : PA X [e] ta) (hs : starEach [e] X.env = [(false, eval e X.env)] := by rfl) :
    PI X (.Tuple elts kk tpos) (.Call (.Name "enumerate" p) [e] [] pos) (iEn u ta) := by
  refine ⟨fun pins s σ H R I h => ?_⟩
  refine Call_ (ld_blt I hg hm boot_enumerate (callWith_type1 (thn (ha.run pos pins s σ H _ I h) fun us s1 ⟨vs, H1, I1, r1, q1⟩ => ?_) hs rfl))
  obtain ⟨a, xs, ex, qa, q⟩ := q1
  subst ex
  cases r1 with
  | cons r rr =>
    cases rr
    cases r
    obtain ⟨ia, ra, pa, la⟩ := seq_of I1 qa
    refine call_enumB (seq_begins u a ia.toArray) pa (fun _ => F.args_object_init_2 _ _) (fun _ => trivial) fun h' he h1 hk => ?_
    have I2 : Inv X pins σ H1 { s1 with heap := h' } := I1.kept (t' := s1.toks) hk
    refine wpAny_pyIter_enum he ⟨_, [s1.heap.objs.size + 1, s1.heap.objs.size], _, _, H1, rfl, I2, turn_en la, ⟨⟨.none, by simpa using he⟩, seq_begun h1⟩, fun b hb => ?_, q⟩
    have hle : s1.heap.objs.size ≤ b := memE hb
    exact I1.fpOk hle (I1.hok.fresh hle)
end K93
set_option maxHeartbeats 4000000
/-! K93D: more rules: booleans, displays, subscripts, calls of built-ins. -/
namespace K93
open PySem PySem.Spec PyProof.Rows L2
section
variable {X : Cx} {c : Kx} {I J L : Ix c.pa} {σ : St} {H H' : Hp} {e a b f : Expr} {es : List Expr} {P P' : V → Hp → Prop} {pos : Pos}
/-! ### truth -/
theorem tv_wv {k : Bool} (h : WV X c I J e σ H k) : TV X c I J e σ H k := TV.of pwS.pt fun H1 l Q q => h H1 l Q q
theorem wv_of {tt : TT} {k : Bool} (p : PW X e tt) (q : ∀ H1, Le c I H H1 → ∀ Q : Bool → Hp → Prop, (∀ H2, Le c J H1 H2 → Q k H2) → tt σ H1 Q) : WV X c I J e σ H k := fun H1 l Q k => ⟨fun w pins s i => p.run w pins s σ H1 Q i (q H1 l Q k)⟩
theorem wv_and1 {k : Bool} (h : TV X c I J a σ H k) : WV X c I J (.BoolOp .And [a] pos) σ H k := wv_of (pw_and1 ptS) fun H1 l Q q => h H1 l Q q
theorem wv_or1 {k : Bool} (h : TV X c I J a σ H k) : WV X c I J (.BoolOp .Or [a] pos) σ H k := wv_of (pw_or1 ptS) fun H1 l Q q => h H1 l Q q
theorem wv_and {j k : Bool} (h : TV X c I I a σ H j) (g : j = true → WV X c I I (.BoolOp .And (b :: es) pos) σ H k) : WV X c I I (.BoolOp .And (a :: b :: es) pos) σ H (j && k) :=
  wv_of (pw_and ptS pwS) fun H1 l Q q => h H1 l _ fun H2 l2 => by
    cases j with
    | true => exact g rfl H2 (l.trans l2) Q fun H3 l3 => q H3 (l2.trans l3)
    | false => exact q H2 l2
theorem wv_or {j k : Bool} (h : TV X c I I a σ H j) (g : j = false → WV X c I I (.BoolOp .Or (b :: es) pos) σ H k) : WV X c I I (.BoolOp .Or (a :: b :: es) pos) σ H (j || k) :=
  wv_of (pw_or ptS pwS) fun H1 l Q q => h H1 l _ fun H2 l2 => by
    cases j with
    | true => exact q H2 l2
    | false => exact g rfl H2 (l.trans l2) Q fun H3 l3 => q H3 (l2.trans l3)
theorem tv_and {j k : Bool} (h : TV X c I I a σ H j) (g : j = true → TV X c I I b σ H k) : TV X c I I (.BoolOp .And [a, b] pos) σ H (j && k) := tv_wv (wv_and h fun z => wv_and1 (g z))
theorem tv_or {j k : Bool} (h : TV X c I I a σ H j) (g : j = false → TV X c I I b σ H k) : TV X c I I (.BoolOp .Or [a, b] pos) σ H (j || k) := tv_wv (wv_or h fun z => wv_or1 (g z))
theorem tv_or3 {i j k : Bool} {d : Expr} (h : TV X c I I a σ H i) (g : i = false → TV X c I I b σ H j) (g2 : i = false → j = false → TV X c I I d σ H k) : TV X c I I (.BoolOp .Or [a, b, d] pos) σ H (i || (j || k)) :=
  tv_wv (wv_or h fun z => wv_or (g z) fun y => wv_or1 (g2 z y))
theorem tv_not {k : Bool} (h : TV X c I J a σ H k) : TV X c I J (.UnaryOp .Not a pos) σ H (!k) := TV.of (pt_not ptS) fun H1 l Q q => h H1 l _ fun H2 l2 => q H2 l2
theorem tv_val {k : Bool} (h : ED X c I J e σ H (.bool k)) (he : ∀ whole, isTrue e X.env whole = (do let v ← whole; standAt e.pos; holding [v] (truthy v)) := by intro _; rfl) : TV X c I J e σ H k :=
  TV.of (pt_val peS he) fun H1 l Q q => h H1 l _ fun v H2 l2 p => ⟨k, p.blOf, q H2 l2⟩
theorem ed_one {op : BoolOp} (h : EV X c I J a σ H P) : EV X c I J (.BoolOp op [a] pos) σ H P := EV.of (pe_one peS) fun H1 l Q q => h H1 l Q q
theorem ed_and_ {j k : Bool} (h : ED X c I I a σ H (.bool j)) (g : j = true → ED X c I I (.BoolOp .And (b :: es) pos) σ H (.bool k)) : ED X c I I (.BoolOp .And (a :: b :: es) pos) σ H (.bool (j && k)) :=
  EV.of (pe_and peS peS) fun H1 l Q q => h H1 l _ fun v H2 l2 p => ⟨j, p.blOf, by
    cases j with
    | true => exact g rfl H2 (l.trans l2) Q fun w H3 l3 => q w H3 (l2.trans l3)
    | false => exact q _ H2 l2 (.bl _)⟩
theorem ed_or_ {j k : Bool} (h : ED X c I I a σ H (.bool j)) (g : j = false → ED X c I I (.BoolOp .Or (b :: es) pos) σ H (.bool k)) : ED X c I I (.BoolOp .Or (a :: b :: es) pos) σ H (.bool (j || k)) :=
  EV.of (pe_or peS peS) fun H1 l Q q => h H1 l _ fun v H2 l2 p => ⟨j, p.blOf, by
    cases j with
    | true => exact q _ H2 l2 (.bl _)
    | false => exact g rfl H2 (l.trans l2) Q fun w H3 l3 => q w H3 (l2.trans l3)⟩
theorem ed_and {j k : Bool} (h : ED X c I I a σ H (.bool j)) (g : j = true → ED X c I I b σ H (.bool k)) : ED X c I I (.BoolOp .And [a, b] pos) σ H (.bool (j && k)) := ed_and_ h fun z => ed_one (g z)
theorem ed_or {j k : Bool} (h : ED X c I I a σ H (.bool j)) (g : j = false → ED X c I I b σ H (.bool k)) : ED X c I I (.BoolOp .Or [a, b] pos) σ H (.bool (j || k)) := ed_or_ h fun z => ed_one (g z)
theorem ed_and3 {i j k : Bool} {d : Expr} (h : ED X c I I a σ H (.bool i)) (g : i = true → ED X c I I b σ H (.bool j)) (g2 : i = true → j = true → ED X c I I d σ H (.bool k)) : ED X c I I (.BoolOp .And [a, b, d] pos) σ H (.bool (i && (j && k))) :=
  ed_and_ h fun z => ed_and_ (g z) fun y => ed_one (g2 z y)
theorem ed_not {k : Bool} (h : ED X c I J a σ H (.bool k)) : ED X c I J (.UnaryOp .Not a pos) σ H (.bool (!k)) := EV.of (pe_not peS) fun H1 l Q q => h H1 l _ fun v H2 l2 p => ⟨k, p.blOf, q _ H2 l2 (.bl _)⟩
theorem ev_if {k : Bool} (h : TV X c I J f σ H k) (h1 : k = true → EV X c J L a σ H P) (h2 : k = false → EV X c J L b σ H P) : EV X c I L (.IfExp f a b pos) σ H P :=
  EV.of (pe_ifExp ptS peS peS) fun H1 l Q q => h H1 l _ fun H2 l2 => by
    cases k with
    | true => exact h1 rfl H2 (l.trans l2) Q fun v H3 l3 => q v H3 (l2.trans l3)
    | false => exact h2 rfl H2 (l.trans l2) Q fun v H3 l3 => q v H3 (l2.trans l3)
/-! ### arguments -/
theorem av_nil : AV X c I I [] σ H fun vs _ => vs = [] := fun H1 l Q q => ⟨fun pos pins s i => pa_nil.run pos pins s σ H1 Q i (q [] H1 (.refl l.ok) rfl)⟩
theorem av_cons {R : List V → Hp → Prop} (h : EV X c I J e σ H P) (m : ∀ v H1 H2, Le c L H1 H2 → P v H1 → P v H2) (g : AV X c J L es σ H R) (hs : starEach (e :: es) X.env = (false, eval e X.env) :: starEach es X.env := by rfl) :
    AV X c I L (e :: es) σ H fun vs H' => ∃ v r, vs = v :: r ∧ P v H' ∧ R r H' := fun H1 l Q q => ⟨fun pos pins s i =>
  (pa_cons peS paS hs).run pos pins s σ H1 Q i (h H1 l _ fun v H2 l2 p => g H2 (l.trans l2) _ fun r H3 l3 w => q (v :: r) H3 (l2.trans l3) ⟨v, r, rfl, m v H2 H3 l3 p, w⟩)⟩
theorem ad_nil : AD X c I I [] σ H [] := fun H1 l Q q => ⟨fun pos pins s i => pa_nil.run pos pins s σ H1 Q i (q [] H1 (.refl l.ok) .nil)⟩
theorem ad_cons {d : PyData} {ds : List PyData} (h : ED X c I J e σ H d) (g : AD X c J L es σ H ds) (hs : starEach (e :: es) X.env = (false, eval e X.env) :: starEach es X.env := by rfl) : AD X c I L (e :: es) σ H (d :: ds) := fun H1 l Q q => ⟨fun pos pins s i =>
  (pa_cons peS paS hs).run pos pins s σ H1 Q i (h H1 l _ fun v H2 l2 p => g H2 (l.trans l2) _ fun r H3 l3 w => q (v :: r) H3 (l2.trans l3) (.cons (l3.dd p) w))⟩
/-! ### displays -/
theorem ed_tup {ds : List PyData} {x1 : Nat} (h : AD X c I J es σ H ds) (hl : ds.length ≤ 100000 := by simp) : ED X c I J (.Tuple es x1 pos) σ H (.tuple ds) :=
  EV.of (pe_tup paS) fun H1 l Q q => h H1 l _ fun vs H2 l2 w => ⟨by rw [w.length]; exact Nat.le_trans hl (by decide), fun p hp => q _ _ (l2.new hp) (.tup upd_same (l2.ok.npa hp) ((Le.new (.refl l2.ok) hp).dds w))⟩
theorem ed_lst {ds : List PyData} (h : AD X c I J es σ H ds) (hl : ds.length ≤ 100000 := by simp) : ED X c I J (.List es pos) σ H (.list ds) :=
  EV.of (pe_lst paS) fun H1 l Q q => h H1 l _ fun vs H2 l2 w => ⟨by rw [w.length]; exact Nat.le_trans hl (by decide), fun p hp => q _ _ (l2.new hp) (.lst upd_same (l2.ok.npa hp) ((Le.new (.refl l2.ok) hp).dds w))⟩
/-! ### subscripts -/
theorem ed_ixT {ds : List PyData} {d : PyData} {i : Nat} (ha : ED X c I J a σ H (.tuple ds)) (hb : ED X c J L b σ H (.int (i : Int))) (hd : ds[i]? = some d) (hs : PlainIx b := by exact fun _ _ => rfl) : ED X c I L (.Subscript a b pos) σ H d :=
  EV.of (pe_ix ix_tup peS peS hs) fun H1 l Q q => ha H1 l _ fun x H2 l2 p => hb H2 (l.trans l2) _ fun y H3 l3 p2 => by
    obtain ⟨t, xs, rfl, h1, h2, h3⟩ := (l3.dd p).tupOf
    obtain ⟨v, h4, h5⟩ := h3.get hd
    exact ⟨t, xs, _, v, rfl, p2.intOf, .of h1, atI_nat h4, q v H3 (l2.trans l3) h5⟩
theorem ed_ixL {ds : List PyData} {d : PyData} {i : Nat} (ha : ED X c I J a σ H (.list ds)) (hb : ED X c J L b σ H (.int (i : Int))) (hd : ds[i]? = some d) (hs : PlainIx b := by exact fun _ _ => rfl) : ED X c I L (.Subscript a b pos) σ H d :=
  EV.of (pe_ix ix_list peS peS hs) fun H1 l Q q => ha H1 l _ fun x H2 l2 p => hb H2 (l.trans l2) _ fun y H3 l3 p2 => by
    obtain ⟨t, xs, rfl, h1, h2, h3⟩ := (l3.dd p).lstOf
    obtain ⟨v, h4, h5⟩ := h3.get hd
    exact ⟨t, xs, _, v, rfl, p2.intOf, .of h1, atI_nat h4, q v H3 (l2.trans l3) h5⟩
/-- a list at a known place, that may change elsewhere -/
theorem ed_ixA {xs : List V} {d : PyData} {v : V} {i : Nat} {p : Addr} (ha : EV X c I I a σ H fun v _ => v = .ref p) (hb : ED X c I I b σ H (.int (i : Int))) (hp : ∀ H1, Le c I H H1 → H1 p = some (.lst xs)) (hv : xs[i]? = some v) (hd : DD X.K c.pa H v d) (hs : PlainIx b := by exact fun _ _ => rfl) : ED X c I I (.Subscript a b pos) σ H d :=
  EV.of (pe_ix ix_list peS peS hs) fun H1 l Q q => ha H1 l _ fun x H2 l2 w => hb H2 (l.trans l2) _ fun y H3 l3 p2 => by
    cases w
    exact ⟨p, xs, _, v, rfl, p2.intOf, .of (hp H3 ((l.trans l2).trans l3)), atI_nat hv, q v H3 (l2.trans l3) (((l.trans l2).trans l3).dd hd)⟩
theorem cut_to {xs : List V} (k : Nat) : cutV xs none (some (k : Int)) = xs.take k := by
  unfold cutV
  rw [HT.sIx_none, HT.sIx_nat, List.drop_zero, Nat.sub_zero, Nat.min_comm]
  by_cases h : k ≤ xs.length
  · rw [Nat.min_eq_right h]
  · rw [Nat.min_eq_left (by omega), List.take_length, List.take_of_length_le (by omega)]
theorem cut_from {xs : List V} (k : Nat) : cutV xs (some (k : Int)) none = xs.drop k := by
  unfold cutV
  rw [HT.sIx_none, HT.sIx_nat]
  by_cases h : k ≤ xs.length
  · rw [Nat.min_eq_left h, List.take_of_length_le]
    rw [List.length_drop]
    exact Nat.le_refl _
  · rw [Nat.min_eq_right (by omega), List.drop_length, List.drop_of_length_le (by omega), List.take_nil]
theorem ed_slTo {ds : List PyData} {k : Nat} {p2 : Pos} (ha : ED X c I I a σ H (.tuple ds)) (hb : ED X c I I b σ H (.int (k : Int))) : ED X c I I (.Subscript a (.Slice none (some b) none p2) pos) σ H (.tuple (ds.take k)) :=
  EV.of (pe_slice sl_tupA peS po_none (po_some peS)) fun H1 l Q q => ha H1 l _ fun x H2 l2 p => hb H2 (l.trans l2) _ fun y H3 l3 w => ⟨_, w.intOf, by
    obtain ⟨t, xs, rfl, h1, h2, h3⟩ := (l3.dd p).tupOf
    refine ⟨t, xs, rfl, .of h1, fun z => ?_, fun _ p hp => ?_⟩
    · have e : xs.take k = xs := by
        rw [HT.sIx_nat] at z
        exact List.take_of_length_le (by omega)
      have e2 : ds.take k = ds := List.take_of_length_le (by rw [← h3.length]; rw [HT.sIx_nat] at z; omega)
      rw [e2] at q
      exact q _ H3 (l2.trans l3) (.tup h1 h2 h3)
    · rw [cut_to]
      exact q _ _ ((l2.trans l3).new hp) (.tup upd_same (l3.ok.npa hp) ((Le.new (.refl l3.ok) hp).dds (h3.take k)))⟩
theorem ed_slFrom {ds : List PyData} {k : Nat} {p2 : Pos} (ha : ED X c I I a σ H (.tuple ds)) (hb : ED X c I I b σ H (.int (k : Int))) : ED X c I I (.Subscript a (.Slice (some b) none none p2) pos) σ H (.tuple (ds.drop k)) :=
  EV.of (pe_slice sl_tupA peS (po_some peS) po_none) fun H1 l Q q => ha H1 l _ fun x H2 l2 p => hb H2 (l.trans l2) _ fun y H3 l3 w => ⟨_, w.intOf, by
    obtain ⟨t, xs, rfl, h1, h2, h3⟩ := (l3.dd p).tupOf
    refine ⟨t, xs, rfl, .of h1, fun z => ?_, fun _ p hp => ?_⟩
    · have hz : k = 0 ∨ xs.length = 0 := by
        rw [HT.sIx_nat] at z
        omega
      have e2 : ds.drop k = ds := by
        rcases hz with rfl | hz
        · rfl
        · rw [h3.length] at hz
          rw [List.drop_of_length_le (by omega), List.length_eq_zero_iff.mp hz]
      rw [e2] at q
      exact q _ H3 (l2.trans l3) (.tup h1 h2 h3)
    · rw [cut_from]
      exact q _ _ ((l2.trans l3).new hp) (.tup upd_same (l3.ok.npa hp) ((Le.new (.refl l3.ok) hp).dds (h3.drop k)))⟩
/-! ### tuple + tuple, list + list, tuple * int, list * int -/
theorem ed_catT {ds es' : List PyData} (ha : ED X c I J a σ H (.tuple ds)) (hb : ED X c J L b σ H (.tuple es')) (hl : ds.length + es'.length ≤ 100000) : ED X c I L (.BinOp a .Add b pos) σ H (.tuple (ds ++ es')) :=
  ev_op op_catA ha hb mdd fun x y H1 l p q Q k => by
    obtain ⟨s, xs, rfl, h1, h2, h3⟩ := p.tupOf
    obtain ⟨t, ys, rfl, g1, g2, g3⟩ := q.tupOf
    refine ⟨s, t, xs, ys, rfl, rfl, .of h1, .of g1, by rw [h3.length, g3.length]; exact Nat.le_trans hl (by decide), fun z => ?_, fun _ z => ?_, fun _ _ p hp => ?_⟩
    · have e : ds = [] := List.length_eq_zero_iff.mp (by rw [← h3.length, z]; rfl)
      rw [e, List.nil_append] at k
      exact k _ H1 (.refl l.ok) (.tup g1 g2 g3)
    · have e : es' = [] := List.length_eq_zero_iff.mp (by rw [← g3.length, z]; rfl)
      rw [e, List.append_nil] at k
      exact k _ H1 (.refl l.ok) (.tup h1 h2 h3)
    · have n := Le.new (o := .tup (xs ++ ys)) (.refl l.ok) hp
      exact k _ _ n (.tup upd_same (l.ok.npa hp) (n.dds (h3.append g3)))
theorem ed_catL {ds es' : List PyData} (ha : ED X c I J a σ H (.list ds)) (hb : ED X c J L b σ H (.list es')) (hl : ds.length + es'.length ≤ 100000) : ED X c I L (.BinOp a .Add b pos) σ H (.list (ds ++ es')) :=
  ev_op op_cat ha hb mdd fun x y H1 l p q Q k => by
    obtain ⟨s, xs, rfl, h1, h2, h3⟩ := p.lstOf
    obtain ⟨t, ys, rfl, g1, g2, g3⟩ := q.lstOf
    refine ⟨s, t, xs, ys, rfl, rfl, h1, g1, by rw [h3.length, g3.length]; exact Nat.le_trans hl (by decide), fun p hp => ?_⟩
    have n := Le.new (o := .lst (xs ++ ys)) (.refl l.ok) hp
    exact k _ _ n (.lst upd_same (l.ok.npa hp) (n.dds (h3.append g3)))
theorem rep_one {α : Type} (x : α) : ∀ k : Nat, (List.replicate k [x]).flatten = List.replicate k x
  | 0 => rfl
  | k + 1 => by
    rw [List.replicate_succ, List.flatten_cons, rep_one x k]
    rfl
theorem DDs.rep {K : PySem.W.Frag} {pa : List Addr} {H : Hp} {v : V} {d : PyData} (h : DD K pa H v d) : ∀ k : Nat, DDs K pa H (List.replicate k v) (List.replicate k d)
  | 0 => .nil
  | k + 1 => .cons h (DDs.rep h k)
theorem ed_repL {d : PyData} {k : Nat} (ha : ED X c I J a σ H (.list [d])) (hb : ED X c J L b σ H (.int (k : Int))) (hk : k ≤ 1000) : ED X c I L (.BinOp a .Mult b pos) σ H (.list (List.replicate k d)) :=
  ev_op op_rep ha hb mdd fun x y H1 l p q Q g => by
    obtain ⟨s, xs, rfl, h1, h2, h3⟩ := p.lstOf
    cases h3 with
    | cons h4 h5 =>
      cases h5
      refine ⟨s, _, _, rfl, q.intOf, h1, by omega, by omega, ?_, fun p hp => ?_⟩
      · rw [Int.toNat_natCast]
        show 1 * k ≤ sizeLine
        rw [Nat.one_mul]
        exact Nat.le_trans hk (by decide)
      · rw [Int.toNat_natCast, rep_one]
        exact g _ _ (Le.new (.refl l.ok) hp) (.lst upd_same (l.ok.npa hp) ((Le.new (.refl l.ok) hp).dds (DDs.rep h4 k)))
theorem tuple_mul1 (l : Addr) (items : Array Value) (n : Nat) (dd : Option Addr) (sl : Array (Option Value)) (u : Tok) :
    Meets (Builtin.«tuple.__mul__» ⟨[.ref l, .int 1 u], []⟩) (fun _ R s => s.heap.get? l = some { cls := .type "tuple", dict := dd, data := .seq items n, slots := sl } ∧ R (.ok (.ret (Value.ref l))) s) :=
  .of_wp fun prog w A R s h => by
    obtain ⟨hp, g, d, tk, os⟩ := s
    obtain ⟨hl, h⟩ := h
    have f1 := AutoSeq1.idx_int
    have c0 : (decide ((1 : Int) < -(2 ^ 63)) || decide ((1 : Int) ≥ 2 ^ 63)) = false := by decide
    have c1 : (items.isEmpty || (1 : Int) == 1) = true := by rw [show ((1 : Int) == 1) = true from rfl, Bool.or_true]
    wp_walk using wpAny_loadPart' hl
    repeat (first
      | (refine wpAny_ite_false (decide_eq_false (by rw [c0]; exact Bool.false_ne_true)) ?_; wp_walk using wpAny_loadPart' hl)
      | (refine wpAny_ite_true (decide_eq_true c1) ?_; wp_walk using wpAny_loadPart' hl))
    exact ⟨_, rfl, h⟩
/-- a tuple of one item, times an int from 1 on -/
theorem rep_1 {k : Nat} {v : V} (hk : 0 < k) : List.replicate k v ≠ [] := fun z => by
  have := congrArg List.length z
  rw [List.length_replicate] at this
  simp at this
  omega
def rRepU : R2 := fun x y H Q => ∃ l v, x = .ref l ∧ y = .int 1 ∧ H l = some (.tup [v]) ∧ Q (.ref l) H
theorem op_repU : OpR X (binaryOp .Mult) rRepU := by
  intro pins s σ H x y v u Q I rx ry h
  obtain ⟨l, v, rfl, rfl, hT, q⟩ := h
  cases rx
  obtain ⟨t, rfl⟩ := ry
  obtain ⟨its, r, ⟨⟨cls, dd, data, sl⟩, ho, hc, n, hd⟩, hs⟩ := I.tuple (.of hT)
  simp only at hc hd
  subst hc hd
  refine wpAny_binaryOp_repeat_ref (T := "tuple") (U := "int") (by decide) ⟨_, ho, rfl⟩ (fun s' => typeIs_int s' 1 t) noFill_tuple_mul F.fills_int_mul F.slot_int_rmul repeat_tuple F.slot_int_index.lookup ?_
  refine call_meets F.slot_int_rmul (typeIs_int s 1 t) F.entry_int_rmul (F.args_int_rmul_2 _ _) (int_rmul_tuple 1 t l its.toArray n dd sl) ⟨ho, rfl, ⟨_, ho, rfl⟩, ?_⟩
  exact call_meets F.slot_tuple_mul ⟨_, ho, rfl⟩ F.entry_tuple_mul (F.args_tuple_mul_2 _ _) (tuple_mul1 l its.toArray n dd sl t) ⟨ho, ⟨.ref l, H, I, rfl, q⟩⟩
theorem ed_repT {d : PyData} {k : Nat} (ha : ED X c I J a σ H (.tuple [d])) (hb : ED X c J L b σ H (.int (k : Int))) (hp0 : 0 < k) (hk : k ≤ 1000) : ED X c I L (.BinOp a .Mult b pos) σ H (.tuple (List.replicate k d)) :=
  ev_op (op_repU.or op_repT) ha hb mdd fun x y H1 l p q Q g => by
    obtain ⟨s, xs, rfl, h1, h2, h3⟩ := p.tupOf
    cases h3 with
    | cons h4 h5 =>
      cases h5
      by_cases e : k = 1
      · subst e
        exact .inl ⟨s, _, rfl, q.intOf, h1, g _ H1 (.refl l.ok) (.tup h1 h2 (.cons h4 .nil))⟩
      · refine .inr ⟨s, _, _, rfl, q.intOf, .of h1, (by intro z; cases z), by omega, by omega, by show 1 ≤ 1000; decide, fun p hp => ?_⟩
        rw [Int.toNat_natCast, rep_one]
        exact g _ _ (Le.new (.refl l.ok) hp) (.tup upd_same (l.ok.npa hp) ((Le.new (.refl l.ok) hp).dds (DDs.rep h4 k)))
end
end K93
set_option maxHeartbeats 4000000
/-! K93E: calls of built-ins and of defs, statements. -/
namespace K93
open PySem PySem.Spec PyProof.Rows L2
/-- the built-in names that the text leaves as they are -/
structure Bn (mg : Str → Option Value) : Prop where
  len : mg "len" = none
  range : mg "range" = none
  isinstance : mg "isinstance" = none
  int : mg "int" = none
  bool : mg "bool" = none
  tuple : mg "tuple" = none
  list : mg "list" = none
  all : mg "all" = none
  any : mg "any" = none
  zip : mg "zip" = none
  sorted : mg "sorted" = none
  sum : mg "sum" = none
  abs : mg "abs" = none
  min : mg "min" = none
  enumerate : mg "enumerate" = none
section
variable {X : Cx} {c : Kx} {I J L : Ix c.pa} {σ : St} {H H' : Hp} {e a b f : Expr} {es : List Expr} {P P' : V → Hp → Prop} {p pos : Pos} {x : Str}
/-! ### built-ins -/
theorem ev_callB {id : String} {r : List V → Hp → VK → Prop} {R : List V → Hp → Prop} (hc : CallR X (.builtin id) r) (hm : X.mg x = none) (hv : bootBuiltins x = some (.builtin id)) (ha : AV X c I J (e :: es) σ H R)
    (hr : ∀ vs H1, Le c J H H1 → R vs H1 → ∀ Q : VK, (∀ z H2, Le c J H1 H2 → P z H2 → Q z H2) → r vs H1 Q) (hg : Gl X x := by rfl) (hn : x ≠ "__name__" := by decide) (hdb : (x == ("__debug__" : Str)) = false := by decide)
    (he : starEach (e :: es) X.env = (false, eval e X.env) :: starEach es X.env := by rfl) (hpl : (backTo pos (starEach es X.env)).any (·.1) = false := by rfl) : EV X c I J (.Call (.Name x p) (e :: es) [] pos) σ H P :=
  EV.of (pe_callB hc hg hm hv paS hn hdb he hpl) fun H1 l Q q => ha H1 l _ fun vs H2 l2 w => hr vs H2 (l.trans l2) w Q fun z H3 l3 y => q z H3 (l2.trans l3) y
theorem ev_callT {T : String} {r : List V → Hp → VK → Prop} {R : List V → Hp → Prop} (hc : CallR X (.type T) r) (hm : X.mg x = none) (hv : bootBuiltins x = some (.type T)) (ha : AV X c I J (e :: es) σ H R)
    (hr : ∀ vs H1, Le c J H H1 → R vs H1 → ∀ Q : VK, (∀ z H2, Le c J H1 H2 → P z H2 → Q z H2) → r vs H1 Q) (hg : Gl X x := by rfl) (hn : x ≠ "__name__" := by decide) (hdb : (x == ("__debug__" : Str)) = false := by decide)
    (he : starEach (e :: es) X.env = (false, eval e X.env) :: starEach es X.env := by rfl) (hpl : (backTo pos (starEach es X.env)).any (·.1) = false := by rfl) : EV X c I J (.Call (.Name x p) (e :: es) [] pos) σ H P :=
  EV.of (pe_callTy hc hg hm hv paS hn hdb he hpl) fun H1 l Q q => ha H1 l _ fun vs H2 l2 w => hr vs H2 (l.trans l2) w Q fun z H3 l3 y => q z H3 (l2.trans l3) y
theorem dds1 {K : PySem.W.Frag} {pa : List Addr} {vs : List V} {d : PyData} (h : DDs K pa H vs [d]) : ∃ v, vs = [v] ∧ DD K pa H v d := by
  cases h with
  | cons h1 h2 =>
    cases h2
    exact ⟨_, rfl, h1⟩
theorem dds2 {K : PySem.W.Frag} {pa : List Addr} {vs : List V} {d d' : PyData} (h : DDs K pa H vs [d, d']) : ∃ v u, vs = [v, u] ∧ DD K pa H v d ∧ DD K pa H u d' := by
  cases h with
  | cons h1 h2 =>
    obtain ⟨u, rfl, h3⟩ := dds1 h2
    exact ⟨_, _, rfl, h1, h3⟩
theorem ed_lenT {ds : List PyData} (B : Bn X.mg) (ha : ED X c I J a σ H (.tuple ds)) (hg : Gl X "len" := by rfl) (he : starEach [a] X.env = (false, eval a X.env) :: starEach [] X.env := by rfl) : ED X c I J (.Call (.Name "len" p) [a] [] pos) σ H (.int (ds.length : Int)) :=
  ev_callB call_len_seq B.len PySem.boot_len (ad_cons ha ad_nil he) (fun vs H1 l w Q q => by
    obtain ⟨v, rfl, h⟩ := dds1 w
    obtain ⟨t, xs, rfl, h1, h2, h3⟩ := h.tupOf
    refine ⟨t, xs, rfl, .inr (.of h1), ?_⟩
    rw [h3.length]
    exact q _ H1 (.refl l.ok) (.int _)) hg (by decide) (by decide) he
theorem ed_lenL {ds : List PyData} (B : Bn X.mg) (ha : ED X c I J a σ H (.list ds)) (hg : Gl X "len" := by rfl) (he : starEach [a] X.env = (false, eval a X.env) :: starEach [] X.env := by rfl) : ED X c I J (.Call (.Name "len" p) [a] [] pos) σ H (.int (ds.length : Int)) :=
  ev_callB call_len_seq B.len PySem.boot_len (ad_cons ha ad_nil he) (fun vs H1 l w Q q => by
    obtain ⟨v, rfl, h⟩ := dds1 w
    obtain ⟨t, xs, rfl, h1, h2, h3⟩ := h.lstOf
    refine ⟨t, xs, rfl, .inl (.of h1), ?_⟩
    rw [h3.length]
    exact q _ H1 (.refl l.ok) (.int _)) hg (by decide) (by decide) he
theorem ed_tupleL {ds : List PyData} (B : Bn X.mg) (ha : ED X c I J a σ H (.list ds)) (hg : Gl X "tuple" := by rfl) (he : starEach [a] X.env = (false, eval a X.env) :: starEach [] X.env := by rfl) : ED X c I J (.Call (.Name "tuple" p) [a] [] pos) σ H (.tuple ds) :=
  ev_callT call_tuple_of B.tuple (by decide +kernel) (ad_cons ha ad_nil he) (fun vs H1 l w Q q => by
    obtain ⟨v, rfl, h⟩ := dds1 w
    obtain ⟨t, xs, rfl, h1, h2, h3⟩ := h.lstOf
    exact ⟨t, xs, rfl, .inl ⟨.of h1, fun p hp => q _ _ (Le.new (.refl l.ok) hp) (.tup upd_same (l.ok.npa hp) ((Le.new (.refl l.ok) hp).dds h3))⟩⟩) hg (by decide) (by decide) he
theorem ed_toInt {i : Int} (B : Bn X.mg) (ha : ED X c I J a σ H (.int i)) (hg : Gl X "int" := by rfl) (he : starEach [a] X.env = (false, eval a X.env) :: starEach [] X.env := by rfl) : ED X c I J (.Call (.Name "int" p) [a] [] pos) σ H (.int i) :=
  ev_callT call_int1 B.int (by decide +kernel) (ad_cons ha ad_nil he) (fun vs H1 l w Q q => by
    obtain ⟨v, rfl, h⟩ := dds1 w
    exact .inl ⟨i, by rw [h.intOf], q _ H1 (.refl l.ok) (.int _)⟩) hg (by decide) (by decide) he
theorem ed_abs {i : Int} (B : Bn X.mg) (ha : ED X c I J a σ H (.int i)) (hg : Gl X "abs" := by rfl) (he : starEach [a] X.env = (false, eval a X.env) :: starEach [] X.env := by rfl) : ED X c I J (.Call (.Name "abs" p) [a] [] pos) σ H (.int (if i < 0 then -i else i)) :=
  ev_callB call_abs B.abs (by decide +kernel) (ad_cons ha ad_nil he) (fun vs H1 l w Q q => by
    obtain ⟨v, rfl, h⟩ := dds1 w
    exact ⟨i, by rw [h.intOf], q _ H1 (.refl l.ok) (.int _)⟩) hg (by decide) (by decide) he
theorem ed_sum {ns : List Int} (B : Bn X.mg) (ha : ED X c I J a σ H (.list (ns.map .int))) (hc : X.calm = true := by rfl) (hg : Gl X "sum" := by rfl) (he : starEach [a] X.env = (false, eval a X.env) :: starEach [] X.env := by rfl) : ED X c I J (.Call (.Name "sum" p) [a] [] pos) σ H (.int ns.sum) :=
  ev_callB (cr_sum hc) B.sum (by decide +kernel) (ad_cons ha ad_nil he) (fun vs H1 l w Q q => by
    obtain ⟨v, rfl, h⟩ := dds1 w
    obtain ⟨t, xs, rfl, h1, h2, h3⟩ := h.lstOf
    rw [h3.ints] at h1
    exact ⟨t, ns, rfl, .of h1, q _ H1 (.refl l.ok) (.int _)⟩) hg (by decide) (by decide) he
theorem ed_all {ns : List Bool} (B : Bn X.mg) (ha : ED X c I J a σ H (.list (ns.map .bool))) (hc : X.calm = true := by rfl) (hg : Gl X "all" := by rfl) (he : starEach [a] X.env = (false, eval a X.env) :: starEach [] X.env := by rfl) : ED X c I J (.Call (.Name "all" p) [a] [] pos) σ H (.bool (ns.all id)) :=
  ev_callB (cr_all hc) B.all (by decide +kernel) (ad_cons ha ad_nil he) (fun vs H1 l w Q q => by
    obtain ⟨v, rfl, h⟩ := dds1 w
    obtain ⟨t, xs, rfl, h1, h2, h3⟩ := h.lstOf
    rw [h3.bls] at h1
    exact ⟨t, ns, rfl, .of h1, q _ H1 (.refl l.ok) (.bl _)⟩) hg (by decide) (by decide) he
theorem ed_any {ns : List Bool} (B : Bn X.mg) (ha : ED X c I J a σ H (.list (ns.map .bool))) (hc : X.calm = true := by rfl) (hg : Gl X "any" := by rfl) (he : starEach [a] X.env = (false, eval a X.env) :: starEach [] X.env := by rfl) : ED X c I J (.Call (.Name "any" p) [a] [] pos) σ H (.bool (ns.any id)) :=
  ev_callB (cr_any hc) B.any (by decide +kernel) (ad_cons ha ad_nil he) (fun vs H1 l w Q q => by
    obtain ⟨v, rfl, h⟩ := dds1 w
    obtain ⟨t, xs, rfl, h1, h2, h3⟩ := h.lstOf
    rw [h3.bls] at h1
    exact ⟨t, ns, rfl, .of h1, q _ H1 (.refl l.ok) (.bl _)⟩) hg (by decide) (by decide) he
/-! ### isinstance -/
/-- is it a tuple | an int or a bool | a bool | a list -/
def isTup : PyData → Bool
  | .tuple _ => true
  | _ => false
def isLst : PyData → Bool
  | .list _ => true
  | _ => false
def isBoo : PyData → Bool
  | .bool _ => true
  | _ => false
def isIn : PyData → Bool
  | .int _ => true
  | .bool _ => true
  | _ => false
theorem opq_ty {K : PySem.W.Frag} {y : Addr} (h : Opq K H y) : ∃ t, TyX K H (.ref y) t ∧ PySem.W.kitOne K t (.type "tuple") = some false ∧ PySem.W.kitOne K t (.type "list") = some false := by
  rcases h with h | ⟨C, dx, fs, h, k⟩
  · exact ⟨_, .base (.dK h), kit_ty (by decide +kernel), kit_ty (by decide +kernel)⟩
  · exact ⟨_, .base (.ins h k.cl k.ha k.hn k.tk k.mo), k.kt, k.kl⟩
theorem ty_tup {K : PySem.W.Frag} {pa : List Addr} {v : V} {d : PyData} (h : DD K pa H v d) : ∃ t, TyX K H v t ∧ PySem.W.kitOne K t (.type "tuple") = some (isTup d) := by
  cases h with
  | non => exact ⟨_, .base .non, kit_ty (r := false) (by decide +kernel)⟩
  | bl b => exact ⟨_, .base (.bl b), kit_ty (r := false) (by decide +kernel)⟩
  | int i => exact ⟨_, .base (.int i), kit_ty (r := false) (by decide +kernel)⟩
  | str x => exact ⟨_, .base (.str x), kit_ty (r := false) (by decide +kernel)⟩
  | lst h1 h2 h3 => exact ⟨_, .base (.lst h1), kit_ty (r := false) (by decide +kernel)⟩
  | tup h1 h2 h3 => exact ⟨_, .base (.tup h1), kit_ty (r := true) (by decide +kernel)⟩
  | opq h1 h2 =>
    obtain ⟨t, h3, h4, h5⟩ := opq_ty h1
    exact ⟨t, h3, h4⟩
theorem ty_lst {K : PySem.W.Frag} {pa : List Addr} {v : V} {d : PyData} (h : DD K pa H v d) : ∃ t, TyX K H v t ∧ PySem.W.kitOne K t (.type "list") = some (isLst d) ∧ PySem.W.kitOne K t (.type "tuple") = some (isTup d) := by
  cases h with
  | non => exact ⟨_, .base .non, kit_ty (r := false) (by decide +kernel), kit_ty (r := false) (by decide +kernel)⟩
  | bl b => exact ⟨_, .base (.bl b), kit_ty (r := false) (by decide +kernel), kit_ty (r := false) (by decide +kernel)⟩
  | int i => exact ⟨_, .base (.int i), kit_ty (r := false) (by decide +kernel), kit_ty (r := false) (by decide +kernel)⟩
  | str x => exact ⟨_, .base (.str x), kit_ty (r := false) (by decide +kernel), kit_ty (r := false) (by decide +kernel)⟩
  | lst h1 h2 h3 => exact ⟨_, .base (.lst h1), kit_ty (r := true) (by decide +kernel), kit_ty (r := false) (by decide +kernel)⟩
  | tup h1 h2 h3 => exact ⟨_, .base (.tup h1), kit_ty (r := false) (by decide +kernel), kit_ty (r := true) (by decide +kernel)⟩
  | opq h1 h2 =>
    obtain ⟨t, h3, h4, h5⟩ := opq_ty h1
    exact ⟨t, h3, h5, h4⟩
/-- no object of another kind -/
def noq : PyData → Bool
  | .dict _ => false
  | _ => true
theorem ty_int {K : PySem.W.Frag} {pa : List Addr} {v : V} {d : PyData} (h : DD K pa H v d) (n : noq d = true) : ∃ t, TyX K H v t ∧ PySem.W.kitOne K t (.type "int") = some (isIn d) ∧ PySem.W.kitOne K t (.type "bool") = some (isBoo d) := by
  cases h with
  | non => exact ⟨_, .base .non, kit_ty (r := false) (by decide +kernel), kit_ty (r := false) (by decide +kernel)⟩
  | bl b => exact ⟨_, .base (.bl b), kit_ty (r := true) (by decide +kernel), kit_ty (r := true) (by decide +kernel)⟩
  | int i => exact ⟨_, .base (.int i), kit_ty (r := true) (by decide +kernel), kit_ty (r := false) (by decide +kernel)⟩
  | str x => exact ⟨_, .base (.str x), kit_ty (r := false) (by decide +kernel), kit_ty (r := false) (by decide +kernel)⟩
  | lst h1 h2 h3 => exact ⟨_, .base (.lst h1), kit_ty (r := false) (by decide +kernel), kit_ty (r := false) (by decide +kernel)⟩
  | tup h1 h2 h3 => exact ⟨_, .base (.tup h1), kit_ty (r := false) (by decide +kernel), kit_ty (r := false) (by decide +kernel)⟩
  | opq h1 h2 => cases n
/-- the built-in class T, as a value -/
theorem ev_ty {T : String} (hg : Gl X x) (hm : X.mg x = none) (hv : bootBuiltins x = some (.type T)) (hn : x ≠ "__name__" := by decide) (hd : (x == ("__debug__" : Str)) = false := by decide) : EV X c I I (.Name x pos) σ H fun v _ => v = .ty T :=
  EV.of (pe_bltn (v := .ty T) hg hm hv rfl hn hd) fun H1 l Q q => q _ H1 (.refl l.ok) rfl
theorem ev_isi {d : PyData} {T : String} {k : Bool} {y : Str} {p2 : Pos} (B : Bn X.mg) (hy : X.mg y = none) (hv : bootBuiltins y = some (.type T)) (ha : ED X c I I a σ H d) (hk : ∀ H1 v, Le c I H H1 → DD X.K c.pa H1 v d → ∃ t, TyX X.K H1 v t ∧ PySem.W.kitOne X.K t (.type T) = some k)
    (hg : Gl X "isinstance" := by rfl) (hgy : Gl X y := by rfl) (hn : y ≠ "__name__" := by decide) (hd : (y == ("__debug__" : Str)) = false := by decide)
    (he : starEach [a, .Name y p2] X.env = (false, eval a X.env) :: starEach [.Name y p2] X.env := by rfl) (he2 : starEach [.Name y p2] X.env = (false, eval (.Name y p2) X.env) :: starEach [] X.env := by rfl)
    (hpl : (backTo pos (starEach [.Name y p2] X.env)).any (·.1) = false := by rfl) :
    ED X c I I (.Call (.Name "isinstance" p) [a, .Name y p2] [] pos) σ H (.bool k) :=
  ev_callB call_isi B.isinstance (by decide +kernel) (av_cons ha mdd (av_cons (ev_ty hgy hy hv hn hd) meq av_nil he2) he) (fun vs H1 l w Q q => by
    obtain ⟨v, r, rfl, h1, u, r', rfl, rfl, rfl⟩ := w
    obtain ⟨t, h3, h4⟩ := hk H1 v l h1
    exact ⟨v, .ty T, t, .type T, k, rfl, .ty T, h3, h4, q _ H1 (.refl l.ok) (.bl k)⟩) hg (by decide) (by decide) he hpl
theorem ed_isTup {d : PyData} {p2 : Pos} (B : Bn X.mg) (ha : ED X c I I a σ H d) (hg : Gl X "isinstance" := by rfl) (hgy : Gl X "tuple" := by rfl)
    (he : starEach [a, .Name "tuple" p2] X.env = (false, eval a X.env) :: starEach [.Name "tuple" p2] X.env := by rfl) (he2 : starEach [.Name "tuple" p2] X.env = (false, eval (.Name "tuple" p2) X.env) :: starEach [] X.env := by rfl)
    (hpl : (backTo pos (starEach [.Name "tuple" p2] X.env)).any (·.1) = false := by rfl) : ED X c I I (.Call (.Name "isinstance" p) [a, .Name "tuple" p2] [] pos) σ H (.bool (isTup d)) :=
  ev_isi (T := "tuple") B B.tuple (by decide +kernel) ha (fun H1 v l h => by
    obtain ⟨t, h1, h2⟩ := ty_tup h
    exact ⟨t, h1, h2⟩) hg hgy (by decide) (by decide) he he2 hpl
theorem ed_isInt {d : PyData} {p2 : Pos} (B : Bn X.mg) (n : noq d = true) (ha : ED X c I I a σ H d) (hg : Gl X "isinstance" := by rfl) (hgy : Gl X "int" := by rfl)
    (he : starEach [a, .Name "int" p2] X.env = (false, eval a X.env) :: starEach [.Name "int" p2] X.env := by rfl) (he2 : starEach [.Name "int" p2] X.env = (false, eval (.Name "int" p2) X.env) :: starEach [] X.env := by rfl)
    (hpl : (backTo pos (starEach [.Name "int" p2] X.env)).any (·.1) = false := by rfl) : ED X c I I (.Call (.Name "isinstance" p) [a, .Name "int" p2] [] pos) σ H (.bool (isIn d)) :=
  ev_isi (T := "int") B B.int (by decide +kernel) ha (fun H1 v l h => by
    obtain ⟨t, h1, h2, h3⟩ := ty_int h n
    exact ⟨t, h1, h2⟩) hg hgy (by decide) (by decide) he he2 hpl
theorem ed_isBoo {d : PyData} {p2 : Pos} (B : Bn X.mg) (n : noq d = true) (ha : ED X c I I a σ H d) (hg : Gl X "isinstance" := by rfl) (hgy : Gl X "bool" := by rfl)
    (he : starEach [a, .Name "bool" p2] X.env = (false, eval a X.env) :: starEach [.Name "bool" p2] X.env := by rfl) (he2 : starEach [.Name "bool" p2] X.env = (false, eval (.Name "bool" p2) X.env) :: starEach [] X.env := by rfl)
    (hpl : (backTo pos (starEach [.Name "bool" p2] X.env)).any (·.1) = false := by rfl) : ED X c I I (.Call (.Name "isinstance" p) [a, .Name "bool" p2] [] pos) σ H (.bool (isBoo d)) :=
  ev_isi (T := "bool") B B.bool (by decide +kernel) ha (fun H1 v l h => by
    obtain ⟨t, h1, h2, h3⟩ := ty_int h n
    exact ⟨t, h1, h3⟩) hg hgy (by decide) (by decide) he he2 hpl
/-- isinstance(a, (list, tuple)) -/
theorem ed_isLT {d : PyData} {p2 p3 p4 : Pos} {n : Nat} (B : Bn X.mg) (ha : ED X c I I a σ H d) (hg : Gl X "isinstance" := by rfl) (hgy : Gl X "list" := by rfl) (hgz : Gl X "tuple" := by rfl)
    (he : starEach [a, .Tuple [.Name "list" p2, .Name "tuple" p3] n p4] X.env = (false, eval a X.env) :: starEach [.Tuple [.Name "list" p2, .Name "tuple" p3] n p4] X.env := by rfl)
    (he2 : starEach [.Tuple [.Name "list" p2, .Name "tuple" p3] n p4] X.env = (false, eval (.Tuple [.Name "list" p2, .Name "tuple" p3] n p4) X.env) :: starEach [] X.env := by rfl)
    (he3 : starEach [.Name "list" p2, .Name "tuple" p3] X.env = (false, eval (.Name "list" p2) X.env) :: starEach [.Name "tuple" p3] X.env := by rfl) (he4 : starEach [.Name "tuple" p3] X.env = (false, eval (.Name "tuple" p3) X.env) :: starEach [] X.env := by rfl)
    (hpl : (backTo pos (starEach [.Tuple [.Name "list" p2, .Name "tuple" p3] n p4] X.env)).any (·.1) = false := by rfl) : ED X c I I (.Call (.Name "isinstance" p) [a, .Tuple [.Name "list" p2, .Name "tuple" p3] n p4] [] pos) σ H (.bool (isLst d || isTup d)) := by
  have ht : EV X c I I (.Tuple [.Name "list" p2, .Name "tuple" p3] n p4) σ H fun v H' => ∃ tp, v = .ref tp ∧ H' tp = some (.tup [.ty "list", .ty "tuple"]) ∧ tp ∉ c.pa :=
    EV.of (pe_tup paS) fun H1 l Q q => (av_cons (I := I) (J := I) (L := I) (ev_ty (T := "list") hgy B.list (by decide +kernel)) meq (av_cons (ev_ty (T := "tuple") hgz B.tuple (by decide +kernel)) meq av_nil he4) he3) H1 l _ fun vs H2 l2 w => by
      obtain ⟨v, r, rfl, rfl, u, r', rfl, rfl, rfl⟩ := w
      exact ⟨by show 2 ≤ sizeLine; decide, fun tp hp => q _ _ (l2.new hp) ⟨tp, rfl, upd_same, l2.ok.npa hp⟩⟩
  refine ev_callB call_isiT B.isinstance (by decide +kernel) (av_cons ha mdd (av_cons ht (fun v H1 H2 l h => ?_) av_nil he2) he) (fun vs H1 l w Q q => ?_) hg (by decide) (by decide) he hpl
  · obtain ⟨tp, rfl, e, m⟩ := h
    exact ⟨tp, rfl, l.ex tp _ e (fun _ z => nomatch z) m, m⟩
  · obtain ⟨v, r, rfl, h1, u, r', rfl, ⟨tp, rfl, h2, _⟩, rfl⟩ := w
    obtain ⟨t, h3, h4, h5⟩ := ty_lst h1
    refine ⟨v, tp, _, t, [.type "list", .type "tuple"], isLst d || isTup d, rfl, h2, .cons (.ty _) (.cons (.ty _) .nil), h3, ?_, q _ H1 (.refl l.ok) (.bl _)⟩
    refine kitAny_cons h4 (fun z => ?_) (fun z => by rw [z]; rfl)
    rw [z, Bool.false_or]
    exact kitAny_cons h5 (fun y => by rw [y]; exact kitAny_nil) (fun y => y)
end
end K93
set_option maxHeartbeats 4000000
/-! K93F: statements, loops, comprehensions, calls of defs. -/
namespace K93
open PySem PySem.Spec PyProof.Rows L2
/-! ### defs by their promises -/
structure FnD (P : Program) (w : World) (K : PySem.W.Frag) (mg : Str → Option Value) (base : Heap) (CX : CXT) (k : Nat) (x : Str) (sp : Sp) : Prop where
  ex : ∃ f fd ps, mg x = some (.ref f) ∧ PySem.W.keepIn K (.ref f) = true ∧ Binds K fd ps [] ∧ FnOk P w K mg base CX k f fd ps sp
theorem FnD.mono {P : Program} {w : World} {K : PySem.W.Frag} {mg : Str → Option Value} {base : Heap} {CX : CXT} {j k : Nat} {x : Str} {sp : Sp} (F : FnD P w K mg base CX j x sp) (h : j ≤ k) : FnD P w K mg base CX k x sp := by
  obtain ⟨f, fd, ps, a, b, d, e⟩ := F.ex
  exact ⟨f, fd, ps, a, b, d, e.mono h⟩
/-- a def that gives of data data, and leaves what stands -/
def PSp (K : PySem.W.Frag) (R : List PyData → PyData → Prop) : Sp := fun vs H Q _ => ∃ (c : Kx) (I : Ix c.pa) (ds : List PyData) (d : PyData), Ok c I H ∧ DDs K c.pa H vs ds ∧ R ds d ∧ ∀ v H1, Le c I H H1 → DD K c.pa H1 v d → Q v H1
section
variable {X : Cx} {c : Kx} {I J L : Ix c.pa} {σ : St} {H H' : Hp} {e a b f : Expr} {es : List Expr} {P P' : V → Hp → Prop} {p pos : Pos} {x : Str} {k : Nat} {sp : Sp} {D : Ends} {st : Stmt} {rest body orelse : List Stmt}
theorem ev_call {R : List V → Hp → Prop} (F : FnD X.prog X.w X.K X.mg X.base CX0 k x sp) (hr : Room k X.A) (ha : AV X c I J (e :: es) σ H R)
    (hs : ∀ vs H1, Le c J H H1 → R vs H1 → ∀ Q : VK, (∀ z H2, Le c L H1 H2 → P z H2 → Q z H2) → sp vs H1 Q E0) (hg : Gl X x := by rfl) (hdb : (x == ("__debug__" : Str)) = false := by decide)
    (he : starEach (e :: es) X.env = (false, eval e X.env) :: starEach es X.env := by rfl) (hpl : (backTo pos (starEach es X.env)).any (·.1) = false := by rfl) : EV X c I L (.Call (.Name x p) (e :: es) [] pos) σ H P := by
  obtain ⟨f, fd, ps, hm, kp, bd, F⟩ := F.ex
  refine EV.of (pe_call F hr hg hm kp bd .nil pass0 paS hdb he hpl) fun H1 l Q q => ha H1 l _ fun vs H2 l2 w => ?_
  rw [List.append_nil]
  exact hs vs H2 (l.trans l2) w Q fun z H3 l3 y => q z H3 (l2.trans l3) y
theorem ev_call0 (F : FnD X.prog X.w X.K X.mg X.base CX0 k x sp) (hr : Room k X.A) (hs : ∀ H1, Le c I H H1 → ∀ Q : VK, (∀ z H2, Le c L H1 H2 → P z H2 → Q z H2) → sp [] H1 Q E0) (hg : Gl X x := by rfl) (hdb : (x == ("__debug__" : Str)) = false := by decide) :
    EV X c I L (.Call (.Name x p) [] [] pos) σ H P := by
  obtain ⟨f, fd, ps, hm, kp, bd, F⟩ := F.ex
  exact EV.of (pe_call0 F hr hg hm kp bd .nil pass0 hdb) fun H1 l Q q => hs H1 l Q q
theorem ed_call {R : List PyData → PyData → Prop} {ds : List PyData} {d : PyData} (F : FnD X.prog X.w X.K X.mg X.base CX0 k x (PSp X.K R)) (hr : Room k X.A) (ha : AD X c I J (e :: es) σ H ds) (r : R ds d) (hg : Gl X x := by rfl) (hdb : (x == ("__debug__" : Str)) = false := by decide)
    (he : starEach (e :: es) X.env = (false, eval e X.env) :: starEach es X.env := by rfl) (hpl : (backTo pos (starEach es X.env)).any (·.1) = false := by rfl) : ED X c I J (.Call (.Name x p) (e :: es) [] pos) σ H d :=
  ev_call F hr ha (fun vs H1 l w Q q => ⟨c, J, ds, d, l.ok, w, r, q⟩) hg hdb he hpl
theorem ed_call0 {R : List PyData → PyData → Prop} {d : PyData} (F : FnD X.prog X.w X.K X.mg X.base CX0 k x (PSp X.K R)) (hr : Room k X.A) (r : R [] d) (hg : Gl X x := by rfl) (hdb : (x == ("__debug__" : Str)) = false := by decide) : ED X c I I (.Call (.Name x p) [] [] pos) σ H d :=
  ev_call0 F hr (fun H1 l Q q => ⟨c, I, [], d, l.ok, .nil, r, q⟩) hg hdb

/-! ### statements -/
theorem ss_of {t : TS} (p : PS X st t) (h : t D σ H) : SS X D st σ H := ⟨fun pins s i => p.run pins s σ H D i h⟩
theorem sb_nil (h : D.nx σ H) : SB X D [] σ H := ⟨fun pins s i => pss_nil.run pins s σ H D i h⟩
theorem sb_cons (h : SS X { D with nx := fun σ' H' => SB X D rest σ' H' } st σ H) : SB X D (st :: rest) σ H := ⟨fun pins s i => (pss_cons psS pbS).run pins s σ H D i h⟩
theorem sb_of {t : TS} (p : PS X st t) (h : t { D with nx := fun σ' H' => SB X D rest σ' H' } σ H) : SB X D (st :: rest) σ H := sb_cons (ss_of p h)
theorem sb_set (i : Nat) {pos' : Pos} (ok : Ok c I H) (h : EV X c I J e σ H P) (hN : X.N.Nodup) (k : ∀ v H1, Le c J H H1 → P v H1 → SB X D rest (σ.set i (some v)) H1) (hi : X.N[i]? = some x := by rfl) (hx : Loc X.env.scope x := by first | exact Or.inl rfl | exact Or.inr rfl)
    (hs : swapsWith e (some (.Name x pos')) pos.line X.env = pure false := by rfl) (hf : X.fn x = true ∨ X.env.scope.names.lookup x = some .local := by first | exact .inl rfl | exact .inr rfl) : SB X D (.Assign [.Name x pos'] e pos :: rest) σ H :=
  sb_of (ps_set hN hi hx peS hs hf) (h H (.refl ok) _ k)
theorem sb_ret (ok : Ok c I H) (h : EV X c I J e σ H P) (k : ∀ v H1, Le c J H H1 → P v H1 → D.rt v H1) : SB X D (.Return (some e) pos :: rest) σ H := sb_of (ps_ret peS) (h H (.refl ok) _ k)
theorem sb_expr (ok : Ok c I H) (h : EV X c I J e σ H P) (k : ∀ v H1, Le c J H H1 → P v H1 → SB X D rest σ H1) (hs : swapsWith e none pos.line X.env = pure false := by rfl) : SB X D (.Expr e pos :: rest) σ H := sb_of (ps_expr peS hs) (h H (.refl ok) _ k)
theorem sb_if {q : Bool} (ok : Ok c I H) (h : TV X c I J f σ H q) (h1 : q = true → ∀ H1, Le c J H H1 → SB X { D with nx := fun σ' H' => SB X D rest σ' H' } body σ H1) (h2 : q = false → ∀ H1, Le c J H H1 → SB X { D with nx := fun σ' H' => SB X D rest σ' H' } orelse σ H1) :
    SB X D (.If f body orelse pos :: rest) σ H :=
  sb_of (ps_if ptS pbS pbS) (h H (.refl ok) _ fun H1 l => by
    cases q with
    | true => exact h1 rfl H1 l
    | false => exact h2 rfl H1 l)
/-- an if without else -/
theorem sb_when {q : Bool} (ok : Ok c I H) (h : TV X c I J f σ H q) (h1 : q = true → ∀ H1, Le c J H H1 → SB X { D with nx := fun σ' H' => SB X D rest σ' H' } body σ H1) (h2 : q = false → ∀ H1, Le c J H H1 → SB X D rest σ H1) : SB X D (.If f body [] pos :: rest) σ H :=
  sb_if ok h h1 fun z H1 l => sb_nil (h2 z H1 l)
/-- a, b = e and a, b, c = e -/
theorem sb_set2 (i j : Nat) {y : Str} {px py pt : Pos} {n : Nat} {d d' : PyData} (ok : Ok c I H) (h : ED X c I J e σ H (.tuple [d, d'])) (hN : X.N.Nodup) (k : ∀ v u H1, Le c J H H1 → DD X.K c.pa H1 v d → DD X.K c.pa H1 u d' → SB X D rest ((σ.set i (some v)).set j (some u)) H1)
    (hc : X.calm = true := by rfl) (hi : X.N[i]? = some x := by rfl) (hx : Loc X.env.scope x := by first | exact Or.inl rfl | exact Or.inr rfl) (hj : X.N[j]? = some y := by rfl) (hy : Loc X.env.scope y := by first | exact Or.inl rfl | exact Or.inr rfl)
    (hf : X.fn x = true ∨ X.env.scope.names.lookup x = some .local := by first | exact .inl rfl | exact .inr rfl) (hf2 : X.fn y = true ∨ X.env.scope.names.lookup y = some .local := by first | exact .inl rfl | exact .inr rfl)
    (hs : swapsWithSole [.Tuple [.Name x px, .Name y py] n pt] e pos.line X.env = pure false := by rfl) (hw : swappedStores [.Tuple [.Name x px, .Name y py] n pt] e X.env = pure none := by rfl) :
    SB X D (.Assign [.Tuple [.Name x px, .Name y py] n pt] e pos :: rest) σ H :=
  sb_of (ps_asg peS (pg_tup (n := 2) hc (pgs_cons (pg_name hN hi hx hf) (pgs_cons (pg_name hN hj hy hf2) pgs_nil))) hs hw) (h H (.refl ok) _ fun v H1 l w => by
    obtain ⟨t, xs, rfl, h1, h2, h3⟩ := w.tupOf
    obtain ⟨v, u, rfl, w1, w2⟩ := dds2 h3
    exact ⟨t, _, rfl, .of h1, rfl, v, [u], rfl, u, [], rfl, rfl, k v u H1 l w1 w2⟩)
theorem dds3 {K : PySem.W.Frag} {pa : List Addr} {vs : List V} {d d' d'' : PyData} (h : DDs K pa H vs [d, d', d'']) : ∃ v u w, vs = [v, u, w] ∧ DD K pa H v d ∧ DD K pa H u d' ∧ DD K pa H w d'' := by
  cases h with
  | cons h1 h2 =>
    obtain ⟨u, w, rfl, h3, h4⟩ := dds2 h2
    exact ⟨_, _, _, rfl, h1, h3, h4⟩
theorem sb_set3 (i j m : Nat) {y z : Str} {px py pz pt : Pos} {n : Nat} {d d' d'' : PyData} (ok : Ok c I H) (h : ED X c I J e σ H (.tuple [d, d', d''])) (hN : X.N.Nodup)
    (k : ∀ v u w H1, Le c J H H1 → DD X.K c.pa H1 v d → DD X.K c.pa H1 u d' → DD X.K c.pa H1 w d'' → SB X D rest (((σ.set i (some v)).set j (some u)).set m (some w)) H1)
    (hc : X.calm = true := by rfl) (hi : X.N[i]? = some x := by rfl) (hx : Loc X.env.scope x := by first | exact Or.inl rfl | exact Or.inr rfl) (hj : X.N[j]? = some y := by rfl) (hy : Loc X.env.scope y := by first | exact Or.inl rfl | exact Or.inr rfl)
    (hm : X.N[m]? = some z := by rfl) (hz : Loc X.env.scope z := by first | exact Or.inl rfl | exact Or.inr rfl)
    (hf : X.fn x = true ∨ X.env.scope.names.lookup x = some .local := by first | exact .inl rfl | exact .inr rfl) (hf2 : X.fn y = true ∨ X.env.scope.names.lookup y = some .local := by first | exact .inl rfl | exact .inr rfl) (hf3 : X.fn z = true ∨ X.env.scope.names.lookup z = some .local := by first | exact .inl rfl | exact .inr rfl)
    (hs : swapsWithSole [.Tuple [.Name x px, .Name y py, .Name z pz] n pt] e pos.line X.env = pure false := by rfl) (hw : swappedStores [.Tuple [.Name x px, .Name y py, .Name z pz] n pt] e X.env = pure none := by rfl) :
    SB X D (.Assign [.Tuple [.Name x px, .Name y py, .Name z pz] n pt] e pos :: rest) σ H :=
  sb_of (ps_asg peS (pg_tup (n := 3) hc (pgs_cons (pg_name hN hi hx hf) (pgs_cons (pg_name hN hj hy hf2) (pgs_cons (pg_name hN hm hz hf3) pgs_nil)))) hs hw) (h H (.refl ok) _ fun v H1 l w => by
    obtain ⟨t, xs, rfl, h1, h2, h3⟩ := w.tupOf
    obtain ⟨v, u, w, rfl, w1, w2, w3⟩ := dds3 h3
    exact ⟨t, _, rfl, .of h1, rfl, v, [u, w], rfl, u, [w], rfl, w, [], rfl, rfl, k v u w H1 l w1 w2 w3⟩)
/-- xs.append(e), xs the list at l -/
theorem sb_app {l : Addr} {xs : List V} {o : Expr} {apos cpos : Pos} (ok : Ok c I H) (ho : EV X c I I o σ H fun v _ => v = .ref l) (h : EV X c I J e σ H P) (hl : ∀ H1, Le c J H H1 → H1 l = some (.lst xs)) (hl0 : ∀ H1, Le c I H H1 → H1 l = some (.lst xs)) (hz : xs.length < 1000000)
    (k : ∀ v H1, Le c J H H1 → P v H1 → SB X D rest σ (upd H1 l (.lst (xs ++ [v]))))
    (hbase : attributeBase o "append" X.env (eval o X.env) = eval o X.env := by rfl)
    (hfew : ((backTo cpos (starEach [e] X.env)).all (fun x => !x.1) && (backToKw cpos (keywordEach [] X.env)).all (fun x => x.1.isSome) && decide (([e] : List Expr).length + ([] : List Keyword).length + (if ([] : List Keyword).isEmpty then 0 else 1) < 30)) = true := by rfl)
    (hline : (apos.endLine == cpos.line) = true := by rfl) (hs : starEach [e] X.env = (false, eval e X.env) :: starEach [] X.env := by rfl) (hplain : (backTo cpos (starEach [] X.env)).any (·.1) = false := by rfl)
    (hsw : swapsWith (.Call (.Attribute o "append" apos) [e] [] cpos) none pos.line X.env = pure false := by rfl) : SB X D (.Expr (.Call (.Attribute o "append" apos) [e] [] cpos) pos :: rest) σ H :=
  sb_of (ps_expr (pe_bm PySem.F.plainAttrs_list PySem.F.slot_list_append PySem.F.type_list_append mt_append peS (pa_cons peS pa_nil hs) hbase hfew hline hs hplain) hsw) (ho H (.refl ok) _ fun v H1 l1 w => by
    cases w
    refine ⟨Or.inl ⟨rfl, xs, .of (hl0 H1 l1)⟩, h H1 l1 _ fun u H2 l2 w2 => ⟨l, xs, u, rfl, rfl, hl H2 (l1.trans l2), Nat.lt_of_lt_of_le hz (by decide), k u H2 (l1.trans l2) w2⟩⟩)
end
end K93
set_option maxHeartbeats 4000000
/-! K93G: loops and comprehensions. -/
namespace K93
open PySem PySem.Spec PyProof.Rows L2
/-- the heap as it was, or one new object more -/
def Gr (H H' : Hp) : Prop := H' = H ∨ ∃ T o, H T = none ∧ H' = upd H T o
theorem Gr.le {c : Kx} {I : Ix c.pa} {H H' : Hp} (k : Ok c I H) (g : Gr H H') : Le c I H H' := by
  rcases g with rfl | ⟨T, o, h, rfl⟩
  · exact .refl k
  · exact .new (.refl k) h
/-- it is walked in n turns; at turn i it gives f i -/
def IT (X : Cx) (c : Kx) (I J : Ix c.pa) (tg it : Expr) (σ : St) (H : Hp) (n : Nat) (f : Nat → PyData) : Prop :=
  ∃ wi : L2.TI, PI X tg it wi ∧ ∀ H1, Le c I H H1 → ∀ R : It → Hp → Prop, (∀ Jt H2 (G : Hp → Prop) (Y : Nat → Hp → V → Hp → Prop), Le c J H1 H2 → Walk Jt n G Y → (∀ Ha, Ex c.pa H2 Ha → G Ha) →
    (∀ i Ha v Hb, i < n → Ex c.pa H2 Ha → (∀ T, Ha T = none → T ∉ c.pa) → Y i Ha v Hb → Gr Ha Hb ∧ DD X.K c.pa Hb v (f i)) → R Jt H2) → wi σ H1 R
section
variable {X : Cx} {c : Kx} {I J L : Ix c.pa} {σ : St} {H H' : Hp} {e a b tg it : Expr} {p pos : Pos} {n : Nat} {f : Nat → PyData}
theorem IT.congr {f' : Nat → PyData} (h : IT X c I J tg it σ H n f) (e : ∀ i, i < n → f i = f' i) : IT X c I J tg it σ H n f' := by
  obtain ⟨wi, h1, h2⟩ := h
  refine ⟨wi, h1, fun H1 l R q => h2 H1 l R fun Jt H2 G Y l2 W g y => q Jt H2 G Y l2 W g fun i Ha v Hb hi x np yy => ?_⟩
  rw [← e i hi]
  exact y i Ha v Hb hi x np yy
theorem it_list {ds : List PyData} (h : ED X c I J it σ H (.list ds)) : IT X c I J tg it σ H ds.length fun i => ds.getD i .none := by
  refine ⟨_, pi_list peS, fun H1 l R q => h H1 l _ fun v H2 l2 w => ?_⟩
  obtain ⟨a, xs, rfl, h1, h2, h3⟩ := w.lstOf
  refine ⟨a, rfl, ⟨xs, .of h1⟩, q _ H2 (fun Ha => SqL X.K Ha a xs) (YAt xs) l2 (by rw [← h3.length]; exact walk_list (xs := xs)) (fun Ha x => SqL.of (x _ _ h1 (fun _ z => nomatch z) h2)) fun i Ha v Hb hi x _ y => ?_⟩
  obtain ⟨rfl, y⟩ := y
  obtain ⟨d, e1, e2⟩ := h3.getV y
  refine ⟨.inl rfl, ?_⟩
  show DD X.K c.pa Hb v (ds.getD i .none)
  rw [List.getD_eq_getElem?_getD, e1]
  exact e2.mono x
theorem it_tup {ds : List PyData} (h : ED X c I J it σ H (.tuple ds)) : IT X c I J tg it σ H ds.length fun i => ds.getD i .none := by
  refine ⟨_, pi_tup peS, fun H1 l R q => h H1 l _ fun v H2 l2 w => ?_⟩
  obtain ⟨a, xs, rfl, h1, h2, h3⟩ := w.tupOf
  refine ⟨a, rfl, ⟨xs, .of h1⟩, q _ H2 (fun Ha => SqT X.K Ha a xs) (YAt xs) l2 (by rw [← h3.length]; exact walk_tup (xs := xs)) (fun Ha x => SqT.of (x _ _ h1 (fun _ z => nomatch z) h2)) fun i Ha v Hb hi x _ y => ?_⟩
  obtain ⟨rfl, y⟩ := y
  obtain ⟨d, e1, e2⟩ := h3.getV y
  refine ⟨.inl rfl, ?_⟩
  show DD X.K c.pa Hb v (ds.getD i .none)
  rw [List.getD_eq_getElem?_getD, e1]
  exact e2.mono x
theorem it_range {j : Nat} (B : Bn X.mg) (h : ED X c I J a σ H (.int (j : Int))) (hj : j ≤ 1000000) (hg : Gl X "range" := by rfl) (hs : starEach [a] X.env = [(false, eval a X.env)] := by rfl) : IT X c I J tg (.Call (.Name "range" p) [a] [] pos) σ H j fun i => .int (i : Int) := by
  refine ⟨_, pi_range1 hg B.range paS hs, fun H1 l R q => (ad_cons h ad_nil hs) H1 l _ fun vs H2 l2 w => ?_⟩
  obtain ⟨v, rfl, w1⟩ := dds1 w
  refine ⟨(j : Int), by rw [w1.intOf], by omega, by omega, q _ H2 (fun _ => True) _ l2 (by rw [Int.toNat_natCast]; exact walk_range) (fun _ _ => trivial) fun i Ha v Hb hi x _ y => ?_⟩
  obtain ⟨rfl, rfl⟩ := y
  refine ⟨.inl rfl, ?_⟩
  show DD X.K c.pa Hb (.int (0 + (i : Int))) (.int (i : Int))
  rw [Int.zero_add]
  exact .int _
theorem it_zipT {ds es : List PyData} {elts : List Expr} {kk : Nat} {tpos : Pos} (B : Bn X.mg) (ha : ED X c I J a σ H (.tuple ds)) (hb : ED X c J L b σ H (.tuple es)) (hl : ds.length = es.length) (hg : Gl X "zip" := by rfl)
    (hs : starEach [a, b] X.env = (false, eval a X.env) :: starEach [b] X.env := by rfl) (hs1 : starEach [b] X.env = (false, eval b X.env) :: starEach [] X.env := by rfl) (hpl : (backTo pos (starEach [b] X.env)).any (·.1) = false := by rfl) :
    IT X c I L (.Tuple elts kk tpos) (.Call (.Name "zip" p) [a, b] [] pos) σ H ds.length fun i => .tuple [ds.getD i .none, es.getD i .none] := by
  refine ⟨_, RZ.pi_zipA hg B.zip paS hs hpl, fun H1 l R q => (ad_cons ha (ad_cons hb ad_nil hs1) hs) H1 l _ fun vs H2 l2 w => ?_⟩
  obtain ⟨v, u, rfl, w1, w2⟩ := dds2 w
  obtain ⟨s, xs, rfl, h1, h2, h3⟩ := w1.tupOf
  obtain ⟨t, ys, rfl, g1, g2, g3⟩ := w2.tupOf
  have ln := h3.length
  have lm := g3.length
  refine ⟨s, t, xs, ys, rfl, .inr ⟨.of h1, .of g1, q _ H2 (fun Ha => Ha s = some (.tup xs) ∧ Ha t = some (.tup ys)) (fun i Ha v Hb => ∃ T x y, v = .ref T ∧ Ha T = none ∧ Hb = upd Ha T (.tup [x, y]) ∧ xs[i]? = some x ∧ ys[i]? = some y) l2 ⟨fun i Ha hi g => ?_, fun Ha g => ?_, fun i Ha v Hb hi g y => ?_⟩
    (fun Ha x => ⟨x _ _ h1 (fun _ z => nomatch z) h2, x _ _ g1 (fun _ z => nomatch z) g2⟩) fun i Ha v Hb hi x np y => ?_⟩⟩
  · exact ⟨xs, ys, xs[i], ys[i], .of g.1, .of g.2, by simp, by simp⟩
  · exact ⟨xs, ys, .of g.1, .of g.2, .inl (by omega)⟩
  · obtain ⟨T, x, y, e1, e2, e3, e4, e5⟩ := y
    exact ⟨T, x, y, e1, e2, e3, e4 _ (.of g.1), e5 _ (.of g.2)⟩
  · obtain ⟨T, x', y', rfl, e2, rfl, e4, e5⟩ := y
    obtain ⟨d1, f1, f2⟩ := h3.getV e4
    obtain ⟨d2, f3, f4⟩ := g3.getV e5
    refine ⟨.inr ⟨T, _, e2, rfl⟩, ?_⟩
    show DD X.K c.pa _ _ (.tuple [ds.getD i .none, es.getD i .none])
    rw [List.getD_eq_getElem?_getD, List.getD_eq_getElem?_getD, f1, f3]
    have z : Ex c.pa Ha (upd Ha T (.tup [x', y'])) := fun b o h _ _ => upd_new e2 b o h
    exact .tup upd_same (np T e2) (.cons ((f2.mono x).mono z) (.cons ((f4.mono x).mono z) .nil))
theorem it_zipTL {ds es : List PyData} {elts : List Expr} {kk : Nat} {tpos : Pos} (B : Bn X.mg) (ha : ED X c I J a σ H (.tuple ds)) (hb : ED X c J L b σ H (.list es)) (hl : ds.length = es.length) (hg : Gl X "zip" := by rfl)
    (hs : starEach [a, b] X.env = (false, eval a X.env) :: starEach [b] X.env := by rfl) (hs1 : starEach [b] X.env = (false, eval b X.env) :: starEach [] X.env := by rfl) (hpl : (backTo pos (starEach [b] X.env)).any (·.1) = false := by rfl) :
    IT X c I L (.Tuple elts kk tpos) (.Call (.Name "zip" p) [a, b] [] pos) σ H ds.length fun i => .tuple [ds.getD i .none, es.getD i .none] := by
  refine ⟨_, pi_z2 hg B.zip paS hs hpl, fun H1 l R q => (ad_cons ha (ad_cons hb ad_nil hs1) hs) H1 l _ fun vs H2 l2 w => ?_⟩
  obtain ⟨v, u, rfl, w1, w2⟩ := dds2 w
  obtain ⟨s, xs, rfl, h1, h2, h3⟩ := w1.tupOf
  obtain ⟨t, ys, rfl, g1, g2, g3⟩ := w2.lstOf
  have ln := h3.length
  have lm := g3.length
  refine ⟨s, t, xs, ys, rfl, h1, g1, q _ H2 (fun Ha => Ha s = some (.tup xs) ∧ Ha t = some (.lst ys)) (ItZ2 s t xs ys).yld l2 ⟨fun i Ha hi g => ⟨g.1, g.2, by omega⟩, fun Ha g => ⟨g.1, g.2, by omega⟩, fun i Ha v Hb hi g y => y⟩
    (fun Ha x => ⟨x _ _ h1 (fun _ z => nomatch z) h2, x _ _ g1 (fun _ z => nomatch z) g2⟩) fun i Ha v Hb hi x np y => ?_⟩
  obtain ⟨T, x', y', rfl, e2, rfl, e4, e5⟩ := y
  obtain ⟨d1, f1, f2⟩ := h3.getV e4
  obtain ⟨d2, f3, f4⟩ := g3.getV e5
  refine ⟨.inr ⟨T, _, e2, rfl⟩, ?_⟩
  show DD X.K c.pa _ _ (.tuple [ds.getD i .none, es.getD i .none])
  rw [List.getD_eq_getElem?_getD, List.getD_eq_getElem?_getD, f1, f3]
  have z : Ex c.pa Ha (upd Ha T (.tup [x', y'])) := fun b o h _ _ => upd_new e2 b o h
  exact .tup upd_same (np T e2) (.cons ((f2.mono x).mono z) (.cons ((f4.mono x).mono z) .nil))
theorem it_zip3 {d : Expr} {ds es gs : List PyData} {elts : List Expr} {kk : Nat} {tpos : Pos} (B : Bn X.mg) (ha : ED X c I I a σ H (.tuple ds)) (hb : ED X c I I b σ H (.tuple es)) (hd : ED X c I I d σ H (.tuple gs)) (hl : ds.length = es.length) (hl2 : ds.length = gs.length) (hg : Gl X "zip" := by rfl)
    (hs : starEach [a, b, d] X.env = (false, eval a X.env) :: starEach [b, d] X.env := by rfl) (hs1 : starEach [b, d] X.env = (false, eval b X.env) :: starEach [d] X.env := by rfl) (hs2 : starEach [d] X.env = (false, eval d X.env) :: starEach [] X.env := by rfl)
    (hpl : (backTo pos (starEach [b, d] X.env)).any (·.1) = false := by rfl) :
    IT X c I I (.Tuple elts kk tpos) (.Call (.Name "zip" p) [a, b, d] [] pos) σ H ds.length fun i => .tuple [ds.getD i .none, es.getD i .none, gs.getD i .none] := by
  refine ⟨_, pi_z3 hg B.zip paS hs hpl, fun H1 l R q => (ad_cons ha (ad_cons hb (ad_cons hd ad_nil hs2) hs1) hs) H1 l _ fun vs H2 l2 w => ?_⟩
  obtain ⟨v, u, w', rfl, w1, w2, w3⟩ := dds3 w
  obtain ⟨s, xs, rfl, h1, h2, h3⟩ := w1.tupOf
  obtain ⟨t, ys, rfl, g1, g2, g3⟩ := w2.tupOf
  obtain ⟨r, zs, rfl, k1, k2, k3⟩ := w3.tupOf
  have ln := h3.length
  have lm := g3.length
  have lk := k3.length
  refine ⟨s, t, r, xs, ys, zs, rfl, h1, g1, k1, q _ H2 (fun Ha => Ha s = some (.tup xs) ∧ Ha t = some (.tup ys) ∧ Ha r = some (.tup zs)) (ItZ3 s t r xs ys zs).yld l2 ⟨fun i Ha hi g => ⟨g.1, g.2.1, g.2.2, by omega⟩, fun Ha g => ⟨g.1, g.2.1, g.2.2, by omega⟩, fun i Ha v Hb hi g y => y⟩
    (fun Ha x => ⟨x _ _ h1 (fun _ z => nomatch z) h2, x _ _ g1 (fun _ z => nomatch z) g2, x _ _ k1 (fun _ z => nomatch z) k2⟩) fun i Ha v Hb hi x np y => ?_⟩
  obtain ⟨T, x', y', z', rfl, e2, rfl, e4, e5, e6⟩ := y
  obtain ⟨d1, f1, f2⟩ := h3.getV e4
  obtain ⟨d2, f3, f4⟩ := g3.getV e5
  obtain ⟨d3, f5, f6⟩ := k3.getV e6
  refine ⟨.inr ⟨T, _, e2, rfl⟩, ?_⟩
  show DD X.K c.pa _ _ (.tuple [ds.getD i .none, es.getD i .none, gs.getD i .none])
  rw [List.getD_eq_getElem?_getD, List.getD_eq_getElem?_getD, List.getD_eq_getElem?_getD, f1, f3, f5]
  have z : Ex c.pa Ha (upd Ha T (.tup [x', y', z'])) := fun b o h _ _ => upd_new e2 b o h
  exact .tup upd_same (np T e2) (.cons ((f2.mono x).mono z) (.cons ((f4.mono x).mono z) (.cons ((f6.mono x).mono z) .nil)))
theorem it_enumT {ds : List PyData} {elts : List Expr} {kk : Nat} {tpos : Pos} (B : Bn X.mg) (ha : ED X c I J a σ H (.tuple ds)) (hg : Gl X "enumerate" := by rfl) (hs : starEach [a] X.env = [(false, eval a X.env)] := by rfl) :
    IT X c I J (.Tuple elts kk tpos) (.Call (.Name "enumerate" p) [a] [] pos) σ H ds.length fun i => .tuple [.int (i : Int), ds.getD i .none] := by
  refine ⟨_, pi_en true hg B.enumerate paS hs, fun H1 l R q => (ad_cons ha ad_nil hs) H1 l _ fun vs H2 l2 w => ?_⟩
  obtain ⟨v, rfl, w1⟩ := dds1 w
  obtain ⟨s, xs, rfl, h1, h2, h3⟩ := w1.tupOf
  have ln := h3.length
  refine ⟨s, xs, rfl, h1, q _ H2 (fun Ha => Ha s = some (.tup xs)) (ItEn true s xs).yld l2 ⟨fun i Ha hi g => ⟨g, by omega⟩, fun Ha g => ⟨g, by omega⟩, fun i Ha v Hb hi g y => y⟩ (fun Ha x => x _ _ h1 (fun _ z => nomatch z) h2) fun i Ha v Hb hi x np y => ?_⟩
  obtain ⟨T, x', rfl, e2, rfl, e4⟩ := y
  obtain ⟨d1, f1, f2⟩ := h3.getV e4
  refine ⟨.inr ⟨T, _, e2, rfl⟩, ?_⟩
  show DD X.K c.pa _ _ (.tuple [.int (i : Int), ds.getD i .none])
  rw [List.getD_eq_getElem?_getD, f1]
  have z : Ex c.pa Ha (upd Ha T (.tup [.int (i : Nat), x'])) := fun b o h _ _ => upd_new e2 b o h
  exact .tup upd_same (np T e2) (.cons (.int _) (.cons ((f2.mono x).mono z) .nil))
theorem it_enumL {ds : List PyData} {elts : List Expr} {kk : Nat} {tpos : Pos} (B : Bn X.mg) (ha : ED X c I J a σ H (.list ds)) (hg : Gl X "enumerate" := by rfl) (hs : starEach [a] X.env = [(false, eval a X.env)] := by rfl) :
    IT X c I J (.Tuple elts kk tpos) (.Call (.Name "enumerate" p) [a] [] pos) σ H ds.length fun i => .tuple [.int (i : Int), ds.getD i .none] := by
  refine ⟨_, pi_en false hg B.enumerate paS hs, fun H1 l R q => (ad_cons ha ad_nil hs) H1 l _ fun vs H2 l2 w => ?_⟩
  obtain ⟨v, rfl, w1⟩ := dds1 w
  obtain ⟨s, xs, rfl, h1, h2, h3⟩ := w1.lstOf
  have ln := h3.length
  refine ⟨s, xs, rfl, h1, q _ H2 (fun Ha => Ha s = some (.lst xs)) (ItEn false s xs).yld l2 ⟨fun i Ha hi g => ⟨g, by omega⟩, fun Ha g => ⟨g, by omega⟩, fun i Ha v Hb hi g y => y⟩ (fun Ha x => x _ _ h1 (fun _ z => nomatch z) h2) fun i Ha v Hb hi x np y => ?_⟩
  obtain ⟨T, x', rfl, e2, rfl, e4⟩ := y
  obtain ⟨d1, f1, f2⟩ := h3.getV e4
  refine ⟨.inr ⟨T, _, e2, rfl⟩, ?_⟩
  show DD X.K c.pa _ _ (.tuple [.int (i : Int), ds.getD i .none])
  rw [List.getD_eq_getElem?_getD, f1]
  have z : Ex c.pa Ha (upd Ha T (.tup [.int (i : Nat), x'])) := fun b o h _ _ => upd_new e2 b o h
  exact .tup upd_same (np T e2) (.cons (.int _) (.cons ((f2.mono x).mono z) .nil))

/-! ### for -/
variable {D : Ends} {rest body : List Stmt} {g : TG}
/-- a for, by a word of the turn, the slots and the heap; what is kept may turn with the turn -/
theorem sb_for (ok : Ok c I H) (w : IT X c I J tg it σ H n f) (hg : PG X tg g) (hp : PassesOwn (model X.prog X.w) X.A X.env X.xe)
    (k : ∀ H1, Le c J H H1 → ∃ (T : Nat → Ix c.pa) (Pv : Nat → St → Hp → Prop), Pv 0 σ H1 ∧ (∀ i σ' H', i ≤ n → Pv i σ' H' → Ex c.pa H1 H' ∧ Ok c (T i) H') ∧
      (∀ i v σ' H' H'', i < n → Pv i σ' H' → Le c (T i) H' H'' → DD X.K c.pa H'' v (f i) → g v σ' H'' fun σ2 H2 => SB X { D with nx := Pv (i + 1), ct := Pv (i + 1), bk := fun σ' H' => SB X D rest σ' H' } body σ2 H2) ∧ ∀ σ' H', Pv n σ' H' → SB X D rest σ' H')
    (hc : X.calm = true := by rfl) (hs : ∀ x, foldedSetIterable it X.env x = pure x := by intro _; rfl) : SB X D (.For tg it body [] pos :: rest) σ H := by
  obtain ⟨wi, h1, h2⟩ := w
  refine sb_of (ps_for hp hc h1 hg pbS hs) (h2 H (.refl ok) _ fun Jt H2 G Y l2 W gg y => ?_)
  obtain ⟨T, Pv, k0, k1, k2, k3⟩ := k H2 l2
  exact for_it W Pv k0 (fun i σ' H' hi q => gg H' (k1 i σ' H' hi q).1) (fun i x σ' Ha Hb hi q yy => by
    obtain ⟨m1, m2⟩ := k1 i σ' Ha (Nat.le_of_lt hi) q
    obtain ⟨z1, z2⟩ := y i Ha x Hb hi m1 (fun T' hT => m2.npa hT) yy
    exact k2 i x σ' Ha Hb hi q (z1.le m2) z2) k3
/-- the target a name -/
theorem sb_for1 (j : Nat) {x : Str} {px : Pos} (ok : Ok c I H) (w : IT X c I J (.Name x px) it σ H n f) (hN : X.N.Nodup) (hp : PassesOwn (model X.prog X.w) X.A X.env X.xe)
    (k : ∀ H1, Le c J H H1 → ∃ (T : Nat → Ix c.pa) (Pv : Nat → St → Hp → Prop), Pv 0 σ H1 ∧ (∀ i σ' H', i ≤ n → Pv i σ' H' → Ex c.pa H1 H' ∧ Ok c (T i) H') ∧
      (∀ i v σ' H' H'', i < n → Pv i σ' H' → Le c (T i) H' H'' → DD X.K c.pa H'' v (f i) → SB X { D with nx := Pv (i + 1), ct := Pv (i + 1), bk := fun σ' H' => SB X D rest σ' H' } body (σ'.set j (some v)) H'') ∧ ∀ σ' H', Pv n σ' H' → SB X D rest σ' H')
    (hi : X.N[j]? = some x := by rfl) (hx : Loc X.env.scope x := by first | exact Or.inl rfl | exact Or.inr rfl) (hf : X.fn x = true ∨ X.env.scope.names.lookup x = some .local := by first | exact .inl rfl | exact .inr rfl)
    (hc : X.calm = true := by rfl) (hs : ∀ x, foldedSetIterable it X.env x = pure x := by intro _; rfl) : SB X D (.For (.Name x px) it body [] pos :: rest) σ H :=
  sb_for ok w (pg_name hN hi hx hf) hp k hc hs
/-- the target two names -/
theorem sb_for2 (j m : Nat) {x y : Str} {px py pt : Pos} {nn : Nat} {fx fy : Nat → PyData} (ok : Ok c I H) (w : IT X c I J (.Tuple [.Name x px, .Name y py] nn pt) it σ H n fun i => .tuple [fx i, fy i]) (hN : X.N.Nodup) (hp : PassesOwn (model X.prog X.w) X.A X.env X.xe)
    (k : ∀ H1, Le c J H H1 → ∃ (T : Nat → Ix c.pa) (Pv : Nat → St → Hp → Prop), Pv 0 σ H1 ∧ (∀ i σ' H', i ≤ n → Pv i σ' H' → Ex c.pa H1 H' ∧ Ok c (T i) H') ∧
      (∀ i v u σ' H' H'', i < n → Pv i σ' H' → Le c (T i) H' H'' → DD X.K c.pa H'' v (fx i) → DD X.K c.pa H'' u (fy i) → SB X { D with nx := Pv (i + 1), ct := Pv (i + 1), bk := fun σ' H' => SB X D rest σ' H' } body ((σ'.set j (some v)).set m (some u)) H'') ∧ ∀ σ' H', Pv n σ' H' → SB X D rest σ' H')
    (hc : X.calm = true := by rfl) (hi : X.N[j]? = some x := by rfl) (hx : Loc X.env.scope x := by first | exact Or.inl rfl | exact Or.inr rfl) (hf : X.fn x = true ∨ X.env.scope.names.lookup x = some .local := by first | exact .inl rfl | exact .inr rfl)
    (hm : X.N[m]? = some y := by rfl) (hy : Loc X.env.scope y := by first | exact Or.inl rfl | exact Or.inr rfl) (hf2 : X.fn y = true ∨ X.env.scope.names.lookup y = some .local := by first | exact .inl rfl | exact .inr rfl)
    (hs : ∀ x, foldedSetIterable it X.env x = pure x := by intro _; rfl) : SB X D (.For (.Tuple [.Name x px, .Name y py] nn pt) it body [] pos :: rest) σ H :=
  sb_for ok w (pg_tup (n := 2) hc (pgs_cons (pg_name hN hi hx hf) (pgs_cons (pg_name hN hm hy hf2) pgs_nil))) hp (fun H1 l => by
    obtain ⟨T, Pv, k0, k1, k2, k3⟩ := k H1 l
    refine ⟨T, Pv, k0, k1, fun i v σ' H' H'' hi q l2 d => ?_, k3⟩
    obtain ⟨t, xs, rfl, h1, h2, h3⟩ := d.tupOf
    obtain ⟨v, u, rfl, w1, w2⟩ := dds2 h3
    exact ⟨t, _, rfl, .of h1, rfl, v, [u], rfl, u, [], rfl, rfl, k2 i v u σ' H' H'' hi q l2 w1 w2⟩) hc hs
/-- the target three names -/
theorem sb_for3 (j m r : Nat) {x y z : Str} {px py pz pt : Pos} {nn : Nat} {fx fy fz : Nat → PyData} (ok : Ok c I H) (w : IT X c I J (.Tuple [.Name x px, .Name y py, .Name z pz] nn pt) it σ H n fun i => .tuple [fx i, fy i, fz i]) (hN : X.N.Nodup) (hp : PassesOwn (model X.prog X.w) X.A X.env X.xe)
    (k : ∀ H1, Le c J H H1 → ∃ (T : Nat → Ix c.pa) (Pv : Nat → St → Hp → Prop), Pv 0 σ H1 ∧ (∀ i σ' H', i ≤ n → Pv i σ' H' → Ex c.pa H1 H' ∧ Ok c (T i) H') ∧
      (∀ i v u w' σ' H' H'', i < n → Pv i σ' H' → Le c (T i) H' H'' → DD X.K c.pa H'' v (fx i) → DD X.K c.pa H'' u (fy i) → DD X.K c.pa H'' w' (fz i) → SB X { D with nx := Pv (i + 1), ct := Pv (i + 1), bk := fun σ' H' => SB X D rest σ' H' } body (((σ'.set j (some v)).set m (some u)).set r (some w')) H'') ∧ ∀ σ' H', Pv n σ' H' → SB X D rest σ' H')
    (hc : X.calm = true := by rfl) (hi : X.N[j]? = some x := by rfl) (hx : Loc X.env.scope x := by first | exact Or.inl rfl | exact Or.inr rfl) (hf : X.fn x = true ∨ X.env.scope.names.lookup x = some .local := by first | exact .inl rfl | exact .inr rfl)
    (hm : X.N[m]? = some y := by rfl) (hy : Loc X.env.scope y := by first | exact Or.inl rfl | exact Or.inr rfl) (hf2 : X.fn y = true ∨ X.env.scope.names.lookup y = some .local := by first | exact .inl rfl | exact .inr rfl)
    (hr : X.N[r]? = some z := by rfl) (hz : Loc X.env.scope z := by first | exact Or.inl rfl | exact Or.inr rfl) (hf3 : X.fn z = true ∨ X.env.scope.names.lookup z = some .local := by first | exact .inl rfl | exact .inr rfl)
    (hs : ∀ x, foldedSetIterable it X.env x = pure x := by intro _; rfl) : SB X D (.For (.Tuple [.Name x px, .Name y py, .Name z pz] nn pt) it body [] pos :: rest) σ H :=
  sb_for ok w (pg_tup (n := 3) hc (pgs_cons (pg_name hN hi hx hf) (pgs_cons (pg_name hN hm hy hf2) (pgs_cons (pg_name hN hr hz hf3) pgs_nil)))) hp (fun H1 l => by
    obtain ⟨T, Pv, k0, k1, k2, k3⟩ := k H1 l
    refine ⟨T, Pv, k0, k1, fun i v σ' H' H'' hi q l2 d => ?_, k3⟩
    obtain ⟨t, xs, rfl, h1, h2, h3⟩ := d.tupOf
    obtain ⟨v, u, w', rfl, w1, w2, w3⟩ := dds3 h3
    exact ⟨t, _, rfl, .of h1, rfl, v, [u, w'], rfl, u, [w'], rfl, w', [], rfl, rfl, k2 i v u w' σ' H' H'' hi q l2 w1 w2 w3⟩) hc hs
/-! the same; told: a turn's start makes one object at most -/
/-- a for, by a word of the turn, the slots and the heap; what is kept may turn with the turn -/
theorem sb_forG (ok : Ok c I H) (w : IT X c I J tg it σ H n f) (hg : PG X tg g) (hp : PassesOwn (model X.prog X.w) X.A X.env X.xe)
    (k : ∀ H1, Le c J H H1 → ∃ (T : Nat → Ix c.pa) (Pv : Nat → St → Hp → Prop), Pv 0 σ H1 ∧ (∀ i σ' H', i ≤ n → Pv i σ' H' → Ex c.pa H1 H' ∧ Ok c (T i) H') ∧
      (∀ i v σ' H' H'', i < n → Pv i σ' H' → Gr H' H'' → DD X.K c.pa H'' v (f i) → g v σ' H'' fun σ2 H2 => SB X { D with nx := Pv (i + 1), ct := Pv (i + 1), bk := fun σ' H' => SB X D rest σ' H' } body σ2 H2) ∧ ∀ σ' H', Pv n σ' H' → SB X D rest σ' H')
    (hc : X.calm = true := by rfl) (hs : ∀ x, foldedSetIterable it X.env x = pure x := by intro _; rfl) : SB X D (.For tg it body [] pos :: rest) σ H := by
  obtain ⟨wi, h1, h2⟩ := w
  refine sb_of (ps_for hp hc h1 hg pbS hs) (h2 H (.refl ok) _ fun Jt H2 G Y l2 W gg y => ?_)
  obtain ⟨T, Pv, k0, k1, k2, k3⟩ := k H2 l2
  exact for_it W Pv k0 (fun i σ' H' hi q => gg H' (k1 i σ' H' hi q).1) (fun i x σ' Ha Hb hi q yy => by
    obtain ⟨m1, m2⟩ := k1 i σ' Ha (Nat.le_of_lt hi) q
    obtain ⟨z1, z2⟩ := y i Ha x Hb hi m1 (fun T' hT => m2.npa hT) yy
    exact k2 i x σ' Ha Hb hi q z1 z2) k3
/-- the target a name -/
theorem sb_for1G (j : Nat) {x : Str} {px : Pos} (ok : Ok c I H) (w : IT X c I J (.Name x px) it σ H n f) (hN : X.N.Nodup) (hp : PassesOwn (model X.prog X.w) X.A X.env X.xe)
    (k : ∀ H1, Le c J H H1 → ∃ (T : Nat → Ix c.pa) (Pv : Nat → St → Hp → Prop), Pv 0 σ H1 ∧ (∀ i σ' H', i ≤ n → Pv i σ' H' → Ex c.pa H1 H' ∧ Ok c (T i) H') ∧
      (∀ i v σ' H' H'', i < n → Pv i σ' H' → Gr H' H'' → DD X.K c.pa H'' v (f i) → SB X { D with nx := Pv (i + 1), ct := Pv (i + 1), bk := fun σ' H' => SB X D rest σ' H' } body (σ'.set j (some v)) H'') ∧ ∀ σ' H', Pv n σ' H' → SB X D rest σ' H')
    (hi : X.N[j]? = some x := by rfl) (hx : Loc X.env.scope x := by first | exact Or.inl rfl | exact Or.inr rfl) (hf : X.fn x = true ∨ X.env.scope.names.lookup x = some .local := by first | exact .inl rfl | exact .inr rfl)
    (hc : X.calm = true := by rfl) (hs : ∀ x, foldedSetIterable it X.env x = pure x := by intro _; rfl) : SB X D (.For (.Name x px) it body [] pos :: rest) σ H :=
  sb_forG ok w (pg_name hN hi hx hf) hp k hc hs
/-- the target two names -/
theorem sb_for2G (j m : Nat) {x y : Str} {px py pt : Pos} {nn : Nat} {fx fy : Nat → PyData} (ok : Ok c I H) (w : IT X c I J (.Tuple [.Name x px, .Name y py] nn pt) it σ H n fun i => .tuple [fx i, fy i]) (hN : X.N.Nodup) (hp : PassesOwn (model X.prog X.w) X.A X.env X.xe)
    (k : ∀ H1, Le c J H H1 → ∃ (T : Nat → Ix c.pa) (Pv : Nat → St → Hp → Prop), Pv 0 σ H1 ∧ (∀ i σ' H', i ≤ n → Pv i σ' H' → Ex c.pa H1 H' ∧ Ok c (T i) H') ∧
      (∀ i v u σ' H' H'', i < n → Pv i σ' H' → Gr H' H'' → DD X.K c.pa H'' v (fx i) → DD X.K c.pa H'' u (fy i) → SB X { D with nx := Pv (i + 1), ct := Pv (i + 1), bk := fun σ' H' => SB X D rest σ' H' } body ((σ'.set j (some v)).set m (some u)) H'') ∧ ∀ σ' H', Pv n σ' H' → SB X D rest σ' H')
    (hc : X.calm = true := by rfl) (hi : X.N[j]? = some x := by rfl) (hx : Loc X.env.scope x := by first | exact Or.inl rfl | exact Or.inr rfl) (hf : X.fn x = true ∨ X.env.scope.names.lookup x = some .local := by first | exact .inl rfl | exact .inr rfl)
    (hm : X.N[m]? = some y := by rfl) (hy : Loc X.env.scope y := by first | exact Or.inl rfl | exact Or.inr rfl) (hf2 : X.fn y = true ∨ X.env.scope.names.lookup y = some .local := by first | exact .inl rfl | exact .inr rfl)
    (hs : ∀ x, foldedSetIterable it X.env x = pure x := by intro _; rfl) : SB X D (.For (.Tuple [.Name x px, .Name y py] nn pt) it body [] pos :: rest) σ H :=
  sb_forG ok w (pg_tup (n := 2) hc (pgs_cons (pg_name hN hi hx hf) (pgs_cons (pg_name hN hm hy hf2) pgs_nil))) hp (fun H1 l => by
    obtain ⟨T, Pv, k0, k1, k2, k3⟩ := k H1 l
    refine ⟨T, Pv, k0, k1, fun i v σ' H' H'' hi q l2 d => ?_, k3⟩
    obtain ⟨t, xs, rfl, h1, h2, h3⟩ := d.tupOf
    obtain ⟨v, u, rfl, w1, w2⟩ := dds2 h3
    exact ⟨t, _, rfl, .of h1, rfl, v, [u], rfl, u, [], rfl, rfl, k2 i v u σ' H' H'' hi q l2 w1 w2⟩) hc hs
/-- the target three names -/
theorem sb_for3G (j m r : Nat) {x y z : Str} {px py pz pt : Pos} {nn : Nat} {fx fy fz : Nat → PyData} (ok : Ok c I H) (w : IT X c I J (.Tuple [.Name x px, .Name y py, .Name z pz] nn pt) it σ H n fun i => .tuple [fx i, fy i, fz i]) (hN : X.N.Nodup) (hp : PassesOwn (model X.prog X.w) X.A X.env X.xe)
    (k : ∀ H1, Le c J H H1 → ∃ (T : Nat → Ix c.pa) (Pv : Nat → St → Hp → Prop), Pv 0 σ H1 ∧ (∀ i σ' H', i ≤ n → Pv i σ' H' → Ex c.pa H1 H' ∧ Ok c (T i) H') ∧
      (∀ i v u w' σ' H' H'', i < n → Pv i σ' H' → Gr H' H'' → DD X.K c.pa H'' v (fx i) → DD X.K c.pa H'' u (fy i) → DD X.K c.pa H'' w' (fz i) → SB X { D with nx := Pv (i + 1), ct := Pv (i + 1), bk := fun σ' H' => SB X D rest σ' H' } body (((σ'.set j (some v)).set m (some u)).set r (some w')) H'') ∧ ∀ σ' H', Pv n σ' H' → SB X D rest σ' H')
    (hc : X.calm = true := by rfl) (hi : X.N[j]? = some x := by rfl) (hx : Loc X.env.scope x := by first | exact Or.inl rfl | exact Or.inr rfl) (hf : X.fn x = true ∨ X.env.scope.names.lookup x = some .local := by first | exact .inl rfl | exact .inr rfl)
    (hm : X.N[m]? = some y := by rfl) (hy : Loc X.env.scope y := by first | exact Or.inl rfl | exact Or.inr rfl) (hf2 : X.fn y = true ∨ X.env.scope.names.lookup y = some .local := by first | exact .inl rfl | exact .inr rfl)
    (hr : X.N[r]? = some z := by rfl) (hz : Loc X.env.scope z := by first | exact Or.inl rfl | exact Or.inr rfl) (hf3 : X.fn z = true ∨ X.env.scope.names.lookup z = some .local := by first | exact .inl rfl | exact .inr rfl)
    (hs : ∀ x, foldedSetIterable it X.env x = pure x := by intro _; rfl) : SB X D (.For (.Tuple [.Name x px, .Name y py, .Name z pz] nn pt) it body [] pos :: rest) σ H :=
  sb_forG ok w (pg_tup (n := 3) hc (pgs_cons (pg_name hN hi hx hf) (pgs_cons (pg_name hN hm hy hf2) (pgs_cons (pg_name hN hr hz hf3) pgs_nil)))) hp (fun H1 l => by
    obtain ⟨T, Pv, k0, k1, k2, k3⟩ := k H1 l
    refine ⟨T, Pv, k0, k1, fun i v σ' H' H'' hi q l2 d => ?_, k3⟩
    obtain ⟨t, xs, rfl, h1, h2, h3⟩ := d.tupOf
    obtain ⟨v, u, w', rfl, w1, w2, w3⟩ := dds3 h3
    exact ⟨t, _, rfl, .of h1, rfl, v, [u, w'], rfl, u, [w'], rfl, w', [], rfl, rfl, k2 i v u w' σ' H' H'' hi q l2 w1 w2 w3⟩) hc hs
theorem Gr.at {H H' : Hp} {p : Addr} {o : HO} (g : Gr H H') (h : H p = some o) : H' p = some o := by
  rcases g with rfl | ⟨T, u, n, rfl⟩
  · exact h
  · exact upd_new n p o h
end
end K93
set_option maxHeartbeats 4000000
/-! K93H: comprehensions. -/
namespace K93
open PySem PySem.Spec PyProof.Rows L2
/-- a comprehension's block -/
def Blk (X : Cx) (scope : Scope) (X' : Cx) : Prop := ∃ (s : Shared) (H : Hp) (C : Addr) (cl : List (Str × Addr)) (fp : List Addr), X' = X.blk s H scope (compEnvC scope cl C X.env) fp
def tEl (X : Cx) (scope : Scope) (e : Expr) : TE := fun σ H Q => ∀ X', Blk X scope X' → tS X' e σ H Q
def tTs (X : Cx) (scope : Scope) (e : Expr) : TT := fun σ H Q => ∀ X', Blk X scope X' → tST X' e σ H Q
theorem tEl_ok {X X' : Cx} {scope : Scope} {e : Expr} (b : Blk X scope X') : PE X' e (tEl X scope e) := ⟨fun pins s σ H Q I h => (h X' b).out pins s I⟩
theorem tTs_ok {X X' : Cx} {scope : Scope} {e : Expr} (b : Blk X scope X') : PT X' e (tTs X scope e) := ⟨fun pins s σ H Q I h => (h X' b).out pins s I⟩
/-- the turns below n of which b holds -/
def trn (n : Nat) (b : Nat → Bool) : List Nat := (List.range n).filter b
theorem trn_yes {n : Nat} {b : Nat → Bool} (h : b n = true) : trn (n + 1) b = trn n b ++ [n] := by
  unfold trn
  rw [List.range_succ, List.filter_append, List.filter_cons, if_pos h, List.filter_nil]
theorem trn_no {n : Nat} {b : Nat → Bool} (h : b n = false) : trn (n + 1) b = trn n b := by
  unfold trn
  rw [List.range_succ, List.filter_append, List.filter_cons, if_neg (by rw [h]; decide), List.filter_nil, List.append_nil]
theorem trn_len (n : Nat) (b : Nat → Bool) : (trn n b).length ≤ n := by
  unfold trn
  have h := List.length_filter_le b (List.range n)
  rw [List.length_range] at h
  exact h
theorem trn_all (n : Nat) : trn n (fun _ => true) = List.range n := by
  unfold trn
  exact List.filter_eq_self.mpr fun _ _ => rfl
theorem trn_lt {n i : Nat} {b : Nat → Bool} (h : i ∈ trn n b) : i < n := List.mem_range.mp (List.mem_filter.mp h).1
section
variable {X : Cx} {c : Kx} {I : Ix c.pa} {T : Nat → Ix c.pa} {σ : St} {H : Hp} {elt tg it cond : Expr} {ifs : List Expr} {pos : Pos} {n : Nat} {f ef : Nat → PyData} {b : Nat → Bool} {scope : Scope} {own : List (Str × Nat)} {g : TG} {tt : TT}
/-- a comprehension that gives d -/
def LCV (X : Cx) (c : Kx) (I J : Ix c.pa) (elt tg it : Expr) (ifs : List Expr) (scope : Scope) (own : List (Str × Nat)) (σ : St) (H : Hp) (d : PyData) : Prop :=
  ∃ (wi : L2.TI) (g : TG) (tt : TT), PI X tg it wi ∧ (∀ (s : Shared) (H : Hp) (C : Addr) (cl : List (Str × Addr)) (fp : List Addr), PG (X.blk s H scope (compEnvC scope cl C X.env) fp) tg g) ∧
    (∀ (s : Shared) (H : Hp) (C : Addr) (cl : List (Str × Addr)) (fp : List Addr), PTs (X.blk s H scope (compEnvC scope cl C X.env) fp) ifs tt) ∧
    ∀ H1, Le c I H H1 → ∀ Q : VK, (∀ v H2, Le c J H1 H2 → DD X.K c.pa H2 v d → Q v H2) → tLc wi g tt (tEl X scope elt) (own.map (·.2)) σ H1 Q
theorem ed_lcx {J : Ix c.pa} {d : PyData} (own : List (Str × Nat)) (h : LCV X c I J elt tg it ifs scope own σ H d) (hN : X.N.Nodup) (ok : BlkOk X.N X.env.scope scope own := by exact blkOk_by (by decide +kernel)) (hc : X.calm = true := by rfl)
    (hs : ∀ x, foldedSetIterable it X.env x = pure x := by intro _; rfl) : ED X c I J (.ListComp elt [⟨tg, it, ifs, 0⟩] scope pos) σ H d := by
  obtain ⟨wi, g, tt, h1, h2, h3, h4⟩ := h
  exact EV.of (pe_lc (te := tEl X scope elt) hc hN h1 ok h2 h3 (fun s H C cl fp => tEl_ok ⟨s, H, C, cl, fp, rfl⟩) hs) fun H1 l Q q => h4 H1 l Q q
theorem sb_lc (i : Nat) {J : Ix c.pa} {d : PyData} {y : Str} {py spos : Pos} {D : Ends} {rest : List Stmt} (own : List (Str × Nat)) (kk : Ok c I H) (h : LCV X c I J elt tg it ifs scope own σ H d) (hN : X.N.Nodup)
    (k : ∀ v H1, Le c J H H1 → DD X.K c.pa H1 v d → SB X D rest (σ.set i (some v)) H1) (ok : BlkOk X.N X.env.scope scope own := by exact blkOk_by (by decide +kernel)) (hy : X.N[i]? = some y := by rfl) (hyl : X.env.scope.names.lookup y = some .local := by rfl)
    (hsw : swapsWith (.ListComp elt [⟨tg, it, ifs, 0⟩] scope pos) (some (.Name y py)) spos.line X.env = pure true := by exact sw_true rfl rfl rfl (by decide +kernel)) (hc : X.calm = true := by rfl)
    (hs : ∀ x, foldedSetIterable it X.env x = pure x := by intro _; rfl) : SB X D (.Assign [.Name y py] (.ListComp elt [⟨tg, it, ifs, 0⟩] scope pos) spos :: rest) σ H := by
  obtain ⟨wi, g, tt, h1, h2, h3, h4⟩ := h
  exact sb_of (ps_setLc (te := tEl X scope elt) hc hN hy hyl hsw h1 ok h2 h3 (fun s H C cl fp => tEl_ok ⟨s, H, C, cl, fp, rfl⟩) hs) (h4 H (.refl kk) _ k)
theorem lc_G (S : Nat → St → Hp → Prop) (w : IT X c I (T 0) tg it σ H n f) (hn : n ≤ 1000000) (hfl : ∀ i, i < n → fl (ef i) = true)
    (hg : ∀ (s : Shared) (H : Hp) (C : Addr) (cl : List (Str × Addr)) (fp : List Addr), PG (X.blk s H scope (compEnvC scope cl C X.env) fp) tg g)
    (ht : ∀ (s : Shared) (H : Hp) (C : Addr) (cl : List (Str × Addr)) (fp : List Addr), PTs (X.blk s H scope (compEnvC scope cl C X.env) fp) ifs tt)
    (tgt : ∀ i v Hb, i < n → Le c (T i) H Hb → DD X.K c.pa Hb v (f i) → ∃ σ2, S i σ2 Hb ∧ ∀ Q : St → Hp → Prop, Q σ2 Hb → g v (wipe σ (own.map (·.2))) Hb Q)
    (hsw : ∀ i σ2 Hb, i < n → S i σ2 Hb → wipe σ2 (own.map (·.2)) = wipe σ (own.map (·.2)))
    (hb : ∀ i σ2 Hb, i < n → S i σ2 Hb → Le c (T i) H Hb → ∀ Q : Bool → Hp → Prop, (∀ H3, Le c (T i) Hb H3 → Q (b i) H3) → tt σ2 Hb Q)
    (he : ∀ X', Blk X scope X' → ∀ i σ2 Hb, i < n → S i σ2 Hb → Le c (T i) H Hb → b i = true → ED X' c (T i) (T (i + 1)) elt σ2 Hb (ef i)) (hT : ∀ i, i < n → b i = false → T (i + 1) = T i) :
    LCV X c I (T n) elt tg it ifs scope own σ H (.list ((trn n b).map ef)) := by
  obtain ⟨wi, h1, h2⟩ := w
  refine ⟨wi, g, tt, h1, hg, ht, fun H1 l Q q => h2 H1 l _ fun Jt H2 G Y l2 W gg y D hD => ?_⟩
  have nD : D ∉ c.pa := l2.ok.npa hD
  refine lc_it W (fun i H' => ∃ acc, H' D = some (.lst acc) ∧ Le c (T i) H2 H' ∧ DDs X.K c.pa H' acc ((trn i b).map ef)) ⟨[], upd_same, .new (.refl l2.ok) hD, .nil⟩ (fun i H' _ p => gg H' p.choose_spec.2.1.ex) (fun i x Ha Hb hi p yy => ?_) fun H' p => ?_
  · obtain ⟨acc, p1, p2, p3⟩ := p
    obtain ⟨z1, z2⟩ := y i Ha x Hb hi p2.ex (fun T' hT => p2.ok.npa hT) yy
    have lab : Le c (T i) Ha Hb := z1.le p2.ok
    have lb : Le c (T i) H Hb := (l.trans l2).trans (p2.trans lab)
    obtain ⟨σ2, s2, gq⟩ := tgt i x Hb hi lb z2
    refine gq _ ⟨hsw i σ2 Hb hi s2, hb i σ2 Hb hi s2 lb _ fun H3 l3 => ?_⟩
    have q1 : H3 D = some (.lst acc) := l3.lst (lab.lst p1 nD) nD
    have q3 : DDs X.K c.pa H3 acc ((trn i b).map ef) := l3.dds (lab.dds p3)
    cases hbi : b i with
    | false =>
      refine iteF ⟨acc, q1, ?_, ?_⟩
      · rw [hT i hi hbi]
        exact p2.trans (lab.trans l3)
      · rw [trn_no hbi]
        exact q3
    | true =>
      refine iteT fun X' bl => ?_
      have e4 := (he X' bl i σ2 Hb hi s2 lb hbi) H3 l3 (fun y H4 => ∃ acc, H4 D = some (.lst acc) ∧ acc.length < sizeLine ∧ ∃ acc', upd H4 D (.lst (acc ++ [y])) D = some (.lst acc') ∧ Le c (T (i + 1)) H2 (upd H4 D (.lst (acc ++ [y]))) ∧ DDs X.K c.pa (upd H4 D (.lst (acc ++ [y]))) acc' ((trn (i + 1) b).map ef)) fun y H4 l4 d4 => ?_
      · exact e4
      · obtain ⟨s', Hx, C, cl, fp, rfl⟩ := bl
        have r1 : H4 D = some (.lst acc) := l4.lst q1 nD
        have len : acc.length ≤ 1000000 := by
          rw [p3.length, List.length_map]
          exact Nat.le_trans (trn_len i b) (by omega)
        refine ⟨acc, r1, Nat.lt_of_le_of_lt len (by decide), acc ++ [y], upd_same, Le.mut (p2.trans (lab.trans (l3.trans l4))) hD r1 rfl nD, ?_⟩
        rw [trn_yes hbi, List.map_append]
        refine DDs.tups (upd_tups r1 (fun _ z => nomatch z)) _ _ ?_ ((l4.dds q3).append (.cons d4 .nil))
        refine fls_all fun d hd => ?_
        rcases List.mem_append.mp hd with hd | hd
        · obtain ⟨j, hj, rfl⟩ := List.mem_map.mp hd
          exact hfl j (Nat.lt_trans (trn_lt hj) hi)
        · have : d = ef i := by simpa using hd
          rw [this]
          exact hfl i hi
  · obtain ⟨acc, p1, p2, p3⟩ := p
    exact q _ H' (l2.trans p2) (.lst p1 nD p3)
/-- the target a name, no test -/
theorem lc_S (j : Nat) {x : Str} {px : Pos} (own : List (Str × Nat)) (w : IT X c I (T 0) (.Name x px) it σ H n f) (hn : n ≤ 1000000) (hfl : ∀ i, i < n → fl (ef i) = true) (hN : X.N.Nodup)
    (he : ∀ X', Blk X scope X' → ∀ i v Hb, i < n → Le c (T i) H Hb → DD X.K c.pa Hb v (f i) → ED X' c (T i) (T (i + 1)) elt ((wipe σ (own.map (·.2))).set j (some v)) Hb (ef i))
    (hsw : ∀ v, wipe ((wipe σ (own.map (·.2))).set j (some v)) (own.map (·.2)) = wipe σ (own.map (·.2)) := by intro _; rfl)
    (hi : X.N[j]? = some x := by rfl) (hx : Loc (compEnvC scope [] 0 X.env).scope x := by first | exact Or.inl rfl | exact Or.inr rfl) (hf : (scope.names.lookup x == some .cell) = true ∨ (compEnvC scope [] 0 X.env).scope.names.lookup x = some .local := by first | exact .inr rfl | exact .inl rfl) :
    LCV X c I (T n) elt (.Name x px) it [] scope own σ H (.list ((List.range n).map ef)) := by
  have h := lc_G (X := X) (c := c) (I := I) (T := T) (scope := scope) (own := own) (elt := elt) (ifs := []) (g := gName j) (tt := tYes) (b := fun _ => true) (ef := ef)
    (fun i σ2 Hb => ∃ v, σ2 = (wipe σ (own.map (·.2))).set j (some v) ∧ DD X.K c.pa Hb v (f i)) w hn hfl (fun s H C cl fp => pg_name (X := X.blk s H scope (compEnvC scope cl C X.env) fp) hN hi hx hf) (fun s H C cl fp => pts_nil)
    (fun i v Hb _ _ d => ⟨_, ⟨v, rfl, d⟩, fun Q q => q⟩) (fun i σ2 Hb _ ⟨v, e, _⟩ => by rw [e]; exact hsw v) (fun i σ2 Hb _ _ l Q q => q Hb (.refl l.ok)) (fun X' bl i σ2 Hb hi ⟨v, e, d⟩ l _ => by rw [e]; exact he X' bl i v Hb hi l d) (fun i _ z => nomatch z)
  rw [trn_all] at h
  exact h
/-- the target a name, a test -/
theorem lc_If (j : Nat) {J : Ix c.pa} {x : Str} {px : Pos} (own : List (Str × Nat)) (w : IT X c I J (.Name x px) it σ H n f) (hn : n ≤ 1000000) (hfl : ∀ i, i < n → fl (ef i) = true) (hN : X.N.Nodup)
    (hb : ∀ X', Blk X scope X' → ∀ i v Hb, i < n → Le c J H Hb → DD X.K c.pa Hb v (f i) → TV X' c J J cond ((wipe σ (own.map (·.2))).set j (some v)) Hb (b i))
    (he : ∀ X', Blk X scope X' → ∀ i v Hb, i < n → Le c J H Hb → DD X.K c.pa Hb v (f i) → b i = true → ED X' c J J elt ((wipe σ (own.map (·.2))).set j (some v)) Hb (ef i))
    (hsw : ∀ v, wipe ((wipe σ (own.map (·.2))).set j (some v)) (own.map (·.2)) = wipe σ (own.map (·.2)) := by intro _; rfl)
    (hi : X.N[j]? = some x := by rfl) (hx : Loc (compEnvC scope [] 0 X.env).scope x := by first | exact Or.inl rfl | exact Or.inr rfl) (hf : (scope.names.lookup x == some .cell) = true ∨ (compEnvC scope [] 0 X.env).scope.names.lookup x = some .local := by first | exact .inr rfl | exact .inl rfl) :
    LCV X c I J elt (.Name x px) it [cond] scope own σ H (.list ((trn n b).map ef)) :=
  lc_G (X := X) (c := c) (I := I) (T := fun _ => J) (scope := scope) (own := own) (elt := elt) (ifs := [cond]) (g := gName j) (tt := tTs X scope cond) (b := b) (ef := ef)
    (fun i σ2 Hb => ∃ v, σ2 = (wipe σ (own.map (·.2))).set j (some v) ∧ DD X.K c.pa Hb v (f i)) w hn hfl (fun s H C cl fp => pg_name (X := X.blk s H scope (compEnvC scope cl C X.env) fp) hN hi hx hf) (fun s H C cl fp => pts_one (tTs_ok ⟨s, H, C, cl, fp, rfl⟩))
    (fun i v Hb _ _ d => ⟨_, ⟨v, rfl, d⟩, fun Q q => q⟩) (fun i σ2 Hb _ ⟨v, e, _⟩ => by rw [e]; exact hsw v) (fun i σ2 Hb hi ⟨v, e, d⟩ l Q q X' bl => by rw [e]; exact hb X' bl i v Hb hi l d Hb (.refl l.ok) Q q) (fun X' bl i σ2 Hb hi ⟨v, e, d⟩ l z => by rw [e]; exact he X' bl i v Hb hi l d z) (fun i _ _ => rfl)
/-- the target two names, no test -/
theorem lc_2 (j m : Nat) {J : Ix c.pa} {x y : Str} {px py pt : Pos} {nn : Nat} {fx fy : Nat → PyData} (own : List (Str × Nat)) (w : IT X c I J (.Tuple [.Name x px, .Name y py] nn pt) it σ H n fun i => .tuple [fx i, fy i]) (hn : n ≤ 1000000) (hfl : ∀ i, i < n → fl (ef i) = true) (hN : X.N.Nodup)
    (he : ∀ X', Blk X scope X' → ∀ i v u Hb, i < n → Le c J H Hb → DD X.K c.pa Hb v (fx i) → DD X.K c.pa Hb u (fy i) → ED X' c J J elt (((wipe σ (own.map (·.2))).set j (some v)).set m (some u)) Hb (ef i))
    (hsw : ∀ v u, wipe (((wipe σ (own.map (·.2))).set j (some v)).set m (some u)) (own.map (·.2)) = wipe σ (own.map (·.2)) := by intro _ _; rfl)
    (hi : X.N[j]? = some x := by rfl) (hx : Loc (compEnvC scope [] 0 X.env).scope x := by first | exact Or.inl rfl | exact Or.inr rfl) (hf : (scope.names.lookup x == some .cell) = true ∨ (compEnvC scope [] 0 X.env).scope.names.lookup x = some .local := by first | exact .inr rfl | exact .inl rfl)
    (hm : X.N[m]? = some y := by rfl) (hy : Loc (compEnvC scope [] 0 X.env).scope y := by first | exact Or.inl rfl | exact Or.inr rfl) (hf2 : (scope.names.lookup y == some .cell) = true ∨ (compEnvC scope [] 0 X.env).scope.names.lookup y = some .local := by first | exact .inr rfl | exact .inl rfl)
    (hc : X.calm = true := by rfl) : LCV X c I J elt (.Tuple [.Name x px, .Name y py] nn pt) it [] scope own σ H (.list ((List.range n).map ef)) := by
  have h := lc_G (X := X) (c := c) (I := I) (T := fun _ => J) (scope := scope) (own := own) (elt := elt) (ifs := []) (g := gTup X.K 2 (gCons (gName j) (gCons (gName m) gNil))) (tt := tYes) (b := fun _ => true) (ef := ef)
    (fun i σ2 Hb => ∃ v u, σ2 = ((wipe σ (own.map (·.2))).set j (some v)).set m (some u) ∧ DD X.K c.pa Hb v (fx i) ∧ DD X.K c.pa Hb u (fy i)) w hn hfl
    (fun s H C cl fp => pg_tup (X := X.blk s H scope (compEnvC scope cl C X.env) fp) (n := 2) hc (pgs_cons (pg_name hN hi hx hf) (pgs_cons (pg_name hN hm hy hf2) pgs_nil))) (fun s H C cl fp => pts_nil)
    (fun i v Hb _ _ d => by
      obtain ⟨t, xs, rfl, h1, h2, h3⟩ := d.tupOf
      obtain ⟨v, u, rfl, w1, w2⟩ := dds2 h3
      exact ⟨_, ⟨v, u, rfl, w1, w2⟩, fun Q q => ⟨t, _, rfl, .of h1, rfl, v, [u], rfl, u, [], rfl, rfl, q⟩⟩) (fun i σ2 Hb _ ⟨v, u, e, _⟩ => by rw [e]; exact hsw v u) (fun i σ2 Hb _ _ l Q q => q Hb (.refl l.ok))
    (fun X' bl i σ2 Hb hi ⟨v, u, e, d, d'⟩ l _ => by rw [e]; exact he X' bl i v u Hb hi l d d') (fun i _ z => nomatch z)
  rw [trn_all] at h
  exact h
end
end K93
set_option maxHeartbeats 4000000
/-! K93H2: a comprehension over a list and a range. -/
namespace K93
open PySem PySem.Spec PyProof.Rows L2
def tAr (X : Cx) (scope : Scope) (es : List Expr) : TA := fun σ H Q => ∀ X', Blk X scope X' → tSA X' es σ H Q
theorem tAr_ok {X X' : Cx} {scope : Scope} {es : List Expr} (b : Blk X scope X') : PA X' es (tAr X scope es) := ⟨fun pos pins s σ H Q I h => (h X' b).out pos pins s I⟩
/-- the pairs of turns so far: i whole rows of m, j of the next -/
def rws {α : Type} (m : Nat) (ef : Nat → Nat → α) (i j : Nat) : List α := ((List.range i).flatMap fun a => (List.range m).map (ef a)) ++ (List.range j).map (ef i)
theorem rws_next {α : Type} {m : Nat} {ef : Nat → Nat → α} {i j : Nat} : rws m ef i (j + 1) = rws m ef i j ++ [ef i j] := by
  unfold rws
  rw [List.range_succ (n := j), List.map_append, List.append_assoc]
  rfl
theorem rws_row {α : Type} {m : Nat} {ef : Nat → Nat → α} {i : Nat} : rws m ef i m = rws m ef (i + 1) 0 := by
  unfold rws
  rw [List.range_succ (n := i), List.flatMap_append, List.range_zero, List.map_nil, List.append_nil]
  simp
theorem rws_len {α : Type} {m : Nat} {ef : Nat → Nat → α} {i j : Nat} : (rws m ef i j).length = i * m + j := by
  unfold rws
  rw [List.length_append, List.length_map, List.length_range, List.length_flatMap]
  have : ∀ l : List Nat, (l.map fun a => ((List.range m).map (ef a)).length).sum = l.length * m := fun l => by
    induction l with
    | nil => simp
    | cons a l ih =>
      rw [List.map_cons, List.sum_cons, ih, List.length_map, List.length_range, List.length_cons, Nat.succ_mul, Nat.add_comm]
  rw [this, List.length_range]
section
variable {X : Cx} {c : Kx} {I : Ix c.pa} {σ : St} {H : Hp} {elt it a1 : Expr} {pos p pos1 : Pos} {n m : Nat} {f : Nat → PyData} {ef : Nat → Nat → PyData} {scope : Scope} {x y z : Str} {px py pz spos : Pos} {D : Ends} {rest : List Stmt}
theorem rng_in {R : It → Hp → Prop} (ok : Ok c I H) (h : ∀ X', Blk X scope X' → AD X' c I I [a1] σ H [.int (m : Int)]) (hm : m ≤ 100000) (q : ∀ H4, Le c I H H4 → R (Itr 0 m) H4) : iRng1 (tAr X scope [a1]) σ H R := by
  have e : ∀ X', Blk X scope X' → tSA X' [a1] σ H fun vs H1 => ∃ j : Int, vs = [.int j] ∧ -(2 ^ 62) ≤ j ∧ j < 2 ^ 62 ∧ R (Itr 0 j.toNat) H1 := fun X' bl => h X' bl H (.refl ok) _ fun vs H4 l4 dd => by
    obtain ⟨vm, rfl, dm⟩ := dds1 dd
    exact ⟨(m : Int), by rw [dm.intOf], by omega, by omega, by rw [Int.toNat_natCast]; exact q H4 l4⟩
  exact e
theorem sb_lcc (i j k : Nat) (own : List (Str × Nat)) (B : Bn X.mg) (kk : Ok c I H) (w : IT X c I I (.Name x px) it σ H n f) (hn : n * m ≤ 100000) (hm : m ≤ 100000) (hff : ∀ a, a < n → fl (f a) = true) (hfl : ∀ a b, a < n → b < m → fl (ef a b) = true) (hN : X.N.Nodup)
    (h1 : ∀ X', Blk X scope X' → ∀ a v Hb, a < n → Le c I H Hb → DD X.K c.pa Hb v (f a) → ED X' c I I a1 ((wipe σ (own.map (·.2))).set j (some v)) Hb (.int (m : Int)))
    (he : ∀ X', Blk X scope X' → ∀ a b v Hb, a < n → b < m → Le c I H Hb → DD X.K c.pa Hb v (f a) → ED X' c I I elt ((wipe ((wipe σ (own.map (·.2))).set j (some v)) [k]).set k (some (.int (b : Int)))) Hb (ef a b))
    (kn : ∀ v H1, Le c I H H1 → DD X.K c.pa H1 v (.list (rws m ef n 0)) → SB X D rest (σ.set i (some v)) H1)
    (hk : k ∈ own.map (·.2) := by decide) (hsw : ∀ v, wipe ((wipe σ (own.map (·.2))).set j (some v)) (own.map (·.2)) = wipe σ (own.map (·.2)) := by intro _; rfl)
    (hsw2 : ∀ v u, wipe ((wipe ((wipe σ (own.map (·.2))).set j (some v)) [k]).set k (some u)) [k] = wipe ((wipe σ (own.map (·.2))).set j (some v)) [k] := by intro _ _; rfl)
    (ok : BlkOk X.N X.env.scope scope own := by exact blkOk_by (by decide +kernel)) (hz : X.N[i]? = some z := by rfl) (hzl : X.env.scope.names.lookup z = some .local := by rfl)
    (hi : X.N[j]? = some x := by rfl) (hx : Loc (compEnvC scope [] 0 X.env).scope x := by first | exact Or.inl rfl | exact Or.inr rfl) (hf : (scope.names.lookup x == some .cell) = true ∨ (compEnvC scope [] 0 X.env).scope.names.lookup x = some .local := by first | exact .inr rfl | exact .inl rfl)
    (hik : X.N[k]? = some y := by rfl) (hy : Loc (compEnvC scope [] 0 X.env).scope y := by first | exact Or.inl rfl | exact Or.inr rfl) (hfy : (scope.names.lookup y == some .cell) = true ∨ (compEnvC scope [] 0 X.env).scope.names.lookup y = some .local := by first | exact .inr rfl | exact .inl rfl)
    (hg : ∀ (s : Shared) (H : Hp) (C : Addr) (cl : List (Str × Addr)) (fp : List Addr), Gl (X.blk s H scope (compEnvC scope cl C X.env) fp) "range" := by intro _ _ _ _ _; rfl)
    (hsr : ∀ (s : Shared) (H : Hp) (C : Addr) (cl : List (Str × Addr)) (fp : List Addr), starEach [a1] (X.blk s H scope (compEnvC scope cl C X.env) fp).env = [(false, eval a1 (X.blk s H scope (compEnvC scope cl C X.env) fp).env)] := by intro _ _ _ _ _; rfl)
    (hws : swapsWith (.ListComp elt [⟨.Name x px, it, [], 0⟩, ⟨.Name y py, .Call (.Name "range" p) [a1] [] pos1, [], 0⟩] scope pos) (some (.Name z pz)) spos.line X.env = pure true := by exact sw_true rfl rfl rfl (by decide +kernel))
    (hc : X.calm = true := by rfl) (hs : ∀ x, foldedSetIterable it X.env x = pure x := by intro _; rfl) (hs1 : ∀ env x, foldedSetIterable (.Call (.Name "range" p) [a1] [] pos1) env x = pure x := by intro _ _; rfl) :
    SB X D (.Assign [.Name z pz] (.ListComp elt [⟨.Name x px, it, [], 0⟩, ⟨.Name y py, .Call (.Name "range" p) [a1] [] pos1, [], 0⟩] scope pos) spos :: rest) σ H := by
  obtain ⟨wi, w1, w2⟩ := w
  refine sb_of (ps_setLc2 (te := tEl X scope elt) (g := gName j) (g1 := gName k) (tt := tYes) (tt1 := tYes) (vs1 := [k]) (wi1 := iRng1 (tAr X scope [a1])) hc hN hz hzl hws w1 ok (fun q hq => by rw [List.mem_singleton.mp hq]; exact hk)
    (fun s H C cl fp => pg_name (X := X.blk s H scope (compEnvC scope cl C X.env) fp) hN hi hx hf) (fun s H C cl fp => pts_nil) (fun s H C cl fp => pi_range1 (X := X.blk s H scope (compEnvC scope cl C X.env) fp) (hg s H C cl fp) B.range (tAr_ok ⟨s, H, C, cl, fp, rfl⟩) (hsr s H C cl fp))
    (fun s H C cl fp => pg_name (X := X.blk s H scope (compEnvC scope cl C X.env) fp) hN hik hy hfy) (fun s H C cl fp => pts_nil) (fun s H C cl fp => tEl_ok ⟨s, H, C, cl, fp, rfl⟩) hs hs1) ?_
  refine w2 H (.refl kk) _ fun Jt H2 G Y l2 W gg y D' hD => ?_
  have nD : D' ∉ c.pa := l2.ok.npa hD
  have flr : ∀ i j, i < n → j ≤ m → fls (rws m ef i j) = true := fun i j hi hj => fls_all fun d hd => by
    unfold rws at hd
    rcases List.mem_append.mp hd with hd | hd
    · obtain ⟨a, ha, hd⟩ := List.mem_flatMap.mp hd
      obtain ⟨b, hb, rfl⟩ := List.mem_map.mp hd
      exact hfl a b (Nat.lt_trans (List.mem_range.mp ha) hi) (List.mem_range.mp hb)
    · obtain ⟨b, hb, rfl⟩ := List.mem_map.mp hd
      exact hfl i b hi (Nat.lt_of_lt_of_le (List.mem_range.mp hb) hj)
  -- behind i rows and j items of the next
  let Pv : Nat → Nat → Hp → Prop := fun i j H' => ∃ acc, H' D' = some (.lst acc) ∧ Le c I H2 H' ∧ DDs X.K c.pa H' acc (rws m ef i j)
  refine ⟨fun i q H' => q = n - i ∧ i ≤ n ∧ Pv i 0 H', ⟨n, by simp, Nat.zero_le _, [], upd_same, .new (.refl l2.ok) hD, .nil⟩, ?_⟩
  rintro i q Ha ⟨rfl, hi, acc, p1, p2, p3⟩
  by_cases hlt : i < n
  · refine .inr ⟨W.goes i Ha hlt (gg Ha p2.ex), Pv (i + 1) 0, fun H' p' => ⟨n - (i + 1), by omega, rfl, hlt, p'⟩, fun v Hb yy => ?_⟩
    obtain ⟨z1, z2⟩ := y i Ha v Hb hlt p2.ex (fun T' hT => p2.ok.npa hT) (W.yields i Ha v Hb hlt (gg Ha p2.ex) yy)
    have lab : Le c I Ha Hb := z1.le p2.ok
    have lb : Le c I H Hb := l2.trans (p2.trans lab)
    refine ⟨hsw v, ?_⟩
    unfold tYes
    refine iteT ?_
    refine rng_in (m := m) lb.ok (fun X' bl => ?_) hm fun H4 l4 => ?_
    · have e1 := h1 X' bl i v Hb hlt lb z2
      obtain ⟨s', Hx, C, cl, fp, rfl⟩ := bl
      exact ad_cons e1 ad_nil (hsr s' Hx C cl fp)
    have q1 : H4 D' = some (.lst acc) := l4.lst (lab.lst p1 nD) nD
    refine ⟨fun j q H' => q = m - j ∧ j ≤ m ∧ Pv i j H' ∧ DD X.K c.pa H' v (f i), ⟨m, by simp, Nat.zero_le _, ⟨acc, q1, p2.trans (lab.trans l4), l4.dds (lab.dds p3)⟩, l4.dd z2⟩, ?_⟩
    rintro jj q Hc ⟨rfl, hj, ⟨bcc, r1, r2, r3⟩, r4⟩
    by_cases hjm : jj < m
    · refine .inr ⟨hjm, fun H' => Pv i (jj + 1) H' ∧ DD X.K c.pa H' v (f i), fun H' p' => ⟨m - (jj + 1), by omega, rfl, hjm, p'⟩, fun u Hd yy => ?_⟩
      obtain ⟨rfl, rfl⟩ := yy
      rw [Int.zero_add]
      refine ⟨hsw2 v _, ?_⟩
      dsimp only
      refine iteT fun X' bl => ?_
      have ld : Le c I H Hd := l2.trans r2
      have dv : DD X.K c.pa Hd v (f i) := r4
      have e4 := (he X' bl i jj v Hd hlt hjm ld dv) Hd (.refl ld.ok) (fun y H7 => ∃ acc, H7 D' = some (.lst acc) ∧ acc.length < sizeLine ∧ Pv i (jj + 1) (upd H7 D' (.lst (acc ++ [y]))) ∧ DD X.K c.pa (upd H7 D' (.lst (acc ++ [y]))) v (f i)) fun y H7 l7 d7 => ?_
      · exact e4
      · obtain ⟨s', Hx, C, cl, fp, rfl⟩ := bl
        have t1 : H7 D' = some (.lst bcc) := l7.lst r1 nD
        have nl : (rws m ef i jj).length ≤ 100000 := by
          rw [rws_len]
          have : i * m + m ≤ n * m := by
            rw [← Nat.succ_mul]
            exact Nat.mul_le_mul_right m hlt
          omega
        refine ⟨bcc, t1, by rw [r3.length]; exact Nat.lt_of_le_of_lt nl (by decide), ⟨bcc ++ [y], upd_same, Le.mut (r2.trans l7) hD t1 rfl nD, ?_⟩, DD.tups (upd_tups t1 (fun _ z => nomatch z)) _ _ (hff i hlt) (l7.dd dv)⟩
        rw [rws_next]
        refine DDs.tups (upd_tups t1 (fun _ z => nomatch z)) _ _ ?_ ((l7.dds r3).append (.cons d7 .nil))
        rw [← rws_next]
        exact flr i (jj + 1) hlt hjm
    · have e : jj = m := by omega
      subst e
      refine .inl ⟨Nat.le_refl _, ?_⟩
      refine ⟨bcc, r1, r2, ?_⟩
      rw [← rws_row]
      exact r3
  · have e : i = n := by omega
    subst e
    exact .inl ⟨W.stops Ha (gg Ha p2.ex), kn _ Ha (l2.trans p2) (.lst p1 nD p3)⟩
end
end K93
set_option maxHeartbeats 1000000
/-! K93M: what the defs compute, as plain functions. -/
namespace K93
open PySem
/-! ### kinds of data -/
def isInt' : PyData → Bool
  | .int _ => true
  | _ => false
def within (d : PyData) (lo hi : Int) : Bool := match d with
  | .int i => decide (lo ≤ i) && decide (i ≤ hi)
  | _ => false
def isNum : PyData → Bool
  | .int i => decide (0 ≤ i)
  | _ => false
def posD : PyData → Bool
  | .int i => decide (0 < i)
  | _ => false
def areNums (d : PyData) (n : Int) : Bool := match d with
  | .tuple ds => decide ((ds.length : Int) = n) && ds.all isNum
  | _ => false
def areBounds (d : PyData) : Bool := match d with
  | .tuple ds => decide (ds.length ≤ 2) && ds.all isNum
  | _ => false
def areMeas (d : PyData) (n : Int) : Bool := match d with
  | .tuple ds => decide ((ds.length : Int) = n) && ds.all isNum && ds.all posD
  | _ => false
theorem isNum_int {d : PyData} (h : isNum d = true) : ∃ i : Int, 0 ≤ i ∧ d = .int i := by
  cases d <;> first | exact ⟨_, of_decide_eq_true h, rfl⟩ | cases h
theorem nums_TI : ∀ {ds : List PyData}, ds.all isNum = true → ∃ ns : List Int, ds = ns.map .int ∧ ∀ n ∈ ns, 0 ≤ n
  | [], _ => ⟨[], rfl, fun _ h => nomatch h⟩
  | d :: ds, h => by
    rw [List.all_cons, Bool.and_eq_true] at h
    obtain ⟨i, h1, rfl⟩ := isNum_int h.1
    obtain ⟨ns, rfl, h2⟩ := nums_TI h.2
    refine ⟨i :: ns, rfl, fun n hn => ?_⟩
    rcases List.mem_cons.mp hn with rfl | hn
    · exact h1
    · exact h2 n hn
theorem areNums_TI {d : PyData} {n : Int} (h : areNums d n = true) : ∃ ns : List Int, d = TI ns ∧ (ns.length : Int) = n ∧ ∀ n ∈ ns, 0 ≤ n := by
  cases d with
  | tuple ds =>
    unfold areNums at h
    simp only [Bool.and_eq_true, decide_eq_true_eq] at h
    obtain ⟨ns, rfl, h2⟩ := nums_TI h.2
    refine ⟨ns, rfl, ?_, h2⟩
    have := h.1
    rwa [List.length_map] at this
  | _ => cases h
theorem areBounds_TI {d : PyData} (h : areBounds d = true) : ∃ ns : List Int, d = TI ns ∧ ns.length ≤ 2 ∧ ∀ n ∈ ns, 0 ≤ n := by
  cases d with
  | tuple ds =>
    unfold areBounds at h
    simp only [Bool.and_eq_true, decide_eq_true_eq] at h
    obtain ⟨ns, rfl, h2⟩ := nums_TI h.2
    refine ⟨ns, rfl, ?_, h2⟩
    have := h.1
    rwa [List.length_map] at this
  | _ => cases h
theorem all_isNum {ns : List Int} (h : ∀ n ∈ ns, 0 ≤ n) : (ns.map PyData.int).all isNum = true := by
  rw [List.all_eq_true]
  intro d hd
  obtain ⟨i, hi, rfl⟩ := List.mem_map.mp hd
  exact decide_eq_true (h i hi)
theorem areNums_of {ns : List Int} {n : Int} (hl : (ns.length : Int) = n) (h : ∀ n ∈ ns, 0 ≤ n) : areNums (TI ns) n = true := by
  unfold areNums TI
  simp only [List.length_map, hl, all_isNum h, decide_true, Bool.and_self]
theorem areBounds_of {ns : List Int} (hl : ns.length ≤ 2) (h : ∀ n ∈ ns, 0 ≤ n) : areBounds (TI ns) = true := by
  unfold areBounds TI
  simp only [List.length_map, all_isNum h, hl, decide_true, Bool.and_self]
theorem areMeas_of {ns : List Int} {n : Int} (hl : (ns.length : Int) = n) (h : ∀ n ∈ ns, 1 ≤ n) : areMeas (TI ns) n = true := by
  unfold areMeas TI
  have h1 : (ns.map PyData.int).all posD = true := by
    rw [List.all_eq_true]
    intro d hd
    obtain ⟨i, hi, rfl⟩ := List.mem_map.mp hd
    exact decide_eq_true (by have := h i hi; omega)
  simp only [List.length_map, hl, all_isNum fun n hn => (by have := h n hn; omega : 0 ≤ n), h1, decide_true, Bool.and_self]
theorem range_map {α β : Type} (d : α) (g : α → β) (l : List α) : (List.range l.length).map (fun i => g (l.getD i d)) = l.map g := by
  refine List.ext_getElem (by rw [List.length_map, List.length_map, List.length_range]) fun i h1 h2 => ?_
  rw [List.getElem_map, List.getElem_map, List.getElem_range, List.getD_eq_getElem?_getD]
  rw [List.length_map] at h2
  rw [List.getElem?_eq_getElem h2]
  rfl
theorem getD_int {ns : List Int} {i : Nat} (h : i < ns.length) : (ns.map PyData.int).getD i .none = .int (ns.getD i 0) := by
  rw [List.getD_eq_getElem?_getD, List.getD_eq_getElem?_getD, List.getElem?_map, List.getElem?_eq_getElem h]
  rfl
theorem getD_map {α : Type} {l : List α} {g : α → PyData} {i : Nat} {d : α} (h : i < l.length) : (l.map g).getD i .none = g (l.getD i d) := by
  rw [List.getD_eq_getElem?_getD, List.getD_eq_getElem?_getD, List.getElem?_map, List.getElem?_eq_getElem h]
  rfl
/-! ### cells -/
def mcI (bs ms : List Int) : Nat → Int
  | 0 => 1
  | i + 1 => mcI bs ms i * (bs.getD i 0 + ms.getD i 0)
def cellsI (bs ms : List Int) : Nat → List (List Int)
  | 0 => [[]]
  | i + 1 => (cellsI bs ms i).flatMap fun cc => (List.range (bs.getD i 0 + ms.getD i 0).toNat).map fun (j : Nat) => cc ++ [(j : Int)]
def mc (bs ms : List Int) : Int := mcI bs ms bs.length
def cells (bs ms : List Int) : List (List Int) := cellsI bs ms bs.length
/-- bounds and measures of as many numbers, two at most -/
structure BM (bs ms : List Int) : Prop where
  len : bs.length = ms.length
  two : bs.length ≤ 2
  b0 : ∀ b ∈ bs, 0 ≤ b
  m1 : ∀ m ∈ ms, 1 ≤ m
theorem getD_mem {ns : List Int} {i : Nat} (h : i < ns.length) : ns.getD i 0 ∈ ns := by
  rw [List.getD_eq_getElem?_getD, List.getElem?_eq_getElem h]
  exact List.getElem_mem h
theorem BM.bm {bs ms : List Int} (B : BM bs ms) {i : Nat} (h : i < bs.length) : 0 ≤ bs.getD i 0 ∧ 1 ≤ ms.getD i 0 := ⟨B.b0 _ (getD_mem h), B.m1 _ (getD_mem (by rw [← B.len]; exact h))⟩
theorem mcI_pos {bs ms : List Int} (B : BM bs ms) : ∀ i, i ≤ bs.length → 1 ≤ mcI bs ms i
  | 0, _ => Int.le_refl 1
  | i + 1, h => by
    have ih := mcI_pos B i (by omega)
    obtain ⟨h1, h2⟩ := B.bm (i := i) (by omega)
    unfold mcI
    have : 1 * 1 ≤ mcI bs ms i * (bs.getD i 0 + ms.getD i 0) := Int.mul_le_mul ih (by omega) (by omega) (by omega)
    omega
theorem mcI_mono {bs ms : List Int} (B : BM bs ms) : ∀ i j, i ≤ j → j ≤ bs.length → mcI bs ms i ≤ mcI bs ms j
  | i, 0, h, _ => by
    have : i = 0 := by omega
    subst this
    exact Int.le_refl _
  | i, j + 1, h, hl => by
    by_cases e : i = j + 1
    · rw [e]
      exact Int.le_refl _
    · have ih := mcI_mono B i j (by omega) (by omega)
      obtain ⟨h1, h2⟩ := B.bm (i := j) (by omega)
      have p := mcI_pos B j (by omega)
      show mcI bs ms i ≤ mcI bs ms j * (bs.getD j 0 + ms.getD j 0)
      have : mcI bs ms j * 1 ≤ mcI bs ms j * (bs.getD j 0 + ms.getD j 0) := Int.mul_le_mul_of_nonneg_left (by omega) (by omega)
      omega
/-- a bound and its measure are at most the number of cells -/
theorem bm_le {bs ms : List Int} (B : BM bs ms) {i : Nat} (h : i < bs.length) : bs.getD i 0 + ms.getD i 0 ≤ mc bs ms := by
  have h1 := mcI_mono B (i + 1) bs.length (by omega) (Nat.le_refl _)
  have p := mcI_pos B i (by omega)
  obtain ⟨h2, h3⟩ := B.bm h
  have : 1 * (bs.getD i 0 + ms.getD i 0) ≤ mcI bs ms i * (bs.getD i 0 + ms.getD i 0) := Int.mul_le_mul_of_nonneg_right (by omega) (by omega)
  have e : mcI bs ms (i + 1) = mcI bs ms i * (bs.getD i 0 + ms.getD i 0) := rfl
  have e2 : mc bs ms = mcI bs ms bs.length := rfl
  omega
theorem cellsI_len {bs ms : List Int} (B : BM bs ms) : ∀ i, i ≤ bs.length → ((cellsI bs ms i).length : Int) = mcI bs ms i
  | 0, _ => rfl
  | i + 1, h => by
    have ih := cellsI_len B i (by omega)
    obtain ⟨h1, h2⟩ := B.bm (i := i) (by omega)
    unfold cellsI mcI
    rw [← ih, List.length_flatMap]
    have : ∀ l : List (List Int), ((l.map fun cc => ((List.range (bs.getD i 0 + ms.getD i 0).toNat).map fun (j : Nat) => cc ++ [(j : Int)]).length).sum : Int) = l.length * (bs.getD i 0 + ms.getD i 0) := fun l => by
      induction l with
      | nil => simp
      | cons a l ih =>
        rw [List.map_cons, List.sum_cons, List.length_map, List.length_range, List.length_cons, Int.natCast_add, ih, Int.natCast_succ, Int.add_mul, Int.one_mul, Int.add_comm]
        congr 1
        omega
    exact this _
end K93
set_option maxHeartbeats 4000000
/-! K93T: the text by places; the checks, cells, raised. -/
namespace K93
open PySem PySem.Spec PyProof.Rows L2
def topS (i : Nat) : Stmt := PySem.Challenge.pw_flatrounds_k93_whole_strangers_learned.main.body.getD i (.Pass ⟨0, 0, 0, 0⟩)
/-- a def of the text, where it stands -/
def Df (K : PySem.W.Frag) (mg : Str → Option Value) (x : Str) (st : Stmt) (ps : List Str) : Prop := ∃ f fd, Fun K x x st f fd ∧ mg x = some (.ref f) ∧ Binds K fd ps []
section
variable {P : Program} {w : World} {K : PySem.W.Frag} {mg : Str → Option Value} {base : Heap}
/-- the context of a def's body that lets no exception out -/
abbrev bX (P : Program) (w : World) (K : PySem.W.Frag) (mg : Str → Option Value) (base : Heap) (N : List Str) (qual : Str) (sc : Scope) (f : Addr) (cdv : Value) (A : Around) (outer : List Env) (s : Shared) (H : Hp) (E : XK) : Cx :=
  (cxOf CX0 P w K mg base N qual sc f cdv A outer s H E).nox
theorem len_of {K : PySem.W.Frag} {R : List PyData → PyData → Prop} {n : Nat} (h : ∀ ds d, R ds d → ds.length = n) (vs : List V) (H : Hp) (Q : VK) (E : XK) (p : PSp K R vs H Q E) : vs.length = n := by
  obtain ⟨c, I, ds, d, _, h2, h3, _⟩ := p
  rw [h2.length]
  exact h ds d h3
/-- a def by its body -/
theorem any_fn {x : Str} {st : Stmt} {N ps : List Str} {k : Nat} {sp : Sp} (F : Df K mg x st ps) (S : FnScope N ps (defScope st)) (len : ∀ vs H Q E, sp vs H Q E → vs.length = ps.length)
    (hb : ∀ (f : Addr) (cdv : Value) (A : Around) (outer : List Env) (s : Shared) (H : Hp) (E : XK) (vs : List V) (Q : VK), Room k (A.deeper (envOfC x (defScope st) s.heap.objs.size f cdv)) → sp vs H Q E →
      SB (bX P w K mg base N x (defScope st) f cdv A outer s H E) { nx := fun _ H' => Q .non H', rt := Q } (defBody st) (start N vs) H) : FnD P w K mg base CX0 (k + 1) x sp := by
  obtain ⟨f, fd, F, hm, b⟩ := F
  exact ⟨f, fd, ps, hm, F.kp, b, F.ok S len fun cdv A outer s H vs Q E hr h => ⟨_, pbS, hb f cdv A outer s H E vs Q hr h⟩⟩
theorem pure_fn {x : Str} {st : Stmt} {N ps : List Str} {k : Nat} {R : List PyData → PyData → Prop} (F : Df K mg x st ps) (S : FnScope N ps (defScope st)) (len : ∀ ds d, R ds d → ds.length = ps.length)
    (hb : ∀ (f : Addr) (cdv : Value) (A : Around) (outer : List Env) (s : Shared) (H : Hp) (E : XK) (vs : List V) (Q : VK) (c : Kx) (I : Ix c.pa) (ds : List PyData) (d : PyData), Room k (A.deeper (envOfC x (defScope st) s.heap.objs.size f cdv)) → Ok c I H → DDs K c.pa H vs ds → R ds d →
      (∀ v H1, Le c I H H1 → DD K c.pa H1 v d → Q v H1) → SB (bX P w K mg base N x (defScope st) f cdv A outer s H E) { nx := fun _ H' => Q .non H', rt := Q } (defBody st) (start N vs) H) : FnD P w K mg base CX0 (k + 1) x (PSp K R) :=
  any_fn F S (len_of len) fun f cdv A outer s H E vs Q hr h => by
    obtain ⟨c, I, ds, d, h1, h2, h3, h4⟩ := h
    exact hb f cdv A outer s H E vs Q c I ds d hr h1 h2 h3 h4
end
/-- the i-th statement of the class that stands at k -/
def methS (k i : Nat) : Stmt := match topS k with
  | .ClassDef _ _ _ body _ _ _ _ _ _ _ => body.getD i (.Pass ⟨0, 0, 0, 0⟩)
  | _ => .Pass ⟨0, 0, 0, 0⟩
/-- a class of tables, where it stands: its __init__ at fi, its keep at fk -/
structure ClsT (K : PySem.W.Frag) (mg : Str → Option Value) (x : Str) (C fi fk : Addr) : Prop where
  at_ : mg x = some (.ref C)
  cl : Cls K C
  nb : NoAttr K C "bounds"
  nm : NoAttr K C "measures"
  nr : NoAttr K C "rows"
  kp : Meth K C "keep" fk
  mkr : Mk K C fi
  ins : InsK K C
/-- what the text has written -/
structure Tx (K : PySem.W.Frag) (mg : Str → Option Value) : Prop where
  B : Bn mg
  mc : ∃ t, mg "MOST_CELLS" = some (.int 1000 t)
  mf : ∃ t, mg "MOST_FORMS" = some (.int 12 t)
  mn : ∃ t, mg "MOST_NUMBERS" = some (.int 2 t)
  d10 : Df K mg "is_integer" (topS 10) ["thing"]
  d11 : Df K mg "is_within" (topS 11) ["thing", "least", "most"]
  d12 : Df K mg "is_number" (topS 12) ["thing"]
  d13 : Df K mg "are_numbers" (topS 13) ["thing", "many"]
  d19 : Df K mg "are_bounds" (topS 19) ["thing"]
  d20 : Df K mg "are_measures" (topS 20) ["thing", "many"]
  d21 : Df K mg "many_cells" (topS 21) ["bounds", "measures"]
  d22 : Df K mg "cells_of" (topS 22) ["bounds", "measures"]
  d23 : Df K mg "is_great" (topS 23) ["bounds", "cell", "k"]
  tb : ∃ C fi fk fdi fdk, ClsT K mg "Table" C fi fk ∧ Fun K "__init__" "Table.__init__" (methS 26 0) fi fdi ∧ Binds K fdi ["self", "bounds", "measures", "rows"] [] ∧ Fun K "keep" "Table.keep" (methS 26 1) fk fdk ∧ Binds K fdk ["self", "bounds", "measures", "rows"] []
  rt : ∃ C fi fk fdi fdk, ClsT K mg "RawTable" C fi fk ∧ Fun K "__init__" "RawTable.__init__" (methS 27 0) fi fdi ∧ Binds K fdi ["self", "bounds", "measures", "rows"] [] ∧ Fun K "keep" "Table.keep" (methS 26 1) fk fdk ∧ Binds K fdk ["self", "bounds", "measures", "rows"] []
  d14 : Df K mg "check_number" (topS 14) ["thing", "least", "most"]
  d24 : Df K mg "is_form" (topS 24) ["thing", "bounds", "cell"]
  d25 : Df K mg "is_row" (topS 25) ["thing", "bounds", "cell"]
  d28 : Df K mg "many_results" (topS 28) ["table"]
  d29 : Df K mg "raw_cell" (topS 29) ["bounds", "measures", "given"]
  d30 : Df K mg "place_of" (topS 30) ["bounds", "measures", "cell"]
  d31 : Df K mg "raw_row" (topS 31) ["table", "cell"]
  d32 : Df K mg "form_value" (topS 32) ["form", "times"]
  d33 : Df K mg "raw_value" (topS 33) ["table", "given"]
  d34 : Df K mg "raised" (topS 34) ["given", "k", "measure"]
  d35 : Df K mg "row_by" (topS 35) ["function", "bounds", "measures", "cell"]
  d36 : Df K mg "made_by" (topS 36) ["function", "bounds", "measures"]
  d38 : Df K mg "raised_cells" (topS 38) ["bounds", "measures"]
  d39 : Df K mg "learned" (topS 39) ["function", "bounds", "measures", "many"]
  d40 : Df K mg "refuted" (topS 40) ["table", "function", "inputs"]
  d42 : Df K mg "_law_pot" (topS 42) ["_law_script"]
  d43 : Df K mg "_law_draw" (topS 43) ["_law_pot_here", "_law_many"]
  d44 : Df K mg "_law_any" (topS 44) ["_law_pot_here", "_law_items"]
  d45 : Df K mg "_law_input" (topS 45) ["_law_pot_here", "_law_many", "_law_most"]
  d46 : Df K mg "_law_cells" (topS 46) ["_law_bounds", "_law_measures"]
  d47 : Df K mg "_law_table" (topS 47) ["_law_pot_here", "_law_many", "_law_forms", "_law_most", "_law_steps"]
  d48 : Df K mg "_law_value" (topS 48) ["_law_table_here", "_law_given"]
  d49 : Df K mg "_law_deep" (topS 49) []
  d50 : Df K mg "_law_probes" (topS 50) ["_law_bounds", "_law_measures"]
  d51 : Df K mg "_law_learned" (topS 51) ["_law_function", "_law_bounds", "_law_measures", "_law_many"]
  d52 : Df K mg "_law_teller" (topS 52) ["_law_table_here", "_law_asked", "_law_odd"]
  d53 : Df K mg "_law_is_answer" (topS 53) ["_law_thing", "_law_many"]
  d54 : Df K mg "_law_due" (topS 54) ["_law_made", "_law_odd", "_law_many"]
  d55 : Df K mg "_law_refuted" (topS 55) ["_law_table_here", "_law_function", "_law_inputs"]
  d56 : Df K mg "_law_refused" (topS 56) ["_law_pot_here", "_law_function"]
section
variable {P : Program} {w : World} {K : PySem.W.Frag} {mg : Str → Option Value} {base : Heap}
theorem never {P : Program} {w : World} {A : Around} {env : Env} : PassesOwn (model P w) A env (fun _ _ => False) := PassesOwn.never
/-! ### checks -/
theorem sc10 : FnScope ["thing"] ["thing"] (defScope (topS 10)) := ⟨rfl, rfl, rfl, by decide +kernel, rfl, by decide +kernel, by decide +kernel⟩
def R10 : List PyData → PyData → Prop := fun ds d => ∃ e, ds = [e] ∧ noq e = true ∧ d = .bool (isInt' e)
theorem f10 (T : Tx K mg) : FnD P w K mg base CX0 1 "is_integer" (PSp K R10) :=
  pure_fn T.d10 sc10 (fun ds d ⟨e, h, _⟩ => by rw [h]; rfl) fun f cdv A outer s H E vs Q c I ds d hr ok hd r k => by
    obtain ⟨e, rfl, hq, rfl⟩ := r
    obtain ⟨v, rfl, h⟩ := dds1 hd
    refine sb_ret ok (ed_and (ed_isInt T.B hq (ed_var 0 rfl h)) fun _ => ed_not (ed_isBoo T.B hq (ed_var 0 rfl h))) fun v H1 l hv => k v H1 l ?_
    have e1 : (isIn e && !isBoo e) = isInt' e := by cases e <;> rfl
    rwa [e1] at hv
theorem sc11 : FnScope ["thing", "least", "most"] ["thing", "least", "most"] (defScope (topS 11)) := ⟨rfl, rfl, rfl, by decide +kernel, rfl, by decide +kernel, by decide +kernel⟩
def R11 : List PyData → PyData → Prop := fun ds d => ∃ e lo hi, ds = [e, .int lo, .int hi] ∧ noq e = true ∧ d = .bool (within e lo hi)
theorem f11 (T : Tx K mg) : FnD P w K mg base CX0 2 "is_within" (PSp K R11) :=
  pure_fn T.d11 sc11 (fun ds d ⟨e, lo, hi, h, _⟩ => by rw [h]; rfl) fun f cdv A outer s H E vs Q c I ds d hr ok hd r k => by
    obtain ⟨e, lo, hi, rfl, hq, rfl⟩ := r
    obtain ⟨v, v1, v2, rfl, h, h1, h2⟩ := dds3 hd
    refine sb_ret ok (ed_and (j := isInt' e) (k := within e lo hi) (ed_call (f10 T) hr (ad_cons (ed_var 0 rfl h) ad_nil) ⟨e, rfl, hq, rfl⟩) fun z => ?_) fun v H1 l hv => k v H1 l ?_
    · cases e with
      | int i => exact ed_chainLe (ed_var 1 rfl h1) (ed_var 0 rfl h) (ed_var 2 rfl h2)
      | _ => cases z
    · have e1 : (isInt' e && within e lo hi) = within e lo hi := by cases e <;> rfl
      rwa [e1] at hv
theorem sc12 : FnScope ["thing"] ["thing"] (defScope (topS 12)) := ⟨rfl, rfl, rfl, by decide +kernel, rfl, by decide +kernel, by decide +kernel⟩
def R12 : List PyData → PyData → Prop := fun ds d => ∃ e, ds = [e] ∧ noq e = true ∧ d = .bool (isNum e)
theorem f12 (T : Tx K mg) : FnD P w K mg base CX0 2 "is_number" (PSp K R12) :=
  pure_fn T.d12 sc12 (fun ds d ⟨e, h, _⟩ => by rw [h]; rfl) fun f cdv A outer s H E vs Q c I ds d hr ok hd r k => by
    obtain ⟨e, rfl, hq, rfl⟩ := r
    obtain ⟨v, rfl, h⟩ := dds1 hd
    refine sb_ret ok (ed_and (j := isInt' e) (k := isNum e) (ed_call (f10 T) hr (ad_cons (ed_var 0 rfl h) ad_nil) ⟨e, rfl, hq, rfl⟩) fun z => ?_) fun v H1 l hv => k v H1 l ?_
    · cases e with
      | int i => exact ed_ge (ed_var 0 rfl h) ed_int
      | _ => cases z
    · have e1 : (isInt' e && isNum e) = isNum e := by cases e <;> rfl
      rwa [e1] at hv
/-- its items are no objects of another kind -/
def okI (d : PyData) : Prop := ∀ ds, d = .tuple ds → ds.length ≤ 100000 ∧ ∀ e ∈ ds, noq e = true
theorem okI_TI {ns : List Int} (h : ns.length ≤ 100000) : okI (TI ns) := fun ds e => by
  cases e
  refine ⟨by rw [List.length_map]; exact h, fun e he => ?_⟩
  obtain ⟨i, _, rfl⟩ := List.mem_map.mp he
  rfl
theorem okI.get {ds : List PyData} (h : okI (.tuple ds)) {i : Nat} (hi : i < ds.length) : noq (ds.getD i .none) = true := by
  refine (h ds rfl).2 _ ?_
  rw [List.getD_eq_getElem?_getD, List.getElem?_eq_getElem hi]
  exact List.getElem_mem hi
def lenIs (e : PyData) (n : Int) : Bool := match e with
  | .tuple ds => decide ((ds.length : Int) = n)
  | _ => false
theorem areNums_all {ds : List PyData} {n : Int} (h : lenIs (.tuple ds) n = true) : areNums (.tuple ds) n = (ds.map isNum).all id := by
  have h' : decide ((ds.length : Int) = n) = true := h
  show (decide ((ds.length : Int) = n) && ds.all isNum) = _
  rw [h', Bool.true_and, List.all_map]
  rfl
theorem areNums_and (e : PyData) (n : Int) : (isTup e && (lenIs e n && areNums e n)) = areNums e n := by
  cases e with
  | tuple ds =>
    show (true && (decide ((ds.length : Int) = n) && (decide ((ds.length : Int) = n) && ds.all isNum))) = (decide ((ds.length : Int) = n) && ds.all isNum)
    cases decide ((ds.length : Int) = n) <;> rfl
  | _ => rfl
theorem sc13 : FnScope ["thing", "many", "item"] ["thing", "many"] (defScope (topS 13)) := ⟨rfl, rfl, rfl, by decide +kernel, rfl, by decide +kernel, by decide +kernel⟩
def R13 : List PyData → PyData → Prop := fun ds d => ∃ e n, ds = [e, .int n] ∧ okI e ∧ d = .bool (areNums e n)
theorem fl_bool (b : Bool) : fl (.bool b) = true := by unfold fl; rfl
theorem f13 (T : Tx K mg) : FnD P w K mg base CX0 3 "are_numbers" (PSp K R13) :=
  pure_fn T.d13 sc13 (fun ds d ⟨e, n, h, _⟩ => by rw [h]; rfl) fun f cdv A outer s H E vs Q c I ds d hr ok hd r k => by
    obtain ⟨e, n, rfl, hq, rfl⟩ := r
    obtain ⟨v, v1, rfl, h, h1⟩ := dds2 hd
    refine sb_ret ok (ed_and3 (i := isTup e) (j := lenIs e n) (k := areNums e n) (ed_isTup T.B (ed_var 0 rfl h)) (fun z => ?_) fun z z2 => ?_) fun v H1 l hv => k v H1 l (areNums_and e n ▸ hv)
    · cases e with
      | tuple ds => exact ed_eqI (ed_lenT T.B (ed_var 0 rfl h)) (ed_var 1 rfl h1)
      | _ => cases z
    · cases e with
      | tuple ds =>
        rw [areNums_all z2]
        refine ed_all T.B ((ed_lcx [("item", 2)] (lc_S 2 [("item", 2)] (T := fun _ => I) (ef := fun i => .bool (isNum (ds.getD i .none))) (it_tup (ed_var 0 rfl h)) (Nat.le_trans (hq ds rfl).1 (by decide)) (fun i hi => fl_bool _) sc13.nd fun X' bl i v Hb hi l dv => ?_) sc13.nd (ok := blkOk_by (N := ["thing", "many", "item"]) (sc := defScope (topS 13)) (by decide +kernel))).is ?_)
        · obtain ⟨s', Hx, C, cl, fp, rfl⟩ := bl
          exact ed_call (f12 T) hr (ad_cons (ed_var 2 rfl dv) ad_nil) ⟨_, rfl, hq.get hi, rfl⟩
        · rw [List.map_map]
          exact congrArg PyData.list (range_map PyData.none (fun e => PyData.bool (isNum e)) ds)
      | _ => cases z
end
end K93
set_option maxHeartbeats 4000000
/-! K93U: bounds, measures, cells. -/
namespace K93
open PySem PySem.Spec PyProof.Rows L2
section
variable {P : Program} {w : World} {K : PySem.W.Frag} {mg : Str → Option Value} {base : Heap}
theorem sc19 : FnScope ["thing"] ["thing"] (defScope (topS 19)) := ⟨rfl, rfl, rfl, by decide +kernel, rfl, by decide +kernel, by decide +kernel⟩
def R19 : List PyData → PyData → Prop := fun ds d => ∃ e, ds = [e] ∧ okI e ∧ d = .bool (areBounds e)
def len2 (e : PyData) : Bool := match e with
  | .tuple ds => decide ((ds.length : Int) ≤ 2)
  | _ => false
theorem areBounds_and (e : PyData) : (isTup e && (len2 e && areBounds e)) = areBounds e := by
  cases e with
  | tuple ds =>
    show (true && (decide ((ds.length : Int) ≤ 2) && (decide (ds.length ≤ 2) && ds.all isNum))) = (decide (ds.length ≤ 2) && ds.all isNum)
    by_cases h : ds.length ≤ 2
    · rw [decide_eq_true h, decide_eq_true (by omega : (ds.length : Int) ≤ 2)]
      simp
    · rw [decide_eq_false h, decide_eq_false (by omega : ¬ (ds.length : Int) ≤ 2)]
      rfl
  | _ => rfl
theorem areBounds_num {ds : List PyData} (h : len2 (.tuple ds) = true) : areBounds (.tuple ds) = areNums (.tuple ds) (ds.length : Int) := by
  have h' : (ds.length : Int) ≤ 2 := of_decide_eq_true h
  show (decide (ds.length ≤ 2) && ds.all isNum) = (decide ((ds.length : Int) = ds.length) && ds.all isNum)
  rw [decide_eq_true (by omega : ds.length ≤ 2), decide_eq_true rfl]
theorem f19 (T : Tx K mg) : FnD P w K mg base CX0 4 "are_bounds" (PSp K R19) :=
  pure_fn T.d19 sc19 (fun ds d ⟨e, h, _⟩ => by rw [h]; rfl) fun f cdv A outer s H E vs Q c I ds d hr ok hd r k => by
    obtain ⟨e, rfl, hq, rfl⟩ := r
    obtain ⟨v, rfl, h⟩ := dds1 hd
    obtain ⟨tn, hn⟩ := T.mn
    refine sb_ret ok (ed_and3 (i := isTup e) (j := len2 e) (k := areBounds e) (ed_isTup T.B (ed_var 0 rfl h)) (fun z => ?_) fun z z2 => ?_) fun v H1 l hv => k v H1 l (areBounds_and e ▸ hv)
    · cases e with
      | tuple ds => exact ed_le (ed_lenT T.B (ed_var 0 rfl h)) (ed_glob rfl hn)
      | _ => cases z
    · cases e with
      | tuple ds =>
        rw [areBounds_num z2]
        exact ed_call (f13 T) hr (ad_cons (ed_var 0 rfl h) (ad_cons (ed_lenT T.B (ed_var 0 rfl h)) ad_nil)) ⟨_, _, rfl, hq, rfl⟩
      | _ => cases z
theorem sc20 : FnScope ["thing", "many", "item"] ["thing", "many"] (defScope (topS 20)) := ⟨rfl, rfl, rfl, by decide +kernel, rfl, by decide +kernel, by decide +kernel⟩
def R20 : List PyData → PyData → Prop := fun ds d => ∃ e n, ds = [e, .int n] ∧ okI e ∧ d = .bool (areMeas e n)
theorem areMeas_and (e : PyData) (n : Int) : (areNums e n && areMeas e n) = areMeas e n := by
  cases e with
  | tuple ds =>
    show ((decide ((ds.length : Int) = n) && ds.all isNum) && (decide ((ds.length : Int) = n) && ds.all isNum && ds.all posD)) = (decide ((ds.length : Int) = n) && ds.all isNum && ds.all posD)
    cases (decide ((ds.length : Int) = n) && ds.all isNum) <;> rfl
  | _ => rfl
theorem areMeas_TI {ns : List Int} {n : Int} (h : areNums (TI ns) n = true) : areMeas (TI ns) n = (ns.map fun i => decide (0 < i)).all id := by
  have h' : (decide (((ns.map PyData.int).length : Int) = n) && (ns.map PyData.int).all isNum) = true := h
  show ((decide (((ns.map PyData.int).length : Int) = n) && (ns.map PyData.int).all isNum) && (ns.map PyData.int).all posD) = _
  rw [h', Bool.true_and, List.all_map, List.all_map]
  rfl
theorem f20 (T : Tx K mg) : FnD P w K mg base CX0 4 "are_measures" (PSp K R20) :=
  pure_fn T.d20 sc20 (fun ds d ⟨e, n, h, _⟩ => by rw [h]; rfl) fun f cdv A outer s H E vs Q c I ds d hr ok hd r k => by
    obtain ⟨e, n, rfl, hq, rfl⟩ := r
    obtain ⟨v, v1, rfl, h, h1⟩ := dds2 hd
    refine sb_ret ok (ed_and (j := areNums e n) (k := areMeas e n) (ed_call (f13 T) hr (ad_cons (ed_var 0 rfl h) (ad_cons (ed_var 1 rfl h1) ad_nil)) ⟨_, _, rfl, hq, rfl⟩) fun z => ?_) fun v H1 l hv => k v H1 l (areMeas_and e n ▸ hv)
    obtain ⟨ns, rfl, hl, h0⟩ := areNums_TI z
    rw [areMeas_TI z]
    refine ed_all T.B ((ed_lcx [("item", 2)] (lc_S 2 [("item", 2)] (T := fun _ => I) (ef := fun i => .bool (decide (0 < ns.getD i 0))) (it_tup (ed_var 0 rfl h)) (Nat.le_trans (hq _ rfl).1 (by decide)) (fun i hi => fl_bool _) sc20.nd fun X' bl i v Hb hi l dv => ?_) sc20.nd (ok := blkOk_by (N := ["thing", "many", "item"]) (sc := defScope (topS 20)) (by decide +kernel))).is ?_)
    · obtain ⟨s', Hx, C, cl, fp, rfl⟩ := bl
      rw [List.length_map] at hi
      rw [getD_int hi] at dv
      exact ed_gt (ed_var 2 rfl dv) ed_int
    · rw [List.map_map, List.length_map]
      exact congrArg PyData.list (range_map (0 : Int) (fun e => PyData.bool (decide (0 < e))) ns)
/-! ### many_cells, cells_of -/
theorem IT.ints2 {X : Cx} {c : Kx} {I J : Ix c.pa} {σ : St} {H : Hp} {tg it : Expr} {bs ms : List Int} (h : IT X c I J tg it σ H (bs.map PyData.int).length fun i => .tuple [(bs.map PyData.int).getD i .none, (ms.map PyData.int).getD i .none]) (hl : bs.length = ms.length) :
    IT X c I J tg it σ H bs.length fun i => .tuple [.int (bs.getD i 0), .int (ms.getD i 0)] := by
  rw [List.length_map] at h
  exact h.congr fun i hi => by rw [getD_int hi, getD_int (by omega)]
theorem lmap {bs ms : List Int} (h : bs.length = ms.length) : (bs.map PyData.int).length = (ms.map PyData.int).length := by rw [List.length_map, List.length_map, h]
theorem sc21 : FnScope ["bounds", "measures", "found", "bound", "measure"] ["bounds", "measures"] (defScope (topS 21)) := ⟨rfl, rfl, rfl, by decide +kernel, rfl, by decide +kernel, by decide +kernel⟩
def R21 : List PyData → PyData → Prop := fun ds d => ∃ bs ms, ds = [TI bs, TI ms] ∧ BM bs ms ∧ mc bs ms ≤ 100000 ∧ d = .int (mc bs ms)
theorem f21 (T : Tx K mg) : FnD P w K mg base CX0 1 "many_cells" (PSp K R21) :=
  pure_fn T.d21 sc21 (fun ds d ⟨bs, ms, h, _⟩ => by rw [h]; rfl) fun f cdv A outer s H E vs Q c I ds d hr ok hd r k => by
    obtain ⟨bs, ms, rfl, B, hm, rfl⟩ := r
    obtain ⟨v, v1, rfl, h, h1⟩ := dds2 hd
    refine sb_set 2 ok ed_int sc21.nd fun v2 H1 l1 h2 => ?_
    refine sb_for2 3 4 l1.ok (IT.ints2 (it_zipT T.B (ed_var 0 rfl (l1.dd h)) (ed_var 1 rfl (l1.dd h1)) (lmap B.len)) B.len) sc21.nd never fun H2 l2 => ?_
    refine ⟨fun _ => I, fun i σ' H' => ∃ w2 w3 w4, σ' = [some v, some v1, some w2, w3, w4] ∧ Le c I H2 H' ∧ DD K c.pa H' w2 (.int (mcI bs ms i)), ⟨v2, none, none, rfl, .refl l2.ok, l2.dd h2⟩, fun i σ' H' _ p => ⟨p.choose_spec.choose_spec.choose_spec.2.1.ex, p.choose_spec.choose_spec.choose_spec.2.1.ok⟩, ?_, ?_⟩
    · rintro i u u1 σ' H' H'' hi ⟨w2, w3, w4, rfl, lH, hw⟩ l3 d1 d2
      obtain ⟨b1, b2⟩ := B.bm hi
      have b3 := bm_le B hi
      refine sb_set 2 l3.ok (ed_mul (Or.inr ⟨by omega, by omega⟩) (ed_var 2 rfl (l3.dd hw)) (ed_add (ed_var 3 rfl d1) (ed_var 4 rfl d2))) sc21.nd fun v3 H3 l4 h3 => sb_nil ⟨v3, some u, some u1, rfl, (lH.trans l3).trans l4, h3⟩
    · rintro σ' H' ⟨w2, w3, w4, rfl, lH, hw⟩
      exact sb_ret lH.ok (ed_var 2 rfl hw) fun v H1 l hv => k v H1 (((l1.trans l2).trans lH).trans l) hv
theorem sc22 : FnScope ["bounds", "measures", "found", "bound", "measure", "cell", "number"] ["bounds", "measures"] (defScope (topS 22)) := ⟨rfl, rfl, rfl, by decide +kernel, rfl, by decide +kernel, by decide +kernel⟩
def R22 : List PyData → PyData → Prop := fun ds d => ∃ bs ms, ds = [TI bs, TI ms] ∧ BM bs ms ∧ mc bs ms ≤ 100000 ∧ d = .list ((cells bs ms).map TI)
theorem cellsI_at (bs ms : List Int) : ∀ i, ∀ cc ∈ cellsI bs ms i, cc.length = i
  | 0, cc, h => by
    have : cc = [] := List.mem_singleton.mp h
    rw [this]; rfl
  | i + 1, cc, h => by
    obtain ⟨dd, h1, h2⟩ := List.mem_flatMap.mp h
    obtain ⟨j, _, rfl⟩ := List.mem_map.mp h2
    rw [List.length_append, cellsI_at bs ms i dd h1]
    rfl
theorem range_flat {α β : Type} (d : α) (g : α → List β) (l : List α) : ((List.range l.length).flatMap fun i => g (l.getD i d)) = l.flatMap g := by
  rw [List.flatMap_def, List.flatMap_def, range_map d g l]
theorem cellsI_step {bs ms : List Int} {i m : Nat} (hm : (bs.getD i 0 + ms.getD i 0).toNat = m) : rws m (fun a b => TI ((cellsI bs ms i).getD a [] ++ [(b : Int)])) (cellsI bs ms i).length 0 = (cellsI bs ms (i + 1)).map TI := by
  have e : cellsI bs ms (i + 1) = (cellsI bs ms i).flatMap fun cc => (List.range (bs.getD i 0 + ms.getD i 0).toNat).map fun (j : Nat) => cc ++ [(j : Int)] := rfl
  have := range_flat ([] : List Int) (fun cc => (List.range m).map fun b => TI (cc ++ [((b : Nat) : Int)])) (cellsI bs ms i)
  rw [e, List.map_flatMap, hm]
  unfold rws
  rw [List.range_zero, List.map_nil, List.append_nil, this]
  simp only [List.map_map]
  rfl
theorem IT.len {X : Cx} {c : Kx} {I J : Ix c.pa} {σ : St} {H : Hp} {tg it : Expr} {n m : Nat} {f : Nat → PyData} (h : IT X c I J tg it σ H n f) (e : n = m) : IT X c I J tg it σ H m f := e ▸ h
theorem getD_memL {α : Type} {l : List α} {i : Nat} {d : α} (h : i < l.length) : l.getD i d ∈ l := by
  rw [List.getD_eq_getElem?_getD, List.getElem?_eq_getElem h]
  exact List.getElem_mem h
theorem f22 (T : Tx K mg) : FnD P w K mg base CX0 1 "cells_of" (PSp K R22) :=
  pure_fn T.d22 sc22 (fun ds d ⟨bs, ms, h, _⟩ => by rw [h]; rfl) fun f cdv A outer s H E vs Q c I ds d hr ok hd r k => by
    obtain ⟨bs, ms, rfl, B, hm, rfl⟩ := r
    obtain ⟨v, v1, rfl, h, h1⟩ := dds2 hd
    refine sb_set 2 ok (ed_lst (ad_cons (ed_tup ad_nil) ad_nil)) sc22.nd fun v2 H1 l1 h2 => ?_
    refine sb_for2 3 4 l1.ok (IT.ints2 (it_zipT T.B (ed_var 0 rfl (l1.dd h)) (ed_var 1 rfl (l1.dd h1)) (lmap B.len)) B.len) sc22.nd never fun H2 l2 => ?_
    refine ⟨fun _ => I, fun i σ' H' => ∃ w2 w3 w4 w5 w6, σ' = [some v, some v1, some w2, w3, w4, w5, w6] ∧ Le c I H2 H' ∧ DD K c.pa H' w2 (.list ((cellsI bs ms i).map TI)), ⟨v2, none, none, none, none, rfl, .refl l2.ok, l2.dd h2⟩, ?_, ?_, ?_⟩
    · rintro i σ' H' _ ⟨w2, w3, w4, w5, w6, rfl, lH, hw⟩
      exact ⟨lH.ex, lH.ok⟩
    · rintro i u u1 σ' H' H'' hi ⟨w2, w3, w4, w5, w6, rfl, lH, hw⟩ l3 d1 d2
      obtain ⟨b1, b2⟩ := B.bm hi
      have b3 := bm_le B hi
      have b4 := mcI_mono B (i + 1) bs.length (by omega) (Nat.le_refl _)
      have b5 := cellsI_len B i (by omega)
      obtain ⟨m, hme⟩ : ∃ m : Nat, (bs.getD i 0 + ms.getD i 0) = (m : Int) := ⟨(bs.getD i 0 + ms.getD i 0).toNat, by omega⟩
      have b6 : (cellsI bs ms i).length * m ≤ 100000 := by
        have e : mcI bs ms (i + 1) = mcI bs ms i * (bs.getD i 0 + ms.getD i 0) := rfl
        rw [hme, ← b5] at e
        have e2 : mc bs ms = mcI bs ms bs.length := rfl
        have e3 : (((cellsI bs ms i).length * m : Nat) : Int) = mcI bs ms (i + 1) := by rw [e, Int.natCast_mul]
        omega
      refine sb_lcc (m := m) 2 5 6 [("cell", 5), ("number", 6)] (ef := fun a b => TI ((cellsI bs ms i).getD a [] ++ [((b : Nat) : Int)])) (f := fun a => ((cellsI bs ms i).map TI).getD a .none) (n := (cellsI bs ms i).length) T.B l3.ok ((IT.len (it_list (ed_var 2 rfl (l3.dd hw))) (List.length_map _))) b6 (by omega) (fun a ha => by rw [getD_map (d := []) ha]; exact fl_TI _) (fun a b _ _ => fl_TI _) sc22.nd ?_ ?_ ?_ (ok := blkOk_by (N := ["bounds", "measures", "found", "bound", "measure", "cell", "number"]) (sc := defScope (topS 22)) (by decide +kernel))
      · rintro X' ⟨s', Hx, C, cl, fp, rfl⟩ a va Hb ha l4 da
        exact ED.is (ed_add (ed_var 3 rfl (l4.dd d1)) (ed_var 4 rfl (l4.dd d2))) (by rw [hme])
      · rintro X' ⟨s', Hx, C, cl, fp, rfl⟩ a b va Hb ha hb l4 da
        rw [getD_map (d := []) ha] at da
        refine ED.is (ed_catT (ed_var 5 rfl da) (ed_tup (ad_cons (ed_var 6 rfl (.int _)) ad_nil)) ?_) ?_
        · rw [List.length_map, cellsI_at bs ms i _ (getD_memL ha)]
          have := B.two
          simp only [List.length_cons, List.length_nil]
          omega
        · unfold TI
          rw [List.map_append]
          rfl
      · intro v4 H4 l4 d4
        rw [cellsI_step (by omega)] at d4
        exact sb_nil ⟨v4, some u, some u1, _, _, rfl, (lH.trans l3).trans l4, d4⟩
    · rintro σ' H' ⟨w2, w3, w4, w5, w6, rfl, lH, hw⟩
      exact sb_ret lH.ok (ed_var 2 rfl hw) fun v H1 l hv => k v H1 (((l1.trans l2).trans lH).trans l) hv
end
end K93
set_option maxHeartbeats 4000000
/-! K93V: forms, rows, raw cells, places. -/
namespace K93
open PySem PySem.Spec PyProof.Rows L2
/-! ### plain -/
def rz (cc : List Int) (k : Nat) (m : Int) : List Int := cc.take k ++ [cc.getD k 0 + m] ++ cc.drop (k + 1)
def fD (f : Int × List Int) : PyData := .tuple [.int f.1, TI f.2]
def rD (fs : List (Int × List Int)) : PyData := .tuple (fs.map fD)
structure FormOk (bs cc : List Int) (f : Int × List Int) : Prop where
  a0 : 0 ≤ f.1
  len : f.2.length = cc.length
  g0 : ∀ g ∈ f.2, 0 ≤ g
  z : ∀ k, k < cc.length → f.2.getD k 0 = 0 ∨ bs.getD k 0 ≤ cc.getD k 0
structure RowOk (bs cc : List Int) (fs : List (Int × List Int)) : Prop where
  one : 1 ≤ fs.length
  most : fs.length ≤ 12
  fm : ∀ f ∈ fs, FormOk bs cc f
def rc (b m n : Int) : Int := if n < b then n else b + (n - b) % m
def rcell (bs ms gs : List Int) : List Int := (List.range bs.length).map fun k => rc (bs.getD k 0) (ms.getD k 0) (gs.getD k 0)
def plI (bs ms cc : List Int) : Nat → Int
  | 0 => 0
  | i + 1 => plI bs ms cc i * (bs.getD i 0 + ms.getD i 0) + cc.getD i 0
def plc (bs ms cc : List Int) : Int := plI bs ms cc bs.length
def dotI (gs ts : List Int) : Int := ((List.range gs.length).map fun k => gs.getD k 0 * ts.getD k 0).sum
def fvI (f : Int × List Int) (ts : List Int) : Int := f.1 + dotI f.2 ts
theorem TI_ix {ns : List Int} {i : Nat} (h : i < ns.length) : (ns.map PyData.int)[i]? = some (.int (ns.getD i 0)) := by
  rw [List.getElem?_map, List.getD_eq_getElem?_getD, List.getElem?_eq_getElem h]
  rfl
section
variable {P : Program} {w : World} {K : PySem.W.Frag} {mg : Str → Option Value} {base : Heap}
theorem sc23 : FnScope ["bounds", "cell", "k"] ["bounds", "cell", "k"] (defScope (topS 23)) := ⟨rfl, rfl, rfl, by decide +kernel, rfl, by decide +kernel, by decide +kernel⟩
def R23 : List PyData → PyData → Prop := fun ds d => ∃ (bs cc : List Int) (k : Nat), ds = [TI bs, TI cc, .int (k : Int)] ∧ k < bs.length ∧ k < cc.length ∧ d = .bool (decide (bs.getD k 0 ≤ cc.getD k 0))
theorem f23 (T : Tx K mg) : FnD P w K mg base CX0 1 "is_great" (PSp K R23) :=
  pure_fn T.d23 sc23 (fun ds d ⟨_, _, _, h, _⟩ => by rw [h]; rfl) fun f cdv A outer s H E vs Q c I ds d hr ok hd r k => by
    obtain ⟨bs, cc, n, rfl, hb, hc, rfl⟩ := r
    obtain ⟨v, v1, v2, rfl, h, h1, h2⟩ := dds3 hd
    exact sb_ret ok (ed_ge (ed_ixT (ed_var 1 rfl h1) (ed_var 2 rfl h2) (TI_ix hc)) (ed_ixT (ed_var 0 rfl h) (ed_var 2 rfl h2) (TI_ix hb))) k
theorem sc34 : FnScope ["given", "k", "measure"] ["given", "k", "measure"] (defScope (topS 34)) := ⟨rfl, rfl, rfl, by decide +kernel, rfl, by decide +kernel, by decide +kernel⟩
def R34 : List PyData → PyData → Prop := fun ds d => ∃ (cc : List Int) (k : Nat) (m : Int), ds = [TI cc, .int (k : Int), .int m] ∧ k < cc.length ∧ cc.length ≤ 1000 ∧ d = TI (rz cc k m)
theorem f34 (T : Tx K mg) : FnD P w K mg base CX0 1 "raised" (PSp K R34) :=
  pure_fn T.d34 sc34 (fun ds d ⟨_, _, _, h, _⟩ => by rw [h]; rfl) fun f cdv A outer s H E vs Q c I ds d hr ok hd r k => by
    obtain ⟨cc, n, m, rfl, hc, hl, rfl⟩ := r
    obtain ⟨v, v1, v2, rfl, h, h1, h2⟩ := dds3 hd
    refine sb_ret ok (ED.is (ed_catT (ed_catT (ed_slTo (ed_var 0 rfl h) (ed_var 1 rfl h1)) (ed_tup (ad_cons (ed_add (ed_ixT (ed_var 0 rfl h) (ed_var 1 rfl h1) (TI_ix hc)) (ed_var 2 rfl h2)) ad_nil)) ?_) (ed_slFrom (k := n + 1) (ed_var 0 rfl h) (ED.is (ed_add (i := (n : Int)) (j := 1) (ed_var 1 rfl h1) ed_int) rfl)) ?_) ?_) k
    · simp only [List.length_take, List.length_map, List.length_cons, List.length_nil]
      omega
    · simp only [List.length_append, List.length_take, List.length_drop, List.length_map, List.length_cons, List.length_nil]
      omega
    · unfold TI rz
      rw [List.map_append, List.map_append, List.map_take, List.map_drop]
      rfl
theorem sc24 : FnScope ["thing", "bounds", "cell", "k"] ["thing", "bounds", "cell"] (defScope (topS 24)) := ⟨rfl, rfl, rfl, by decide +kernel, rfl, by decide +kernel, by decide +kernel⟩
def R24 : List PyData → PyData → Prop := fun ds d => ∃ (fm : Int × List Int) (bs cc : List Int), ds = [fD fm, TI bs, TI cc] ∧ FormOk bs cc fm ∧ bs.length = cc.length ∧ cc.length ≤ 1000 ∧ d = .bool true
theorem f24 (T : Tx K mg) : FnD P w K mg base CX0 4 "is_form" (PSp K R24) :=
  pure_fn T.d24 sc24 (fun ds d ⟨_, _, _, h, _⟩ => by rw [h]; rfl) fun f cdv A outer s H E vs Q c I ds d hr ok hd r k => by
    obtain ⟨fm, bs, cc, rfl, F, hb, hl, rfl⟩ := r
    obtain ⟨v, v1, v2, rfl, h, h1, h2⟩ := dds3 hd
    refine sb_when (q := false) ok (TV.is (tv_or3 (i := false) (j := false) (k := false) (TV.is (tv_not (tv_val (ed_isTup T.B (ed_var 0 rfl h)))) rfl) (fun _ => TV.is (tv_neI (ed_lenT T.B (ed_var 0 rfl h)) ed_int) rfl) fun _ _ => TV.is (tv_not (tv_val (ed_call ((f12 T).mono (by decide)) hr (ad_cons (ed_ixT (i := 0) (ed_var 0 rfl h) ed_int rfl) ad_nil) ⟨_, rfl, rfl, rfl⟩))) ?_) rfl) (fun z => nomatch z) fun _ H1 l1 => ?_
    · have := F.a0
      show (!decide (0 ≤ fm.1)) = false
      rw [decide_eq_true this]; rfl
    refine sb_when (q := false) l1.ok (TV.is (tv_not (tv_val (ed_call ((f13 T).mono (by decide)) hr (ad_cons (ed_ixT (i := 1) (ed_var 0 rfl (l1.dd h)) ed_int rfl) (ad_cons (ed_lenT T.B (ed_var 2 rfl (l1.dd h2))) ad_nil)) ⟨_, _, rfl, okI_TI (by rw [F.len]; omega), rfl⟩))) ?_) (fun z => nomatch z) fun _ H2 l2 => ?_
    · rw [List.length_map, areNums_of (by rw [F.len]) F.g0]
      rfl
    have l12 := l1.trans l2
    refine sb_ret l2.ok (ED.is (ed_all (ns := (List.range cc.length).map fun i => decide (fm.2.getD i 0 = 0) || decide (bs.getD i 0 ≤ cc.getD i 0)) T.B (ED.is (ed_lcx [("k", 3)] (lc_S 3 [("k", 3)] (T := fun _ => I) (n := cc.length) (ef := fun i => .bool (decide (fm.2.getD i 0 = 0) || decide (bs.getD i 0 ≤ cc.getD i 0))) (it_range T.B (ED.is (ed_lenT T.B (ed_var 2 rfl (l12.dd h2))) (by rw [List.length_map])) (by omega)) (by omega) (fun i hi => fl_bool _) sc24.nd fun X' bl i v Hb hi l dv => ?_) sc24.nd (ok := blkOk_by (N := ["thing", "bounds", "cell", "k"]) (sc := defScope (topS 24)) (by decide +kernel))) ?_)) ?_) fun v H3 l3 hv => k v H3 (l12.trans l3) hv
    · obtain ⟨s', Hx, C, cl, fp, rfl⟩ := bl
      refine ed_or (ed_eqI (ed_ixT (ed_ixT (i := 1) (ed_var 0 rfl (l.dd (l12.dd h))) ed_int rfl) (ed_var 3 rfl dv) (TI_ix (by rw [F.len]; exact hi))) ed_int) fun _ => ed_call ((f23 T).mono (by decide)) hr (ad_cons (ed_var 1 rfl (l.dd (l12.dd h1))) (ad_cons (ed_var 2 rfl (l.dd (l12.dd h2))) (ad_cons (ed_var 3 rfl dv) ad_nil))) ⟨_, _, _, rfl, by omega, hi, rfl⟩
    · rw [List.map_map]
      rfl
    · congr 1
      rw [List.all_map, List.all_eq_true]
      intro i hi
      rcases F.z i (List.mem_range.mp hi) with e | e
      · show (decide (fm.2.getD i 0 = 0) || _) = true
        rw [decide_eq_true e]; rfl
      · show (_ || decide (bs.getD i 0 ≤ cc.getD i 0)) = true
        rw [decide_eq_true e, Bool.or_true]
theorem sc25 : FnScope ["thing", "bounds", "cell", "item"] ["thing", "bounds", "cell"] (defScope (topS 25)) := ⟨rfl, rfl, rfl, by decide +kernel, rfl, by decide +kernel, by decide +kernel⟩
def R25 : List PyData → PyData → Prop := fun ds d => ∃ (fs : List (Int × List Int)) (bs cc : List Int), ds = [rD fs, TI bs, TI cc] ∧ RowOk bs cc fs ∧ bs.length = cc.length ∧ cc.length ≤ 1000 ∧ d = .bool true
theorem f25 (T : Tx K mg) : FnD P w K mg base CX0 5 "is_row" (PSp K R25) :=
  pure_fn T.d25 sc25 (fun ds d ⟨_, _, _, h, _⟩ => by rw [h]; rfl) fun f cdv A outer s H E vs Q c I ds d hr ok hd r k => by
    obtain ⟨fs, bs, cc, rfl, R, hb, hl, rfl⟩ := r
    obtain ⟨v, v1, v2, rfl, h, h1, h2⟩ := dds3 hd
    obtain ⟨tf, hf⟩ := T.mf
    have o1 := R.one
    have o2 := R.most
    refine sb_when (q := false) ok (TV.is (tv_or (j := false) (k := false) (TV.is (tv_not (tv_val (ed_isTup T.B (ed_var 0 rfl h)))) rfl) (fun _ => TV.is (tv_not (tv_chainLe ed_int (ed_lenT T.B (ed_var 0 rfl h)) (ed_glob rfl hf))) ?_)) rfl) (fun z => nomatch z) fun _ H1 l1 => ?_
    · rw [List.length_map, decide_eq_true (by omega), decide_eq_true (by omega)]
      rfl
    refine sb_ret l1.ok (ED.is (ed_all (ns := (List.range fs.length).map fun i => true) T.B (ED.is (ed_lcx [("item", 3)] (lc_S 3 [("item", 3)] (T := fun _ => I) (ef := fun i => .bool true) (n := fs.length) (IT.len (it_tup (ed_var 0 rfl (l1.dd h))) (List.length_map _)) (by omega) (fun i hi => fl_bool _) sc25.nd fun X' bl i v Hb hi l dv => ?_) sc25.nd (ok := blkOk_by (N := ["thing", "bounds", "cell", "item"]) (sc := defScope (topS 25)) (by decide +kernel))) ?_)) ?_) fun v H3 l3 hv => k v H3 (l1.trans l3) hv
    · obtain ⟨s', Hx, C, cl, fp, rfl⟩ := bl
      rw [getD_map (d := (0, [])) hi] at dv
      exact ed_call (f24 T) hr (ad_cons (ed_var 3 rfl dv) (ad_cons (ed_var 1 rfl (l.dd (l1.dd h1))) (ad_cons (ed_var 2 rfl (l.dd (l1.dd h2))) ad_nil))) ⟨_, _, _, rfl, R.fm _ (getD_memL hi), hb, hl, rfl⟩
    · rw [List.map_map]
      rfl
    · congr 1
      rw [List.all_map, List.all_eq_true]
      intro i hi
      rfl
/-! ### raw cells and places -/
theorem IT.ints3 {X : Cx} {c : Kx} {I J : Ix c.pa} {σ : St} {H : Hp} {tg it : Expr} {bs ms gs : List Int} (h : IT X c I J tg it σ H (bs.map PyData.int).length fun i => .tuple [(bs.map PyData.int).getD i .none, (ms.map PyData.int).getD i .none, (gs.map PyData.int).getD i .none]) (hl : bs.length = ms.length) (hl2 : bs.length = gs.length) :
    IT X c I J tg it σ H bs.length fun i => .tuple [.int (bs.getD i 0), .int (ms.getD i 0), .int (gs.getD i 0)] := by
  rw [List.length_map] at h
  exact h.congr fun i hi => by rw [getD_int hi, getD_int (by omega), getD_int (by omega)]
theorem sc29 : FnScope ["bounds", "measures", "given", "found", "bound", "measure", "number"] ["bounds", "measures", "given"] (defScope (topS 29)) := ⟨rfl, rfl, rfl, by decide +kernel, rfl, by decide +kernel, by decide +kernel⟩
def R29 : List PyData → PyData → Prop := fun ds d => ∃ (bs ms gs : List Int), ds = [TI bs, TI ms, TI gs] ∧ BM bs ms ∧ bs.length = gs.length ∧ d = TI (rcell bs ms gs)
theorem f29 (T : Tx K mg) : FnD P w K mg base CX0 1 "raw_cell" (PSp K R29) :=
  pure_fn T.d29 sc29 (fun ds d ⟨_, _, _, h, _⟩ => by rw [h]; rfl) fun f cdv A outer s H E vs Q c I ds d hr ok hd r k => by
    obtain ⟨bs, ms, gs, rfl, B, hg, rfl⟩ := r
    obtain ⟨v, v1, v2, rfl, h, h1, h2⟩ := dds3 hd
    refine sb_set 3 ok (ed_tup ad_nil) sc29.nd fun v3 H1 l1 h3 => ?_
    refine sb_for3 4 5 6 l1.ok (IT.ints3 (it_zip3 T.B (ed_var 0 rfl (l1.dd h)) (ed_var 1 rfl (l1.dd h1)) (ed_var 2 rfl (l1.dd h2)) (lmap B.len) (lmap hg)) B.len hg) sc29.nd never fun H2 l2 => ?_
    refine ⟨fun _ => I, fun i σ' H' => ∃ w2 w3 w4 w5, σ' = [some v, some v1, some v2, some w2, w3, w4, w5] ∧ Le c I H2 H' ∧ DD K c.pa H' w2 (TI ((List.range i).map fun k => rc (bs.getD k 0) (ms.getD k 0) (gs.getD k 0))), ⟨v3, none, none, none, rfl, .refl l2.ok, l2.dd h3⟩, ?_, ?_, ?_⟩
    · rintro i σ' H' _ ⟨w2, w3, w4, w5, rfl, lH, hw⟩
      exact ⟨lH.ex, lH.ok⟩
    · rintro i u u1 u2 σ' H' H'' hi ⟨w2, w3, w4, w5, rfl, lH, hw⟩ l3 d1 d2 d3
      obtain ⟨b1, b2⟩ := B.bm hi
      have t := B.two
      refine sb_set 3 l3.ok (ED.is (ed_catT (ed_var 3 rfl (l3.dd hw)) (ed_tup (ad_cons (ED.is (ev_if (tv_lt (ed_var 6 rfl d3) (ed_var 4 rfl d1)) (P := fun v H' => DD K c.pa H' v (.int (rc (bs.getD i 0) (ms.getD i 0) (gs.getD i 0)))) (fun z => ED.is (ed_var 6 rfl d3) ?_) fun z => ED.is (ed_add (ed_var 4 rfl d1) (ed_mod (by omega) (ed_sub (ed_var 6 rfl d3) (ed_var 4 rfl d1)) (ed_var 5 rfl d2))) ?_) rfl) ad_nil)) ?_) ?_) sc29.nd fun v4 H4 l4 d4 => sb_nil ⟨v4, _, _, _, rfl, (lH.trans l3).trans l4, d4⟩
      · unfold rc; rw [if_pos (of_decide_eq_true z)]
      · unfold rc; rw [if_neg (of_decide_eq_false z)]
      · simp only [List.length_map, List.length_range, List.length_cons, List.length_nil]
        omega
      · unfold TI
        rw [List.range_succ, List.map_append, List.map_append]
        rfl
    · rintro σ' H' ⟨w2, w3, w4, w5, rfl, lH, hw⟩
      exact sb_ret lH.ok (ed_var 3 rfl hw) fun v H1 l hv => k v H1 (((l1.trans l2).trans lH).trans l) hv
theorem sc30 : FnScope ["bounds", "measures", "cell", "found", "bound", "measure", "number"] ["bounds", "measures", "cell"] (defScope (topS 30)) := ⟨rfl, rfl, rfl, by decide +kernel, rfl, by decide +kernel, by decide +kernel⟩
def R30 : List PyData → PyData → Prop := fun ds d => ∃ (bs ms gs : List Int), ds = [TI bs, TI ms, TI gs] ∧ BM bs ms ∧ mc bs ms ≤ 100000 ∧ bs.length = gs.length ∧ d = .int (plc bs ms gs)
theorem f30 (T : Tx K mg) : FnD P w K mg base CX0 1 "place_of" (PSp K R30) :=
  pure_fn T.d30 sc30 (fun ds d ⟨_, _, _, h, _⟩ => by rw [h]; rfl) fun f cdv A outer s H E vs Q c I ds d hr ok hd r k => by
    obtain ⟨bs, ms, gs, rfl, B, hm, hg, rfl⟩ := r
    obtain ⟨v, v1, v2, rfl, h, h1, h2⟩ := dds3 hd
    refine sb_set 3 ok ed_int sc30.nd fun v3 H1 l1 h3 => ?_
    refine sb_for3 4 5 6 l1.ok (IT.ints3 (it_zip3 T.B (ed_var 0 rfl (l1.dd h)) (ed_var 1 rfl (l1.dd h1)) (ed_var 2 rfl (l1.dd h2)) (lmap B.len) (lmap hg)) B.len hg) sc30.nd never fun H2 l2 => ?_
    refine ⟨fun _ => I, fun i σ' H' => ∃ w2 w3 w4 w5, σ' = [some v, some v1, some v2, some w2, w3, w4, w5] ∧ Le c I H2 H' ∧ DD K c.pa H' w2 (.int (plI bs ms gs i)), ⟨v3, none, none, none, rfl, .refl l2.ok, l2.dd h3⟩, ?_, ?_, ?_⟩
    · rintro i σ' H' _ ⟨w2, w3, w4, w5, rfl, lH, hw⟩
      exact ⟨lH.ex, lH.ok⟩
    · rintro i u u1 u2 σ' H' H'' hi ⟨w2, w3, w4, w5, rfl, lH, hw⟩ l3 d1 d2 d3
      obtain ⟨b1, b2⟩ := B.bm hi
      have b3 := bm_le B hi
      exact sb_set 3 l3.ok (ed_add (ed_mul (Or.inr ⟨by omega, by omega⟩) (ed_var 3 rfl (l3.dd hw)) (ed_add (ed_var 4 rfl d1) (ed_var 5 rfl d2))) (ed_var 6 rfl d3)) sc30.nd fun v4 H4 l4 d4 => sb_nil ⟨v4, _, _, _, rfl, (lH.trans l3).trans l4, d4⟩
    · rintro σ' H' ⟨w2, w3, w4, w5, rfl, lH, hw⟩
      exact sb_ret lH.ok (ed_var 3 rfl hw) fun v H1 l hv => k v H1 (((l1.trans l2).trans lH).trans l) hv
theorem sc32 : FnScope ["form", "times", "step", "time"] ["form", "times"] (defScope (topS 32)) := ⟨rfl, rfl, rfl, by decide +kernel, rfl, by decide +kernel, by decide +kernel⟩
def R32 : List PyData → PyData → Prop := fun ds d => ∃ (fm : Int × List Int) (ts : List Int), ds = [fD fm, .list (ts.map .int)] ∧ fm.2.length = ts.length ∧ fm.2.length ≤ 1000 ∧ (∀ t ∈ ts, -1000000 ≤ t ∧ t ≤ 1000000) ∧ d = .int (fvI fm ts)
theorem f32 (T : Tx K mg) : FnD P w K mg base CX0 1 "form_value" (PSp K R32) :=
  pure_fn T.d32 sc32 (fun ds d ⟨_, _, h, _⟩ => by rw [h]; rfl) fun f cdv A outer s H E vs Q c I ds d hr ok hd r k => by
    obtain ⟨fm, ts, rfl, hl, hn, ht, rfl⟩ := r
    obtain ⟨v, v1, rfl, h, h1⟩ := dds2 hd
    refine sb_ret ok (ed_add (ed_ixT (i := 0) (ed_var 0 rfl h) ed_int rfl) (ed_sum (ns := (List.range fm.2.length).map fun k => fm.2.getD k 0 * ts.getD k 0) T.B (ED.is (ed_lcx [("step", 2), ("time", 3)] (lc_2 2 3 [("step", 2), ("time", 3)] (ef := fun i => .int (fm.2.getD i 0 * ts.getD i 0)) (IT.ints2 (it_zipTL T.B (ed_ixT (i := 1) (ed_var 0 rfl h) ed_int rfl) (ed_var 1 rfl h1) (lmap hl)) hl) (by omega) (fun i hi => fl_int _) sc32.nd fun X' bl i v u Hb hi l dv du => ?_) sc32.nd (ok := blkOk_by (N := ["form", "times", "step", "time"]) (sc := defScope (topS 32)) (by decide +kernel))) ?_))) k
    · obtain ⟨s', Hx, C, cl, fp, rfl⟩ := bl
      have := ht _ (getD_memL (d := 0) (by omega : i < ts.length))
      exact ed_mul (Or.inr ⟨by omega, by omega⟩) (ed_var 2 rfl dv) (ed_var 3 rfl du)
    · rw [List.map_map]
      rfl
end
end K93
set_option maxHeartbeats 4000000
/-! K93W: the tables' class; raw_value. -/
namespace K93
open PySem PySem.Spec PyProof.Rows L2
theorem upd_upd {H : Hp} {a : Addr} {o o' : HO} : upd (upd H a o) a o' = upd H a o' := by
  funext b
  unfold upd
  split <;> rfl
def RD (rs : List (List (Int × List Int))) : PyData := .tuple (rs.map rD)
/-- v is a table of these bounds, measures, rows -/
structure TbO (K : PySem.W.Frag) (pa : List Addr) (H : Hp) (v : V) (bs ms : List Int) (rs : List (List (Int × List Int))) : Prop where
  ex : ∃ a C dx vb vm vr, v = .ref a ∧ a ∉ pa ∧ H a = some (.ins C dx [("bounds", vb), ("measures", vm), ("rows", vr)]) ∧ Cls K C ∧ NoAttr K C "bounds" ∧ NoAttr K C "measures" ∧ NoAttr K C "rows" ∧ InsK K C ∧ DD K pa H vb (TI bs) ∧ DD K pa H vm (TI ms) ∧ DD K pa H vr (RD rs)
theorem TbO.mono {K : PySem.W.Frag} {pa : List Addr} {H H' : Hp} {v : V} {bs ms : List Int} {rs : List (List (Int × List Int))} (h : TbO K pa H v bs ms rs) (e : Ex pa H H') : TbO K pa H' v bs ms rs := by
  obtain ⟨a, C, dx, vb, vm, vr, h1, h2, h3, h4, h5, h6, h7, h8, h9, h10, h11⟩ := h.ex
  exact ⟨a, C, dx, vb, vm, vr, h1, h2, e a _ h3 (fun _ z => nomatch z) h2, h4, h5, h6, h7, h8, h9.mono e, h10.mono e, h11.mono e⟩
theorem TbO.opq {K : PySem.W.Frag} {pa : List Addr} {H : Hp} {v : V} {bs ms : List Int} {rs : List (List (Int × List Int))} (h : TbO K pa H v bs ms rs) : DD K pa H v (.dict []) := by
  obtain ⟨a, C, dx, vb, vm, vr, rfl, h2, h3, h4, h5, h6, h7, h8, h9, h10, h11⟩ := h.ex
  exact .opq (.inr ⟨C, dx, _, h3, h8⟩) h2
section
variable {X : Cx} {c : Kx} {I J L : Ix c.pa} {σ : St} {H : Hp} {e a : Expr} {pos : Pos} {bs ms : List Int} {rs : List (List (Int × List Int))}
theorem mtb : ∀ v H1 H2, Le c L H1 H2 → TbO X.K c.pa H1 v bs ms rs → TbO X.K c.pa H2 v bs ms rs := fun _ _ _ l h => h.mono l.ex
theorem ed_bounds (ha : EV X c I J a σ H fun v H' => TbO X.K c.pa H' v bs ms rs) (hb : attributeBase a "bounds" X.env (eval a X.env) = eval a X.env := by rfl) : ED X c I J (.Attribute a "bounds" pos) σ H (TI bs) :=
  EV.of (pe_fld peS hb) fun H1 l Q q => ha H1 l _ fun v H2 l2 w => by
    obtain ⟨a, C, dx, vb, vm, vr, rfl, h2, h3, h4, h5, h6, h7, h8, h9, h10, h11⟩ := w.ex
    exact ⟨a, C, dx, _, _, rfl, h3, h4, h5, rfl, q _ H2 l2 h9⟩
theorem ed_measures (ha : EV X c I J a σ H fun v H' => TbO X.K c.pa H' v bs ms rs) (hb : attributeBase a "measures" X.env (eval a X.env) = eval a X.env := by rfl) : ED X c I J (.Attribute a "measures" pos) σ H (TI ms) :=
  EV.of (pe_fld peS hb) fun H1 l Q q => ha H1 l _ fun v H2 l2 w => by
    obtain ⟨a, C, dx, vb, vm, vr, rfl, h2, h3, h4, h5, h6, h7, h8, h9, h10, h11⟩ := w.ex
    exact ⟨a, C, dx, _, _, rfl, h3, h4, h6, rfl, q _ H2 l2 h10⟩
theorem ed_rows (ha : EV X c I J a σ H fun v H' => TbO X.K c.pa H' v bs ms rs) (hb : attributeBase a "rows" X.env (eval a X.env) = eval a X.env := by rfl) : ED X c I J (.Attribute a "rows" pos) σ H (RD rs) :=
  EV.of (pe_fld peS hb) fun H1 l Q q => ha H1 l _ fun v H2 l2 w => by
    obtain ⟨a, C, dx, vb, vm, vr, rfl, h2, h3, h4, h5, h6, h7, h8, h9, h10, h11⟩ := w.ex
    exact ⟨a, C, dx, _, _, rfl, h3, h4, h7, rfl, q _ H2 l2 h11⟩
theorem ev_tb (i : Nat) {x : Str} {v : V} (hs : σ[i]? = some (some v)) (h : TbO X.K c.pa H v bs ms rs) (hN : X.N[i]? = some x := by rfl) (hv : Vis X.env.scope x := by first | exact Or.inl rfl | exact Or.inr (Or.inl rfl) | exact Or.inr (Or.inr rfl))
    (hd : (x == ("__debug__" : Str)) = false := by decide) (hcd : (x == ("__classdict__" : Str)) = false := by decide) : EV X c I I (.Name x pos) σ H fun v H' => TbO X.K c.pa H' v bs ms rs :=
  EV.of (pe_var hN hv hd hcd) fun H1 l Q q => ⟨v, hs, q v H1 (.refl l.ok) (h.mono l.ex)⟩
end
/-- the promise of a def that takes a table ahead of data -/
def OSp (K : PySem.W.Frag) (R : List Int → List Int → List (List (Int × List Int)) → List PyData → PyData → Prop) : Sp := fun vs H Q _ => ∃ (c : Kx) (I : Ix c.pa) (u : V) (us : List V) (bs ms : List Int) (rs : List (List (Int × List Int))) (ds : List PyData) (d : PyData),
  vs = u :: us ∧ Ok c I H ∧ TbO K c.pa H u bs ms rs ∧ DDs K c.pa H us ds ∧ R bs ms rs ds d ∧ ∀ v H1, Le c I H H1 → DD K c.pa H1 v d → Q v H1
section
variable {X : Cx} {c : Kx} {I J L : Ix c.pa} {σ : St} {H : Hp} {e : Expr} {es : List Expr} {p pos : Pos} {x : Str} {k : Nat} {bs ms : List Int} {rs : List (List (Int × List Int))} {R : List Int → List Int → List (List (Int × List Int)) → List PyData → PyData → Prop} {ds : List PyData} {d : PyData}
theorem ed_callO (F : FnD X.prog X.w X.K X.mg X.base CX0 k x (OSp X.K R)) (hr : Room k X.A) (ha : EV X c I I e σ H fun v H' => TbO X.K c.pa H' v bs ms rs) (hes : AD X c I I es σ H ds) (r : R bs ms rs ds d)
    (hs : starEach (e :: es) X.env = (false, eval e X.env) :: starEach es X.env := by rfl) (hg : Gl X x := by rfl) (hdb : (x == ("__debug__" : Str)) = false := by decide) (hpl : (backTo pos (starEach es X.env)).any (·.1) = false := by rfl) : ED X c I I (.Call (.Name x p) (e :: es) [] pos) σ H d :=
  ev_call F hr (av_cons ha mtb hes hs) (fun vs H1 l w Q q => by
    obtain ⟨v, r', rfl, w1, w2⟩ := w
    exact ⟨c, I, v, r', bs, ms, rs, ds, d, rfl, l.ok, w1, w2, r, fun v H2 l2 dd => q v H2 l2 dd⟩) (hg := hg) (hdb := hdb) (he := hs) (hpl := hpl)
end
section
variable {P : Program} {w : World} {K : PySem.W.Frag} {mg : Str → Option Value} {base : Heap}
theorem obj_fn {x : Str} {st : Stmt} {N : List Str} {p0 : Str} {ps : List Str} {k : Nat} {R : List Int → List Int → List (List (Int × List Int)) → List PyData → PyData → Prop} (F : Df K mg x st (p0 :: ps)) (S : FnScope N (p0 :: ps) (defScope st)) (len : ∀ bs ms rs ds d, R bs ms rs ds d → ds.length = ps.length)
    (hb : ∀ (f : Addr) (cdv : Value) (A : Around) (outer : List Env) (s : Shared) (H : Hp) (E : XK) (u : V) (us : List V) (Q : VK) (c : Kx) (I : Ix c.pa) (bs ms : List Int) (rs : List (List (Int × List Int))) (ds : List PyData) (d : PyData), Room k (A.deeper (envOfC x (defScope st) s.heap.objs.size f cdv)) → Ok c I H → TbO K c.pa H u bs ms rs → DDs K c.pa H us ds → R bs ms rs ds d →
      (∀ v H1, Le c I H H1 → DD K c.pa H1 v d → Q v H1) → SB (bX P w K mg base N x (defScope st) f cdv A outer s H E) { nx := fun _ H' => Q .non H', rt := Q } (defBody st) (start N (u :: us)) H) : FnD P w K mg base CX0 (k + 1) x (OSp K R) :=
  any_fn F S (fun vs H Q E ⟨c, I, u, us, bs, ms, rs, ds, d, h0, _, _, h2, h3, _⟩ => by rw [h0, List.length_cons, h2.length, len _ _ _ _ _ h3]; rfl) fun f cdv A outer s H E vs Q hr h => by
    obtain ⟨c, I, u, us, bs, ms, rs, ds, d, rfl, h1, h2, h3, h4, h5⟩ := h
    exact hb f cdv A outer s H E u us Q c I bs ms rs ds d hr h1 h2 h3 h4 h5
theorem sc28 : FnScope ["table"] ["table"] (defScope (topS 28)) := ⟨rfl, rfl, rfl, by decide +kernel, rfl, by decide +kernel, by decide +kernel⟩
def R28 : List Int → List Int → List (List (Int × List Int)) → List PyData → PyData → Prop := fun bs ms rs ds d => ∃ r0 rs', ds = [] ∧ rs = r0 :: rs' ∧ d = .int (r0.length : Int)
theorem f28 (T : Tx K mg) : FnD P w K mg base CX0 1 "many_results" (OSp K R28) :=
  obj_fn T.d28 sc28 (fun bs ms rs ds d ⟨_, _, h, _⟩ => by rw [h]; rfl) fun f cdv A outer s H E u us Q c I bs ms rs ds d hr ok ht hd r k => by
    obtain ⟨r0, rs', rfl, rfl, rfl⟩ := r
    exact sb_ret ok (ED.is (ed_lenT T.B (ed_ixT (i := 0) (ed_rows (ev_tb 0 rfl ht)) ed_int rfl)) (by rw [List.length_map])) k
theorem sc31 : FnScope ["table", "cell"] ["table", "cell"] (defScope (topS 31)) := ⟨rfl, rfl, rfl, by decide +kernel, rfl, by decide +kernel, by decide +kernel⟩
def R31 : List Int → List Int → List (List (Int × List Int)) → List PyData → PyData → Prop := fun bs ms rs ds d => ∃ (gs : List Int) (i : Nat) (r : List (Int × List Int)), ds = [TI gs] ∧ BM bs ms ∧ mc bs ms ≤ 100000 ∧ bs.length = gs.length ∧ plc bs ms gs = (i : Int) ∧ rs[i]? = some r ∧ d = rD r
theorem f31 (T : Tx K mg) : FnD P w K mg base CX0 2 "raw_row" (OSp K R31) :=
  obj_fn T.d31 sc31 (fun bs ms rs ds d ⟨_, _, _, h, _⟩ => by rw [h]; rfl) fun f cdv A outer s H E u us Q c I bs ms rs ds d hr ok ht hd r k => by
    obtain ⟨gs, i, r, rfl, B, hm, hl, hp, hi, rfl⟩ := r
    obtain ⟨v1, rfl, h1⟩ := dds1 hd
    refine sb_ret ok (ed_ixT (i := i) (ed_rows (ev_tb 0 rfl ht)) (ED.is (ed_call (f30 T) hr (ad_cons (ed_bounds (ev_tb 0 rfl ht)) (ad_cons (ed_measures (ev_tb 0 rfl ht)) (ad_cons (ed_var 1 rfl h1) ad_nil))) ⟨_, _, _, rfl, B, hm, hl, rfl⟩) (by rw [hp])) ?_) k
    rw [List.getElem?_map, hi]
    rfl
/-! ### raw_value -/
def tmI (bs ms gs : List Int) : List Int := (List.range bs.length).map fun k => (gs.getD k 0 - rc (bs.getD k 0) (ms.getD k 0) (gs.getD k 0)) / ms.getD k 0
/-- what the table of these rows gives at gs -/
def rvI (bs ms : List Int) (rs : List (List (Int × List Int))) (gs : List Int) : List Int := (rs.getD (plc bs ms (rcell bs ms gs)).toNat []).map fun f => fvI f (tmI bs ms gs)
theorem sc33 : FnScope ["table", "given", "cell", "times", "k", "form"] ["table", "given"] (defScope (topS 33)) := ⟨rfl, rfl, rfl, by decide +kernel, rfl, by decide +kernel, by decide +kernel⟩
def R33 : List Int → List Int → List (List (Int × List Int)) → List PyData → PyData → Prop := fun bs ms rs ds d => ∃ (gs : List Int) (i : Nat) (r : List (Int × List Int)), ds = [TI gs] ∧ BM bs ms ∧ mc bs ms ≤ 100000 ∧ bs.length = gs.length ∧ plc bs ms (rcell bs ms gs) = (i : Int) ∧ rs[i]? = some r ∧
  r.length ≤ 1000 ∧ (∀ f ∈ r, f.2.length = bs.length) ∧ (∀ m ∈ ms, m < 1000000) ∧ (∀ t ∈ tmI bs ms gs, -1000000 ≤ t ∧ t ≤ 1000000) ∧ d = TI (r.map fun f => fvI f (tmI bs ms gs))
theorem rcell_len (bs ms gs : List Int) : (rcell bs ms gs).length = bs.length := by unfold rcell; rw [List.length_map, List.length_range]
theorem tmI_len (bs ms gs : List Int) : (tmI bs ms gs).length = bs.length := by unfold tmI; rw [List.length_map, List.length_range]
theorem rcell_get {bs ms gs : List Int} {k : Nat} (h : k < bs.length) : (rcell bs ms gs).getD k 0 = rc (bs.getD k 0) (ms.getD k 0) (gs.getD k 0) := by
  unfold rcell
  rw [List.getD_eq_getElem?_getD, List.getElem?_map, List.getElem?_range h]
  rfl
theorem f33 (T : Tx K mg) : FnD P w K mg base CX0 3 "raw_value" (OSp K R33) :=
  obj_fn T.d33 sc33 (fun bs ms rs ds d ⟨_, _, _, h, _⟩ => by rw [h]; rfl) fun f cdv A outer s H E u us Q c I bs ms rs ds d hr ok ht hd r k => by
    obtain ⟨gs, i, r, rfl, B, hm, hl, hp, hi, hrl, hrf, hms, htm, rfl⟩ := r
    obtain ⟨v1, rfl, h1⟩ := dds1 hd
    have two := B.two
    refine sb_set 2 ok (ed_call ((f29 T).mono (by decide)) hr (ad_cons (ed_bounds (ev_tb 0 rfl ht)) (ad_cons (ed_measures (ev_tb 0 rfl ht)) (ad_cons (ed_var 1 rfl h1) ad_nil))) ⟨_, _, _, rfl, B, hl, rfl⟩) sc33.nd fun v2 H1 l1 h2 => ?_
    have ht1 := ht.mono l1.ex
    refine sb_set 3 l1.ok (ed_lcx [("k", 4)] (lc_S 4 [("k", 4)] (T := fun _ => I) (n := bs.length) (ef := fun k => .int ((gs.getD k 0 - rc (bs.getD k 0) (ms.getD k 0) (gs.getD k 0)) / ms.getD k 0)) (it_range T.B (ED.is (ed_lenT T.B (ed_var 2 rfl h2)) (by rw [List.length_map, rcell_len])) (by omega)) (by omega) (fun i hi => fl_int _) sc33.nd fun X' bl i v Hb hi l dv => ?_) sc33.nd (ok := blkOk_by (N := ["table", "given", "cell", "times", "k", "form"]) (sc := defScope (topS 33)) (by decide +kernel))) sc33.nd ?_
    · obtain ⟨s', Hx, C, cl, fp, rfl⟩ := bl
      have m1 := (B.bm hi).2
      have m2 := hms _ (getD_memL (d := 0) (by rw [← B.len]; exact hi : i < ms.length))
      exact ed_div ⟨by omega, by omega⟩ (ed_sub (ed_ixT (ed_var 1 rfl (l.dd (l1.dd h1))) (ed_var 4 rfl dv) (TI_ix (by omega))) (ed_ixT (ed_var 2 rfl (l.dd h2)) (ed_var 4 rfl dv) (by rw [TI_ix (by rw [rcell_len]; exact hi), rcell_get hi]))) (ed_ixT (ed_measures (ev_tb 0 rfl (ht1.mono l.ex))) (ed_var 4 rfl dv) (TI_ix (by rw [← B.len]; exact hi)))
    · intro v3 H2 l2 h3
      have e3 : ((List.range bs.length).map fun k => PyData.int ((gs.getD k 0 - rc (bs.getD k 0) (ms.getD k 0) (gs.getD k 0)) / ms.getD k 0)) = (tmI bs ms gs).map .int := by
        unfold tmI
        rw [List.map_map]
        rfl
      have h3 : DD K c.pa H2 v3 (.list ((tmI bs ms gs).map .int)) := e3 ▸ h3
      have l12 := l1.trans l2
      have ht2 := ht.mono l12.ex
      refine sb_ret l2.ok (ed_tupleL T.B (ED.is (ed_lcx [("form", 5)] (lc_S 5 [("form", 5)] (T := fun _ => I) (n := r.length) (ef := fun k => .int (fvI (r.getD k (0, [])) (tmI bs ms gs))) (IT.len (it_tup (ED.is (d' := .tuple (r.map fD)) (ed_callO ((f31 T).mono (by decide)) hr (ev_tb 0 rfl ht2) (ad_cons (ed_var 2 rfl (l2.dd h2)) ad_nil) ⟨_, i, r, rfl, B, hm, (rcell_len _ _ _).symm, hp, hi, rfl⟩) rfl)) (List.length_map _)) (by omega) (fun i hi => fl_int _) sc33.nd fun X' bl j v Hb hj l dv => ?_) sc33.nd (ok := blkOk_by (N := ["table", "given", "cell", "times", "k", "form"]) (sc := defScope (topS 33)) (by decide +kernel))) (d' := .list ((r.map fun f => fvI f (tmI bs ms gs)).map .int)) ?_)) fun v H3 l3 hv => k v H3 (l12.trans l3) hv
      · obtain ⟨s', Hx, C, cl, fp, rfl⟩ := bl
        rw [getD_map (d := (0, [])) hj] at dv
        have hf := hrf _ (getD_memL (d := (0, [])) hj)
        exact ed_call ((f32 T).mono (by decide)) hr (ad_cons (ed_var 5 rfl dv) (ad_cons (ed_var 3 rfl (l.dd h3)) ad_nil)) ⟨_, _, rfl, by rw [hf, tmI_len], by omega, htm, rfl⟩
      · rw [List.map_map]
        exact congrArg PyData.list (range_map (0, []) (fun f => PyData.int (fvI f (tmI bs ms gs))) r)
end
end K93
set_option maxHeartbeats 4000000
/-! K93X: a table is made. -/
namespace K93
open PySem PySem.Spec PyProof.Rows L2
theorem cells_at {bs ms : List Int} : ∀ cc ∈ cells bs ms, cc.length = bs.length := cellsI_at bs ms bs.length
structure RowsOk (bs ms : List Int) (rs : List (List (Int × List Int))) : Prop where
  bm : BM bs ms
  most : mc bs ms ≤ 1000
  len : rs.length = (cells bs ms).length
  row : ∀ k, k < rs.length → RowOk bs ((cells bs ms).getD k []) (rs.getD k [])
  same : ∀ k, k < rs.length → (rs.getD k []).length = (rs.getD 0 []).length
/-- __init__ of a table's class, where the rows are right -/
def spMk (K : PySem.W.Frag) (V' : List Int → List Int → List (List (Int × List Int)) → Prop) : Sp := fun vs H Q _ => ∃ (c : Kx) (I : Ix c.pa) (a C dx : Addr) (vb vm vr : V) (bs ms : List Int) (rs : List (List (Int × List Int))), vs = [.ref a, vb, vm, vr] ∧ Ok c I H ∧ a ∉ c.pa ∧ H a = some (.ins C dx []) ∧
  DD K c.pa H vb (TI bs) ∧ DD K c.pa H vm (TI ms) ∧ DD K c.pa H vr (RD rs) ∧ V' bs ms rs ∧ ∃ fk fdk, Cls K C ∧ NoAttr K C "bounds" ∧ NoAttr K C "measures" ∧ NoAttr K C "rows" ∧ Meth K C "keep" fk ∧ Fun K "keep" "Table.keep" (methS 26 1) fk fdk ∧ Binds K fdk ["self", "bounds", "measures", "rows"] [] ∧
  ∀ H1, Le c I H H1 → H1 a = some (.ins C dx []) → Q .non (upd H1 a (.ins C dx [("bounds", vb), ("measures", vm), ("rows", vr)]))
def spKeep (K : PySem.W.Frag) : Sp := fun vs H Q _ => ∃ (a C dx : Addr) (vb vm vr : V), vs = [.ref a, vb, vm, vr] ∧ H a = some (.ins C dx []) ∧ Cls K C ∧ NoAttr K C "bounds" ∧ NoAttr K C "measures" ∧ NoAttr K C "rows" ∧
  Q .non (upd H a (.ins C dx [("bounds", vb), ("measures", vm), ("rows", vr)]))
section
variable {P : Program} {w : World} {K : PySem.W.Frag} {mg : Str → Option Value} {base : Heap}
theorem scK : FnScope ["self", "bounds", "measures", "rows"] ["self", "bounds", "measures", "rows"] (defScope (methS 26 1)) := ⟨rfl, rfl, rfl, by decide +kernel, rfl, by decide +kernel, by decide +kernel⟩
theorem fKeep {fk : Addr} {fdk : FuncData} (F : Fun K "keep" "Table.keep" (methS 26 1) fk fdk) : FnOk P w K mg base CX0 1 fk fdk ["self", "bounds", "measures", "rows"] (spKeep K) :=
  F.ok scK (fun vs H Q E ⟨_, _, _, _, _, _, h, _⟩ => by rw [h]; rfl) fun cdv A outer s H vs Q E hr h => ⟨_, pbS, by
    obtain ⟨a, C, dx, vb, vm, vr, rfl, h1, cl, n1, n2, n3, q⟩ := h
    refine sb_of (ps_fld (pe_var (i := 0) rfl (Or.inl rfl)) (pe_var (i := 1) rfl (Or.inl rfl)) rfl) ⟨_, rfl, _, rfl, a, C, dx, [], rfl, h1, cl, n1, (by show 0 < 1000; decide), ?_⟩
    refine sb_of (ps_fld (pe_var (i := 0) rfl (Or.inl rfl)) (pe_var (i := 2) rfl (Or.inl rfl)) rfl) ⟨_, rfl, _, rfl, a, C, dx, _, rfl, upd_same, cl, n2, (by show 1 < 1000; decide), ?_⟩
    refine sb_of (ps_fld (pe_var (i := 0) rfl (Or.inl rfl)) (pe_var (i := 3) rfl (Or.inl rfl)) rfl) ⟨_, rfl, _, rfl, a, C, dx, _, rfl, upd_same, cl, n3, (by show 2 < 1000; decide), ?_⟩
    refine sb_nil ?_
    rw [upd_upd, upd_upd]
    exact q⟩
theorem ps_keep {X : Cx} {c : Kx} {I : Ix c.pa} {σ : St} {H : Hp} {D : Ends} {rest : List Stmt} {a C dx fk : Addr} {fdk : FuncData} {vb vm vr : V} {p0 p1 p2 p3 apos pos spos : Pos} {k : Nat} (hr : Room (k + 1) X.A)
    (F : FnOk X.prog X.w X.K X.mg X.base CX0 1 fk fdk ["self", "bounds", "measures", "rows"] (spKeep X.K)) (b : Binds X.K fdk ["self", "bounds", "measures", "rows"] []) (cl : Cls X.K C) (n1 : NoAttr X.K C "bounds") (n2 : NoAttr X.K C "measures") (n3 : NoAttr X.K C "rows") (M : Meth X.K C "keep" fk)
    (ok : H a = some (.ins C dx [])) (s0 : σ[0]? = some (some (.ref a))) (s1 : σ[1]? = some (some vb)) (s2 : σ[2]? = some (some vm)) (s3 : σ[3]? = some (some vr))
    (k : SB X D rest σ (upd H a (.ins C dx [("bounds", vb), ("measures", vm), ("rows", vr)])))
    (N0 : X.N[0]? = some ("self" : Str) := by rfl) (N1 : X.N[1]? = some ("bounds" : Str) := by rfl) (N2 : X.N[2]? = some ("measures" : Str) := by rfl) (N3 : X.N[3]? = some ("rows" : Str) := by rfl) (w0 : Vis X.env.scope "self" := by exact Or.inl rfl) (w1 : Vis X.env.scope "bounds" := by exact Or.inl rfl) (w2 : Vis X.env.scope "measures" := by exact Or.inl rfl) (w3 : Vis X.env.scope "rows" := by exact Or.inl rfl)
    (ht : ∃ pl : Sem Bool, eval (.Call (.Attribute (.Name "self" p0) "keep" apos) [.Name "bounds" p1, .Name "measures" p2, .Name "rows" p3] [] pos) X.env = (do
      let ov ← eval (.Name "self" p0) X.env
      standAt apos.atName
      let (f, first) ← holding [ov] (getMethod ov "keep" pl)
      callWith pos f first (backTo pos (starEach [.Name "bounds" p1, .Name "measures" p2, .Name "rows" p3] X.env)) (backToKw pos (keywordEach [] X.env))) := by exact ⟨_, rfl⟩)
    (hs : swapsWith (.Call (.Attribute (.Name "self" p0) "keep" apos) [.Name "bounds" p1, .Name "measures" p2, .Name "rows" p3] [] pos) none spos.line X.env = pure false := by rfl)
    (h1 : starEach [.Name "bounds" p1, .Name "measures" p2, .Name "rows" p3] X.env = (false, eval (.Name "bounds" p1) X.env) :: starEach [.Name "measures" p2, .Name "rows" p3] X.env := by rfl)
    (h2 : starEach [.Name "measures" p2, .Name "rows" p3] X.env = (false, eval (.Name "measures" p2) X.env) :: starEach [.Name "rows" p3] X.env := by rfl) (h3 : starEach [.Name "rows" p3] X.env = (false, eval (.Name "rows" p3) X.env) :: starEach [] X.env := by rfl)
    (hpl : (backTo pos (starEach [.Name "measures" p2, .Name "rows" p3] X.env)).any (·.1) = false := by rfl) :
    SB X D (.Expr (.Call (.Attribute (.Name "self" p0) "keep" apos) [.Name "bounds" p1, .Name "measures" p2, .Name "rows" p3] [] pos) spos :: rest) σ H := by
  obtain ⟨pl, ht⟩ := ht
  refine sb_of (ps_expr (pe_meth (pl := pl) (E := E0) (pe_var (i := 0) N0 w0) cl M F (hr.mono (by omega)) b .nil pass0 (pa_cons (pe_var (i := 1) N1 w1) (pa_cons (pe_var (i := 2) N2 w2) (pa_cons (pe_var (i := 3) N3 w3) pa_nil h3) h2) h1) h1 hpl ht) hs) ?_
  exact ⟨_, s0, a, dx, _, rfl, ok, rfl, _, s1, _, s2, _, s3, a, C, dx, vb, vm, vr, rfl, ok, cl, n1, n2, n3, k⟩
theorem scR : FnScope ["self", "bounds", "measures", "rows"] ["self", "bounds", "measures", "rows"] (defScope (methS 27 0)) := ⟨rfl, rfl, rfl, by decide +kernel, rfl, by decide +kernel, by decide +kernel⟩
theorem fRaw {fi : Addr} {fdi : FuncData} (F : Fun K "__init__" "RawTable.__init__" (methS 27 0) fi fdi) : FnOk P w K mg base CX0 2 fi fdi ["self", "bounds", "measures", "rows"] (spMk K fun _ _ _ => True) :=
  F.ok scR (fun vs H Q E ⟨_, _, _, _, _, _, _, _, _, _, _, h, _⟩ => by rw [h]; rfl) fun cdv A outer s H vs Q E hr h => ⟨_, pbS, by
    obtain ⟨c, I, a, C, dx, vb, vm, vr, bs, ms, rs, rfl, ok, na, h1, h2, h3, h4, _, fk, fdk, cl, n1, n2, n3, M, Fk, Bk, q⟩ := h
    exact ps_keep (c := c) (I := I) hr (fKeep Fk) Bk cl n1 n2 n3 M h1 rfl rfl rfl rfl (sb_nil (q H (.refl ok) h1))⟩

theorem scI : FnScope ["self", "bounds", "measures", "rows", "cells", "k", "row"] ["self", "bounds", "measures", "rows"] (defScope (methS 26 0)) := ⟨rfl, rfl, rfl, by decide +kernel, rfl, by decide +kernel, by decide +kernel⟩
theorem fTab (T : Tx K mg) {fi : Addr} {fdi : FuncData} (F : Fun K "__init__" "Table.__init__" (methS 26 0) fi fdi) : FnOk P w K mg base CX0 7 fi fdi ["self", "bounds", "measures", "rows"] (spMk K RowsOk) :=
  F.ok scI (fun vs H Q E ⟨_, _, _, _, _, _, _, _, _, _, _, h, _⟩ => by rw [h]; rfl) fun cdv A outer s H vs Q E hr h => ⟨_, pbS, by
    obtain ⟨c, I, a, C, dx, vb, vm, vr, bs, ms, rs, rfl, ok, na, h1, h2, h3, h4, V', fk, fdk, cl, n1, n2, n3, M, Fk, Bk, q⟩ := h
    obtain ⟨tc, hc⟩ := T.mc
    have B := V'.bm
    have two := B.two
    have most := V'.most
    have lc := cellsI_len B bs.length (Nat.le_refl _)
    have lc2 : ((cells bs ms).length : Int) = mc bs ms := lc
    have rl := V'.len
    refine sb_when (q := false) ok (TV.is (tv_not (tv_val (ed_call ((f19 T).mono (by decide)) hr (ad_cons (ed_var 1 rfl h2) ad_nil) ⟨_, rfl, okI_TI (by omega), rfl⟩))) ?_) (fun z => nomatch z) fun _ H1 l1 => ?_
    · rw [areBounds_of two B.b0]; rfl
    refine sb_when (q := false) l1.ok (TV.is (tv_not (tv_val (ed_call ((f20 T).mono (by decide)) hr (ad_cons (ed_var 2 rfl (l1.dd h3)) (ad_cons (ed_lenT T.B (ed_var 1 rfl (l1.dd h2))) ad_nil)) ⟨_, _, rfl, okI_TI (by rw [← B.len]; omega), rfl⟩))) ?_) (fun z => nomatch z) fun _ H2 l2 => ?_
    · rw [areMeas_of (by rw [List.length_map, B.len]) B.m1]; rfl
    have l12 := l1.trans l2
    refine sb_when (q := false) l2.ok (TV.is (tv_gt (ed_call ((f21 T).mono (by decide)) hr (ad_cons (ed_var 1 rfl (l12.dd h2)) (ad_cons (ed_var 2 rfl (l12.dd h3)) ad_nil)) ⟨_, _, rfl, B, by omega, rfl⟩) (ed_glob rfl hc)) (decide_eq_false (by omega))) (fun z => nomatch z) fun _ H3 l3 => ?_
    have l123 := l12.trans l3
    refine sb_set 4 l3.ok (ed_call ((f22 T).mono (by decide)) hr (ad_cons (ed_var 1 rfl (l123.dd h2)) (ad_cons (ed_var 2 rfl (l123.dd h3)) ad_nil)) ⟨_, _, rfl, B, by omega, rfl⟩) scI.nd fun v4 H4 l4 d4 => ?_
    have l14 := l123.trans l4
    refine sb_when (q := false) l4.ok (TV.is (tv_or (j := false) (k := false) (TV.is (tv_not (tv_val (ed_isTup T.B (ed_var 3 rfl (l14.dd h4))))) rfl) (fun _ => TV.is (tv_neI (ed_lenT T.B (ed_var 3 rfl (l14.dd h4))) (ed_lenL T.B (ed_var 4 rfl d4))) ?_)) rfl) (fun z => nomatch z) fun _ H5 l5 => ?_
    · rw [List.length_map, List.length_map, rl, decide_eq_true rfl]; rfl
    have l15 := l14.trans l5
    refine sb_for2 5 6 l5.ok (IT.len (it_enumT T.B (ed_var 3 rfl (l15.dd h4))) (List.length_map _)) scI.nd never fun H6 l6 => ?_
    refine ⟨fun _ => I, fun i σ' H' => ∃ w5 w6, σ' = [some (.ref a), some vb, some vm, some vr, some v4, w5, w6] ∧ Le c I H6 H', ⟨none, none, rfl, .refl l6.ok⟩, ?_, ?_, ?_⟩
    · rintro i σ' H' _ ⟨w5, w6, rfl, lH⟩
      exact ⟨lH.ex, lH.ok⟩
    · rintro i u u1 σ' H' H'' hi ⟨w5, w6, rfl, lH⟩ l7 e1 e2
      have lA := ((l15.trans l6).trans lH).trans l7
      have d4' := (((l5.trans l6).trans lH).trans l7).dd d4
      rw [getD_map (d := []) hi] at e2
      have ro := V'.row i hi
      have sm := V'.same i hi
      refine sb_when (q := false) l7.ok (TV.is (tv_or (j := false) (k := false) (TV.is (tv_not (tv_val (ed_call ((f25 T).mono (by decide)) hr (ad_cons (ed_var 6 rfl e2) (ad_cons (ed_var 1 rfl (lA.dd h2)) (ad_cons (ed_ixL (i := i) (d := TI ((cells bs ms).getD i [])) (ed_var 4 rfl d4') (ed_var 5 rfl e1) ?_) ad_nil))) ⟨_, _, _, rfl, ro, ?_, ?_, rfl⟩))) rfl) (fun _ => TV.is (tv_neI (ed_lenT T.B (ed_var 6 rfl e2)) (ed_lenT T.B (ed_ixT (i := 0) (d := rD (rs.getD 0 [])) (ed_var 3 rfl (lA.dd h4)) ed_int ?_))) ?_)) rfl) (fun z => nomatch z) fun _ H8 l8 => ?_
      · rw [List.getElem?_map, List.getD_eq_getElem?_getD, List.getElem?_eq_getElem (by omega : i < (cells bs ms).length)]
        rfl
      · exact (cellsI_at bs ms bs.length _ (getD_memL (by omega : i < (cells bs ms).length))).symm
      · have := cells_at _ (getD_memL (d := []) (by omega : i < (cells bs ms).length))
        omega
      · rw [List.getElem?_map, List.getD_eq_getElem?_getD, List.getElem?_eq_getElem (by omega : 0 < rs.length)]
        rfl
      · rw [List.length_map, List.length_map, sm, decide_eq_true rfl]; rfl
      exact sb_nil ⟨_, _, rfl, (lH.trans l7).trans l8⟩
    · rintro σ' H' ⟨w5, w6, rfl, lH⟩
      have lA := (l15.trans l6).trans lH
      have h1' := lA.at h1 (fun _ z => nomatch z) na
      exact ps_keep (c := c) (I := I) hr (fKeep Fk) Bk cl n1 n2 n3 M h1' rfl rfl rfl rfl (sb_nil (q H' lA h1'))⟩
end
/-- C(bounds, measures, rows) -/
theorem ev_mk {X : Cx} {c : Kx} {I J : Ix c.pa} {σ : St} {H : Hp} {e : Expr} {es : List Expr} {x : Str} {p pos : Pos} {C fi fk : Addr} {fdi fdk : FuncData} {k : Nat} {V' : List Int → List Int → List (List (Int × List Int)) → Prop} {bs ms : List Int} {rs : List (List (Int × List Int))}
    (Ct : ClsT X.K X.mg x C fi fk) (Fi : FnOk X.prog X.w X.K X.mg X.base CX0 k fi fdi ["self", "bounds", "measures", "rows"] (spMk X.K V')) (Bi : Binds X.K fdi ["self", "bounds", "measures", "rows"] []) (Fk : Fun X.K "keep" "Table.keep" (methS 26 1) fk fdk) (Bk : Binds X.K fdk ["self", "bounds", "measures", "rows"] [])
    (hr : Room (k + 1) X.A) (ha : AD X c I J (e :: es) σ H [TI bs, TI ms, RD rs]) (hv : V' bs ms rs) (hg : Gl X x := by rfl) (hdb : (x == ("__debug__" : Str)) = false := by decide) (he : starEach (e :: es) X.env = (false, eval e X.env) :: starEach es X.env := by rfl) (hpl : (backTo pos (starEach es X.env)).any (·.1) = false := by rfl) :
    EV X c I J (.Call (.Name x p) (e :: es) [] pos) σ H fun v H' => TbO X.K c.pa H' v bs ms rs :=
  EV.of (pe_make (E := E0) Ct.mkr Fi hr hg Ct.at_ Bi .nil pass0 paS hdb he hpl) fun H1 l Q q => ha H1 l _ fun vs H2 l2 w a dx ha hdx ne => by
    obtain ⟨vb, vm, vr, rfl, h1, h2, h3⟩ := dds3 w
    have ha' : upd H2 dx (.own a) a = none := by rw [upd_ne (Ne.symm ne)]; exact ha
    have L3 : Le c J H2 (upd (upd H2 dx (.own a)) a (.ins C dx [])) := .new (.new (.refl l2.ok) hdx) ha'
    have na : a ∉ c.pa := l2.ok.npa ha
    refine ⟨c, J, a, C, dx, vb, vm, vr, bs, ms, rs, rfl, L3.ok, na, upd_same, L3.dd h1, L3.dd h2, L3.dd h3, hv, fk, fdk, Ct.cl, Ct.nb, Ct.nm, Ct.nr, Ct.kp, Fk, Bk, fun H4 l4 h4 => ⟨rfl, ?_⟩⟩
    have l34 := L3.trans l4
    have l5 : Le c J H2 (upd H4 a (.ins C dx [("bounds", vb), ("measures", vm), ("rows", vr)])) := .mut l34 ha h4 rfl na
    exact q _ _ (l2.trans l5) ⟨a, C, dx, vb, vm, vr, rfl, na, upd_same, Ct.cl, Ct.nb, Ct.nm, Ct.nr, Ct.ins, l5.dd h1, l5.dd h2, l5.dd h3⟩
end K93
set_option maxHeartbeats 4000000
/-! K93O: sorted of a list, or a dict, of tuples of ints, each as long. -/
namespace K93
open PySem PySem.Spec PySem.Calls PyProof.Rows PySem.W L2
def leI (p q : List Int) : Bool := decide (p ≤ q)
def srt (ks : List (List Int)) : List (List Int) := ks.mergeSort leI
theorem dataLe_TI : dataLe false TI = leI := by
  funext p q
  show (!dataLt (.tuple (q.map .int)) (.tuple (p.map .int))) = _
  rw [dataLt_tuple]
  show (!rowLt (q.map .int) (p.map .int)) = _
  rw [dataLt_ints]
  unfold leI
  by_cases h : q < p
  · have h' : ¬ p ≤ q := fun r => List.not_lt.mpr r h
    simp [h, h']
  · have h' : p ≤ q := List.not_lt.mp h
    simp [h, h']
theorem leI_refl (a : List Int) : leI a a = true := decide_eq_true (List.le_refl a)
section
variable {prog : Program} {w : World} {A : Around} {E : Value → Shared → Prop} {s : Shared}
theorem alike_TI (ks : List (List Int)) : AllAlike (ks.map TI) := AllAlike.of fun b b' => by
  show alikeAll (b.map .int) (b'.map .int) = true
  exact alike_ints b b'
theorem depth_TI (k : List Int) : (TI k).depth ≤ 1 := by
  show PyData.depth (.tuple (k.map .int)) ≤ 1
  rw [PyData.depth, depth_ints]
  exact Nat.le_refl _
/-- one key that may be the empty tuple -/
theorem sortsAt_one {vs : List Value} (e : EachIs (fun v d => ∃ as, Reads s.heap v d as) vs [PyData.tuple []]) (hu : A.units + 1 < cLine) : SortsAt prog w A s (dataKind s.heap [PyData.tuple []]) vs := by
  have hal : AllAlike [PyData.tuple []] := alike_TI [[]]
  refine ⟨fun v hv => ?_, tuples' false, ?_, fun h2 => absurd h2 (by rw [e.length]; decide)⟩
  · obtain ⟨d, hd, as, r⟩ := e.left v hv
    exact ⟨_, dataKind_some hal hd r⟩
  · intro E x y a b Q ha hb hq
    obtain ⟨d, as, hd, ra, rfl⟩ := dataKind_inv ha
    obtain ⟨d', as', hd', rb, rfl⟩ := dataKind_inv hb
    have e1 := List.mem_singleton.mp hd
    have e2 := List.mem_singleton.mp hd'
    subst e1 e2
    have hq' : Q (dataLt (.tuple []) (.tuple [])) s := hq
    rw [dataLt_tuple] at hq'
    cases ra with
    | @tuple l o xs n _ _ h1 h2 h3 h4 =>
      cases rb with
      | @tuple l' o' xs' n' _ _ k1 k2 k3 k4 =>
        have n1 : xs.size = 0 := by simpa using SeqAt.ReadsAll.length _ _ _ h4
        have n2 : xs'.size = 0 := by simpa using SeqAt.ReadsAll.length _ _ _ k4
        exact kat_lt h1 h3 k1 k3 (katLex_alike (fin := decide (xs.size < xs'.size)) [] [] 0 _ _ _ _ h4 k4 (by simp [alikeAll]) (by simp only [PyData.depthAll]; show A.units + min 0 0 < cLine; omega) (fun _ _ x r t ex => nomatch ex) (by rw [n1, n2]; rfl) hq')
theorem sortsAt_TI {vs : List Value} {ks : List (List Int)} {n : Nat} (e : EachIs (fun v k => ∃ as, Reads s.heap v (TI k) as) vs ks) (hn : ∀ k ∈ ks, k.length = n) (h1 : n = 0 → ks.length ≤ 1) (hu : A.units + 1 < cLine) : SortsAt prog w A s (dataKind s.heap (ks.map TI)) vs := by
  have e' : EachIs (fun v d => ∃ as, Reads s.heap v d as) vs (ks.map TI) := each_map (R := fun v d => ∃ as, Reads s.heap v d as) TI e
  by_cases hz : n = 0
  · cases ks with
    | nil =>
      exact .data e' (alike_TI _) (.inl fun d hd => nomatch hd) fun d hd => nomatch hd
    | cons k ks =>
      have := h1 hz
      cases ks with
      | cons _ _ => simp at this
      | nil =>
        have ek : k = [] := List.length_eq_zero_iff.mp ((hn k (List.mem_cons_self ..)).trans hz)
        subst ek
        exact sortsAt_one e' hu
  · refine .data e' (alike_TI _) (.inl fun d hd => ?_) fun d hd => ?_
    · obtain ⟨k, hk, rfl⟩ := List.mem_map.mp hd
      cases k with
      | nil => exact absurd (hn _ hk).symm (by simpa using hz)
      | cons x r => exact ⟨_, _, rfl⟩
    · obtain ⟨k, hk, rfl⟩ := List.mem_map.mp hd
      have := depth_TI k
      omega
/-- sorted(r), where the values of r are vs -/
theorem sorted_by {r : Addr} {vs : List Value} {ks : List (List Int)} {n : Nat} {R : Value → List Int → Prop} {Q : Value → Shared → Prop}
    (hcol : ∀ (R' : List Value → Shared → Prop) (E' : Value → Shared → Prop), (∀ h' tk, (∀ b o, s.heap.get? b = some o → h'.get? b = some o) → R' vs { s with heap := h', toks := tk }) → wpAny (model prog w) A.in1 (collect (.ref r)) R' E' s)
    (e : EachIs R vs ks) (er : EachIs (fun v k => ∃ as, Reads s.heap v (TI k) as) vs ks) (hn : ∀ k ∈ ks, k.length = n) (h1 : n = 0 → ks.length ≤ 1) (hL : ks.length ≤ sizeLine) (hu : A.units + 64 < cLine)
    (h : ∀ h' tk p out c, (∀ b o, s.heap.get? b = some o → h'.get? b = some o) → s.heap.get? p = none → h'.get? p = some { cls := .type "list", data := .seq (List.toArray out) c } → EachIs R out (srt ks) → Q (.ref p) { s with heap := h', toks := tk }) :
    wpAny (model prog w) A (call (.builtin "sorted") [.ref r]) Q E s := by
  refine call_function_entry kind_sorted plain_sorted entry_sorted (args_sorted1 _) ?_
  unfold Builtin.«sorted»
  refine wpAny_bind (m := checkCount "sorted" 1 1 _) (wpAny_pure ?_)
  refine wpAny_bind (hcol _ _ fun h' tk hk => ?_)
  refine wpAny_bind (wpAny_newList ?_ (by rw [e.length]; exact hL))
  have hob : (h'.push { cls := .type "list", data := .seq vs.toArray }).get? h'.objs.size = some (seqObj "list" vs.toArray 0) := Heap.get?_push_size _ rfl
  have kb : ∀ b o, s.heap.get? b = some o → (h'.push { cls := .type "list", data := .seq vs.toArray }).get? b = some o := fun b o e => Heap.get?_push_of_some _ (hk b o e)
  have ne0 : ∀ b o, s.heap.get? b = some o → b ≠ h'.objs.size := fun b o e => Nat.ne_of_lt (Heap.lt_size (hk b o e))
  have hz : s.heap.get? h'.objs.size = none := by
    cases e : s.heap.get? h'.objs.size with
    | none => rfl
    | some o => exact absurd rfl (ne0 _ o e)
  generalize h'.push { cls := .type "list", data := .seq vs.toArray } = h2 at hob kb ⊢
  have er2 : EachIs (fun v k => ∃ as, Reads (sortingHeap h2 h'.objs.size vs) v (TI k) as) vs ks := er.mono fun _ _ ⟨as, r⟩ => ⟨as, PyProof.Rows.Reads.keeps (fun b o q => sortingHeap_old (ne0 b o q) (kb b o q)) r⟩
  refine wpAny_bind (wpAny_holding (wpAny_call_entry slot_list_sort ⟨_, hob, rfl⟩ entry_list_sort (list_sort_vals (κ := dataKind (sortingHeap h2 h'.objs.size vs) (ks.map TI)) hob (sortsAt_TI (s := { s with heap := sortingHeap h2 h'.objs.size vs, toks := tk }) er2 hn h1 (by show A.units + 1 + 1 + 1 < cLine; omega)) (by rw [e.length]; exact hL) ⟨.none, rfl, ?_⟩) (args_list_sort _)))
  have eo := sortVals_data false e er2 (alike_TI ks)
  rw [dataLe_TI] at eo
  generalize sortVals (dataKind (sortingHeap h2 h'.objs.size vs) (ks.map TI)) false vs vs = out at eo ⊢
  obtain ⟨c, hc⟩ := sortedHeap_at (out := out.toArray) hob
  refine wpAny_pure ⟨_, rfl, h _ tk _ out c (fun b o q => ?_) hz hc eo⟩
  rw [sortedHeap_old (ne0 b o q) (Heap.lt_size (kb b o q))]
  exact kb b o q
end
/-! ### over the abstract heap -/
/-- x is the tuple of the ints k -/
def TIv (H : Hp) (x : V) (k : List Int) : Prop := ∃ t, x = .ref t ∧ H t = some (.tup (k.map V.int))
theorem tiv_back {K : PySem.W.Frag} {pa : List Addr} {H : Hp} : ∀ {xs : List V} {ks : List (List Int)}, DDs K pa H xs (ks.map TI) → EachIs (TIv H) xs ks
  | _, [], h => by
    have h : DDs K pa H _ [] := h
    cases h
    exact .nil
  | _, k :: ks, h => by
    have h : DDs K pa H _ (TI k :: ks.map TI) := h
    cases h with
    | cons h1 h2 =>
      obtain ⟨a, rfl, e, _⟩ := h1.TIof
      exact .cons ⟨a, rfl, e⟩ (tiv_back h2)
theorem dds_TIv {c : Kx} {I : Ix c.pa} {K : PySem.W.Frag} {H : Hp} (ok : Ok c I H) : ∀ {xs : List V} {ks : List (List Int)}, EachIs (TIv H) xs ks → DDs K c.pa H xs (ks.map TI)
  | _, _, .nil => .nil
  | _, _, .cons ⟨t, h1, h2⟩ r => by
    subst h1
    exact .cons (.tup h2 (ok.ntup h2) (DDs.ofInts _)) (dds_TIv ok r)
theorem reads_TIv {X : Cx} {pins : List (Addr × Obj)} {σ : St} {H : Hp} {s : Shared} (I : Inv X pins σ H s) {t : Addr} {k : List Int} (h : H t = some (.tup (k.map V.int))) : ∃ as, Reads s.heap (.ref t) (TI k) as :=
  (DD.dp (K := X.K) (pa := []) (H := H) (TI k) (.ref t) (by unfold TI pl; exact (by clear h; induction k with | nil => rfl | cons x k ih => exact ih)) (.tup h (fun z => nomatch z) (DDs.ofInts _))).reads I _ _ _ rfl
theorem each_refs {H : Hp} : ∀ {xs : List V} {us : List Value} {ks : List (List Int)}, EachIs (TIv H) xs ks → Vals xs us → EachIs (fun u k => ∃ t, u = Value.ref t ∧ H t = some (.tup (k.map V.int))) us ks
  | _, _, _, .nil, .nil => .nil
  | _, _, _, .cons ⟨t, h1, h2⟩ r, .cons r1 r2 => by
    subst h1
    exact .cons ⟨t, r1, h2⟩ (each_refs r r2)
theorem refs_each {H : Hp} : ∀ {us : List Value} {ks : List (List Int)}, EachIs (fun u k => ∃ t, u = Value.ref t ∧ H t = some (.tup (k.map V.int))) us ks → ∃ xs, Vals xs us ∧ EachIs (TIv H) xs ks
  | _, _, .nil => ⟨[], .nil, .nil⟩
  | _, _, .cons ⟨t, h1, h2⟩ r => by
    subst h1
    obtain ⟨xs, a, b⟩ := refs_each r
    exact ⟨V.ref t :: xs, .cons rfl a, .cons ⟨t, rfl, h2⟩ b⟩
theorem srt_len (ks : List (List Int)) : (srt ks).length = ks.length := List.length_mergeSort ks
section
variable {X : Cx}
def rSortL : List V → Hp → VK → Prop := fun vs H Q => ∃ (a : Addr) (xs : List V) (ks : List (List Int)) (n : Nat), vs = [.ref a] ∧ H a = some (.lst xs) ∧ EachIs (TIv H) xs ks ∧ (∀ k ∈ ks, k.length = n) ∧ (n = 0 → ks.length ≤ 1) ∧
  ∀ p ys, H p = none → EachIs (TIv H) ys (srt ks) → Q (.ref p) (upd H p (.lst ys))
theorem sorted_fin {pins : List (Addr × Obj)} {σ : St} {H : Hp} {s : Shared} {Q : VK} {ks : List (List Int)} (I : Inv X pins σ H s) (hz : ks.length ≤ sizeLine) (q : ∀ p ys, H p = none → EachIs (TIv H) ys (srt ks) → Q (.ref p) (upd H p (.lst ys)))
    (h' : Heap) (tk : Nat) (p : Addr) (out : List Value) (c : Nat) (kp : ∀ b o, s.heap.get? b = some o → h'.get? b = some o) (hp : s.heap.get? p = none) (hg : h'.get? p = some { cls := .type "list", data := .seq (List.toArray out) c }) (eo : EachIs (fun u k => ∃ t, u = Value.ref t ∧ H t = some (.tup (k.map V.int))) out (srt ks)) :
    EP X pins σ Q (.ref p) { s with heap := h', toks := tk } := by
  obtain ⟨ys, hv, he⟩ := refs_each eo
  have hl : ys.length = ks.length := he.length.trans (srt_len ks)
  exact ⟨.ref p, _, I.laidN (t' := tk) (o := .lst ys) kp hp (I.hok.gone hp) ⟨by rw [hl]; exact hz, out, c, hv, hg⟩, rfl, q p ys (I.hok.gone hp) he⟩
theorem cr_sortL (hc : X.calm = true) (hu : X.A.units + 64 < cLine) : CallR X (.builtin "sorted") rSortL := by
  intro pins s σ H vs us Q I r h
  obtain ⟨a, xs, ks, n, rfl, ha, he, hn, h1, q⟩ := h
  obtain rfl := Vals.ref1 r
  obtain ⟨hz, its, c, rv, hl⟩ := (show ObjOk X.prog X.w H s.heap a (.lst xs) from I.hok a _ ha)
  have hzk : ks.length ≤ sizeLine := by rw [← he.length]; exact hz
  have eu := each_refs he rv
  refine sorted_by (vs := its) (ks := ks) (n := n) (R := fun u k => ∃ t, u = Value.ref t ∧ H t = some (.tup (k.map V.int))) (fun R' E' hR => collect_list (l := a) (vs := its) ⟨_, hl, rfl, c, rfl⟩ (hR _ s.toks fun b o e => ?_) (by rw [← rv.length]; exact hz)) eu (eu.mono fun u k ⟨t, e1, e2⟩ => e1 ▸ reads_TIv I e2) hn h1 hzk hu fun h' tk p out c' kp hp hg eo => sorted_fin I hzk q h' tk p out c' kp hp hg eo
  rw [Heap.get?_update_ne _ _ _ _ (Nat.ne_of_lt (Heap.lt_size e))]
  exact Heap.get?_push_of_some _ e
/-- a dict's keys, tuples of ints -/
def rSortD : List V → Hp → VK → Prop := fun vs H Q => ∃ (a : Addr) (kvs : List (List Int × V)) (n : Nat), vs = [.ref a] ∧ H a = some (.dT (kvs.map fun p => (p.1.map Sum.inl, p.2))) ∧ (∀ k ∈ kvs, k.1.length = n) ∧ (n = 0 → kvs.length ≤ 1) ∧
  ∀ p ys, H p = none → EachIs (TIv H) ys (srt (kvs.map (·.1))) → Q (.ref p) (upd H p (.lst ys))

/-- the keys of a dict, each the tuple that it was put with -/
theorem keys_each {H : Hp} : ∀ {kvs : List (List Int × V)} {xs : List (List Key × Addr × Value)}, KT H (kvs.map fun p => (p.1.map Sum.inl, p.2)) xs → EachIs (fun u k => ∃ t, u = Value.ref t ∧ H t = some (.tup (k.map V.int))) (xs.map fun x => Value.ref x.2.1) (kvs.map (·.1))
  | [], _, h => by
    have h : KT H [] _ := h
    cases h
    exact .nil
  | p :: kvs, _, h => by
    have h : KT H ((p.1.map Sum.inl, p.2) :: kvs.map fun p => (p.1.map Sum.inl, p.2)) _ := h
    cases h with
    | cons h1 h2 =>
      refine .cons ⟨_, rfl, ?_⟩ (keys_each h2)
      have e := h1.2.1
      rw [List.map_map] at e
      exact e
theorem cr_sortD (hc : X.calm = true) (hu : X.A.units + 64 < cLine) : CallR X (.builtin "sorted") rSortD := by
  intro pins s σ H vs us Q I r h
  obtain ⟨a, kvs, n, rfl, ha, hn, h1, q⟩ := h
  obtain rfl := Vals.ref1 r
  obtain ⟨z, hs, ks, pr, o, es, ep, ho, hx, hdt, he, hnd⟩ := (show ObjOk X.prog X.w H s.heap a (.dT (kvs.map fun p => (p.1.map Sum.inl, p.2))) from I.hok a _ ha)
  have l1 : es.size = ks.length := size_of_entries he
  have l2 : (kvs.map fun p => (p.1.map Sum.inl, p.2)).length = ks.length := Paired.length pr
  have eu := keys_each pr
  have hzk : (kvs.map (·.1)).length ≤ sizeLine := by rw [List.length_map] at z ⊢; exact z
  refine sorted_by (vs := ks.map fun x => Value.ref x.2.1) (ks := kvs.map (·.1)) (n := n) (R := fun u k => ∃ t, u = Value.ref t ∧ H t = some (.tup (k.map V.int))) (fun R' E' hR => kdu_collect (A := X.A.in1) (kdl_raw hs hx hdt) (I.ok.hd hc) ho (by omega) fun h' tk acc kp it => ?_) eu (eu.mono fun u k ⟨t, e1, e2⟩ => e1 ▸ reads_TIv I e2) (fun k hk => ?_) (fun e0 => by rw [List.length_map]; exact h1 e0) hzk hu fun h' tk p out c' kp hp hg eo => sorted_fin I hzk q h' tk p out c' kp hp hg eo
  · have ea : acc.toList = ks.map fun x => Value.ref x.2.1 := by
      have hl : acc.toList.length = ks.length := by rw [Array.length_toList, it.1]; exact l1
      apply List.ext_getElem?
      intro j
      rw [List.getElem?_map]
      cases hj : acc.toList[j]? with
      | none =>
        rw [List.getElem?_eq_none (by have := List.getElem?_eq_none_iff.mp hj; omega)]
        rfl
      | some v =>
        obtain ⟨en, hen, hv⟩ := it.2 j v (by rw [← Array.getElem?_toList]; exact hj)
        have qe := entry_at he j
        rw [hen] at qe
        cases hb : ks[j]? with
        | none =>
          rw [hb] at qe
          exact nomatch (show some en = none from qe)
        | some b =>
          rw [hb] at qe
          have e2 : en = entryOfKey (tupleKind (mixKind X.prog X.w)) b := Option.some.inj qe
          rw [hv, e2]
          rfl
    rw [ea]
    exact hR h' tk kp
  · obtain ⟨p, hp, rfl⟩ := List.mem_map.mp hk
    exact hn p hp
end
end K93
set_option maxHeartbeats 4000000
/-! K93P: dicts whose keys are tuples of ints. -/
namespace K93
open PySem PySem.Spec PyProof.Rows PySem.W L2
section
variable {α β : Type}
def lkA (m : List (List Int × α)) (k : List Int) : Option α := (m.find? fun p => decide (p.1 = k)).map (·.2)
def ptA (m : List (List Int × α)) (k : List Int) (v : α) : List (List Int × α) :=
  if (m.any fun p => decide (p.1 = k)) = true then m.map (fun p => if p.1 = k then (p.1, v) else p) else m ++ [(k, v)]
def enT (kvs : List (List Int × V)) : List (List Key × V) := kvs.map fun p => (p.1.map Sum.inl, p.2)
theorem inl_inj : ∀ {a b : List Int}, (a.map Sum.inl : List Key) = b.map Sum.inl → a = b
  | [], [], _ => rfl
  | [], _ :: _, h => nomatch h
  | _ :: _, [], h => nomatch h
  | x :: a, y :: b, h => by
    rw [List.map_cons, List.map_cons] at h
    injection h with h1 h2
    injection h1 with h1
    rw [h1, inl_inj h2]
theorem inl_dec (a b : List Int) : decide ((a.map Sum.inl : List Key) = b.map Sum.inl) = decide (a = b) := by
  by_cases h : a = b
  · rw [h, decide_eq_true rfl, decide_eq_true rfl]
  · rw [decide_eq_false h, decide_eq_false fun z => h (inl_inj z)]
theorem valV_enT (k : List Int) : ∀ kvs : List (List Int × V), valV (enT kvs) (k.map Sum.inl) = lkA kvs k
  | [] => rfl
  | p :: kvs => by
    by_cases e : p.1 = k
    · show valV ((p.1.map Sum.inl, p.2) :: enT kvs) _ = _
      rw [valV_pos (by rw [e])]
      simp [lkA, List.find?_cons, e]
    · show valV ((p.1.map Sum.inl, p.2) :: enT kvs) _ = _
      rw [valV_neg (fun z => e (inl_inj z)), valV_enT k kvs]
      simp [lkA, List.find?_cons, e]
theorem putK_enT (kvs : List (List Int × V)) (k : List Int) (v : V) : putK (enT kvs) (k.map Sum.inl) v = enT (ptA kvs k v) := by
  unfold putK ptA
  have e : ((enT kvs).any fun kv => decide (kv.1 = (k.map Sum.inl : List Key))) = kvs.any fun p => decide (p.1 = k) := by
    unfold enT
    rw [List.any_map]
    congr 1
    funext p
    exact inl_dec p.1 k
  rw [e]
  split
  · unfold enT
    rw [List.map_map, List.map_map]
    congr 1
    funext p
    by_cases h : p.1 = k
    · simp [h]
    · have h' : ¬ (p.1.map Sum.inl : List Key) = k.map Sum.inl := fun z => h (inl_inj z)
      simp [h, h']
  · unfold enT
    rw [List.map_append]
    rfl
theorem lkA_nil (k : List Int) : lkA ([] : List (List Int × α)) k = none := rfl
theorem lkA_cons (p : List Int × α) (m : List (List Int × α)) (k : List Int) : lkA (p :: m) k = if p.1 = k then some p.2 else lkA m k := by
  unfold lkA
  by_cases h : p.1 = k <;> simp [List.find?_cons, h]
theorem lkA_some_mem {k : List Int} {d : α} : ∀ {m : List (List Int × α)}, lkA m k = some d → (k, d) ∈ m
  | [], h => nomatch h
  | p :: m, h => by
    rw [lkA_cons] at h
    split at h
    · rename_i e
      cases h
      rw [← e]
      exact List.mem_cons_self ..
    · exact List.mem_cons_of_mem _ (lkA_some_mem h)
theorem lkA_isSome (k : List Int) : ∀ m : List (List Int × α), (lkA m k).isSome = decide (k ∈ m.map (·.1))
  | [] => rfl
  | p :: m => by
    rw [lkA_cons, List.map_cons]
    by_cases h : p.1 = k
    · rw [if_pos h]
      simp [h]
    · rw [if_neg h, lkA_isSome k m]
      have h' : ¬ k = p.1 := fun z => h z.symm
      simp [h']
theorem lkA_some {k : List Int} {m : List (List Int × α)} (h : k ∈ m.map (·.1)) : ∃ d, lkA m k = some d := by
  have := lkA_isSome k m
  rw [decide_eq_true h] at this
  exact Option.isSome_iff_exists.mp this
theorem lkA_append (k : List Int) : ∀ m m' : List (List Int × α), lkA (m ++ m') k = (lkA m k).or (lkA m' k)
  | [], m' => by simp [lkA]
  | p :: m, m' => by
    rw [List.cons_append, lkA_cons, lkA_cons, lkA_append k m m']
    split <;> rfl
theorem any_dec (k : List Int) (m : List (List Int × α)) : (m.any fun p => decide (p.1 = k)) = decide (k ∈ m.map (·.1)) := by
  rw [← lkA_isSome]
  unfold lkA
  rw [Option.isSome_map, List.isSome_find?]
theorem ptA_new {m : List (List Int × α)} {k : List Int} {v : α} (h : k ∉ m.map (·.1)) : ptA m k v = m ++ [(k, v)] := by
  unfold ptA
  rw [any_dec, decide_eq_false h]
  rfl
theorem lkA_map_ne {k k' : List Int} (v : α) (h : ¬ k' = k) : ∀ m : List (List Int × α), lkA (m.map fun p => if p.1 = k then (p.1, v) else p) k' = lkA m k'
  | [] => rfl
  | p :: m => by
    rw [List.map_cons, lkA_cons, lkA_cons, lkA_map_ne v h m]
    by_cases e : p.1 = k
    · have e' : ¬ p.1 = k' := fun z => h (z.symm.trans e)
      rw [if_pos e, if_neg e', if_neg e']
    · rw [if_neg e]
theorem lkA_map_eq {k : List Int} (v : α) : ∀ {m : List (List Int × α)}, k ∈ m.map (·.1) → lkA (m.map fun p => if p.1 = k then (p.1, v) else p) k = some v
  | [], h => nomatch h
  | p :: m, h => by
    rw [List.map_cons, lkA_cons]
    by_cases e : p.1 = k
    · rw [if_pos e, if_pos e]
    · rw [if_neg e, if_neg e]
      rcases List.mem_cons.mp h with z | z
      · exact absurd z.symm e
      · exact lkA_map_eq v z
theorem lkA_ptA (m : List (List Int × α)) (k k' : List Int) (v : α) : lkA (ptA m k v) k' = if k' = k then some v else lkA m k' := by
  by_cases h : k ∈ m.map (·.1)
  · have e : ptA m k v = m.map fun p => if p.1 = k then (p.1, v) else p := by
      unfold ptA
      rw [any_dec, decide_eq_true h]
      rfl
    rw [e]
    by_cases q : k' = k
    · rw [if_pos q, q, lkA_map_eq v h]
    · rw [if_neg q, lkA_map_ne v q]
  · rw [ptA_new h, lkA_append, lkA_cons]
    by_cases q : k' = k
    · have n : lkA m k' = none := by
        have := lkA_isSome k' m
        rw [q, decide_eq_false h] at this
        rw [q]
        exact Option.not_isSome_iff_eq_none.mp (by rw [this]; decide)
      rw [if_pos q, n, if_pos q.symm]
      rfl
    · rw [if_neg q, if_neg fun z => q z.symm, lkA_nil, Option.or_none]
theorem ptA_keys (m : List (List Int × α)) (k : List Int) (v : α) : (ptA m k v).map (·.1) = if k ∈ m.map (·.1) then m.map (·.1) else m.map (·.1) ++ [k] := by
  by_cases h : k ∈ m.map (·.1)
  · have e : ptA m k v = m.map fun p => if p.1 = k then (p.1, v) else p := by
      unfold ptA
      rw [any_dec, decide_eq_true h]
      rfl
    rw [e, if_pos h, List.map_map]
    congr 1
    funext p
    by_cases q : p.1 = k <;> simp [q]
  · rw [ptA_new h, if_neg h, List.map_append]
    rfl
theorem ptA_len (m : List (List Int × α)) (k : List Int) (v : α) : (ptA m k v).length ≤ m.length + 1 := by
  unfold ptA
  split
  · rw [List.length_map]; omega
  · rw [List.length_append]; exact Nat.le_refl _
end
/-- the dict kvs reads as m -/
def DM (K : Frag) (pa : List Addr) (H : Hp) (kvs : List (List Int × V)) (m : List (List Int × PyData)) : Prop := EachIs (fun p q => p.1 = q.1 ∧ DD K pa H p.2 q.2) kvs m
section
variable {K : Frag} {pa : List Addr} {H H' : Hp} {kvs : List (List Int × V)} {m : List (List Int × PyData)}
theorem DM.mono (h : DM K pa H kvs m) (e : Ex pa H H') : DM K pa H' kvs m := EachIs.mono (fun _ _ q => ⟨q.1, q.2.mono e⟩) h
theorem DM.less {pb : List Addr} (s : ∀ a ∈ pb, a ∈ pa) (h : DM K pa H kvs m) : DM K pb H kvs m := EachIs.mono (fun _ _ q => ⟨q.1, DD.less s _ _ q.2⟩) h
theorem DM.tups (t : ∀ b xs, H b = some (.tup xs) → H' b = some (.tup xs)) (f : ∀ p ∈ m, fl p.2 = true) (h : DM K pa H kvs m) : DM K pa H' kvs m := by
  induction h with
  | nil => exact .nil
  | cons h1 h2 ih => exact .cons ⟨h1.1, DD.tups t _ _ (f _ (List.mem_cons_self ..)) h1.2⟩ (ih fun p hp => f p (List.mem_cons_of_mem _ hp))
theorem DM.keys (h : DM K pa H kvs m) : kvs.map (·.1) = m.map (·.1) := by
  induction h with
  | nil => rfl
  | cons h1 h2 ih => rw [List.map_cons, List.map_cons, ih, h1.1]
theorem DM.get (h : DM K pa H kvs m) {k : List Int} {d : PyData} (e : lkA m k = some d) : ∃ v, lkA kvs k = some v ∧ DD K pa H v d := by
  induction h with
  | nil => cases e
  | @cons p q ps qs h1 h2 ih =>
    rw [lkA_cons] at e ⊢
    rw [h1.1]
    split at e
    · rename_i z
      cases e
      exact ⟨p.2, if_pos z, h1.2⟩
    · rename_i z
      rw [if_neg z]
      exact ih e
theorem DM.isSome (h : DM K pa H kvs m) (k : List Int) : (lkA kvs k).isSome = (lkA m k).isSome := by rw [lkA_isSome, lkA_isSome, h.keys]
theorem DM.repl {k : List Int} {v : V} {d : PyData} (hd : DD K pa H v d) (h : DM K pa H kvs m) : DM K pa H (kvs.map fun p => if p.1 = k then (p.1, v) else p) (m.map fun p => if p.1 = k then (p.1, d) else p) := by
  induction h with
  | nil => exact .nil
  | @cons p q ps qs h1 h2 ih =>
    refine .cons ?_ ih
    dsimp only
    by_cases z : p.1 = k
    · rw [if_pos z, if_pos (h1.1.symm.trans z)]
      exact ⟨h1.1, hd⟩
    · rw [if_neg z, if_neg fun y => z (h1.1.trans y)]
      exact h1
theorem DM.snoc {k : List Int} {v : V} {d : PyData} (hd : DD K pa H v d) (h : DM K pa H kvs m) : DM K pa H (kvs ++ [(k, v)]) (m ++ [(k, d)]) := by
  induction h with
  | nil => exact .cons ⟨rfl, hd⟩ .nil
  | cons h1 h2 ih => exact .cons h1 ih
theorem DM.put (h : DM K pa H kvs m) {k : List Int} {v : V} {d : PyData} (hd : DD K pa H v d) : DM K pa H (ptA kvs k v) (ptA m k d) := by
  unfold ptA
  rw [any_dec, any_dec, h.keys]
  split
  · exact h.repl hd
  · exact h.snoc hd
theorem DM.len (h : DM K pa H kvs m) : kvs.length = m.length := EachIs.length h
end
section
variable {X : Cx} {c : Kx} {I J L : Ix c.pa} {σ : St} {H : Hp} {o i value e : Expr} {pos pos' p : Pos} {a : Addr} {kvs : List (List Int × V)} {k : List Int} {v : V} {d : PyData} {D : Ends} {rest : List Stmt} {P : V → Hp → Prop}
theorem key_map (k : List Int) : ((k.map Sum.inl : List Key).map kV) = k.map V.int := by rw [List.map_map]; rfl
theorem TI_at {K : Frag} {pa : List Addr} {y : V} (h : DD K pa H y (TI k)) : ∃ b, y = .ref b ∧ H b = some (.tup ((k.map Sum.inl : List Key).map kV)) := by
  obtain ⟨b, e, h1, _⟩ := h.TIof
  exact ⟨b, e, by rw [key_map]; exact h1⟩
/-- o[i], o the dict at a -/
theorem ed_dget (hu : X.A.units + 1 < cLine) (ho : EV X c I J o σ H fun v _ => v = .ref a) (hi : ED X c J L i σ H (TI k)) (hp : ∀ H1, Le c L H H1 → H1 a = some (.dT (enT kvs))) (hl : lkA kvs k = some v) (hd : ∀ H1, Le c L H H1 → DD X.K c.pa H1 v d) (hs : NoSl i := by first | rfl | exact fun _ _ => rfl | exact fun _ _ _ _ => nofun | decide) : ED X c I L (.Subscript o i pos) σ H d :=
  EV.of (pe_dget hu peS peS hs) fun H1 l Q q => ho H1 l _ fun x H2 l2 w => hi H2 (l.trans l2) _ fun y H3 l3 w2 => by
    cases w
    have l13 := (l.trans l2).trans l3
    obtain ⟨b, rfl, e⟩ := TI_at w2
    exact ⟨a, v, rfl, by rw [← hl, ← valV_enT]; exact DGet.t (hp H3 l13) e, q v H3 (l2.trans l3) (hd H3 l13)⟩
/-- i in o, i not in o -/
theorem tv_din (hu : X.A.units + 1 < cLine) (hi : ED X c I J i σ H (TI k)) (ho : EV X c J L o σ H fun v _ => v = .ref a) (hp : ∀ H1, Le c L H H1 → H1 a = some (.dT (enT kvs))) (hm : behindInMarks .In o = false := by rfl) : TV X c I L (.Compare i [.In] [o] pos) σ H (lkA kvs k).isSome :=
  TV.of (pt_cmp (pc_din hu peS peS) hm) fun H1 l Q q => hi H1 l _ fun y H2 l2 w2 => ho H2 (l.trans l2) _ fun x H3 l3 w => by
    cases w
    have l13 := (l.trans l2).trans l3
    obtain ⟨b, rfl, e⟩ := TI_at (l3.dd w2)
    exact ⟨a, lkA kvs k, rfl, by rw [← valV_enT]; exact DGet.t (hp H3 l13) e, _, rfl, q H3 (l2.trans l3)⟩
theorem tv_dnin (hu : X.A.units + 1 < cLine) (hi : ED X c I J i σ H (TI k)) (ho : EV X c J L o σ H fun v _ => v = .ref a) (hp : ∀ H1, Le c L H H1 → H1 a = some (.dT (enT kvs))) (hm : behindInMarks .NotIn o = false := by rfl) : TV X c I L (.Compare i [.NotIn] [o] pos) σ H (!(lkA kvs k).isSome) :=
  TV.of (pt_cmp (pc_dnotin hu peS peS) hm) fun H1 l Q q => hi H1 l _ fun y H2 l2 w2 => ho H2 (l.trans l2) _ fun x H3 l3 w => by
    cases w
    have l13 := (l.trans l2).trans l3
    obtain ⟨b, rfl, e⟩ := TI_at (l3.dd w2)
    exact ⟨a, lkA kvs k, rfl, by rw [← valV_enT]; exact DGet.t (hp H3 l13) e, _, rfl, q H3 (l2.trans l3)⟩
/-- o[i] = value -/
theorem sb_dput (hu : X.A.units + 1 < cLine) (ok : Ok c I H) (hv : EV X c I J value σ H P) (ho : EV X c J J o σ H fun v _ => v = .ref a) (hi : ED X c J L i σ H (TI k)) (hp : ∀ H1, Le c L H H1 → H1 a = some (.dT (enT kvs))) (hz : kvs.length < 1000000) (mo : ∀ v H1 H2, Le c L H1 H2 → P v H1 → P v H2)
    (kk : ∀ v H1, Le c L H H1 → P v H1 → SB X D rest σ (upd H1 a (.dT (enT (ptA kvs k v))))) (hs : swapsWith value (some (.Subscript o i pos')) pos.line X.env = pure false := by rfl) (mj : ∀ v H1 H2, Le c J H1 H2 → P v H1 → P v H2 := by exact fun _ _ _ l h => l.dd h) : SB X D (.Assign [.Subscript o i pos'] value pos :: rest) σ H :=
  sb_of (ps_dput hu peS peS peS hs) (hv H (.refl ok) _ fun v H1 l1 w => ho H1 l1 _ fun x H2 l2 w2 => hi H2 (l1.trans l2) _ fun y H3 l3 w3 => by
    cases w2
    have l13 := (l1.trans l2).trans l3
    obtain ⟨b, rfl, e⟩ := TI_at w3
    exact ⟨a, _, rfl, DPut.t (hp H3 l13) e (by unfold enT; rw [List.length_map]; exact Nat.lt_of_lt_of_le hz (by decide)), by rw [putK_enT]; exact kk v H3 l13 (mo _ _ _ l3 (mj _ _ _ l2 w))⟩)
/-- {} -/
theorem ev_dnew : EV X c I I (.Dict [] [] pos) σ H fun v H' => ∃ a, v = .ref a ∧ H a = none ∧ a ∉ c.pa ∧ H' a = some (.dT (enT [])) := fun H1 l Q q => ⟨fun pins s i =>
  pe_dnewT.run pins s σ H1 Q i fun p hp => q (.ref p) _ (.new (.refl l.ok) hp) ⟨p, rfl, l.fr p hp, l.ok.npa hp, upd_same⟩⟩
theorem dds_refs {K : Frag} : ∀ {kvs : List (List Int × V)} {bs : List Addr}, Ok c I H → IsKeys H (enT kvs) bs → DDs K c.pa H (bs.map V.ref) ((kvs.map (·.1)).map TI)
  | [], _, ok, h => by
    have h : IsKeys H [] _ := h
    cases h
    exact .nil
  | q :: kvs, _, ok, h => by
    have h : Paired _ ((q.1.map Sum.inl, q.2) :: enT kvs) _ := h
    cases h with
    | cons h1 h2 =>
      have e : H _ = some (.tup ((q.1.map Sum.inl : List Key).map kV)) := h1
      rw [key_map] at e
      exact .cons (.tup e (ok.ntup e) (DDs.ofInts _)) (dds_refs ok h2)
/-- list(d) -/
theorem ed_listD (B : Bn X.mg) (ha : EV X c I J e σ H fun v _ => v = .ref a) (hp : ∀ H1, Le c J H H1 → H1 a = some (.dT (enT kvs))) (hc : X.calm = true := by rfl) (hg : Gl X "list" := by rfl) (he : starEach [e] X.env = (false, eval e X.env) :: starEach [] X.env := by rfl) : ED X c I J (.Call (.Name "list" p) [e] [] pos) σ H (.list ((kvs.map (·.1)).map TI)) :=
  ev_callT (call_list_dT hc) B.list rfl (av_cons ha (fun _ _ _ _ h => h) av_nil he) (fun vs H1 l w Q q => by
    obtain ⟨v, r, rfl, rfl, rfl⟩ := w
    exact ⟨a, enT kvs, rfl, .inl (hp H1 l), fun p bs hn hk => q _ _ (.new (.refl l.ok) hn) (.lst upd_same (l.ok.npa hn) ((Le.new (.refl l.ok) hn).dds (dds_refs l.ok hk)))⟩) (hg := hg) (he := he)
/-- sorted of a list of tuples of ints, of a dict with such keys -/
theorem ed_sortL {ks : List (List Int)} {n : Nat} (B : Bn X.mg) (hu : X.A.units + 64 < cLine) (ha : ED X c I J e σ H (.list (ks.map TI))) (hn : ∀ k ∈ ks, k.length = n) (h1 : n = 0 → ks.length ≤ 1) (hc : X.calm = true := by rfl) (hg : Gl X "sorted" := by rfl) (he : starEach [e] X.env = (false, eval e X.env) :: starEach [] X.env := by rfl) : ED X c I J (.Call (.Name "sorted" p) [e] [] pos) σ H (.list ((srt ks).map TI)) :=
  ev_callB (cr_sortL hc hu) B.sorted rfl (ad_cons ha ad_nil he) (fun vs H1 l w Q q => by
    obtain ⟨v, rfl, w1⟩ := dds1 w
    obtain ⟨s, xs, rfl, g1, g2, g3⟩ := w1.lstOf
    exact ⟨s, xs, ks, n, rfl, g1, tiv_back g3, hn, h1, fun p ys hp he' => q _ _ (.new (.refl l.ok) hp) (.lst upd_same (l.ok.npa hp) ((Le.new (.refl l.ok) hp).dds (dds_TIv l.ok he')))⟩) (hg := hg) (he := he)
theorem ed_sortD {n : Nat} (B : Bn X.mg) (hu : X.A.units + 64 < cLine) (ha : EV X c I J e σ H fun v _ => v = .ref a) (hp : ∀ H1, Le c J H H1 → H1 a = some (.dT (enT kvs))) (hn : ∀ k ∈ kvs, k.1.length = n) (h1 : n = 0 → kvs.length ≤ 1) (hc : X.calm = true := by rfl) (hg : Gl X "sorted" := by rfl) (he : starEach [e] X.env = (false, eval e X.env) :: starEach [] X.env := by rfl) : ED X c I J (.Call (.Name "sorted" p) [e] [] pos) σ H (.list ((srt (kvs.map (·.1))).map TI)) :=
  ev_callB (cr_sortD hc hu) B.sorted rfl (av_cons ha (fun _ _ _ _ h => h) av_nil he) (fun vs H1 l w Q q => by
    obtain ⟨v, r, rfl, rfl, rfl⟩ := w
    exact ⟨a, kvs, n, rfl, hp H1 l, hn, h1, fun p ys hp he' => q _ _ (.new (.refl l.ok) hp) (.lst upd_same (l.ok.npa hp) ((Le.new (.refl l.ok) hp).dds (dds_TIv l.ok he')))⟩) (hg := hg) (he := he)
end
end K93
set_option maxHeartbeats 4000000
/-! K93Q: raised_cells, and its twin in the law. -/
namespace K93
open PySem PySem.Spec PyProof.Rows L2
/-! ### plain -/
def foldP (m : List (List Int × PyData)) (l : List (List Int × PyData)) : List (List Int × PyData) := l.foldl (fun m p => ptA m p.1 p.2) m
theorem foldP_snoc (m l : List (List Int × PyData)) (k : List Int) (d : PyData) : foldP m (l ++ [(k, d)]) = ptA (foldP m l) k d := by
  unfold foldP
  rw [List.foldl_append]
  rfl
theorem foldP_append (m l l' : List (List Int × PyData)) : foldP m (l ++ l') = foldP (foldP m l) l' := by
  unfold foldP
  rw [List.foldl_append]
theorem foldP_len (l : List (List Int × PyData)) : ∀ m, (foldP m l).length ≤ m.length + l.length := by
  induction l with
  | nil => exact fun m => Nat.le_refl _
  | cons p l ih =>
    intro m
    have := ih (ptA m p.1 p.2)
    have := ptA_len m p.1 p.2
    show (foldP (ptA m p.1 p.2) l).length ≤ _
    rw [List.length_cons]
    omega
/-- the great places of a cell below j, each with the cell raised there -/
def prC (bs ms cc : List Int) (j : Nat) : List (List Int × PyData) := ((List.range j).filter fun k => decide (bs.getD k 0 ≤ cc.getD k 0)).map fun k => (rz cc k (ms.getD k 0), TI cc)
def prS (bs ms : List Int) (cs : List (List Int)) : List (List Int × PyData) := cs.flatMap fun cc => prC bs ms cc cc.length
theorem prC_yes {bs ms cc : List Int} {j : Nat} (h : decide (bs.getD j 0 ≤ cc.getD j 0) = true) : prC bs ms cc (j + 1) = prC bs ms cc j ++ [(rz cc j (ms.getD j 0), TI cc)] := by
  unfold prC
  rw [List.range_succ, List.filter_append, List.map_append, List.filter_cons, h]
  rfl
theorem prC_no {bs ms cc : List Int} {j : Nat} (h : decide (bs.getD j 0 ≤ cc.getD j 0) = false) : prC bs ms cc (j + 1) = prC bs ms cc j := by
  unfold prC
  rw [List.range_succ, List.filter_append, List.map_append, List.filter_cons, h]
  exact List.append_nil _
theorem prC_len (bs ms cc : List Int) (j : Nat) : (prC bs ms cc j).length ≤ j := by
  unfold prC
  rw [List.length_map]
  have := List.length_filter_le (fun k => decide (bs.getD k 0 ≤ cc.getD k 0)) (List.range j)
  rw [List.length_range] at this
  exact this
theorem prS_snoc (bs ms : List Int) (cs : List (List Int)) (cc : List Int) : prS bs ms (cs ++ [cc]) = prS bs ms cs ++ prC bs ms cc cc.length := by
  unfold prS
  rw [List.flatMap_append]
  congr 1
  exact List.append_nil _
theorem prS_len {bs ms : List Int} {n : Nat} : ∀ {cs : List (List Int)}, (∀ cc ∈ cs, cc.length ≤ n) → (prS bs ms cs).length ≤ cs.length * n
  | [], _ => Nat.zero_le _
  | cc :: cs, h => by
    have ih := prS_len (bs := bs) (ms := ms) fun cc hc => h cc (List.mem_cons_of_mem _ hc)
    have h1 := prC_len bs ms cc cc.length
    have h2 := h cc (List.mem_cons_self ..)
    show (prC bs ms cc cc.length ++ prS bs ms cs).length ≤ _
    rw [List.length_append, List.length_cons, Nat.succ_mul]
    omega
theorem take_snoc {α : Type} {l : List α} {i : Nat} {d : α} (h : i < l.length) : l.take (i + 1) = l.take i ++ [l.getD i d] := by
  rw [List.take_succ, List.getElem?_eq_getElem h, List.getD_eq_getElem?_getD, List.getElem?_eq_getElem h]
  rfl
/-- what is found at the raised cells of the first i cells, and of the next one's first j places -/
def rcM (m0 : List (List Int × PyData)) (bs ms : List Int) (i j : Nat) : List (List Int × PyData) := foldP (foldP m0 (prS bs ms ((cells bs ms).take i))) (prC bs ms ((cells bs ms).getD i []) j)
def rcMap (m0 : List (List Int × PyData)) (bs ms : List Int) : List (List Int × PyData) := foldP m0 (prS bs ms (cells bs ms))
theorem rcM_zero (m0 : List (List Int × PyData)) (bs ms : List Int) : rcM m0 bs ms 0 0 = m0 := rfl
theorem rcM_row {m0 : List (List Int × PyData)} {bs ms : List Int} {i : Nat} (h : i < (cells bs ms).length) : rcM m0 bs ms i ((cells bs ms).getD i []).length = rcM m0 bs ms (i + 1) 0 := by
  unfold rcM
  rw [take_snoc (d := []) h, prS_snoc, foldP_append]
  rfl
theorem rcM_all (m0 : List (List Int × PyData)) (bs ms : List Int) : rcM m0 bs ms (cells bs ms).length 0 = rcMap m0 bs ms := by
  unfold rcM rcMap
  rw [List.take_length]
  rfl
theorem rcM_len {m0 : List (List Int × PyData)} {bs ms : List Int} {i j : Nat} (two : bs.length ≤ 2) (hj : j ≤ bs.length) : (rcM m0 bs ms i j).length ≤ m0.length + (cells bs ms).length * 2 + 2 := by
  have h1 := foldP_len (prC bs ms ((cells bs ms).getD i []) j) (foldP m0 (prS bs ms ((cells bs ms).take i)))
  have h2 := foldP_len (prS bs ms ((cells bs ms).take i)) m0
  have h3 := prC_len bs ms ((cells bs ms).getD i []) j
  have h4 := prS_len (bs := bs) (ms := ms) (n := 2) (cs := (cells bs ms).take i) fun cc hc => by rw [cells_at cc (List.mem_of_mem_take hc)]; exact two
  have h5 : ((cells bs ms).take i).length * 2 ≤ (cells bs ms).length * 2 := Nat.mul_le_mul_right _ (by rw [List.length_take]; omega)
  unfold rcM
  omega
section
variable {P : Program} {w : World} {K : PySem.W.Frag} {mg : Str → Option Value} {base : Heap}
/-- the promise of raised_cells: a new dict -/
def spRC (K : PySem.W.Frag) : Sp := fun vs H Q _ => ∃ (c : Kx) (I : Ix c.pa) (vb vm : V) (bs ms : List Int), vs = [vb, vm] ∧ Ok c I H ∧ DD K c.pa H vb (TI bs) ∧ DD K c.pa H vm (TI ms) ∧ BM bs ms ∧ mc bs ms ≤ 1000 ∧
  ∀ a kvs H1, Le c I H H1 → H a = none → H1 a = some (.dT (enT kvs)) → DM K c.pa H1 kvs (rcMap [] bs ms) → Q (.ref a) H1
theorem sc38 : FnScope ["bounds", "measures", "found", "cell", "k"] ["bounds", "measures"] (defScope (topS 38)) := ⟨rfl, rfl, rfl, by decide +kernel, rfl, by decide +kernel, by decide +kernel⟩
theorem f38 (T : Tx K mg) : FnD P w K mg base CX0 3 "raised_cells" (spRC K) :=
  any_fn T.d38 sc38 (fun vs H Q E ⟨_, _, _, _, _, _, h, _⟩ => by rw [h]; rfl) fun f cdv A outer s H E vs Q hr h => by
    obtain ⟨c, I, v, v1, bs, ms, rfl, ok, h, h1, B, hm, q⟩ := h
    have two := B.two
    have lc : ((cells bs ms).length : Int) = mc bs ms := cellsI_len B bs.length (Nat.le_refl _)
    have hu : (bX P w K mg base ["bounds", "measures", "found", "cell", "k"] "raised_cells" (defScope (topS 38)) f cdv A outer s H E).A.units + 1 < cLine := by have := hr.un; show (A.deeper _).units + 1 < cLine; omega
    refine sb_set 2 ok ev_dnew sc38.nd fun v2 H1 l1 hv => ?_
    obtain ⟨a, rfl, h0, na, ha⟩ := hv
    have ok1 := l1.ok.up ha rfl
    have m0 : a ∈ (c.up a).pa := List.mem_cons_self ..
    have hb := h.upAt h0 l1
    have hm1 := h1.upAt h0 l1
    have okp := ok1.pin m0 ha
    refine sb_for1G 3 okp (IT.len (it_list (ed_call ((f22 T).mono (by decide)) hr (ad_cons (ed_var 0 rfl hb) (ad_cons (ed_var 1 rfl hm1) ad_nil)) ⟨_, _, rfl, B, by omega, rfl⟩)) (List.length_map _)) sc38.nd never fun H2 l2 => ?_
    have ok2 := l2.ok.unpin
    refine ⟨fun _ => I.up a, fun i σ' H' => ∃ w3 w4 kvs, σ' = [some v, some v1, some (.ref a), w3, w4] ∧ Le (c.up a) (I.up a) H2 H' ∧ H' a = some (.dT (enT kvs)) ∧ DM K (c.up a).pa H' kvs (rcM [] bs ms i 0), ⟨none, none, [], rfl, .refl ok2, l2.ok.inv.2, .nil⟩, ?_, ?_, ?_⟩
    · rintro i σ' H' _ ⟨w3, w4, kvs, rfl, lH, _, _⟩
      exact ⟨lH.ex, lH.ok⟩
    · rintro i u σ' H' H'' hi ⟨w3, w4, kvs, rfl, lH, ea, dm⟩ g d1
      rw [getD_map (d := []) hi] at d1
      have l3 := g.le lH.ok
      have ea := g.at ea
      have hcl := cells_at _ (getD_memL (d := []) hi)
      refine sb_for1G 4 (l3.ok.pin m0 ea) (it_range (j := ((cells bs ms).getD i []).length) T.B (ED.is (ed_lenT T.B (ed_var 3 rfl d1)) (by rw [List.length_map])) (by omega)) sc38.nd never fun H4 l4 => ?_
      have ok4 := l4.ok.unpin
      have lA := (lH.trans l3).trans l4.unpin
      refine ⟨fun _ => I.up a, fun j σ' H' => ∃ w4 kvs, σ' = [some v, some v1, some (.ref a), some u, w4] ∧ Le (c.up a) (I.up a) H4 H' ∧ H' a = some (.dT (enT kvs)) ∧ DM K (c.up a).pa H' kvs (rcM [] bs ms i j), ⟨_, kvs, rfl, .refl ok4, l4.ok.inv.2, (dm.mono l3.ex).mono l4.ex⟩, ?_, ?_, ?_⟩
      · rintro j σ' H' _ ⟨w4, kvs, rfl, lJ, _, _⟩
        exact ⟨lJ.ex, lJ.ok⟩
      · rintro j u4 σ' H5 H6 hj ⟨w4, kvs, rfl, lJ, ea, dm⟩ g5 d4
        have l6 := g5.le lJ.ok
        have ea := g5.at ea
        have lB := (lA.trans lJ).trans l6
        have ok6 := l6.ok.pin m0 ea
        have hb6 := lB.dd (l2.unpin.dd hb)
        have hm6 := lB.dd (l2.unpin.dd hm1)
        have hd6 := ((l4.unpin.trans lJ).trans l6).dd d1
        refine sb_when ok6 (tv_val (ed_call ((f23 T).mono (by decide)) hr (ad_cons (ed_var 0 rfl hb6) (ad_cons (ed_var 3 rfl hd6) (ad_cons (ed_var 4 rfl d4) ad_nil))) ⟨_, _, j, rfl, by omega, hj, rfl⟩)) (fun z H7 l7 => ?_) fun z H7 l7 => ?_
        · have lk := rcM_len (m0 := []) (bs := bs) (ms := ms) (i := i) (j := j) two (by omega)
          have dml := dm.len
          refine sb_dput hu l7.ok (ed_var 3 rfl (l7.dd hd6)) (ev_var 2 rfl) (ed_call ((f34 T).mono (by decide)) hr (ad_cons (ed_var 3 rfl (l7.dd hd6)) (ad_cons (ed_var 4 rfl (l7.dd d4)) (ad_cons (ed_ixT (ed_var 1 rfl (l7.dd hm6)) (ed_var 4 rfl (l7.dd d4)) (TI_ix (by rw [← B.len]; omega))) ad_nil))) ⟨_, j, _, rfl, hj, by omega, rfl⟩) (fun H8 l8 => l8.ok.inv.2) (by simp only [List.length_nil] at lk; omega) mdd fun w8 H8 l8 d8 => ?_
          have lC := l6.trans (l7.trans l8).unpin
          have lD := Le.put (o' := .dT (enT (ptA kvs (rz ((cells bs ms).getD i []) j (ms.getD j 0)) w8))) na lC l8.ok.inv.2 rfl rfl
          refine sb_nil (sb_nil ⟨_, _, rfl, lJ.trans lD, upd_same, ?_⟩)
          have d8' := ((dm.mono lC.ex).put (k := rz ((cells bs ms).getD i []) j (ms.getD j 0)) d8).mono (Ex.chg (o := .dT (enT (ptA kvs (rz ((cells bs ms).getD i []) j (ms.getD j 0)) w8))) m0)
          unfold rcM at d8' ⊢
          rw [prC_yes z, foldP_snoc]
          exact d8'
        · refine sb_nil ⟨_, kvs, rfl, lJ.trans (l6.trans l7.unpin), l7.ok.inv.2, ?_⟩
          have d7 := dm.mono (l6.trans l7.unpin).ex
          unfold rcM at d7 ⊢
          rw [prC_no z]
          exact d7
      · rintro σ' H5 ⟨w4, kvs, rfl, lJ, ea, dm⟩
        rw [rcM_row hi] at dm
        exact sb_nil ⟨_, _, kvs, rfl, lA.trans lJ, ea, dm⟩
    · rintro σ' H' ⟨w3, w4, kvs, rfl, lH, ea, dm⟩
      rw [rcM_all] at dm
      have lE := l1.down h0 (l2.unpin.trans lH)
      exact sb_ret (P := fun v _ => v = .ref a) (lH.ok.pin m0 ea) (ev_var 2 rfl) fun x H9 l9 w => by
        cases w
        exact q a kvs H9 (l1.down h0 ((l2.unpin.trans lH).trans l9.unpin)) h0 l9.ok.inv.2 ((dm.mono l9.ex).less fun b hb => List.mem_cons_of_mem _ hb)
end
end K93
set_option maxHeartbeats 4000000
/-! K93R: lists of our own; the law's cells, values, probes. -/
namespace K93
open PySem PySem.Spec PyProof.Rows L2
section
variable {X : Cx} {c : Kx} {I J : Ix c.pa} {σ : St} {H : Hp} {o e tg it : Expr} {pos apos cpos : Pos} {a : Addr} {xs : List V} {ds es : List PyData} {d : PyData} {D : Ends} {rest : List Stmt} {n : Nat}
theorem ev_lnew : EV X c I I (.List [] pos) σ H fun v H' => ∃ a, v = .ref a ∧ H a = none ∧ a ∉ c.pa ∧ H' a = some (.lst []) := fun H1 l Q q => ⟨fun pins s i =>
  (pe_lst (pos := pos) (X := X) pa_nil).run pins s σ H1 Q i ⟨Nat.zero_le _, fun p hp => q (.ref p) _ (.new (.refl l.ok) hp) ⟨p, rfl, l.fr p hp, l.ok.npa hp, upd_same⟩⟩⟩
/-- o.append(e), o the own list at a -/
theorem sb_appO (na : a ∉ c.pa) (ok : Ok (c.up a) (I.up a) H) (ea : H a = some (.lst xs)) (dm : DDs X.K (c.up a).pa H xs ds) (ho : EV X (c.up a) ((I.up a).pin a (List.mem_cons_self ..) (.lst xs)) ((I.up a).pin a (List.mem_cons_self ..) (.lst xs)) o σ H fun v _ => v = .ref a)
    (h : ED X (c.up a) ((I.up a).pin a (List.mem_cons_self ..) (.lst xs)) ((I.up a).pin a (List.mem_cons_self ..) (.lst xs)) e σ H d) (hz : ds.length < 1000000)
    (k : ∀ ys H1, Le (c.up a) (I.up a) H H1 → H1 a = some (.lst ys) → DDs X.K (c.up a).pa H1 ys (ds ++ [d]) → SB X D rest σ H1)
    (hbase : attributeBase o "append" X.env (eval o X.env) = eval o X.env := by rfl)
    (hfew : ((backTo cpos (starEach [e] X.env)).all (fun x => !x.1) && (backToKw cpos (keywordEach [] X.env)).all (fun x => x.1.isSome) && decide (([e] : List Expr).length + ([] : List Keyword).length + (if ([] : List Keyword).isEmpty then 0 else 1) < 30)) = true := by rfl)
    (hline : (apos.endLine == cpos.line) = true := by rfl) (hs : starEach [e] X.env = (false, eval e X.env) :: starEach [] X.env := by rfl) (hplain : (backTo cpos (starEach [] X.env)).any (·.1) = false := by rfl)
    (hsw : swapsWith (.Call (.Attribute o "append" apos) [e] [] cpos) none pos.line X.env = pure false := by rfl) : SB X D (.Expr (.Call (.Attribute o "append" apos) [e] [] cpos) pos :: rest) σ H :=
  sb_app (ok.pin (List.mem_cons_self ..) ea) ho h (fun H1 l => l.ok.inv.2) (fun H1 l => l.ok.inv.2) (by rw [dm.length]; exact hz) (fun v H1 l w => by
    have l2 := Le.put (o' := .lst (xs ++ [v])) na l.unpin l.ok.inv.2 rfl rfl
    exact k _ _ l2 upd_same (((l.dds dm).snoc w).mono (Ex.chg (List.mem_cons_self ..)))) hbase hfew hline hs hplain hsw
/-- o.extend(e) -/
theorem sb_extO (na : a ∉ c.pa) (ok : Ok (c.up a) (I.up a) H) (ea : H a = some (.lst xs)) (dm : DDs X.K (c.up a).pa H xs ds) (ho : EV X (c.up a) ((I.up a).pin a (List.mem_cons_self ..) (.lst xs)) ((I.up a).pin a (List.mem_cons_self ..) (.lst xs)) o σ H fun v _ => v = .ref a)
    (h : ED X (c.up a) ((I.up a).pin a (List.mem_cons_self ..) (.lst xs)) ((I.up a).pin a (List.mem_cons_self ..) (.lst xs)) e σ H (.list es)) (hz : ds.length + es.length ≤ 1000000)
    (k : ∀ ys H1, Le (c.up a) (I.up a) H H1 → H1 a = some (.lst ys) → DDs X.K (c.up a).pa H1 ys (ds ++ es) → SB X D rest σ H1)
    (hbase : attributeBase o "extend" X.env (eval o X.env) = eval o X.env := by rfl)
    (hfew : ((backTo cpos (starEach [e] X.env)).all (fun x => !x.1) && (backToKw cpos (keywordEach [] X.env)).all (fun x => x.1.isSome) && decide (([e] : List Expr).length + ([] : List Keyword).length + (if ([] : List Keyword).isEmpty then 0 else 1) < 30)) = true := by rfl)
    (hline : (apos.endLine == cpos.line) = true := by rfl) (hs : starEach [e] X.env = (false, eval e X.env) :: starEach [] X.env := by rfl) (hplain : (backTo cpos (starEach [] X.env)).any (·.1) = false := by rfl)
    (hsw : swapsWith (.Call (.Attribute o "extend" apos) [e] [] cpos) none pos.line X.env = pure false := by rfl) : SB X D (.Expr (.Call (.Attribute o "extend" apos) [e] [] cpos) pos :: rest) σ H :=
  sb_of (ps_expr (pe_bm PySem.F.plainAttrs_list PySem.F.slot_list_extend PySem.F.type_list_extend mt_extend peS (pa_cons peS pa_nil hs) hbase hfew hline hs hplain) hsw) (ho H (.refl (ok.pin (List.mem_cons_self ..) ea)) _ fun v H1 l1 w => by
    cases w
    refine ⟨Or.inl ⟨rfl, xs, .of l1.ok.inv.2⟩, h H1 l1 _ fun u H2 l2 w2 => ?_⟩
    obtain ⟨b, zs, rfl, g1, g2, g3⟩ := w2.lstOf
    have l12 := l1.trans l2
    have l3 := Le.put (o' := .lst (xs ++ zs)) na l12.unpin l12.ok.inv.2 rfl rfl
    exact ⟨a, b, xs, zs, rfl, rfl, l12.ok.inv.2, g1, by rw [dm.length, g3.length]; exact Nat.le_trans hz (by decide), k _ _ l3 upd_same (((l12.dds dm).append g3).mono (Ex.chg (List.mem_cons_self ..)))⟩)
/-- an own list, done, is data -/
theorem own_dd {K : PySem.W.Frag} (na : a ∉ c.pa) (ea : H a = some (.lst xs)) (dm : DDs K (c.up a).pa H xs ds) : DD K c.pa H (.ref a) (.list ds) := .lst ea na (DDs.less (fun b hb => List.mem_cons_of_mem _ hb) _ _ dm)
/-- a for over pairs that stand in a tuple -/
theorem it_pairs {X : Cx} {c : Kx} {I J : Ix c.pa} {σ : St} {H : Hp} {it : Expr} {elts : List Expr} {kk : Nat} {tpos : Pos} {α : Type} {l : List α} {fx fy : α → PyData} (d : α) (h : ED X c I J it σ H (.tuple (l.map fun p => .tuple [fx p, fy p]))) :
    IT X c I J (.Tuple elts kk tpos) it σ H l.length fun i => .tuple [fx (l.getD i d), fy (l.getD i d)] := by
  have w := it_tup (tg := .Tuple elts kk tpos) h
  rw [List.length_map] at w
  exact w.congr fun i hi => getD_map hi
end
section
variable {P : Program} {w : World} {K : PySem.W.Frag} {mg : Str → Option Value} {base : Heap}
/-! ### the law's cells -/
theorem sc46 : FnScope ["_law_bounds", "_law_measures", "_law_found", "_law_bound", "_law_measure", "_law_later", "_law_cell", "_law_number"] ["_law_bounds", "_law_measures"] (defScope (topS 46)) := ⟨rfl, rfl, rfl, by decide +kernel, rfl, by decide +kernel, by decide +kernel⟩
def rowN (cc : List Int) (m : Nat) : List (List Int) := (List.range m).map fun (j : Nat) => cc ++ [(j : Int)]
theorem f46 (T : Tx K mg) : FnD P w K mg base CX0 1 "_law_cells" (PSp K R22) :=
  pure_fn T.d46 sc46 (fun ds d ⟨bs, ms, h, _⟩ => by rw [h]; rfl) fun f cdv A outer s H E vs Q c I ds d hr ok hd r k => by
    obtain ⟨bs, ms, rfl, B, hm, rfl⟩ := r
    obtain ⟨v, v1, rfl, h, h1⟩ := dds2 hd
    have two := B.two
    refine sb_set 2 ok (ed_lst (ad_cons (ed_tup ad_nil) ad_nil)) sc46.nd fun v2 H1 l1 h2 => ?_
    refine sb_for2 3 4 l1.ok (IT.ints2 (it_zipT T.B (ed_var 0 rfl (l1.dd h)) (ed_var 1 rfl (l1.dd h1)) (lmap B.len)) B.len) sc46.nd never fun H2 l2 => ?_
    refine ⟨fun _ => I, fun i σ' H' => ∃ w2 w3 w4 w5 w6 w7, σ' = [some v, some v1, some w2, w3, w4, w5, w6, w7] ∧ Le c I H2 H' ∧ DD K c.pa H' w2 (.list ((cellsI bs ms i).map TI)), ⟨v2, none, none, none, none, none, rfl, .refl l2.ok, l2.dd h2⟩, ?_, ?_, ?_⟩
    · rintro i σ' H' _ ⟨w2, w3, w4, w5, w6, w7, rfl, lH, hw⟩
      exact ⟨lH.ex, lH.ok⟩
    · rintro i u u1 σ' H' H3 hi ⟨w2, w3, w4, w5, w6, w7, rfl, lH, hw⟩ l3 d1 d2
      obtain ⟨b1, b2⟩ := B.bm hi
      have b3 := bm_le B hi
      have b4 := mcI_mono B (i + 1) bs.length (by omega) (Nat.le_refl _)
      have b5 := cellsI_len B i (by omega)
      obtain ⟨m, hme⟩ : ∃ m : Nat, (bs.getD i 0 + ms.getD i 0) = (m : Int) := ⟨(bs.getD i 0 + ms.getD i 0).toNat, by omega⟩
      have b6 : (cellsI bs ms i).length * m ≤ 100000 := by
        have e : mcI bs ms (i + 1) = mcI bs ms i * (bs.getD i 0 + ms.getD i 0) := rfl
        rw [hme, ← b5] at e
        have e2 : mc bs ms = mcI bs ms bs.length := rfl
        have e3 : (((cellsI bs ms i).length * m : Nat) : Int) = mcI bs ms (i + 1) := by rw [e, Int.natCast_mul]
        omega
      refine sb_set 5 l3.ok ev_lnew sc46.nd fun v5 H4 l4 hv => ?_
      obtain ⟨a, rfl, h0, na, ha⟩ := hv
      have ok4 := l4.ok.up ha rfl
      have m0 : a ∈ (c.up a).pa := List.mem_cons_self ..
      have hw4 := (l3.dd hw).upAt h0 l4
      have hd1 := d1.upAt h0 l4
      have hd2 := d2.upAt h0 l4
      refine sb_for1G 6 (ok4.pin m0 ha) (IT.len (it_list (ed_var 2 rfl hw4)) (List.length_map _)) sc46.nd never fun H5 l5 => ?_
      have ok5 := l5.ok.unpin
      refine ⟨fun _ => I.up a, fun j σ' H' => ∃ w6 xs, σ' = [some v, some v1, some w2, some u, some u1, some (.ref a), w6, w7] ∧ Le (c.up a) (I.up a) H5 H' ∧ H' a = some (.lst xs) ∧ DDs K (c.up a).pa H' xs ((((cellsI bs ms i).take j).flatMap fun cc => rowN cc m).map TI), ⟨_, [], rfl, .refl ok5, l5.ok.inv.2, .nil⟩, ?_, ?_, ?_⟩
      · rintro j σ' H' _ ⟨w6, xs, rfl, lJ, _, _⟩
        exact ⟨lJ.ex, lJ.ok⟩
      · rintro j u6 σ' H6 H7 hj ⟨w6, xs, rfl, lJ, ea, dm⟩ g d6
        rw [getD_map (d := []) hj] at d6
        have l7 := g.le lJ.ok
        have ea := g.at ea
        have lB := lJ.trans l7
        have hcl := cellsI_at bs ms i _ (getD_memL (d := []) hj)
        have hb : (((cellsI bs ms i).take j).flatMap fun cc => rowN cc m).length ≤ j * m := by
          clear dm
          rw [List.length_flatMap]
          have : ∀ l : List (List Int), (l.map fun cc => (rowN cc m).length).sum = l.length * m := fun l => by
            induction l with
            | nil => simp
            | cons cc l ih => rw [List.map_cons, List.sum_cons, ih, List.length_cons, Nat.succ_mul]; unfold rowN; rw [List.length_map, List.length_range]; omega
          rw [this, List.length_take]
          exact Nat.mul_le_mul_right _ (by omega)
        have hjm : j * m + m ≤ (cellsI bs ms i).length * m := by
          rw [← Nat.succ_mul]
          exact Nat.mul_le_mul_right _ hj
        refine sb_extO (es := (List.range m).map fun (b : Nat) => TI ((cellsI bs ms i).getD j [] ++ [(b : Int)])) na l7.ok ea (l7.dds dm) (ev_var 5 rfl) (ed_lcx [("_law_number", 7)] (lc_S 7 [("_law_number", 7)] (T := fun _ => (I.up a).pin a m0 (.lst xs)) (n := m) (ef := fun b => TI ((cellsI bs ms i).getD j [] ++ [(b : Int)])) (it_range T.B (ED.is (ed_add (ed_var 3 rfl (lB.dd (l5.dd hd1))) (ed_var 4 rfl (lB.dd (l5.dd hd2)))) (by rw [hme])) (by omega)) (by omega) (fun i hi => fl_TI _) sc46.nd fun X' bl b vb Hb hb l8 db => ?_) sc46.nd (ok := blkOk_by (N := ["_law_bounds", "_law_measures", "_law_found", "_law_bound", "_law_measure", "_law_later", "_law_cell", "_law_number"]) (sc := defScope (topS 46)) (by decide +kernel))) ?_ fun ys H9 l9 ea9 dm9 => ?_
        · obtain ⟨s', Hx, C, cl, fp, rfl⟩ := bl
          refine ED.is (ed_catT (ed_var 6 rfl (l8.dd d6)) (ed_tup (ad_cons (ed_var 7 rfl db) ad_nil)) ?_) ?_
          · rw [List.length_map, hcl]
            simp only [List.length_cons, List.length_nil]
            omega
          · unfold TI
            rw [List.map_append]
            rfl
        · rw [List.length_map, List.length_map, List.length_range]
          omega
        · refine sb_nil ⟨_, ys, rfl, lB.trans l9, ea9, ?_⟩
          rw [take_snoc (d := []) hj, List.flatMap_append, List.map_append]
          have e9 : (([(cellsI bs ms i).getD j []] : List (List Int)).flatMap fun cc => rowN cc m).map TI = (List.range m).map fun (b : Nat) => TI ((cellsI bs ms i).getD j [] ++ [(b : Int)]) := by
            rw [List.flatMap_singleton]
            unfold rowN
            rw [List.map_map]
            rfl
          rw [e9]
          exact dm9
      · rintro σ' H6 ⟨w6, xs, rfl, lJ, ea, dm⟩
        rw [List.take_length] at dm
        have dd := own_dd na ea dm
        have lE : Le c I H' H6 := l3.trans (l4.down h0 (l5.unpin.trans lJ))
        refine sb_set (P := fun v H' => DD K c.pa H' v (.list (((cellsI bs ms i).flatMap fun cc => rowN cc m).map TI))) 2 lE.ok (ed_var 5 rfl dd) sc46.nd fun v9 H9 l9 h9 => sb_nil ⟨v9, _, _, _, _, _, rfl, (lH.trans lE).trans l9, ?_⟩
        have e9 : ((cellsI bs ms i).flatMap fun cc => rowN cc m) = cellsI bs ms (i + 1) := by
          show _ = (cellsI bs ms i).flatMap fun cc => (List.range (bs.getD i 0 + ms.getD i 0).toNat).map fun (j : Nat) => cc ++ [(j : Int)]
          rw [hme]
          rfl
        rw [← e9]
        exact h9
    · rintro σ' H' ⟨w2, w3, w4, w5, w6, w7, rfl, lH, hw⟩
      exact sb_ret lH.ok (ed_var 2 rfl hw) fun v H1 l hv => k v H1 (((l1.trans l2).trans lH).trans l) hv
end
end K93
set_option maxHeartbeats 4000000
/-! K93S: the law's value, probes, is_answer, deep. -/
namespace K93
open PySem PySem.Spec PyProof.Rows L2
def tbD (bs ms : List Int) (rs : List (List (Int × List Int))) : PyData := .tuple [TI bs, TI ms, RD rs]
/-- a value of the table of these rows can be read at gs; r its row there -/
structure RvOk (bs ms : List Int) (rs : List (List (Int × List Int))) (gs : List Int) (r : List (Int × List Int)) : Prop where
  bm : BM bs ms
  most : mc bs ms ≤ 1000
  len : bs.length = gs.length
  at_ : ∃ i : Nat, plc bs ms (rcell bs ms gs) = (i : Int) ∧ rs[i]? = some r
  rl : r.length ≤ 1000
  fl : ∀ f ∈ r, f.2.length = bs.length
  msb : ∀ m ∈ ms, m < 1000000
  tm : ∀ t ∈ tmI bs ms gs, -1000000 ≤ t ∧ t ≤ 1000000
def rvR (bs ms : List Int) (gs : List Int) (r : List (Int × List Int)) : List Int := r.map fun f => fvI f (tmI bs ms gs)
theorem RvOk.r33 {bs ms : List Int} {rs : List (List (Int × List Int))} {gs : List Int} {r : List (Int × List Int)} (h : RvOk bs ms rs gs r) : R33 bs ms rs [TI gs] (TI (rvR bs ms gs r)) := by
  obtain ⟨i, h1, h2⟩ := h.at_
  have := h.most
  exact ⟨gs, i, r, rfl, h.bm, by omega, h.len, h1, h2, h.rl, h.fl, h.msb, h.tm, rfl⟩
section
variable {P : Program} {w : World} {K : PySem.W.Frag} {mg : Str → Option Value} {base : Heap}
theorem rSn {α : Type} (g : Nat → α) (i : Nat) : (List.range (i + 1)).map g = (List.range i).map g ++ [g i] := by
  rw [List.range_succ, List.map_append]
  rfl
abbrev N48 : List Str := ["_law_table_here", "_law_given", "_law_bounds", "_law_measures", "_law_rows", "_law_place", "_law_times", "_law_bound", "_law_measure", "_law_number", "_law_cell", "_law_found", "_law_base", "_law_grown", "_law_step", "_law_time"]
theorem sc48 : FnScope N48 ["_law_table_here", "_law_given"] (defScope (topS 48)) := ⟨rfl, rfl, rfl, by decide +kernel, rfl, by decide +kernel, by decide +kernel⟩
def R48 : List PyData → PyData → Prop := fun ds d => ∃ bs ms rs gs r, ds = [tbD bs ms rs, TI gs] ∧ RvOk bs ms rs gs r ∧ d = TI (rvR bs ms gs r)
theorem f48 (T : Tx K mg) : FnD P w K mg base CX0 1 "_law_value" (PSp K R48) :=
  pure_fn T.d48 sc48 (fun ds d ⟨_, _, _, _, _, h, _⟩ => by rw [h]; rfl) fun f cdv A outer s H E vs Q c I ds d hr ok hd r0 k => by
    obtain ⟨bs, ms, rs, gs, r, rfl, R, rfl⟩ := r0
    obtain ⟨v, v1, rfl, h, h1⟩ := dds2 hd
    have B := R.bm
    have two := B.two
    have most := R.most
    have lg := R.len
    obtain ⟨ir, hp, hir⟩ := R.at_
    refine sb_set3 2 3 4 ok (ed_var 0 rfl h) sc48.nd fun v2 v3 v4 H1 l1 h2 h3 h4 => ?_
    refine sb_set 5 l1.ok ed_int sc48.nd fun v5 H2 l2 h5 => ?_
    refine sb_set 6 l2.ok ev_lnew sc48.nd fun v6 H3 l3 hv => ?_
    obtain ⟨a, rfl, h0, na, ha⟩ := hv
    have m0 : a ∈ (c.up a).pa := List.mem_cons_self ..
    have l12 := l1.trans l2
    have h2' := (l2.dd h2).upAt h0 l3
    have h3' := (l2.dd h3).upAt h0 l3
    have h1' := (l12.dd h1).upAt h0 l3
    refine sb_for3G 7 8 9 ((l3.ok.up ha rfl).pin m0 ha) (IT.ints3 (it_zip3 T.B (ed_var 2 rfl h2') (ed_var 3 rfl h3') (ed_var 1 rfl h1') (lmap B.len) (lmap lg)) B.len lg) sc48.nd never fun H4 l4 => ?_
    refine ⟨fun _ => I.up a, fun i σ' H' => ∃ w5 w7 w8 w9 w10 xs, σ' = [some v, some v1, some v2, some v3, some v4, some w5, some (.ref a), w7, w8, w9, w10, none, none, none, none, none] ∧ Le (c.up a) (I.up a) H4 H' ∧ H' a = some (.lst xs) ∧
      DD K (c.up a).pa H' w5 (.int (plI bs ms (rcell bs ms gs) i)) ∧ DDs K (c.up a).pa H' xs ((List.range i).map fun k => .int ((gs.getD k 0 - rc (bs.getD k 0) (ms.getD k 0) (gs.getD k 0)) / ms.getD k 0)), ⟨v5, none, none, none, none, [], rfl, .refl l4.ok.unpin, l4.ok.inv.2, l4.dd (h5.upAt h0 l3), .nil⟩, ?_, ?_, ?_⟩
    · rintro i σ' H' _ ⟨w5, w7, w8, w9, w10, xs, rfl, lH, _, _, _⟩
      exact ⟨lH.ex, lH.ok⟩
    · rintro i u u1 u2 σ' H5 H6 hi ⟨w5, w7, w8, w9, w10, xs, rfl, lH, ea, d5, dm⟩ g d7 d8 d9
      obtain ⟨b1, b2⟩ := B.bm hi
      have b3 := bm_le B hi
      have b4 := R.msb _ (getD_memL (d := 0) (by rw [← B.len]; exact hi : i < ms.length))
      have l6 := g.le lH.ok
      have ok6 := l6.ok.pin m0 (g.at ea)
      refine sb_set (P := fun v H' => DD K (c.up a).pa H' v (.int (rc (bs.getD i 0) (ms.getD i 0) (gs.getD i 0)))) 10 ok6 (ev_if (tv_lt (ed_var 9 rfl d9) (ed_var 7 rfl d7)) (fun z => ED.is (ed_var 9 rfl d9) (by unfold rc; rw [if_pos (of_decide_eq_true z)])) fun z => ED.is (ed_add (ed_var 7 rfl d7) (ed_mod (by omega) (ed_toInt T.B (ed_sub (ed_var 9 rfl d9) (ed_var 7 rfl d7))) (ed_var 8 rfl d8))) (by unfold rc; rw [if_neg (of_decide_eq_false z)])) sc48.nd fun v10 H7 l7 h10 => ?_
      refine sb_set 5 l7.ok (ED.is (d' := .int (plI bs ms (rcell bs ms gs) (i + 1))) (ed_add (ed_mul (Or.inr ⟨by omega, by omega⟩) (ed_var 5 rfl (l7.dd (l6.dd d5))) (ed_add (ed_var 7 rfl (l7.dd d7)) (ed_var 8 rfl (l7.dd d8)))) (ed_var 10 rfl h10)) (by rw [← rcell_get hi]; rfl)) sc48.nd fun w5' H8 l8 h5' => ?_
      have l68 := l7.trans l8
      refine sb_appO na l68.ok.unpin l68.ok.inv.2 (l68.dds (l6.dds dm)) (ev_var 6 rfl) (ed_div ⟨by omega, by omega⟩ (ed_sub (ed_var 9 rfl (l68.dd d9)) (ed_var 10 rfl (l8.dd h10))) (ed_var 8 rfl (l68.dd d8))) (by rw [List.length_map, List.length_range]; omega) fun ys H9 l9 ea9 dm9 => ?_
      refine sb_nil ⟨w5', _, _, _, _, ys, rfl, lH.trans (l6.trans (l68.unpin.trans l9)), ea9, l9.dd h5', ?_⟩
      rw [rSn]
      exact dm9
    · rintro σ' H5 ⟨w5, w7, w8, w9, w10, xs, rfl, lH, ea, d5, dm⟩
      have lE := l3.down h0 (l4.unpin.trans lH)
      have e6 : ((List.range bs.length).map fun k => PyData.int ((gs.getD k 0 - rc (bs.getD k 0) (ms.getD k 0) (gs.getD k 0)) / ms.getD k 0)) = (tmI bs ms gs).map .int := by
        unfold tmI
        rw [List.map_map]
        rfl
      rw [e6] at dm
      have d6 := own_dd na ea dm
      have d5 : DD K c.pa H5 w5 (.int (ir : Int)) := hp ▸ DD.less (fun b hb => List.mem_cons_of_mem _ hb) _ _ d5
      have h4' := lE.dd (l2.dd h4)
      refine sb_set 11 lE.ok ev_lnew sc48.nd fun v11 H6 l6 hv => ?_
      obtain ⟨a2, rfl, h02, na2, ha2⟩ := hv
      have m02 : a2 ∈ (c.up a2).pa := List.mem_cons_self ..
      refine sb_for2G 12 13 ((l6.ok.up ha2 rfl).pin m02 ha2) (it_pairs (l := r) (fx := fun f => .int f.1) (fy := fun f => TI f.2) (0, []) (ED.is (ed_ixT (i := ir) (d := rD r) (ed_var 4 rfl (h4'.upAt h02 l6)) (ed_var 5 rfl (d5.upAt h02 l6)) (by rw [List.getElem?_map, hir]; rfl)) rfl)) sc48.nd never fun H7 l7 => ?_
      refine ⟨fun _ => I.up a2, fun i σ' H' => ∃ w12 w13 xs, σ' = [some v, some v1, some v2, some v3, some v4, some w5, some (.ref a), w7, w8, w9, w10, some (.ref a2), w12, w13, none, none] ∧ Le (c.up a2) (I.up a2) H7 H' ∧ H' a2 = some (.lst xs) ∧
        DDs K (c.up a2).pa H' xs ((List.range i).map fun k => .int (fvI (r.getD k (0, [])) (tmI bs ms gs))), ⟨none, none, [], rfl, .refl l7.ok.unpin, l7.ok.inv.2, .nil⟩, ?_, ?_, ?_⟩
      · rintro i σ' H' _ ⟨w12, w13, xs, rfl, lH, _, _⟩
        exact ⟨lH.ex, lH.ok⟩
      · rintro i u u1 σ' H8 H9 hi ⟨w12, w13, xs, rfl, lJ, ea, dm⟩ g d12 d13
        have l9 := g.le lJ.ok
        have lB := (l7.unpin.trans lJ).trans l9
        have hf := R.fl _ (getD_memL (d := (0, [])) hi)
        refine sb_appO na2 l9.ok (g.at ea) (l9.dds dm) (ev_var 11 rfl) (ED.is (d' := .int (fvI (r.getD i (0, [])) (tmI bs ms gs))) (ed_add (ed_var 12 rfl d12) (ed_sum (ns := (List.range (r.getD i (0, [])).2.length).map fun k => (r.getD i (0, [])).2.getD k 0 * (tmI bs ms gs).getD k 0) T.B (ED.is (ed_lcx [("_law_step", 14), ("_law_time", 15)] (lc_2 14 15 [("_law_step", 14), ("_law_time", 15)] (ef := fun k => .int ((r.getD i (0, [])).2.getD k 0 * (tmI bs ms gs).getD k 0)) (IT.ints2 (it_zipTL T.B (ed_var 13 rfl d13) (ed_var 6 rfl (lB.dd (d6.upAt h02 l6))) (lmap (by rw [tmI_len, hf]))) (by rw [tmI_len, hf])) (by omega) (fun i hi => fl_int _) sc48.nd fun X' bl j v u Hb hj l dv du => ?_) sc48.nd (ok := blkOk_by (N := N48) (sc := defScope (topS 48)) (by decide +kernel))) ?_))) rfl) (by rw [List.length_map, List.length_range]; have := R.rl; omega) fun ys H10 l10 ea10 dm10 => ?_
        · obtain ⟨s', Hx, C, cl, fp, rfl⟩ := bl
          have := R.tm _ (getD_memL (d := 0) (by rw [tmI_len, ← hf]; exact hj : j < (tmI bs ms gs).length))
          exact ed_mul (Or.inr ⟨by omega, by omega⟩) (ed_var 14 rfl dv) (ed_var 15 rfl du)
        · rw [List.map_map]
          rfl
        · refine sb_nil ⟨_, _, ys, rfl, lJ.trans (l9.trans l10), ea10, ?_⟩
          rw [rSn]
          exact dm10
      · rintro σ' H8 ⟨w12, w13, xs, rfl, lJ, ea, dm⟩
        have lF := l6.down h02 (l7.unpin.trans lJ)
        have d11 := own_dd na2 ea dm
        refine sb_ret lF.ok (ED.is (d' := TI (rvR bs ms gs r)) (ed_tupleL T.B (ed_var 11 rfl d11)) ?_) fun v H9 l9 hv => k v H9 (l12.trans (lE.trans (lF.trans l9))) hv
        have e := range_map (0, []) (fun f => PyData.int (fvI f (tmI bs ms gs))) r
        rw [e]
        unfold TI rvR
        rw [List.map_map]
        rfl
/-! ### is_answer, deep -/
theorem sc53 : FnScope ["_law_thing", "_law_many", "_law_number"] ["_law_thing", "_law_many"] (defScope (topS 53)) := ⟨rfl, rfl, rfl, by decide +kernel, rfl, by decide +kernel, by decide +kernel⟩
theorem f53 (T : Tx K mg) : FnD P w K mg base CX0 1 "_law_is_answer" (PSp K R13) :=
  pure_fn T.d53 sc53 (fun ds d ⟨e, n, h, _⟩ => by rw [h]; rfl) fun f cdv A outer s H E vs Q c I ds d hr ok hd r k => by
    obtain ⟨e, n, rfl, hq, rfl⟩ := r
    obtain ⟨v, v1, rfl, h, h1⟩ := dds2 hd
    refine sb_when (q := !(isTup e && lenIs e n)) ok (TV.is (tv_or (j := !isTup e) (k := !lenIs e n) (tv_not (tv_val (ed_isTup T.B (ed_var 0 rfl h)))) fun z => ?_) ?_) (fun z H1 l1 => ?_) fun z H1 l1 => ?_
    · cases e with
      | tuple ds => exact tv_neI (ed_lenT T.B (ed_var 0 rfl h)) (ed_var 1 rfl h1)
      | _ => cases z
    · cases isTup e <;> cases lenIs e n <;> rfl
    · have e0 : areNums e n = false := by
        rw [← areNums_and e n, ← Bool.and_assoc]
        have : (isTup e && lenIs e n) = false := by
          cases hq : (isTup e && lenIs e n) with
          | false => rfl
          | true => rw [hq] at z; cases z
        rw [this]; rfl
      exact sb_ret l1.ok (ED.is ed_bl (by rw [e0])) fun v H2 l2 hv => k v H2 (l1.trans l2) hv
    · cases e with
      | tuple ds =>
        have z2 : lenIs (.tuple ds) n = true := by simpa [isTup] using z
        refine sb_ret l1.ok (ED.is (ed_all (ns := ds.map isNum) T.B (ED.is (ed_lcx [("_law_number", 2)] (lc_S 2 [("_law_number", 2)] (T := fun _ => I) (ef := fun i => .bool (isNum (ds.getD i .none))) (it_tup (ed_var 0 rfl (l1.dd h))) (Nat.le_trans (hq ds rfl).1 (by decide)) (fun i hi => fl_bool _) sc53.nd fun X' bl i v Hb hi l dv => ?_) sc53.nd (ok := blkOk_by (N := ["_law_thing", "_law_many", "_law_number"]) (sc := defScope (topS 53)) (by decide +kernel))) ?_)) (by rw [areNums_all z2])) fun v H2 l2 hv => k v H2 (l1.trans l2) hv
        · obtain ⟨s', Hx, C, cl, fp, rfl⟩ := bl
          have hn := hq.get hi
          refine ED.is (ed_and3 (i := isIn (ds.getD i .none)) (j := !isBoo (ds.getD i .none)) (k := isNum (ds.getD i .none)) (ed_isInt T.B hn (ed_var 2 rfl dv)) (fun _ => ed_not (ed_isBoo T.B hn (ed_var 2 rfl dv))) fun z z2 => ?_) ?_
          · revert dv z z2
            generalize ds.getD i .none = e
            intro dv z z2
            cases e with
            | int i => exact ed_ge (ed_var 2 rfl dv) ed_int
            | bool b => cases z2
            | _ => cases z
          · generalize ds.getD i .none = e
            cases e <;> rfl
        · rw [List.map_map]
          exact congrArg PyData.list (range_map PyData.none (fun e => PyData.bool (isNum e)) ds)
      | _ => cases z
def dp : Nat → PyData
  | 0 => .tuple []
  | n + 1 => .tuple [dp n]
theorem sc49 : FnScope ["_law_thing", "_law_turn"] [] (defScope (topS 49)) := ⟨rfl, rfl, rfl, by decide +kernel, rfl, by decide +kernel, by decide +kernel⟩
def R49 : List PyData → PyData → Prop := fun ds d => ds = [] ∧ d = dp 36
theorem f49 (T : Tx K mg) : FnD P w K mg base CX0 1 "_law_deep" (PSp K R49) :=
  pure_fn T.d49 sc49 (fun ds d ⟨h, _⟩ => by rw [h]; rfl) fun f cdv A outer s H E vs Q c I ds d hr ok hd r k => by
    obtain ⟨rfl, rfl⟩ := r
    cases hd
    refine sb_set 0 ok (ed_tup ad_nil) sc49.nd fun v0 H1 l1 h0 => ?_
    refine sb_for1 1 l1.ok (it_range (j := 36) T.B ed_int (by decide)) sc49.nd never fun H2 l2 => ?_
    refine ⟨fun _ => I, fun i σ' H' => ∃ w0 w1, σ' = [some w0, w1] ∧ Le c I H2 H' ∧ DD K c.pa H' w0 (dp i), ⟨v0, none, rfl, .refl l2.ok, l2.dd h0⟩, ?_, ?_, ?_⟩
    · rintro i σ' H' _ ⟨w0, w1, rfl, lH, hw⟩
      exact ⟨lH.ex, lH.ok⟩
    · rintro i u σ' H' H'' hi ⟨w0, w1, rfl, lH, hw⟩ l3 d1
      exact sb_set 0 l3.ok (ed_tup (ad_cons (ed_var 0 rfl (l3.dd hw)) ad_nil)) sc49.nd fun v4 H4 l4 h4 => sb_nil ⟨v4, _, rfl, (lH.trans l3).trans l4, h4⟩
    · rintro σ' H' ⟨w0, w1, rfl, lH, hw⟩
      exact sb_ret lH.ok (ed_var 0 rfl hw) fun v H9 l hv => k v H9 ((l1.trans l2).trans (lH.trans l)) hv
/-! ### probes -/
/-- the probes: the cells, with None; the raised ones, each with its cell -/
def prM (bs ms : List Int) : List (List Int × PyData) := rcMap (foldP [] ((cells bs ms).map fun cc => (cc, PyData.none))) bs ms
def spPr (K : PySem.W.Frag) : Sp := fun vs H Q _ => ∃ (c : Kx) (I : Ix c.pa) (vb vm : V) (bs ms : List Int), vs = [vb, vm] ∧ Ok c I H ∧ DD K c.pa H vb (TI bs) ∧ DD K c.pa H vm (TI ms) ∧ BM bs ms ∧ mc bs ms ≤ 1000 ∧
  ∀ a kvs H1, Le c I H H1 → H a = none → H1 a = some (.dT (enT kvs)) → DM K c.pa H1 kvs (prM bs ms) → Q (.ref a) H1
abbrev N50 : List Str := ["_law_bounds", "_law_measures", "_law_found", "_law_cell", "_law_k", "_law_raised"]
theorem sc50 : FnScope N50 ["_law_bounds", "_law_measures"] (defScope (topS 50)) := ⟨rfl, rfl, rfl, by decide +kernel, rfl, by decide +kernel, by decide +kernel⟩
/-- a cell raised, by hand -/
theorem ed_rz {X : Cx} {c : Kx} {I : Ix c.pa} {σ : St} {H : Hp} {e1 e2 e3 e4 e5 e6 e7 : Expr} {p1 p2 p3 p4 p5 p6 p7 p8 p9 : Pos} {x1 : Nat} {cc : List Int} {k : Nat} {m : Int} (hk : k < cc.length) (hl : cc.length ≤ 1000) (h1 : ED X c I I e1 σ H (TI cc)) (h2 : ED X c I I e2 σ H (.int (k : Int))) (h3 : ED X c I I e3 σ H (TI cc)) (h4 : ED X c I I e4 σ H (.int (k : Int)))
    (h5 : ED X c I I e5 σ H (.int m)) (h6 : ED X c I I e6 σ H (TI cc)) (h7 : ED X c I I e7 σ H (.int (k : Int))) (hs4 : PlainIx e4 := by exact fun _ _ => rfl) (he : starEach [.BinOp (.Subscript e3 e4 p4) .Add e5 p5] X.env = (false, eval (.BinOp (.Subscript e3 e4 p4) .Add e5 p5) X.env) :: starEach [] X.env := by rfl) {j1 : Nat} {p10 p11 : Pos} :
    ED X c I I (.BinOp (.BinOp (.Subscript e1 (.Slice none (some e2) none p1) p2) .Add (.Tuple [.BinOp (.Subscript e3 e4 p4) .Add e5 p5] x1 p6) p7) .Add (.Subscript e6 (.Slice (some (.BinOp e7 .Add (.Constant (.int 1) j1 p11) p10)) none none p8) p9) p3) σ H (TI (rz cc k m)) :=
  ED.is (ed_catT (ed_catT (ed_slTo h1 h2) (ed_tup (ad_cons (ed_add (ed_ixT h3 h4 (TI_ix hk) hs4) h5) ad_nil he)) (by simp only [List.length_take, List.length_map, List.length_cons, List.length_nil]; omega)) (ed_slFrom (k := k + 1) h6 (ED.is (ed_add (i := (k : Int)) (j := 1) h7 ed_int) rfl)) (by simp only [List.length_append, List.length_take, List.length_drop, List.length_map, List.length_cons, List.length_nil]; omega)) (by
    unfold TI rz
    rw [List.map_append, List.map_append, List.map_take, List.map_drop]
    rfl)
theorem f50 (T : Tx K mg) : FnD P w K mg base CX0 2 "_law_probes" (spPr K) :=
  any_fn T.d50 sc50 (fun vs H Q E ⟨_, _, _, _, _, _, h, _⟩ => by rw [h]; rfl) fun f cdv A outer s H E vs Q hr h => by
    obtain ⟨c, I, v, v1, bs, ms, rfl, ok, h, h1, B, hm, q⟩ := h
    have two := B.two
    have lc : ((cells bs ms).length : Int) = mc bs ms := cellsI_len B bs.length (Nat.le_refl _)
    have hu : (bX P w K mg base N50 "_law_probes" (defScope (topS 50)) f cdv A outer s H E).A.units + 1 < cLine := by have := hr.un; show (A.deeper _).units + 1 < cLine; omega
    refine sb_set 2 ok ev_dnew sc50.nd fun v2 H1 l1 hv => ?_
    obtain ⟨a, rfl, h0, na, ha⟩ := hv
    have ok1 := l1.ok.up ha rfl
    have m0 : a ∈ (c.up a).pa := List.mem_cons_self ..
    have hb := h.upAt h0 l1
    have hm1 := h1.upAt h0 l1
    have okp := ok1.pin m0 ha
    refine sb_for1G 3 okp (IT.len (it_list (ed_call ((f46 T).mono (by decide)) hr (ad_cons (ed_var 0 rfl hb) (ad_cons (ed_var 1 rfl hm1) ad_nil)) ⟨_, _, rfl, B, by omega, rfl⟩)) (List.length_map _)) sc50.nd never fun H2 l2 => ?_
    refine ⟨fun _ => I.up a, fun i σ' H' => ∃ w3 kvs, σ' = [some v, some v1, some (.ref a), w3, none, none] ∧ Le (c.up a) (I.up a) H2 H' ∧ H' a = some (.dT (enT kvs)) ∧ DM K (c.up a).pa H' kvs (foldP [] (((cells bs ms).take i).map fun cc => (cc, PyData.none))), ⟨none, [], rfl, .refl l2.ok.unpin, l2.ok.inv.2, .nil⟩, ?_, ?_, ?_⟩
    · rintro i σ' H' _ ⟨w3, kvs, rfl, lH, _, _⟩
      exact ⟨lH.ex, lH.ok⟩
    · rintro i u σ' H' H'' hi ⟨w3, kvs, rfl, lH, ea, dm⟩ g d1
      rw [getD_map (d := []) hi] at d1
      have l3 := g.le lH.ok
      have fl := foldP_len (((cells bs ms).take i).map fun cc => (cc, PyData.none)) []
      have dml := dm.len
      refine sb_dput hu (l3.ok.pin m0 (g.at ea)) ed_non (ev_var 2 rfl) (ed_var 3 rfl d1) (fun H8 l8 => l8.ok.inv.2) (by rw [List.length_map, List.length_take] at fl; simp only [List.length_nil] at fl; omega) mdd fun w8 H8 l8 d8 => ?_
      have lC := l3.trans l8.unpin
      have lD := Le.put (o' := .dT (enT (ptA kvs ((cells bs ms).getD i []) w8))) na lC l8.ok.inv.2 rfl rfl
      refine sb_nil ⟨_, _, rfl, lH.trans lD, upd_same, ?_⟩
      rw [take_snoc (d := []) hi, List.map_append]
      show DM _ _ _ _ (foldP [] (_ ++ [((cells bs ms).getD i [], PyData.none)]))
      rw [foldP_snoc]
      exact ((dm.mono lC.ex).put d8).mono (Ex.chg m0)
    rintro σ' H' ⟨w3, kvs, rfl, lH, ea, dm⟩
    rw [List.take_length] at dm
    have fl := foldP_len ((cells bs ms).map fun cc => (cc, PyData.none)) []
    rw [List.length_map] at fl
    simp only [List.length_nil] at fl
    have l1' := l1.down h0 (l2.unpin.trans lH)
    have lX := l2.unpin.trans lH
    generalize hm0 : foldP [] ((cells bs ms).map fun cc => (cc, PyData.none)) = pm0 at dm fl
    refine sb_for1G 3 (lH.ok.pin m0 ea) (IT.len (it_list (ed_call ((f46 T).mono (by decide)) hr (ad_cons (ed_var 0 rfl (lX.dd hb)) (ad_cons (ed_var 1 rfl (lX.dd hm1)) ad_nil)) ⟨_, _, rfl, B, by omega, rfl⟩)) (List.length_map _)) sc50.nd never fun H3 l3 => ?_
    have ok3 := l3.ok.unpin
    have lX3 := lX.trans l3.unpin
    refine ⟨fun _ => I.up a, fun i σ' H' => ∃ w3 w4 w5 kvs, σ' = [some v, some v1, some (.ref a), w3, w4, w5] ∧ Le (c.up a) (I.up a) H3 H' ∧ H' a = some (.dT (enT kvs)) ∧ DM K (c.up a).pa H' kvs (rcM pm0 bs ms i 0), ⟨_, none, none, kvs, rfl, .refl ok3, l3.ok.inv.2, dm.mono l3.ex⟩, ?_, ?_, ?_⟩
    · rintro i σ' H' _ ⟨w3, w4, w5, kvs, rfl, lH, _, _⟩
      exact ⟨lH.ex, lH.ok⟩
    · rintro i u σ' H4 H5 hi ⟨w3, w4, w5, kvs, rfl, lK, ea, dm⟩ g d1
      rw [getD_map (d := []) hi] at d1
      have l5 := g.le lK.ok
      have ea := g.at ea
      have hcl := cells_at _ (getD_memL (d := []) hi)
      refine sb_for1G 4 (l5.ok.pin m0 ea) (it_range (j := ((cells bs ms).getD i []).length) T.B (ED.is (ed_lenT T.B (ed_var 3 rfl d1)) (by rw [List.length_map])) (by omega)) sc50.nd never fun H6 l6 => ?_
      have lA := (lK.trans l5).trans l6.unpin
      refine ⟨fun _ => I.up a, fun j σ' H' => ∃ w4 w5 kvs, σ' = [some v, some v1, some (.ref a), some u, w4, w5] ∧ Le (c.up a) (I.up a) H6 H' ∧ H' a = some (.dT (enT kvs)) ∧ DM K (c.up a).pa H' kvs (rcM pm0 bs ms i j), ⟨_, _, kvs, rfl, .refl l6.ok.unpin, l6.ok.inv.2, (dm.mono l5.ex).mono l6.ex⟩, ?_, ?_, ?_⟩
      · rintro j σ' H' _ ⟨w4, w5, kvs, rfl, lJ, _, _⟩
        exact ⟨lJ.ex, lJ.ok⟩
      · rintro j u4 σ' H7 H8 hj ⟨w4, w5, kvs, rfl, lJ, ea, dm⟩ g7 d4
        have l8 := g7.le lJ.ok
        have ea := g7.at ea
        have lB := (lA.trans lJ).trans l8
        have ok8 := l8.ok.pin m0 ea
        have hb8 := lB.dd (lX3.dd hb)
        have hm8 := lB.dd (lX3.dd hm1)
        have hd8 := ((l6.unpin.trans lJ).trans l8).dd d1
        refine sb_when ok8 (tv_ge (ed_ixT (ed_var 3 rfl hd8) (ed_var 4 rfl d4) (TI_ix hj)) (ed_ixT (ed_var 0 rfl hb8) (ed_var 4 rfl d4) (TI_ix (by omega)))) (fun z H9 l9 => ?_) fun z H9 l9 => ?_
        · have lk := rcM_len (m0 := pm0) (bs := bs) (ms := ms) (i := i) (j := j) two (by omega)
          have dml := dm.len
          refine sb_set 5 l9.ok (ed_rz hj (by omega) (ed_var 3 rfl (l9.dd hd8)) (ed_var 4 rfl (l9.dd d4)) (ed_var 3 rfl (l9.dd hd8)) (ed_var 4 rfl (l9.dd d4)) (ed_ixT (ed_var 1 rfl (l9.dd hm8)) (ed_var 4 rfl (l9.dd d4)) (TI_ix (by rw [← B.len]; omega))) (ed_var 3 rfl (l9.dd hd8)) (ed_var 4 rfl (l9.dd d4))) sc50.nd fun v5 H10 l10 h5 => ?_
          have l910 := l9.trans l10
          refine sb_dput hu l10.ok (ed_var 3 rfl (l910.dd hd8)) (ev_var 2 rfl) (ed_var 5 rfl h5) (fun H8 l8 => l8.ok.inv.2) (by omega) mdd fun w8 H11 l11 d11 => ?_
          have lC := l8.trans (l910.trans l11).unpin
          have lD := Le.put (o' := .dT (enT (ptA kvs (rz ((cells bs ms).getD i []) j (ms.getD j 0)) w8))) na lC l11.ok.inv.2 rfl rfl
          refine sb_nil (sb_nil ⟨_, _, _, rfl, lJ.trans lD, upd_same, ?_⟩)
          have d8' := ((dm.mono lC.ex).put (k := rz ((cells bs ms).getD i []) j (ms.getD j 0)) d11).mono (Ex.chg (o := .dT (enT (ptA kvs (rz ((cells bs ms).getD i []) j (ms.getD j 0)) w8))) m0)
          unfold rcM at d8' ⊢
          rw [prC_yes z, foldP_snoc]
          exact d8'
        · refine sb_nil ⟨_, _, kvs, rfl, lJ.trans (l8.trans l9.unpin), l9.ok.inv.2, ?_⟩
          have d7 := dm.mono (l8.trans l9.unpin).ex
          unfold rcM at d7 ⊢
          rw [prC_no z]
          exact d7
      · rintro σ' H5 ⟨w4, w5, kvs, rfl, lJ, ea, dm⟩
        rw [rcM_row hi] at dm
        exact sb_nil ⟨_, _, _, kvs, rfl, lA.trans lJ, ea, dm⟩
    · rintro σ' H4 ⟨w3, w4, w5, kvs, rfl, lK, ea, dm⟩
      rw [rcM_all] at dm
      exact sb_ret (P := fun v _ => v = .ref a) (lK.ok.pin m0 ea) (ev_var 2 rfl) fun x H9 l9 w => by
        cases w
        refine q a kvs H9 (l1.down h0 (lX3.trans (lK.trans l9.unpin))) h0 l9.ok.inv.2 ?_
        unfold prM
        rw [hm0]
        exact (dm.mono l9.ex).less fun b hb => List.mem_cons_of_mem _ hb
end
end K93
set_option maxHeartbeats 4000000
/-! K93Y: what is tracked may be hidden for a call, and shown again. -/
namespace K93
open PySem PySem.Spec PyProof.Rows L2
open Classical in
noncomputable def hid (S : Addr → Prop) (H : Hp) : Hp := fun b => if S b then none else H b
open Classical in
noncomputable def sho (S : Addr → Prop) (H H' : Hp) : Hp := fun b => if S b then H b else H' b
/-- the object at a is o, to the letter -/
def XO (a : Addr) (o : Obj) : HO := .ext fun h => h.get? a = some o
theorem xo_ok {P : Program} {w : World} {H : Hp} {h : Heap} {a : Addr} {o : Obj} (e : h.get? a = some o) : ObjOk P w H h a (XO a o) := ⟨e, ⟨o, e⟩, fun _ _ z k => k o z⟩
theorem xo_at {P : Program} {w : World} {H : Hp} {h : Heap} {a : Addr} {o : Obj} (x : HOk P w H h) (e : H a = some (XO a o)) : h.get? a = some o := (x a _ e).1
structure Hid (S : Addr → Prop) (H : Hp) : Prop where
  at_ : ∀ a, S a → ∃ φ, H a = some (.ext φ)
section
variable {S : Addr → Prop} {H H' : Hp} {P : Program} {w : World} {b : Addr} {o : HO}
theorem hid_no (h : ¬ S b) : hid S H b = H b := by unfold hid; rw [if_neg h]
theorem hid_yes (h : S b) : hid S H b = none := by unfold hid; rw [if_pos h]
theorem sho_no (h : ¬ S b) : sho S H H' b = H' b := by unfold sho; rw [if_neg h]
theorem sho_yes (h : S b) : sho S H H' b = H b := by unfold sho; rw [if_pos h]
theorem hid_some (e : hid S H b = some o) : ¬ S b ∧ H b = some o := by
  by_cases h : S b
  · rw [hid_yes h] at e; cases e
  · rw [hid_no h] at e; exact ⟨h, e⟩
theorem Hid.no (x : Hid S H) (e : H b = some o) (n : ∀ φ, o ≠ .ext φ) : ¬ S b := fun s => by
  obtain ⟨φ, z⟩ := x.at_ b s
  rw [e] at z
  cases z
  exact n φ rfl
theorem Hid.keep (x : Hid S H) (e : H b = some o) (n : ∀ φ, o ≠ .ext φ) : hid S H b = some o := (hid_no (x.no e n)).trans e
theorem hid_none (h : H b = none) : hid S H b = none := by
  by_cases s : S b
  · exact hid_yes s
  · rw [hid_no s]; exact h
theorem hid_hok {h : Heap} (x : Hid S H) (k : HOk P w H h) : HOk P w (hid S H) h := fun a o e => by
  obtain ⟨n, e⟩ := hid_some e
  exact (k a o e).stay (fun _ _ _ q => q) (fun c q => x.keep q fun _ z => nomatch z) fun c xs q => x.keep q fun _ z => nomatch z
theorem hid_env0 {K : PySem.W.Frag} {mg : Str → Option Value} {base : Heap} {A : Around} {outer : List Env} {s : Shared} (x : Hid S H) (e : Env0 P w K mg base A outer s H) : Env0 P w K mg base A outer s (hid S H) :=
  ⟨e.frames, e.mod, fun b o z => ⟨(e.bs b o z).1, hid_none (e.bs b o z).2⟩, e.bsz, e.funs, fun b z => hid_none (e.frf b z), hid_hok x e.hok, e.bare⟩
/-- shown again behind a call -/
theorem sho_ce {K : PySem.W.Frag} {mg : Str → Option Value} {base : Heap} {A : Around} {outer : List Env} {s s' : Shared} {Q Q' : VK} {u : Value} (x : Hid S H) (e : Env0 P w K mg base A outer s H) (q : ∀ v H', (∀ a, S a → H' a = none) → Q' v H' → Q v (sho S H H'))
    (c : CE outer P w (hid S H) s Q' u s') : CE outer P w H s Q u s' := by
  obtain ⟨v, H', os, bare, un, hok, rv, q'⟩ := c
  have there : ∀ a, S a → ∃ o, s.heap.get? a = some o := fun a sa => by
    obtain ⟨φ, z⟩ := x.at_ a sa
    exact (e.hok a _ z).2.1
  have nofr : ∀ a, S a → a ∉ frs outer := fun a sa z => by
    obtain ⟨φ, y⟩ := x.at_ a sa
    rw [e.frf a z] at y
    cases y
  have gone : ∀ a, S a → H' a = none := fun a sa => by
    obtain ⟨o, z⟩ := there a sa
    exact un.free a o z (hid_yes sa) (fun z => nomatch z)
  have same : ∀ a o, S a → s.heap.get? a = some o → s'.heap.get? a = some o := fun a o sa z => un.keep a o z (hid_yes sa) (nofr a sa) (fun z => nomatch z)
  have nS : ∀ {b o}, H' b = some o → ¬ S b := fun {b o} z sb => by rw [gone b sb] at z; cases z
  have hn : ∀ {b}, H b = none → ¬ S b := fun {b} z sb => by
    obtain ⟨φ, y⟩ := x.at_ b sb
    rw [z] at y
    cases y
  refine ⟨v, sho S H H', os, bare, ⟨fun b o z n f k => un.keep b o z (hid_none n) f k, fun b o z n f k => un.slot b o z (hid_none n) f k, fun b o z n k => ?_, un.there, fun b xs z => ?_, fun b ob t z => ?_, fun b ps z => ?_⟩, fun a o z => ?_, rv, q v H' gone q'⟩
  · rw [sho_no (hn n)]
    exact un.free b o z (hid_none n) k
  · rw [sho_no (x.no z fun _ y => nomatch y)]
    exact un.tups b xs (x.keep z fun _ y => nomatch y)
  · rw [sho_no (x.no z fun _ y => nomatch y)]
    exact un.frzs b ob t (x.keep z fun _ y => nomatch y)
  · rw [sho_no (x.no z fun _ y => nomatch y)]
    exact un.tbls b ps (x.keep z fun _ y => nomatch y)
  · by_cases sa : S a
    · rw [sho_yes sa] at z
      obtain ⟨φ, y⟩ := x.at_ a sa
      rw [y] at z
      cases z
      obtain ⟨f1, ⟨o, f2⟩, f3⟩ := e.hok a _ y
      exact ⟨f3 _ _ f1 fun o z => same a o sa z, ⟨o, same a o sa f2⟩, f3⟩
    · rw [sho_no sa] at z
      exact (hok a o z).stay (fun _ _ _ q => q) (fun c q => (sho_no (nS q)).trans q) fun c xs q => (sho_no (nS q)).trans q
theorem sho_cr {K : PySem.W.Frag} {mg : Str → Option Value} {base : Heap} {A : Around} {outer : List Env} {s s' : Shared} {Q Q' : VK} {r : Result} {E : XK} (x : Hid S H) (e : Env0 P w K mg base A outer s H) (q : ∀ v H', (∀ a, S a → H' a = none) → Q' v H' → Q v (sho S H H'))
    (c : CR CX0 outer P w (hid S H) s Q' E r s') : CR CX0 outer P w H s Q E r s' := by
  cases r with
  | error e => exact (show False from c).elim
  | ok f =>
    cases f with
    | ret u => exact sho_ce x e q c
    | next => exact c
    | brk => exact c
    | cont => exact c
end
section
variable {S : Addr → Prop} {c : Kx} {I J : Ix c.pa} {H H' : Hp} {K : PySem.W.Frag} {pa : List Addr}
theorem hid_ey (x : Hid S H) : Ey pa H (hid S H) := fun b o e d n => x.keep e fun φ z => by rw [z] at d; cases d
theorem hid_dd (x : Hid S H) {v : V} {d : PyData} (h : DD K pa H v d) : DD K pa (hid S H) v d := DD.mono_ (hid_ey x) d v h
theorem hid_ok (x : Hid S H) (k : Ok c I H) (hc : ∀ a q, S a → H a ≠ some (LamX.CodeO a q)) : Ok c I (hid S H) := by
  have mo : ∀ {o : HO}, Mo o = true → ∀ φ, o ≠ .ext φ := fun m φ z => by rw [z] at m; cases m
  refine ⟨fun q hq => ?_, fun p hp => ?_, I.sta H _ k.inv (fun p hp => ?_) fun b xs e => x.keep e fun _ z => nomatch z⟩
  · obtain ⟨ps, h1, h2, h3⟩ := k.tab q hq
    refine ⟨ps, x.keep h1 (fun _ z => nomatch z), h2, fun pos cv hcv => ?_⟩
    obtain ⟨d, e1, e2⟩ := h3 pos cv hcv
    exact ⟨d, e1, (hid_no fun sd => hc d _ sd e2).trans e2⟩
  · obtain ⟨o, e, m⟩ := k.live p hp
    exact ⟨o, x.keep e (mo m), m⟩
  · obtain ⟨o, e, m⟩ := k.live p hp
    exact hid_no (x.no e (mo m))
theorem sho_ey (g : ∀ a, S a → H' a = none) : Ey pa H' (sho S H H') := fun b o e d n => (sho_no fun sb => by rw [g b sb] at e; cases e).trans e
theorem sho_dd (g : ∀ a, S a → H' a = none) {v : V} {d : PyData} (h : DD K pa H' v d) : DD K pa (sho S H H') v d := DD.mono_ (sho_ey g) d v h
theorem sho_le (x : Hid S H) (g : ∀ a, S a → H' a = none) (l : Le c J (hid S H) H') : Le c J H (sho S H H') := by
  have nS : ∀ {b o}, H' b = some o → ¬ S b := fun {b o} z sb => by rw [g b sb] at z; cases z
  refine ⟨fun b o e n m => ?_, ⟨l.ok.tab.ext fun b o z => (sho_no (nS z)).trans z, fun p hp => ?_, J.sta H' _ l.ok.inv (fun p hp => ?_) fun b xs z => (sho_no (nS z)).trans z⟩, fun p z => ?_⟩
  · by_cases sb : S b
    · rw [sho_yes sb]; exact e
    · rw [sho_no sb]
      exact l.ex b o ((hid_no sb).trans e) n m
  · obtain ⟨o, e, m⟩ := l.ok.live p hp
    exact ⟨o, (sho_no (nS e)).trans e, m⟩
  · obtain ⟨o, e, m⟩ := l.ok.live p hp
    exact sho_no (nS e)
  · by_cases sb : S p
    · rw [sho_yes sb] at z
      exact z
    · rw [sho_no sb] at z
      have := l.fr p z
      rwa [hid_no sb] at this
end
end K93
set_option maxHeartbeats 4000000
/-! K93Y2: functions that are handed on: the law's teller. -/
namespace K93
open PySem PySem.Spec PyProof.Rows L2
/-- v is a function that gives ans k at the tuple k, N times, each time that what is known turns from T i to T (i + 1) -/
structure Sg (P : Program) (w : World) (K : PySem.W.Frag) (mg : Str → Option Value) (base : Heap) (k : Nat) (c : Kx) (T : Nat → Ix c.pa) (N : Nat) (Pr : List Int → Prop) (ans : List Int → PyData) (H0 : Hp) (v : V) : Prop where
  ex : ∃ f, v = .ref f ∧ (∀ i H h, Ex c.pa H0 H → Ok c (T i) H → HOk P w H h → PySem.W.FnAt f h) ∧
    ∀ (A : Around) (outer : List Env) (s : Shared) (H : Hp) (b : Addr) (key : List Int) (i : Nat) (Q : VK) (E : XK), i < N → Pr key → Room k A → Env0 P w K mg base A outer s H → Ex c.pa H0 H → Ok c (T i) H → H b = some (.tup (key.map V.int)) →
      (∀ v H', Le c (T (i + 1)) H H' → DD K c.pa H' v (ans key) → Q v H') → codeAny (model P w) A (.call (.ref f) ⟨[.ref b], []⟩) (CR CX0 outer P w H s Q E) s
theorem Sg.mono {P : Program} {w : World} {K : PySem.W.Frag} {mg : Str → Option Value} {base : Heap} {k : Nat} {c : Kx} {T : Nat → Ix c.pa} {N : Nat} {Pr : List Int → Prop} {ans : List Int → PyData} {H0 H1 : Hp} {v : V} (h : Sg P w K mg base k c T N Pr ans H0 v) (e : Ex c.pa H0 H1) : Sg P w K mg base k c T N Pr ans H1 v := by
  obtain ⟨f, h1, h2, h3⟩ := h.ex
  exact ⟨f, h1, fun i H h x => h2 i H h (e.trans x), fun A outer s H b key i Q E a b' c d x => h3 A outer s H b key i Q E a b' c d (e.trans x)⟩
theorem Sg.deep {P : Program} {w : World} {K : PySem.W.Frag} {mg : Str → Option Value} {base : Heap} {k j : Nat} {c : Kx} {T : Nat → Ix c.pa} {N : Nat} {Pr : List Int → Prop} {ans : List Int → PyData} {H0 : Hp} {v : V} (h : Sg P w K mg base k c T N Pr ans H0 v) (e : k ≤ j) : Sg P w K mg base j c T N Pr ans H0 v := by
  obtain ⟨f, h1, h2, h3⟩ := h.ex
  exact ⟨f, h1, h2, fun A outer s H b key i Q E a b' c => h3 A outer s H b key i Q E a b' (c.mono e)⟩
/-- such a function called by a name -/
theorem ed_callS {X : Cx} {c : Kx} {T : Nat → Ix c.pa} {N k i j : Nat} {Pr : List Int → Prop} {ans : List Int → PyData} {σ : St} {H : Hp} {v : V} {e : Expr} {key : List Int} {x : Str} {p pos : Pos} (S : Sg X.prog X.w X.K X.mg X.base k c T N Pr ans H v) (hs : σ[j]? = some (some v)) (hr : Room k X.A) (ha : ED X c (T i) (T i) e σ H (TI key)) (hi : i < N) (hp : Pr key)
    (hN : X.N[j]? = some x := by rfl) (hv : Vis X.env.scope x := by first | exact Or.inl rfl | exact Or.inr (Or.inl rfl) | exact Or.inr (Or.inr rfl)) (hd : (x == ("__debug__" : Str)) = false := by decide) (hcd : (x == ("__classdict__" : Str)) = false := by decide)
    (he : starEach [e] X.env = (false, eval e X.env) :: starEach [] X.env := by rfl) : ED X c (T i) (T (i + 1)) (.Call (.Name x p) [e] [] pos) σ H (ans key) := fun H1 l Q q => ⟨fun pins s I => by
  obtain ⟨f, ev, hf, hc⟩ := S.ex
  subst ev
  refine wpAny_Call_Name_kw (thn ((pe_var (pos := p) hN hv hd hcd).run pins s σ H1 (fun v H' => v = .ref f ∧ H' = H1) I ⟨.ref f, hs, rfl, rfl⟩) fun u s1 ⟨v, H', I1, r1, q1⟩ => ?_)
  obtain ⟨ev, eH⟩ := q1
  subst ev
  rw [eH] at I1
  obtain rfl : u = Value.ref f := r1
  refine PySem.W.callWith_F (first := []) (hf i H1 _ l.ex l.ok I1.hok) (thn ((ad_cons ha ad_nil he H1 l (fun vs H2 => Le c (T i) H1 H2 ∧ DDs X.K c.pa H2 vs [TI key]) (fun vs H2 l2 w => ⟨l2, w⟩)).out pos pins s1 I1) fun us s2 ⟨vs, H2, I2, r, l2, w⟩ => ?_) he (by rfl)
  have l12 := l.trans l2
  refine ⟨hf i H2 _ l12.ex l12.ok I2.hok, ?_⟩
  obtain ⟨v, rfl, w1⟩ := dds1 w
  obtain ⟨b, rfl, hb, _⟩ := w1.TIof
  obtain rfl := Vals.ref1 r
  refine wpAny_call (codeAny_mono (hc X.A X.stack s2 H2 b key i Q E0 hi hp hr I2.env0 l12.ex l12.ok hb fun v H' l3 d => q v H' (l2.trans l3) d) fun r s' hq => ?_)
  cases r with
  | error e => exact (show False from hq).elim
  | ok fl =>
    cases fl with
    | ret u => exact I2.after hq
    | next => exact False.elim hq
    | brk => exact False.elim hq
    | cont => exact False.elim hq⟩
/-! ### captured cells, tracked -/
structure ClO (cl : List (Str × Addr)) (fr : List Str) (ws : List (Option V)) (H : Hp) : Prop where
  len : ws.length = fr.length
  inj : ∀ x y c, cl.lookup x = some c → cl.lookup y = some c → x = y
  all : ∀ y c, cl.lookup y = some c → ∃ (o : Obj) (v : Option Value), H c = some (XO c o) ∧ o.data = .cell v
  has : ∀ (i : Nat) (y : Str), fr[i]? = some y → ∃ c, cl.lookup y = some c ∧ ∀ v, ws[i]? = some (some v) → ∃ (o : Obj) (u : Value), RelV v u ∧ H c = some (XO c o) ∧ o.data = .cell (some u)
def clS (cl : List (Str × Addr)) : Addr → Prop := fun a => ∃ y, cl.lookup y = some a
section
variable {cl : List (Str × Addr)} {fr : List Str} {ws : List (Option V)} {H H' : Hp} {P : Program} {w : World} {h : Heap} {c : Kx} {I : Ix c.pa}
theorem ClO.hid (x : ClO cl fr ws H) : Hid (clS cl) H := ⟨fun a ⟨y, e⟩ => by
  obtain ⟨o, v, e1, _⟩ := x.all y a e
  exact ⟨_, e1⟩⟩
theorem xo_ne {k : Ok c I H} {a : Addr} {o : Obj} (e : H a = some (XO a o)) : a ∉ c.pa := fun z => by
  obtain ⟨u, h1, m⟩ := k.live a z
  rw [e] at h1
  cases h1
  cases m
theorem ext_npa (k : Ok c I H) {a : Addr} {φ : Heap → Prop} (e : H a = some (.ext φ)) : a ∉ c.pa := fun z => by
  obtain ⟨u, h1, m⟩ := k.live a z
  rw [e] at h1
  cases h1
  cases m
theorem ClO.mono (x : ClO cl fr ws H) (k : Ok c I H) (e : Ex c.pa H H') : ClO cl fr ws H' :=
  ⟨x.len, x.inj, fun y d z => by
    obtain ⟨o, v, e1, e2⟩ := x.all y d z
    exact ⟨o, v, e d _ e1 (fun _ z => nomatch z) (ext_npa k e1), e2⟩, fun i y z => by
    obtain ⟨d, e1, e2⟩ := x.has i y z
    refine ⟨d, e1, fun v z => ?_⟩
    obtain ⟨o, u, r, e3, e4⟩ := e2 v z
    exact ⟨o, u, r, e d _ e3 (fun _ z => nomatch z) (ext_npa k e3), e4⟩⟩
theorem ClO.cells (x : ClO cl fr ws H) (k : HOk P w H h) : NdefX.CellsAt cl fr ws h (K93.hid (clS cl) H) :=
  ⟨x.len, fun y d e => by
    obtain ⟨o, v, e1, e2⟩ := x.all y d e
    exact ⟨hid_yes ⟨y, e⟩, v, o, xo_at k e1, e2⟩, x.inj, fun i y e => by
    obtain ⟨d, e1, e2⟩ := x.has i y e
    refine ⟨d, e1, fun v z => ?_⟩
    obtain ⟨o, u, r, e3, e4⟩ := e2 v z
    exact ⟨u, r, o, xo_at k e3, e4⟩⟩
theorem ClO.code (x : ClO cl fr ws H) (k : HOk P w H h) {a : Addr} {q : Str} (s : clS cl a) : H a ≠ some (LamX.CodeO a q) := fun z => by
  obtain ⟨y, e⟩ := s
  obtain ⟨o, v, e1, e2⟩ := x.all y a e
  obtain ⟨a', oc, vs, t, e3, e4, e5, _⟩ := NdefX.codeO_at k z
  cases e3
  have e6 := xo_at k e1
  rw [e4] at e6
  cases e6
  rw [e5] at e2
  cases e2
end
/-! ### the law's teller -/
def stG : Stmt := (defBody (topS 52)).getD 0 (.Pass ⟨0, 0, 0, 0⟩)
def gvF (cl : List (Str × Addr)) (d : Addr) : NdefX.NF := NdefX.NF.of stG "_law_give" "_law_teller.<locals>._law_give" cl d
abbrev frG : List Str := ["_law_asked", "_law_odd", "_law_table_here"]
abbrev NG : List Str := ["_law_place", "_law_asked", "_law_odd", "_law_table_here"]
theorem scG (cl : List (Str × Addr)) (d : Addr) : NdefX.NScope NG ["_law_place"] frG (gvF cl d).scope := NdefX.nscope_by (show NdefX.nscB NG ["_law_place"] frG (C8.fnScope stG) = true by decide +kernel)
/-- what the teller gives at key -/
def ansG (m : List (List Int × PyData)) (bs ms : List Int) (rs : List (List (Int × List Int))) (gs : List Int) : PyData := (lkA m gs).getD (TI (rvI bs ms rs gs))
theorem rvR_I {bs ms : List Int} {rs : List (List (Int × List Int))} {gs : List Int} {r : List (Int × List Int)} (h : RvOk bs ms rs gs r) : rvR bs ms gs r = rvI bs ms rs gs := by
  obtain ⟨i, h1, h2⟩ := h.at_
  unfold rvR rvI
  rw [h1, Int.toNat_natCast, List.getD_eq_getElem?_getD, h2]
  rfl
def spG (K : PySem.W.Frag) (ws : List (Option V)) : Sp := fun vs H Q _ => ∃ (c : Kx) (I J : Ix c.pa) (pA od b : Addr) (tv : V) (xs : List V) (kvs : List (List Int × V)) (m : List (List Int × PyData)) (bs ms : List Int) (rs : List (List (Int × List Int))) (key : List Int),
  ws = [some (.ref pA), some (.ref od), some tv] ∧ vs = [.ref b] ∧ H b = some (.tup (key.map V.int)) ∧ Ok c I H ∧ pA ∈ c.pa ∧ H pA = some (.lst xs) ∧ xs.length < 1000000 ∧ (∀ H', Le c I H H' → H' pA = some (.lst xs) → J.P (upd H' pA (.lst (xs ++ [.ref b])))) ∧
  od ∉ c.pa ∧ H od = some (.dT (enT kvs)) ∧ DM K c.pa H kvs m ∧ DD K c.pa H tv (tbD bs ms rs) ∧ (lkA m key = none → ∃ r, RvOk bs ms rs key r) ∧ ∀ v H', Le c J H H' → DD K c.pa H' v (ansG m bs ms rs key) → Q v H'
section
variable {P : Program} {w : World} {K : PySem.W.Frag} {mg : Str → Option Value} {base : Heap}
theorem nok_G (T : Tx K mg) (f d : Addr) (cl : List (Str × Addr)) : NdefX.NOk P w K mg base CX0 2 f (gvF cl d) ["_law_place"] frG (spG K) :=
  NdefX.nok_of (scG cl d) (fun doc pm ctv us hl => match us, hl with | [_], _ => rfl) (fun ws vs H Q E ⟨_, _, _, _, _, _, _, _, _, _, _, _, _, _, _, h, _⟩ => by rw [h]; rfl)
    fun A outer s H vs ws Q E hr hf hc hl h => ⟨_, pbS, by
      obtain ⟨c, I, J, pA, od, b, tv, xs, kvs, m, bs, ms, rs, key, rfl, rfl, hb, ok, mA, hA, hx, hJ, nO, hO, dm, ht, hR, q⟩ := h
      have hu : (NdefX.ncx CX0 P w K mg base NG (gvF cl d) f A outer s H E).A.units + 1 < cLine := by have := hr.un; show (A.deeper _).units + 1 < cLine; omega
      have db : DD K c.pa H (.ref b) (TI key) := .tup hb (ok.ntup hb) (DDs.ofInts _)
      refine sb_app (P := fun v _ => v = .ref b) (ok.pin mA hA) (ev_var 1 rfl) (ev_var 0 rfl) (fun H1 l => l.ok.inv.2) (fun H1 l => l.ok.inv.2) hx fun v H1 l1 w => ?_
      cases w
      have l2 : Le c J H (upd H1 pA (.lst (xs ++ [.ref b]))) := .chg l1.unpin mA l1.ok.inv.2 rfl rfl (hJ H1 l1.unpin l1.ok.inv.2)
      generalize upd H1 pA (.lst (xs ++ [.ref b])) = H2 at l2
      have hO2 : H2 od = some (.dT (enT kvs)) := l2.at hO (fun _ z => nomatch z) nO
      have dm2 := dm.mono l2.ex
      refine sb_ret (P := fun v H' => DD K c.pa H' v (ansG m bs ms rs key)) l2.ok (ev_if (tv_din hu (ed_var 0 rfl (l2.dd db)) (ev_var 2 rfl) fun H3 l3 => l3.at hO2 (fun _ z => nomatch z) nO) (fun z => ?_) fun z => ?_) fun v H3 l3 hv => q v H3 (l2.trans l3) hv
      · rw [dm2.isSome] at z
        obtain ⟨d', hd'⟩ := Option.isSome_iff_exists.mp z
        obtain ⟨v', hv', dv'⟩ := dm2.get hd'
        refine ED.is (ed_dget hu (ev_var 2 rfl) (ed_var 0 rfl (l2.dd db)) (fun H3 l3 => l3.at hO2 (fun _ z => nomatch z) nO) hv' fun H3 l3 => l3.dd dv') ?_
        unfold ansG
        rw [hd']
        rfl
      · rw [dm2.isSome] at z
        have hn : lkA m key = none := by
          cases e : lkA m key with
          | none => rfl
          | some _ => rw [e] at z; cases z
        obtain ⟨r, R⟩ := hR hn
        refine ED.is (ed_call ((f48 T).mono (by decide)) hr (ad_cons (ed_var 3 rfl (l2.dd ht)) (ad_cons (ed_var 0 rfl (l2.dd db)) ad_nil)) ⟨_, _, _, _, r, rfl, R, rfl⟩) ?_
        unfold ansG
        rw [hn, rvR_I R]
        rfl⟩
theorem each_snoc {α β : Type} {R : α → β → Prop} {a : α} {b : β} : ∀ {as : List α} {bs : List β}, PySem.W.EachIs R as bs → R a b → PySem.W.EachIs R (as ++ [a]) (bs ++ [b])
  | _, _, .nil, h => .cons h .nil
  | _, _, .cons h t, g => .cons h (each_snoc t g)
/-- what is known of the list of the asked: all of them are of Pr, and n at most -/
def askI {pa : List Addr} (I : Ix pa) (pA : Addr) (m : pA ∈ pa) (Pr : List Int → Prop) (n : Nat) : Ix pa :=
  ⟨fun H => I.P H ∧ ∃ xs ks, H pA = some (.lst xs) ∧ PySem.W.EachIs (TIv H) xs ks ∧ (∀ k ∈ ks, Pr k) ∧ ks.length ≤ n, fun H H' ⟨p, xs, ks, h1, h2, h3⟩ e t => ⟨I.sta H H' p e t, xs, ks, (e pA m).trans h1, h2.mono fun x k ⟨a, e1, e2⟩ => ⟨a, e1, t _ _ e2⟩, h3⟩⟩
/-- the teller's function, made, is such a one -/
theorem sg_G (T : Tx K mg) {c : Kx} {I0 : Ix c.pa} {i0 : Nat} {pA od : Addr} {mA : pA ∈ c.pa} {tv : V} {kvs : List (List Int × V)} {m : List (List Int × PyData)} {bs ms : List Int} {rs : List (List (Int × List Int))} {Pr : List Int → Prop} {H0 : Hp} {f d : Addr} {cl : List (Str × Addr)} {N n0 : Nat}
    (hI : ∀ H H' : Hp, I0.P H → (∀ p ∈ c.pa, p ≠ pA → H' p = H p) → (∀ b xs, H b = some (.tup xs) → H' b = some (.tup xs)) → I0.P H')
    (k0 : Ok c (askI I0 pA mA Pr i0) H0) (hf : H0 f = some (NdefX.FnO f (gvF cl d))) (hd : H0 d = some (LamX.CodeO d "_law_teller.<locals>._law_give")) (hcl : ClO cl frG [some (.ref pA), some (.ref od), some tv] H0) (nO : od ∉ c.pa) (hO : H0 od = some (.dT (enT kvs))) (dm : DM K c.pa H0 kvs m)
    (ht : DD K c.pa H0 tv (tbD bs ms rs)) (hR : ∀ key, Pr key → lkA m key = none → ∃ r, RvOk bs ms rs key r) (hn : n0 + N ≤ 1000000) : Sg P w K mg base 2 c (fun i => askI I0 pA mA Pr (n0 + i)) N Pr (ansG m bs ms rs) H0 (.ref f) := by
  have nf : f ∉ c.pa := ext_npa k0 hf
  have nd : d ∉ c.pa := ext_npa k0 hd
  refine ⟨f, rfl, fun i H h x k ok => ?_, fun A outer s H b key i Q E hi hp hr e0 x k hb q => ?_⟩
  · obtain ⟨od, sl, doc, pm, ctv, e⟩ := NdefX.fnO_at ok (x f _ hf (fun _ z => nomatch z) nf)
    exact ⟨_, _, _, _, e⟩
  · have hf1 := x f _ hf (fun _ z => nomatch z) nf
    have hd1 := x d _ hd (fun _ z => nomatch z) nd
    have hcl1 := hcl.mono k0 x
    have hO1 := x od _ hO (fun _ z => nomatch z) nO
    have X := hcl1.hid
    obtain ⟨p0, xs, ks, hA, hks, hpr, hlen⟩ := k.inv
    have ok' : Ok c (askI I0 pA mA Pr (n0 + i)) (hid (clS cl) H) := hid_ok X k fun a q s => hcl1.code e0.hok s
    have nfS : ¬ clS cl f := fun ⟨y, s⟩ => by
      obtain ⟨o, v, e1, e2⟩ := hcl1.all y f s
      obtain ⟨od, sl, doc, pm, ctv, e3⟩ := NdefX.fnO_at e0.hok hf1
      have e4 := xo_at e0.hok e1
      rw [e3] at e4
      cases e4
      cases e2
    have run := (nok_G (P := P) (w := w) (base := base) T f d cl).run A outer s (hid (clS cl) H) [.ref b] [.ref b] [some (.ref pA), some (.ref od), some tv] (fun v H' => Le c (askI I0 pA mA Pr (n0 + (i + 1))) (hid (clS cl) H) H' ∧ DD K c.pa H' v (ansG m bs ms rs key)) E hr (hid_env0 X e0)
      ((hid_no nfS).trans hf1) ((hid_no fun s => hcl1.code e0.hok s hd1).trans hd1) (hcl1.cells e0.hok) (.cons rfl .nil)
      ⟨c, _, _, pA, od, b, tv, xs, kvs, m, bs, ms, rs, key, rfl, rfl, X.keep hb (fun _ z => nomatch z), ok', mA, X.keep hA (fun _ z => nomatch z), by rw [hks.length]; omega, fun H' l eA => ?_, nO, X.keep hO1 (fun _ z => nomatch z), ?_, hid_dd X (ht.mono x), hR key hp, fun v H' l dd => ⟨l, dd⟩⟩
    · exact codeAny_mono run fun r s' hq => sho_cr X e0 (fun v H' g z => q v _ (sho_le X g z.1) (sho_dd g z.2)) hq
    · have hb1 : H' b = some (.tup (key.map V.int)) := l.tup ok' (X.keep hb (fun _ z => nomatch z))
      refine ⟨hI H' _ l.ok.inv.1 (fun p _ n => upd_ne n) (upd_tups eA fun _ z => nomatch z), xs ++ [.ref b], ks ++ [key], upd_same, each_snoc (hks.mono fun x k ⟨a, e1, e2⟩ => ⟨a, e1, upd_tups eA (fun _ z => nomatch z) _ _ (l.tup ok' (X.keep e2 (fun _ z => nomatch z)))⟩) ⟨b, rfl, upd_tups eA (fun _ z => nomatch z) _ _ hb1⟩, fun k hk => ?_, by rw [List.length_append]; simp only [List.length_cons, List.length_nil]; omega⟩
      rcases List.mem_append.mp hk with hk | hk
      · exact hpr k hk
      · rw [List.mem_singleton.mp hk]
        exact hp
    · exact PySem.W.EachIs.mono (fun _ _ z => ⟨z.1, hid_dd X z.2⟩) (dm.mono x)
end
end K93
set_option maxHeartbeats 4000000
/-! K93Y3: the def that makes the law's function. -/
namespace K93
open PySem PySem.Spec PyProof.Rows L2
def kT (tT tL : Addr) : List NdefX.NTab := [(tT, fun _ _ => "_law_teller.<locals>._law_give"), (tL, fun _ _ => "learned.<locals>.<lambda>")]
/-- where the two defs' code objects keep their tables -/
structure Tb (K : PySem.W.Frag) (mg : Str → Option Value) (base : Heap) (tT tL : Addr) : Prop where
  ne : tT ≠ tL
  tel : ∃ f fd c, Fun K "_law_teller" "_law_teller" (topS 52) f fd ∧ mg "_law_teller" = some (.ref f) ∧ Binds K fd ["_law_table_here", "_law_asked", "_law_odd"] [] ∧ fd.code = .ref c ∧ LamX.TabB base mg c tT
  lrn : ∃ f fd c, Fun K "learned" "learned" (topS 39) f fd ∧ mg "learned" = some (.ref f) ∧ Binds K fd ["function", "bounds", "measures", "many"] [] ∧ fd.code = .ref c ∧ LamX.TabB base mg c tL
section
variable {P : Program} {w : World} {K : PySem.W.Frag} {mg : Str → Option Value} {base : Heap}
/-- a def by a run of its body that tells of the very frame at its end -/
theorem fn_end {CX : CXT} {k : Nat} {f : Addr} {x qual : Str} {st : Stmt} {fd : FuncData} {N ps : List Str} {sp : Sp} (F : Fun K x qual st f fd) (S : FnScope N ps (defScope st)) (len : ∀ vs H Q E, sp vs H Q E → vs.length = ps.length)
    (hb : ∀ (cdv : Value) (A : Around) (outer : List Env) (s : Shared) (H : Hp) (vs : List V) (Q : VK) (E : XK) (s1 : Shared), fd.code = cdv → Room k (A.deeper (envOfC qual (defScope st) s.heap.objs.size f cdv)) → Env0 P w K mg base A outer s H → sp vs H Q E → Inv (cxOf CX P w K mg base N qual (defScope st) f cdv A outer s H E) [] (start N vs) H s1 →
      wpAny (model P w) (cxOf CX P w K mg base N qual (defScope st) f cdv A outer s H E).A (execs (defBody st) (cxOf CX P w K mg base N qual (defScope st) f cdv A outer s H E).env) (fun fl s' => ∃ u, fl = .ret u ∧ CE outer P w H s Q u s') (cxOf CX P w K mg base N qual (defScope st) f cdv A outer s H E).xe s1) :
    FnOk P w K mg base CX (k + 1) f fd ps sp := by
  obtain ⟨oc, od, kV, doc, pm, an, cdv, ct, osl, rfl, lk, hcd⟩ := F.ex
  refine ⟨len, fun A outer s H args us vs Q E hr e0 hbt r hsp => ?_⟩
  have kin : K.In s.heap := e0.mod.kin.keeps fun b o e => (e0.bs b o e).1
  have hk : ∀ y ∈ ps.zip us, (defScope st).names.lookup y.1 = some .local ∨ ((defScope st).names.lookup y.1 = some .cell ∧ ((cellsFrom (s.heap.objs.size + 1) (defScope st).names []).lookup y.1).isSome = true) := fun y hy => by
    obtain ⟨n, v⟩ := y
    exact (S.par n (List.of_mem_zip hy).1).imp id fun q => ⟨q, PySem.W.cellsFrom_some _ _ _ (.inl q)⟩
  refine codeAny_call_function hr.depth (kin _ _ lk) rfl S.co S.gen rfl (PySem.W.codeRec_of kin hcd) (hbt _ _ _ _ (wpAny_newFunctionEnv_cells S.kind hk fun env he s1 xx => ?_))
  subst he
  have nl : s.heap.NoLimit := e0.mod.nolimit.keeps fun b o e => (e0.bs b o e).1
  refine ⟨nl.keeps xx.toInCall.keep, codeAny_func (wpAny_mono (hb cdv A outer s H vs Q E s1 rfl (hr.deeper _) e0 hsp (inv_start S hr.hd e0 (len _ _ _ _ hsp) r xx)) (fun fl s' hs => ?_) fun _ _ hs => hs)⟩
  obtain ⟨u, rfl, c⟩ := hs
  exact c
/-- the objects of a frame's own cells, tracked behind its end -/
theorem end_ce {X : Cx} {σ : St} {H : Hp} {s : Shared} {S : Addr → Prop} {v : V} {u : Value} {Q : VK} (I : Inv X [] σ H s) (hx : X.ex = []) (hS : ∀ a, S a → X.s_0.heap.objs.size ≤ a ∧ H a = none ∧ ∃ o, s.heap.get? a = some o) (rv : RelV v u)
    (q : ∀ H', (∀ a, ¬ S a → H' a = H a) → (∀ a, S a → ∃ o, s.heap.get? a = some o ∧ H' a = some (XO a o)) → Q v H') : CE X.outer X.prog X.w X.H_0 X.s_0 Q u s := by
  classical
  let H' : Hp := fun a => if S a then (s.heap.get? a).map (XO a) else H a
  have no : ∀ a, ¬ S a → H' a = H a := fun a n => if_neg n
  have yes : ∀ a, S a → ∃ o, s.heap.get? a = some o ∧ H' a = some (XO a o) := fun a sa => by
    obtain ⟨o, e⟩ := (hS a sa).2.2
    refine ⟨o, e, (if_pos sa).trans ?_⟩
    rw [e]
    rfl
  have nS : ∀ {a o}, H a = some o → ¬ S a := fun {a o} e sa => by rw [(hS a sa).2.1] at e; cases e
  have n0 : ∀ {a o}, X.s_0.heap.get? a = some o → ¬ S a := fun {a o} e sa => absurd (Heap.lt_size e) (Nat.not_lt.mpr (hS a sa).1)
  have b := I.base
  rw [hx] at b
  refine ⟨v, H', I.os, I.bare, ⟨b.keep, b.slot, fun a o e n k => (no a (n0 e)).trans (b.free a o e n k), b.there, fun a xs e => ?_, fun a o t e => ?_, fun a ps e => ?_⟩, fun a o e => ?_, rv, q H' no yes⟩
  · have := b.tups a xs e
    rw [no a (nS this)]
    exact this
  · have := b.frzs a o t e
    rw [no a (nS this)]
    exact this
  · obtain ⟨m, this⟩ := b.tbls a ps e
    exact ⟨m, by rw [no a (nS this)]; exact this⟩
  · by_cases sa : S a
    · obtain ⟨o', e1, e2⟩ := yes a sa
      rw [e] at e2
      cases e2
      exact xo_ok e1
    · rw [no a sa] at e
      exact (I.hok a o e).stay (fun _ _ _ q => q) (fun c q => (no c (nS q)).trans q) fun c xs q => (no c (nS q)).trans q
def spTel (K : PySem.W.Frag) (tT tL : Addr) : Sp := fun vs H Q _ => ∃ (c : Kx) (I : Ix c.pa) (tv : V) (pA od : Addr), c.T = kT tT tL ∧ vs = [tv, .ref pA, .ref od] ∧ Ok c I H ∧
  ∀ f d cl H1, Le c I H H1 → H1 f = some (NdefX.FnO f (gvF cl d)) → H1 d = some (LamX.CodeO d "_law_teller.<locals>._law_give") → ClO cl frG [some (.ref pA), some (.ref od), some tv] H1 → Q (.ref f) H1
abbrev N52 : List Str := ["_law_table_here", "_law_asked", "_law_odd", "_law_give"]
theorem sc52 : FnScope N52 ["_law_table_here", "_law_asked", "_law_odd"] (defScope (topS 52)) := ⟨rfl, rfl, rfl, by decide +kernel, rfl, by decide +kernel, by decide +kernel⟩
theorem body52 : ∃ p1 p2, defBody (topS 52) = [stG, .Return (some (.Name "_law_give" p1)) p2] := ⟨_, _, rfl⟩
theorem stG_eq : ∃ pos, stG = .FunctionDef "_law_give" (C8.fnArgs stG) (C8.fnBody stG) [] none [] (C8.fnScope stG) none "_law_give" pos := ⟨_, rfl⟩
theorem f52 {tT tL : Addr} (B : Tb K mg base tT tL) : FnD P w K mg base CX0 1 "_law_teller" (spTel K tT tL) := by
  obtain ⟨f, fd, cd, F, hm, hbd, hcd, TB⟩ := B.tel
  refine ⟨f, fd, ["_law_table_here", "_law_asked", "_law_odd"], hm, F.kp, hbd, fn_end F sc52 (fun vs H Q E ⟨_, _, _, _, _, _, h, _⟩ => by rw [h]; rfl) fun cdv A outer s H vs Q E s1 ecd hr e0 h I => ?_⟩
  obtain ⟨c, J, tv, pA, od, hT, rfl, ok, q⟩ := h
  obtain ⟨p1, p2, hb⟩ := body52
  obtain ⟨pos, hst⟩ := stG_eq
  rw [hb]
  rw [hcd] at ecd
  subst ecd
  have mT : (tT, fun _ _ => ("_law_teller.<locals>._law_give" : Str)) ∈ kT tT tL := List.mem_cons_self ..
  have hfree : ∀ y ∈ (C8.fnScope stG).names, y.2 = .free → (defScope (topS 52)).names.lookup y.1 = some .cell ∨ (defScope (topS 52)).names.lookup y.1 = some .free := by decide +kernel
  have hP := NdefX.ps_ndefMS (X := cxOf CX0 P w K mg base N52 "_law_teller" (defScope (topS 52)) f (.ref cd) A outer s H E) (T := kT tT tL) (i := 3) hst TB rfl mT rfl (fun p hp e => ?_) hfree rfl rfl rfl sc52.nd rfl (Or.inl rfl) (.inl rfl)
  · refine wpAny_execs_cons (wpAny_mono (hP.run [] s1 _ H { nx := fun σ' H' => ∃ f' c', σ' = ([some tv, some (.ref pA), some (.ref od), some (.ref f')] : St) ∧ Le c J H H' ∧ H' f' = some (NdefX.FnO f' (NdefX.NF.of stG "_law_give" "_law_teller.<locals>._law_give" (cloFrom (cxOf CX0 P w K mg base N52 "_law_teller" (defScope (topS 52)) f (.ref cd) A outer s H E).env.cells (C8.fnScope stG).names []) c')) ∧ H' c' = some (LamX.CodeO c' "_law_teller.<locals>._law_give"), rt := fun _ _ => False } I ⟨hT ▸ ok.tab, fun f' c' H1 eN nn T1 f0 f1 c1 => ?_⟩) (fun fl s2 hs => ?_) fun _ _ hs => hs)
    · refine ⟨f', c', rfl, ⟨fun b o e n _ => eN b o e n, ⟨hT ▸ T1, fun p hp => ?_, ?_⟩, nn⟩, f1, c1⟩
      · obtain ⟨o, e, m⟩ := ok.live p hp
        exact ⟨o, eN p o e (fun ps z => by rw [z] at m; cases m), m⟩
      · refine J.sta H H1 ok.inv (fun p hp => ?_) fun b xs e => eN b _ e (fun _ z => nomatch z)
        obtain ⟨o, e, m⟩ := ok.live p hp
        rw [e]
        exact eN p o e (fun ps z => by rw [z] at m; cases m)
    · cases fl with
      | next =>
        obtain ⟨σ', H', I', f', c', rfl, l, hf, hc⟩ := hs
        refine wpAny_execs_cons (wpAny_Return_some (wpAny_mono ((pe_var (X := cxOf CX0 P w K mg base N52 "_law_teller" (defScope (topS 52)) f (.ref cd) A outer s H E) (i := 3) (pos := p1) rfl (Or.inl rfl)).run [] s2 _ H' (fun v H2 => v = .ref f' ∧ H2 = H') I' ⟨.ref f', rfl, rfl, rfl⟩) (fun u s3 hu => ?_) fun _ _ hs => hs))
        obtain ⟨v, H2, I3, rv, e1, e2⟩ := hu
        subst e1
        rw [e2] at I3
        obtain rfl : u = Value.ref f' := rv
        refine ⟨_, rfl, ?_⟩
        have caps := NdefX.Caps.made (fr := frG) (js := [1, 2, 0]) I3.ok hfree (by decide +kernel) rfl
        have cl := NdefX.cells_of I3 caps
        refine end_ce (v := .ref f') (S := clS (cloFrom (cxOf CX0 P w K mg base N52 "_law_teller" (defScope (topS 52)) f (.ref cd) A outer s H E).env.cells (C8.fnScope stG).names [])) I3 rfl (fun a ⟨y, e⟩ => ?_) rfl fun H'' no yes => ?_
        · have e' := caps.sub y a e
          obtain ⟨v, o, e1, _⟩ := I3.cell y a e'
          exact ⟨I3.ok.cab y a rfl e', I3.freeC y a e', o, e1⟩
        · have nS : ∀ {a o}, H' a = some o → ¬ clS (cloFrom (cxOf CX0 P w K mg base N52 "_law_teller" (defScope (topS 52)) f (.ref cd) A outer s H E).env.cells (C8.fnScope stG).names []) a := fun {a o} z ⟨y, e⟩ => by
            rw [I3.freeC y a (caps.sub y a e)] at z
            cases z
          have up : ∀ a o, H' a = some o → H'' a = some o := fun a o z => (no a (nS z)).trans z
          have l2 : Le c J H H'' := by
            refine ⟨fun b o e n m => up _ _ (l.ex b o e n m), ⟨l.ok.tab.ext up, fun p hp => ?_, J.sta H' _ l.ok.inv (fun p hp => ?_) fun b xs e => up _ _ e⟩, fun p z => ?_⟩
            · obtain ⟨o, e, m⟩ := l.ok.live p hp
              exact ⟨o, up _ _ e, m⟩
            · obtain ⟨o, e, m⟩ := l.ok.live p hp
              rw [e]
              exact up _ _ e
            · refine l.fr p ?_
              cases e : H' p with
              | none => rfl
              | some o => rw [up _ _ e] at z; cases z
          refine q f' c' _ H'' l2 (up _ _ hf) (up _ _ hc) ⟨rfl, cl.inj, fun y d e => ?_, fun i y e => ?_⟩
          · obtain ⟨v, o, e1, e2⟩ := (cl.all y d e).2
            obtain ⟨o', e3, e4⟩ := yes d ⟨y, e⟩
            rw [e1] at e3
            cases e3
            exact ⟨o, v, e4, e2⟩
          · obtain ⟨d, e1, e2⟩ := cl.has i y e
            refine ⟨d, e1, fun v z => ?_⟩
            obtain ⟨u, r, o, e5, e6⟩ := e2 v z
            obtain ⟨o', e3, e4⟩ := yes d ⟨y, e1⟩
            rw [e5] at e3
            cases e3
            exact ⟨o, u, r, e4, e6⟩
      | ret _ => exact (hs.choose_spec.choose_spec.choose_spec.2.2).elim
      | brk =>
        obtain ⟨_, _, _, z⟩ := hs
        exact z.elim
      | cont =>
        obtain ⟨_, _, _, z⟩ := hs
        exact z.elim
  · rcases List.mem_cons.mp hp with rfl | hp
    · rfl
    · rw [List.mem_singleton.mp hp] at e
      exact absurd e.symm B.ne
end
end K93
set_option maxHeartbeats 4000000
/-! K93L: tables by a function: row_by, made_by. -/
namespace K93
open PySem PySem.Spec PyProof.Rows L2
section
variable {K : PySem.W.Frag} {pa : List Addr} {H : Hp} {a : Addr}
mutual
theorem DD.liftF (n : ∀ xs, H a ≠ some (.tup xs)) : ∀ (d : PyData) (v : V), fl d = true → DD K pa H v d → DD K (a :: pa) H v d
  | .none, _, _, h => by cases h; exact .non
  | .bool _, _, _, h => by cases h; exact .bl _
  | .int _, _, _, h => by cases h; exact .int _
  | .str _, _, _, h => by cases h; exact .str _
  | .list ds, _, f, h => by unfold fl at f; cases f
  | .tuple ds, _, f, h => by
    rw [fl_tup] at f
    cases h with
    | tup h1 h2 h3 => exact .tup h1 (fun z => (List.mem_cons.mp z).elim (fun e => n _ (e ▸ h1)) h2) (DDs.liftF n ds _ f h3)
  | .dict _, _, f, h => by unfold fl at f; cases f
theorem DDs.liftF (n : ∀ xs, H a ≠ some (.tup xs)) : ∀ (ds : List PyData) (vs : List V), fls ds = true → DDs K pa H vs ds → DDs K (a :: pa) H vs ds
  | [], _, _, h => by cases h; exact .nil
  | d :: ds, _, f, h => by
    unfold fls at f
    rw [Bool.and_eq_true] at f
    cases h with
    | cons h1 h2 => exact .cons (DD.liftF n d _ f.1 h1) (DDs.liftF n ds _ f.2 h2)
end
mutual
theorem DD.liftD {kvs : List (List Key × V)} (e : H a = some (.dT kvs)) : ∀ (d : PyData) (v : V), DD K pa H v d → DD K (a :: pa) H v d
  | .none, _, h => by cases h; exact .non
  | .bool _, _, h => by cases h; exact .bl _
  | .int _, _, h => by cases h; exact .int _
  | .str _, _, h => by cases h; exact .str _
  | .list ds, _, h => by
    cases h with
    | lst h1 h2 h3 => exact .lst h1 (fun z => (List.mem_cons.mp z).elim (fun q => by rw [q, e] at h1; cases h1) h2) (DDs.liftD e ds _ h3)
  | .tuple ds, _, h => by
    cases h with
    | tup h1 h2 h3 => exact .tup h1 (fun z => (List.mem_cons.mp z).elim (fun q => by rw [q, e] at h1; cases h1) h2) (DDs.liftD e ds _ h3)
  | .dict _, _, h => by
    cases h with
    | opq h1 h2 =>
      refine .opq h1 fun z => (List.mem_cons.mp z).elim (fun q => ?_) h2
      rcases h1 with h1 | ⟨_, _, _, h1, _⟩ <;> rw [q, e] at h1 <;> cases h1
theorem DDs.liftD {kvs : List (List Key × V)} (e : H a = some (.dT kvs)) : ∀ (ds : List PyData) (vs : List V), DDs K pa H vs ds → DDs K (a :: pa) H vs ds
  | [], _, h => by cases h; exact .nil
  | d :: ds, _, h => by
    cases h with
    | cons h1 h2 => exact .cons (DD.liftD e d _ h1) (DDs.liftD e ds _ h2)
end
end
section
variable {X : Cx} {c : Kx} {I J : Ix c.pa} {σ : St} {H H1 : Hp} {o e : Expr} {pos apos cpos : Pos} {a : Addr} {xs : List V} {ds es : List PyData} {d : PyData} {D : Ends} {rest : List Stmt} {u : HO}
/-- an own container stands while others run -/
theorem Le.lift (na : a ∉ c.pa) (l : Le c J H H1) (h : H a = some u) (m : Mo u = true) : Le (c.up a) (J.up a) H H1 := ⟨l.ex.up, l.ok.up (l.at h (fun ps z => by rw [z] at m; cases m) na) m, l.fr⟩
theorem sb_appS (na : a ∉ c.pa) (ok : Ok (c.up a) (I.up a) H) (ea : H a = some (.lst xs)) (dm : DDs X.K (c.up a).pa H xs ds) (ho : EV X c I I o σ H fun v _ => v = .ref a) (h : ED X c I J e σ H d) (hf : fl d = true) (hz : ds.length < 1000000)
    (k : ∀ ys H1, Le (c.up a) (J.up a) H H1 → H1 a = some (.lst ys) → DDs X.K (c.up a).pa H1 ys (ds ++ [d]) → SB X D rest σ H1)
    (hbase : attributeBase o "append" X.env (eval o X.env) = eval o X.env := by rfl)
    (hfew : ((backTo cpos (starEach [e] X.env)).all (fun x => !x.1) && (backToKw cpos (keywordEach [] X.env)).all (fun x => x.1.isSome) && decide (([e] : List Expr).length + ([] : List Keyword).length + (if ([] : List Keyword).isEmpty then 0 else 1) < 30)) = true := by rfl)
    (hline : (apos.endLine == cpos.line) = true := by rfl) (hs : starEach [e] X.env = (false, eval e X.env) :: starEach [] X.env := by rfl) (hplain : (backTo cpos (starEach [] X.env)).any (·.1) = false := by rfl)
    (hsw : swapsWith (.Call (.Attribute o "append" apos) [e] [] cpos) none pos.line X.env = pure false := by rfl) : SB X D (.Expr (.Call (.Attribute o "append" apos) [e] [] cpos) pos :: rest) σ H :=
  sb_app ok.down ho h (fun H1 l => l.at ea (fun _ z => nomatch z) na) (fun H1 l => l.at ea (fun _ z => nomatch z) na) (by rw [dm.length]; exact hz) (fun v H1 l w => by
    have e1 := l.at ea (fun _ z => nomatch z) na
    have l2 := l.lift na ea rfl
    exact k _ _ (.put na l2 e1 rfl rfl) upd_same (((l2.dds dm).snoc (DD.liftF (fun xs z => by rw [e1] at z; cases z) d v hf w)).mono (Ex.chg (List.mem_cons_self ..)))) hbase hfew hline hs hplain hsw
end
theorem ed_callS1 {X : Cx} {c : Kx} {I : Ix c.pa} {N k : Nat} {Pr : List Int → Prop} {ans : List Int → PyData} {σ : St} {H : Hp} {v : V} {e : Expr} {key : List Int} {x : Str} {p pos : Pos} (S : Sg X.prog X.w X.K X.mg X.base k c (fun _ => I) N Pr ans H v) (j : Nat) (hs : σ[j]? = some (some v)) (hr : Room k X.A) (ha : ED X c I I e σ H (TI key)) (hi : 0 < N) (hp : Pr key)
    (hN : X.N[j]? = some x := by rfl) (hv : Vis X.env.scope x := by first | exact Or.inl rfl | exact Or.inr (Or.inl rfl) | exact Or.inr (Or.inr rfl)) (hd : (x == ("__debug__" : Str)) = false := by decide) (hcd : (x == ("__classdict__" : Str)) = false := by decide)
    (he : starEach [e] X.env = (false, eval e X.env) :: starEach [] X.env := by rfl) : ED X c I I (.Call (.Name x p) [e] [] pos) σ H (ans key) := ed_callS (i := 0) S hs hr ha hi hp hN hv hd hcd he
/-! ### rows by a function -/
def endB (bs ms : List Int) (tl : List Int → List Int) (cc : List Int) (k : Nat) : List Int := if bs.getD k 0 ≤ cc.getD k 0 then tl (rz cc k (ms.getD k 0)) else tl cc
def rowB (bs ms : List Int) (tl : List Int → List Int) (cc : List Int) : List (Int × List Int) := (List.range (tl cc).length).map fun i => ((tl cc).getD i 0, (List.range cc.length).map fun k => (endB bs ms tl cc k).getD i 0 - (tl cc).getD i 0)
structure RbOk (bs ms : List Int) (tl : List Int → List Int) (Pr : List Int → Prop) (cc : List Int) : Prop where
  lb : bs.length = cc.length
  lm : ms.length = cc.length
  l2 : cc.length ≤ 1000
  many : (tl cc).length ≤ 1000
  pr : Pr cc
  prz : ∀ k, k < cc.length → bs.getD k 0 ≤ cc.getD k 0 → Pr (rz cc k (ms.getD k 0))
  same : ∀ k, k < cc.length → bs.getD k 0 ≤ cc.getD k 0 → (tl (rz cc k (ms.getD k 0))).length = (tl cc).length
theorem RbOk.end_len {bs ms : List Int} {tl : List Int → List Int} {Pr : List Int → Prop} {cc : List Int} (h : RbOk bs ms tl Pr cc) {k : Nat} (hk : k < cc.length) : (endB bs ms tl cc k).length = (tl cc).length := by
  unfold endB
  split
  · exact h.same k hk (by assumption)
  · rfl
section
variable {P : Program} {w : World} {K : PySem.W.Frag} {mg : Str → Option Value} {base : Heap}
def spRow (P : Program) (w : World) (K : PySem.W.Frag) (mg : Str → Option Value) (base : Heap) : Sp := fun vs H Q _ => ∃ (c : Kx) (I : Ix c.pa) (Pr : List Int → Prop) (tl : List Int → List Int) (vf vb vm vc : V) (bs ms cc : List Int), vs = [vf, vb, vm, vc] ∧ Ok c I H ∧
  Sg P w K mg base 4 c (fun _ => I) 1 Pr (fun k => TI (tl k)) H vf ∧ DD K c.pa H vb (TI bs) ∧ DD K c.pa H vm (TI ms) ∧ DD K c.pa H vc (TI cc) ∧ RbOk bs ms tl Pr cc ∧ ∀ v H1, Le c I H H1 → DD K c.pa H1 v (rD (rowB bs ms tl cc)) → Q v H1
abbrev N35 : List Str := ["function", "bounds", "measures", "cell", "begin", "ends", "k", "found", "at", "end"]
theorem sc35 : FnScope N35 ["function", "bounds", "measures", "cell"] (defScope (topS 35)) := ⟨rfl, rfl, rfl, by decide +kernel, rfl, by decide +kernel, by decide +kernel⟩
theorem f35 (T : Tx K mg) : FnD P w K mg base CX0 5 "row_by" (spRow P w K mg base) :=
  any_fn T.d35 sc35 (fun vs H Q E ⟨_, _, _, _, _, _, _, _, _, _, _, h, _⟩ => by rw [h]; rfl) fun f cdv A outer s H E vs Q hr h => by
    obtain ⟨c, I, Pr, tl, vf, vb, vm, vc, bs, ms, cc, rfl, ok, S, hb, hm, hc, R, q⟩ := h
    have lb := R.lb
    have lm := R.lm
    have l1000 := R.l2
    have my := R.many
    refine sb_set 4 ok (ed_callS1 S 0 rfl hr (ed_var 3 rfl hc) (by decide) R.pr) sc35.nd fun v4 H1 l1 h4 => ?_
    refine sb_set 5 l1.ok ev_lnew sc35.nd fun v5 H2 l2 hv => ?_
    obtain ⟨a, rfl, h0, na, ha⟩ := hv
    have m0 : a ∈ (c.up a).pa := List.mem_cons_self ..
    have hcu := (l1.dd hc).upAt h0 l2
    refine sb_for1G 6 ((l2.ok.up ha rfl).pin m0 ha) (it_range (j := cc.length) T.B (ED.is (ed_lenT T.B (ed_var 3 rfl hcu)) (by rw [List.length_map])) (by omega)) sc35.nd never fun H3 l3 => ?_
    refine ⟨fun _ => I.up a, fun i σ' H' => ∃ w6 xs, σ' = [some vf, some vb, some vm, some vc, some v4, some (.ref a), w6, none, none, none] ∧ Le (c.up a) (I.up a) H3 H' ∧ H' a = some (.lst xs) ∧ DDs K (c.up a).pa H' xs ((List.range i).map fun k => TI (endB bs ms tl cc k)), ⟨none, [], rfl, .refl l3.ok.unpin, l3.ok.inv.2, .nil⟩, ?_, ?_, ?_⟩
    · rintro i σ' H' _ ⟨w6, xs, rfl, lH, _, _⟩
      exact ⟨lH.ex, lH.ok⟩
    · rintro i u σ' H4 H5 hi ⟨w6, xs, rfl, lH, ea, dm⟩ g d6
      have l5 := g.le lH.ok
      have ea := g.at ea
      have lc := l1.trans (l2.down h0 ((l3.unpin.trans lH).trans l5))
      have d6 := DD.less (fun b hb => List.mem_cons_of_mem a hb) _ _ d6
      have lc1 := l2.down h0 ((l3.unpin.trans lH).trans l5)
      refine sb_appS (J := I) na l5.ok ea (l5.dds dm) (ev_var 5 rfl) (d := TI (endB bs ms tl cc i)) (ev_if (P := fun v H' => DD K c.pa H' v (TI (endB bs ms tl cc i))) (tv_val (ed_call ((f23 T).mono (by decide)) hr (ad_cons (ed_var 1 rfl (lc.dd hb)) (ad_cons (ed_var 3 rfl (lc.dd hc)) (ad_cons (ed_var 6 rfl d6) ad_nil))) ⟨_, _, i, rfl, by omega, hi, rfl⟩)) (fun z => ?_) fun z => ?_) (fl_TI _) (by rw [List.length_map, List.length_range]; omega) fun ys H6 l6 ea6 dm6 => ?_
      · have z := of_decide_eq_true z
        exact ED.is (ed_callS1 (S.mono lc.ex) 0 rfl hr (ed_call ((f34 T).mono (by decide)) hr (ad_cons (ed_var 3 rfl (lc.dd hc)) (ad_cons (ed_var 6 rfl d6) (ad_cons (ed_ixT (ed_var 2 rfl (lc.dd hm)) (ed_var 6 rfl d6) (TI_ix (by omega))) ad_nil))) ⟨_, i, _, rfl, hi, by omega, rfl⟩) (by decide) (R.prz i hi z)) (by unfold endB; rw [if_pos z])
      · have z := of_decide_eq_false z
        exact ED.is (ed_var 4 rfl (lc1.dd h4)) (by unfold endB; rw [if_neg z])
      · refine sb_nil ⟨_, ys, rfl, lH.trans (l5.trans l6), ea6, ?_⟩
        rw [rSn]
        exact dm6
    · rintro σ' H4 ⟨w6, xs, rfl, lH, ea, dm⟩
      have lE := l2.down h0 (l3.unpin.trans lH)
      have d5 := own_dd na ea dm
      refine sb_set 7 lE.ok ev_lnew sc35.nd fun v7 H5 l5 hv => ?_
      obtain ⟨a2, rfl, h02, na2, ha2⟩ := hv
      have m02 : a2 ∈ (c.up a2).pa := List.mem_cons_self ..
      have h4u := (lE.dd h4).upAt h02 l5
      have h5u := d5.upAt h02 l5
      refine sb_for1G 8 ((l5.ok.up ha2 rfl).pin m02 ha2) (it_range (j := (tl cc).length) T.B (ED.is (ed_lenT T.B (ed_var 4 rfl h4u)) (by rw [List.length_map])) (by omega)) sc35.nd never fun H6 l6 => ?_
      refine ⟨fun _ => I.up a2, fun i σ' H' => ∃ w8 xs, σ' = [some vf, some vb, some vm, some vc, some v4, some (.ref a), w6, some (.ref a2), w8, none] ∧ Le (c.up a2) (I.up a2) H6 H' ∧ H' a2 = some (.lst xs) ∧ DDs K (c.up a2).pa H' xs ((List.range i).map fun i => fD ((tl cc).getD i 0, (List.range cc.length).map fun k => (endB bs ms tl cc k).getD i 0 - (tl cc).getD i 0)), ⟨none, [], rfl, .refl l6.ok.unpin, l6.ok.inv.2, .nil⟩, ?_, ?_, ?_⟩
      · rintro i σ' H' _ ⟨w8, xs, rfl, lJ, _, _⟩
        exact ⟨lJ.ex, lJ.ok⟩
      · rintro i u σ' H7 H8 hi ⟨w8, xs, rfl, lJ, ea, dm⟩ g d8
        have l8 := g.le lJ.ok
        have lB := (l6.unpin.trans lJ).trans l8
        have h4' := lB.dd h4u
        have h5' := lB.dd h5u
        refine sb_appO na2 l8.ok (g.at ea) (l8.dds dm) (ev_var 7 rfl) (d := fD ((tl cc).getD i 0, (List.range cc.length).map fun k => (endB bs ms tl cc k).getD i 0 - (tl cc).getD i 0)) (ed_tup (ad_cons (ed_ixT (ed_var 4 rfl h4') (ed_var 8 rfl d8) (TI_ix hi)) (ad_cons (ED.is (ed_tupleL T.B (ED.is (ed_lcx [("end", 9)] (lc_S 9 [("end", 9)] (T := fun _ => (I.up a2).pin a2 m02 (.lst xs)) (n := cc.length) (ef := fun k => .int ((endB bs ms tl cc k).getD i 0 - (tl cc).getD i 0)) (IT.len (it_list (ed_var 5 rfl h5')) (by rw [List.length_map, List.length_range])) (by omega) (fun i hi => fl_int _) sc35.nd fun X' bl j v Hb hj l dv => ?_) sc35.nd (ok := blkOk_by (N := N35) (sc := defScope (topS 35)) (by decide +kernel))) (d' := .list (((List.range cc.length).map fun k => (endB bs ms tl cc k).getD i 0 - (tl cc).getD i 0).map .int)) (by rw [List.map_map]; rfl))) rfl) ad_nil))) (by rw [List.length_map, List.length_range]; omega) fun ys H9 l9 ea9 dm9 => ?_
        · obtain ⟨s', Hx, C, cl, fp, rfl⟩ := bl
          have ej : ((List.range cc.length).map fun k => TI (endB bs ms tl cc k)).getD j .none = TI (endB bs ms tl cc j) := by
            rw [List.getD_eq_getElem?_getD, List.getElem?_map, List.getElem?_range hj]
            rfl
          rw [ej] at dv
          exact ed_sub (ed_ixT (ed_var 9 rfl dv) (ed_var 8 rfl (l.dd d8)) (TI_ix (by rw [R.end_len hj]; exact hi))) (ed_ixT (ed_var 4 rfl (l.dd h4')) (ed_var 8 rfl (l.dd d8)) (TI_ix hi))
        · refine sb_nil ⟨_, ys, rfl, lJ.trans (l8.trans l9), ea9, ?_⟩
          rw [rSn]
          exact dm9
      · rintro σ' H7 ⟨w8, xs, rfl, lJ, ea, dm⟩
        have lF := l5.down h02 (l6.unpin.trans lJ)
        refine sb_ret lF.ok (ED.is (ed_tupleL T.B (ed_var 7 rfl (own_dd na2 ea dm))) ?_) fun v H9 l9 hv => q v H9 (l1.trans (lE.trans (lF.trans l9))) hv
        unfold rD rowB
        rw [List.map_map]
        rfl
/-! ### made_by -/
def spMd (P : Program) (w : World) (K : PySem.W.Frag) (mg : Str → Option Value) (base : Heap) : Sp := fun vs H Q _ => ∃ (c : Kx) (I : Ix c.pa) (Pr : List Int → Prop) (tl : List Int → List Int) (vf vb vm : V) (bs ms : List Int), vs = [vf, vb, vm] ∧ Ok c I H ∧
  Sg P w K mg base 4 c (fun _ => I) 1 Pr (fun k => TI (tl k)) H vf ∧ DD K c.pa H vb (TI bs) ∧ DD K c.pa H vm (TI ms) ∧ BM bs ms ∧ mc bs ms ≤ 1000 ∧ (∀ cc ∈ cells bs ms, RbOk bs ms tl Pr cc) ∧
  ∀ v H1, Le c I H H1 → TbO K c.pa H1 v bs ms ((cells bs ms).map (rowB bs ms tl)) → Q v H1
abbrev N36 : List Str := ["function", "bounds", "measures", "rows", "cell"]
theorem sc36 : FnScope N36 ["function", "bounds", "measures"] (defScope (topS 36)) := ⟨rfl, rfl, rfl, by decide +kernel, rfl, by decide +kernel, by decide +kernel⟩
theorem fl_rD (fs : List (Int × List Int)) : fl (rD fs) = true := by
  unfold rD
  rw [fl_tup]
  refine fls_all fun d hd => ?_
  obtain ⟨f, _, rfl⟩ := List.mem_map.mp hd
  unfold fD
  rw [fl_tup]
  exact fls_all fun d hd => by
    rcases List.mem_cons.mp hd with rfl | hd
    · exact fl_int _
    · rw [List.mem_singleton.mp hd]; exact fl_TI _
theorem f36 (T : Tx K mg) : FnD P w K mg base CX0 6 "made_by" (spMd P w K mg base) :=
  any_fn T.d36 sc36 (fun vs H Q E ⟨_, _, _, _, _, _, _, _, _, h, _⟩ => by rw [h]; rfl) fun f cdv A outer s H E vs Q hr h => by
    obtain ⟨c, I, Pr, tl, vf, vb, vm, bs, ms, rfl, ok, S, hb, hm, B, most, R, q⟩ := h
    have lc2 : ((cells bs ms).length : Int) = mc bs ms := cellsI_len B bs.length (Nat.le_refl _)
    obtain ⟨C, fi, fk, fdi, fdk, Ct, Fi, Bi, Fk, Bk⟩ := T.rt
    refine sb_lc 3 [("cell", 4)] ok (lc_S 4 [("cell", 4)] (T := fun _ => I) (n := (cells bs ms).length) (ef := fun k => rD (rowB bs ms tl ((cells bs ms).getD k []))) (IT.len (it_list (ed_call ((f22 T).mono (by decide)) hr (ad_cons (ed_var 1 rfl hb) (ad_cons (ed_var 2 rfl hm) ad_nil)) ⟨_, _, rfl, B, by omega, rfl⟩)) (List.length_map _)) (by omega) (fun i hi => fl_rD _) sc36.nd fun X' bl i v Hb hi l dv => ?_) sc36.nd ?_ (ok := blkOk_by (N := N36) (sc := defScope (topS 36)) (by decide +kernel))
    · obtain ⟨s', Hx, C', cl, fp, rfl⟩ := bl
      rw [getD_map (d := []) hi] at dv
      refine ev_call (R := fun vs H' => ∃ v r, vs = v :: r ∧ (v = vf) ∧ DDs K c.pa H' r [TI bs, TI ms, TI ((cells bs ms).getD i [])]) (f35 (P := P) (w := w) (base := base) T) hr (av_cons (ev_var 0 rfl) (fun _ _ _ _ h => h) (ad_cons (ed_var 1 rfl (l.dd hb)) (ad_cons (ed_var 2 rfl (l.dd hm)) (ad_cons (ed_var 4 rfl dv) ad_nil)))) fun vs H1 l1 w Q q => ?_
      obtain ⟨v, r, rfl, rfl, w⟩ := w
      obtain ⟨b1, b2, b3, rfl, w1, w2, w3⟩ := dds3 w
      exact ⟨c, I, Pr, tl, _, _, _, _, bs, ms, _, rfl, l1.ok, S.mono (l.trans l1).ex, w1, w2, w3, R _ (getD_memL hi), fun v H2 l2 d => q v H2 l2 d⟩
    · intro v3 H1 l1 h3
      have e3 : ((List.range (cells bs ms).length).map fun k => rD (rowB bs ms tl ((cells bs ms).getD k []))) = ((cells bs ms).map (rowB bs ms tl)).map rD := by
        rw [List.map_map]
        exact range_map [] (fun cc => rD (rowB bs ms tl cc)) (cells bs ms)
      have h3 : DD K c.pa H1 v3 (.list (((cells bs ms).map (rowB bs ms tl)).map rD)) := e3 ▸ h3
      exact sb_ret l1.ok (ev_mk Ct ((fRaw Fi).mono (by decide)) Bi Fk Bk (hr.mono (by decide)) (ad_cons (ed_var 1 rfl (l1.dd hb)) (ad_cons (ed_var 2 rfl (l1.dd hm)) (ad_cons (ED.is (ed_tupleL T.B (ed_var 3 rfl h3)) rfl) ad_nil))) trivial (k := 4)) fun v H2 l2 hv => q v H2 (l1.trans l2) hv
end
end K93
set_option maxHeartbeats 4000000
/-! K93L2: the lambda that reads what was told. -/
namespace K93
open PySem PySem.Spec PyProof.Rows L2
def lamE : Expr := match (defBody (topS 39)).getD 7 (.Pass ⟨0, 0, 0, 0⟩) with
  | .Return (some (.Call _ (l :: _) _ _)) _ => l
  | _ => .Constant .none 0 ⟨0, 0, 0, 0⟩
def lamA : Arguments := match lamE with
  | .Lambda a _ _ _ => a
  | _ => ⟨[], [], none, [], [], none, []⟩
def lamB : Expr := match lamE with
  | .Lambda _ b _ _ => b
  | _ => .Constant .none 0 ⟨0, 0, 0, 0⟩
def lamS : Scope := match lamE with
  | .Lambda _ _ s _ => s
  | _ => defScope (topS 39)
theorem lam_eq : ∃ pos, lamE = .Lambda lamA lamB lamS pos := ⟨_, rfl⟩
theorem lamB_eq : ∃ p1 p2 p3, lamB = .Subscript (.Name "told" p1) (.Name "given" p2) p3 := ⟨_, _, _, rfl⟩
abbrev qL : Str := "learned.<locals>.<lambda>"
abbrev NL : List Str := ["given", "told"]
def lmF (cl : List (Str × Addr)) (d : Addr) : NdefX.NF := ⟨"<lambda>", qL, lamA, [], lamS, cl, d⟩
theorem scLm (cl : List (Str × Addr)) (d : Addr) : NdefX.NScope NL ["given"] ["told"] (lmF cl d).scope := NdefX.nscope_by (show NdefX.nscB NL ["given"] ["told"] lamS = true by decide +kernel)
theorem Sg.congr {P : Program} {w : World} {K : PySem.W.Frag} {mg : Str → Option Value} {base : Heap} {k : Nat} {c : Kx} {T : Nat → Ix c.pa} {N : Nat} {Pr Pr' : List Int → Prop} {ans ans' : List Int → PyData} {H0 : Hp} {v : V} (h : Sg P w K mg base k c T N Pr ans H0 v) (e : ∀ k, Pr' k → Pr k ∧ ans k = ans' k) : Sg P w K mg base k c T N Pr' ans' H0 v := by
  obtain ⟨f, h1, h2, h3⟩ := h.ex
  exact ⟨f, h1, h2, fun A outer s H b key i Q E a b' c d x y z q => h3 A outer s H b key i Q E a (e key b').1 c d x y z fun v H' l dd => q v H' l ((e key b').2 ▸ dd)⟩
section
variable {P : Program} {w : World} {K : PySem.W.Frag} {mg : Str → Option Value} {base : Heap}
theorem sg_L {c : Kx} {I : Ix c.pa} {td : Addr} {kvs : List (List Int × V)} {m : List (List Int × PyData)} {H0 : Hp} {f d : Addr} {cl : List (Str × Addr)} {pm ctv : Value}
    (k0 : Ok c I H0) (hf : H0 f = some (XO f (PySem.W.kla_obj "<lambda>" qL lamA lamB lamS cl pm d ctv))) (hd : H0 d = some (LamX.CodeO d qL)) (hcl : ClO cl ["told"] [some (.ref td)] H0) (nO : td ∉ c.pa) (hO : H0 td = some (.dT (enT kvs))) (dm : DM K c.pa H0 kvs m) :
    Sg P w K mg base 4 c (fun _ => I) 1 (fun k => (lkA m k).isSome = true) (fun k => (lkA m k).getD .none) H0 (.ref f) := by
  have nf : f ∉ c.pa := ext_npa k0 hf
  have nd : d ∉ c.pa := ext_npa k0 hd
  refine ⟨f, rfl, fun i H h x k ok => ?_, fun A outer s H b key i Q E hi hp hr e0 x k hb q => ?_⟩
  · exact ⟨_, _, _, _, xo_at ok (x f _ hf (fun _ z => nomatch z) nf)⟩
  · have hf1 := x f _ hf (fun _ z => nomatch z) nf
    have hd1 := x d _ hd (fun _ z => nomatch z) nd
    have hcl1 := hcl.mono k0 x
    have hO1 := x td _ hO (fun _ z => nomatch z) nO
    have dm1 := dm.mono x
    have X := hcl1.hid
    have ok' : Ok c I (hid (clS cl) H) := hid_ok X k fun a q s => hcl1.code e0.hok s
    have e1 := hid_env0 X e0
    have ho : s.heap.get? f = some (PySem.W.kla_obj "<lambda>" qL lamA lamB lamS cl pm d ctv) := xo_at e0.hok hf1
    have S := scLm cl d
    have lim : s.heap.NoLimit := e0.mod.nolimit.keeps fun b o e => (e0.bs b o e).1
    have hu : (NdefX.ncx CX0 P w K mg base NL (lmF cl d) f A outer s (hid (clS cl) H) E).A.units + 1 < cLine := by have := hr.un; show A.units + 3 + 1 < cLine; omega
    have hb1 : hid (clS cl) H b = some (.tup (key.map V.int)) := X.keep hb (fun _ z => nomatch z)
    have run : codeAny (model P w) A (.call (.ref f) ⟨[.ref b], []⟩) (CR CX0 outer P w (hid (clS cl) H) s (fun v H' => Le c I (hid (clS cl) H) H' ∧ DD K c.pa H' v ((lkA m key).getD .none)) E) s := by
      refine PySem.W.kla_callFunE hr.depth ho rfl S.co S.gen rfl (NdefX.codeO_at e0.hok hd1) ?_
      have hbind : bindArgs (PySem.W.kla_fn "<lambda>" qL lamA lamB lamS cl pm (.ref d) ctv) ⟨[.ref b], []⟩ = pure ((["given"] : List Str).zip [Value.ref b]) := rfl
      rw [hbind]
      refine wpAny_pure (wpAny_newFunctionEnv S.nocell (fun ⟨n, _⟩ hy => S.par n (List.of_mem_zip hy).1) (fun h₁ hns hsb => ⟨lim.fresh _ hsb, ?_⟩) S.kind)
      show codeAny _ _ (.expr lamB (NdefX.envF (lmF cl d) f s.heap.objs.size)) _ _
      have kp : ∀ b o, s.heap.get? b = some o → h₁.get? b = some o := fun b o e => hsb.extBut b o (Nat.ne_of_lt (Heap.lt_size e)) (Heap.get?_push_of_some _ e)
      have Iv : Inv (NdefX.ncx CX0 P w K mg base NL (lmF cl d) f A outer s (hid (clS cl) H) E) [] (NdefX.startF NL [.ref b] [some (.ref td)]) (hid (clS cl) H) { s with heap := h₁, toks := s.toks + ((["given"] : List Str).zip [Value.ref b]).length } :=
        NdefX.inv_startN S hr.hd e1 rfl (.cons rfl .nil) (hcl1.cells e0.hok) hns kp
      obtain ⟨p1, p2, p3, eB⟩ := lamB_eq
      obtain ⟨dd, hdd⟩ := Option.isSome_iff_exists.mp hp
      obtain ⟨vv, hvv, dvv⟩ := dm1.get hdd
      have E1 : ED (NdefX.ncx CX0 P w K mg base NL (lmF cl d) f A outer s (hid (clS cl) H) E) c I I (.Subscript (.Name "told" p1) (.Name "given" p2) p3) (NdefX.startF NL [.ref b] [some (.ref td)]) (hid (clS cl) H) dd :=
        ed_dget hu (ev_var 1 rfl) (ed_var 0 rfl (.tup hb1 (ok'.ntup hb1) (DDs.ofInts _))) (fun H1 l => l.at (X.keep hO1 (fun _ z => nomatch z)) (fun _ z => nomatch z) nO) hvv fun H1 l => l.dd (hid_dd X dvv)
      rw [eB]
      refine PySem.W.kla_codeExpr (wpAny_mono ((E1 _ (.refl ok') (fun v H' => Le c I (hid (clS cl) H) H' ∧ DD K c.pa H' v dd) (fun v H2 l2 w => ⟨l2, w⟩)).out [] _ Iv) (fun v s' hq => ?_) fun e s' hq => hq)
      obtain ⟨w', H', J', rv, l, dq⟩ := hq
      exact ⟨w', H', J'.os, J'.bare, J'.base, J'.hok, rv, l, by rw [hdd]; exact dq⟩
    exact codeAny_mono run fun r s' hq => sho_cr X e0 (fun v H' g z => q v _ (sho_le X g z.1) (sho_dd g z.2)) hq
end
end K93
set_option maxHeartbeats 4000000
/-! K93N: exceptions of the text's own, each with one field, whose __init__ calls that of ValueError by super(). -/
namespace PySem
namespace K93S
open PySem.W PySem.Calls PyProof.Rows
section
variable {prog : Program} {w : World} {A : Around} {E : Value → Shared → Prop} {h : Heap} {g : Array GenState} {d : Drawn} {t : Nat} {os : OsState}
variable {nm q : Str} {C N : Addr} {bs bm : List Value} {hdct : Bool} {sn : List Str} {sub : List Value} {ab : Bool} {col : Option Bool} {dd : Option Addr} {k0 k1 k2 k3 k5 : Option Value}
/-- ValueError.__init__, bound to the exception at e, is called -/
theorem call_mw {u e t0 : Addr} {rest : List Value} {Q : Value → Shared → Prop} (hC : h.get? C = some (excClassObj nm q C N bs bm hdct sn sub ab col dd k0 k1 k2 k3 k5 "ValueError.__new__")) (he : h.get? e = some (HandSPX.excO C t0)) (hu : h.get? u = some (kxs_mw "ValueError.__init__" e)) (hrest : rest.length ≤ sizeLine)
    (hq : ∀ h' t1, (∀ b o, b ≠ e → h.get? b = some o → h'.get? b = some o) → h'.get? e = some (HandSPX.excO C t1) → Q .none ⟨h', g, d, t, os⟩) : wpAny (model prog w) A (call (.ref u) rest) Q E ⟨h, g, d, t, os⟩ := by
  have FB := F.excBase_ValueError
  have yes : (Value.type "method-wrapper" == Value.type "method" || Value.type "method-wrapper" == Value.type "builtin_function_or_method" || Value.type "method-wrapper" == Value.type "method-wrapper") = true := by decide
  refine wpAny_call (codeAny_of_tree (show wpAny _ A.in1 (callAny (.ref u) ⟨rest, []⟩) _ _ _ from ?_))
  simp only [callAny]; refine wpAny_bind (wpAny_load hu ?_)
  simp only [kxs_mw, yes, if_true]; refine W.KFB.if_so (by decide) (wpAny_bind (ESX.check_bound FB hC he rfl ?_))
  refine wpAny_bind (wpAny_pure (wpAny_pure ⟨Code.quiet_builtin _ (by decide +kernel), codeAny_builtin FB.initEntry ?_⟩))
  rw [Around.under_plainId FB.init.plain _]; wp_walk
  refine hq _ h.objs.size (fun b o hb ho => (Heap.get?_update_other _ _ (Ne.symm hb)).trans (Heap.get?_push_of_some _ ho)) ?_
  rw [Heap.get?_update_self _ (Heap.get?_push_of_some _ he) rfl]; rfl
end
end K93S
end PySem

namespace K93
open PySem PySem.Spec PySem.W PyProof.Rows L2
/-- a class x of the text over ValueError, with an __init__(self, p) at fI that gives p to super().__init__ and keeps it as f -/
structure ExS (P : Program) (K : PySem.W.Frag) (mg : Str → Option Value) (x : Str) (C fI : Addr) (fd : FuncData) (qual : Str) (st : Stmt) (f : Str) : Prop where
  ox : OexC K C
  at_ : mg x = some (.ref C)
  fn : ∃ oc od kV doc pm an ct osl cda cc, fd = PySem.W.fnX "__init__" qual (defArgs st) (defBody st) (defScope st) [("__class__", cc)] .none kV doc pm an (.ref cda) ct ∧ K.lookup fI = some ⟨oc, od, .func fd, osl⟩ ∧ PySem.W.codeIn K (.ref cda) qual = true ∧
    (∃ ccl cdd vs ccs file tf, K.lookup cda = some ⟨ccl, cdd, .fields vs, ccs⟩ ∧ vs[2]? = some (.str file tf) ∧ ((P.main.file : Str) == file) = true) ∧ ∃ cl cld csl, K.lookup cc = some ⟨cl, cld, .cell (some (.ref C)), csl⟩
  bd : Binds K fd ["self", f] []
  in_ : PySem.W.findIn K (.ref C) "__init__" = some (some (.ref fI))
  ty : PySem.W.typeIn K (.ref fI) = some (.type "function")
  su : PySem.W.ks_superIn K C C "__init__" = some (some (.builtin "ValueError.__init__"))
  sb : PySem.W.subIn K (.ref C) (.type "ValueError") = some true
  mr : PySem.W.mroIn K C (.ref C) = some true
  no : PySem.W.findIn K (.ref C) f = some none
  op : PySem.W.nsIn K cStatics "thirdparty.any" = some none
  sp : mg "super" = none
  top : (P.main.scope.names.lookup ("super" : Str)).isSome = false
/-- the __init__ of such a class -/
def spEx (K : PySem.W.Frag) (C : Addr) (f : Str) : Sp := fun vs H Q _ => ∃ (a : Addr) (y : V), vs = [.ref a, y] ∧ H a = some (exo a C none) ∧ OexC K C ∧ PySem.W.findIn K (.ref C) f = some none ∧ ∀ dx, H dx = none → dx ≠ a → Q .non (upd (upd H dx (exd dx [(f, y)])) a (exo a C (some dx)))

structure ExT (st : Stmt) (f : Str) : Prop where
  body : ∃ p0 p1 p2 p3 p4 p5 p6 p7 p8 p9, defBody st = [.Expr (.Call (.Attribute (.Call (.Name "super" p0) [] [] p1) "__init__" p2) [.Name f p3] [] p4) p5, .Assign [.Attribute (.Name "self" p6) f p7] (.Name f p8) p9] ∧
    ∀ env : Env, ∃ pl : Sem Bool, eval (.Call (.Attribute (.Call (.Name "super" p0) [] [] p1) "__init__" p2) [.Name f p3] [] p4) env = (do
      let ov ← attributeBase (.Call (.Name "super" p0) [] [] p1) "__init__" env (eval (.Call (.Name "super" p0) [] [] p1) env)
      standAt p2.atName
      let (ff, first) ← holding [ov] (getMethod ov "__init__" pl)
      callWith p4 ff first (backTo p4 (starEach [.Name f p3] env)) [])
  sc : NdefX.NScope ["self", f, "__class__"] ["self", f] ["__class__"] (defScope st)
  ks : (defScope st).names.lookup ("super" : Str) = some .globalImplicit
  kc : (defScope st).names.lookup ("__class__" : Str) = some .free
  kself : (defScope st).names.lookup ("self" : Str) = some .local
  kf : (defScope st).names.lookup f = some .local
  ar : ∃ x, ((defArgs st).posonlyargs ++ (defArgs st).args).head? = some x ∧ x.arg = "self"
  nd1 : (f == ("__debug__" : Str)) = false
  nd2 : (f == ("__classdict__" : Str)) = false
section
variable {P : Program} {w : World} {K : PySem.W.Frag} {mg : Str → Option Value} {base : Heap}
theorem fEx {x qual f : Str} {C fI : Addr} {fd : FuncData} {st : Stmt} (S : ExS P K mg x C fI fd qual st f) (T : ExT st f) : FnOk P w K mg base CX0 1 fI fd ["self", f] (spEx K C f) := by
  obtain ⟨oc, od, kV, doc, pm, an, ct, osl, cda, cc, efd, lk, hcd, ⟨ccl, cdd, vs, ccs, file, tf, hcode, hvs, hfile⟩, cl, cld, csl, hcell⟩ := S.fn
  subst efd
  refine ⟨fun vs H Q E ⟨_, _, h, _⟩ => by rw [h]; rfl, fun A outer s H args us ws Q E hr e0 hbt r hsp => ?_⟩
  have kin : K.In s.heap := e0.mod.kin.keeps fun b o e => (e0.bs b o e).1
  obtain ⟨a, y, rfl, ha, ox, hno, q⟩ := hsp
  have nl : s.heap.NoLimit := e0.mod.nolimit.keeps fun b o e => (e0.bs b o e).1
  let F : NdefX.NF := ⟨"__init__", qual, defArgs st, defBody st, defScope st, [("__class__", cc)], cda⟩
  have hlc : ∀ y c, [(("__class__" : Str), cc)].lookup y = some c → y = "__class__" ∧ c = cc := fun y c e => by
    by_cases z : y = "__class__"
    · rw [z] at e
      cases e
      exact ⟨z, rfl⟩
    · have : (y == ("__class__" : Str)) = false := beq_eq_false_iff_ne.mpr z
      simp [List.lookup, this] at e
  have hcc : s.heap.get? cc = some ⟨cl, cld, .cell (some (.ref C)), csl⟩ := kin _ _ hcell
  have CA : NdefX.CellsAt [("__class__", cc)] ["__class__"] [some (.ref C)] s.heap H := ⟨rfl, fun y c e => by
      obtain ⟨rfl, rfl⟩ := hlc y c e
      exact ⟨(e0.bs _ _ (e0.mod.kin _ _ hcell)).2, _, _, hcc, rfl⟩, fun x y c e1 e2 => ((hlc x c e1).1).trans (hlc y c e2).1.symm, fun i y e => by
      cases i with
      | succ i => simp at e
      | zero =>
        cases e
        exact ⟨cc, rfl, fun v z => by cases z; exact ⟨_, rfl, _, hcc, rfl⟩⟩⟩
  refine codeAny_call_function hr.depth (kin _ _ lk) rfl T.sc.co T.sc.gen rfl (PySem.W.codeRec_of kin hcd) (hbt _ _ _ _ (wpAny_newFunctionEnv T.sc.nocell (fun ⟨n, _⟩ hy => T.sc.par n (List.of_mem_zip hy).1) (fun h₁ hns hsb => ⟨nl.fresh _ hsb, ?_⟩) T.sc.kind))
  have kp : ∀ b o, s.heap.get? b = some o → h₁.get? b = some o := fun b o e => hsb.extBut b o (Nat.ne_of_lt (Heap.lt_size e)) (Heap.get?_push_of_some _ e)
  obtain ⟨u0, uy, rfl, r0, ry⟩ : ∃ u0 uy, us = [u0, uy] ∧ RelV (.ref a) u0 ∧ RelV y uy := by
    cases r with
    | cons h1 h2 =>
      cases h2 with
      | cons h3 h4 =>
        cases h4
        exact ⟨_, _, rfl, h1, h3⟩
  obtain rfl : u0 = Value.ref a := r0
  have I : Inv (NdefX.ncx CX0 P w K mg base ["self", f, "__class__"] F fI A outer s H E) [] (NdefX.startF ["self", f, "__class__"] [.ref a, y] [some (.ref C)]) H { s with heap := h₁, toks := s.toks + ((["self", f] : List Str).zip [Value.ref a, uy]).length } :=
    NdefX.inv_startN T.sc hr.hd e0 rfl r CA hns kp
  obtain ⟨p0, p1, p2, p3, p4, p5, p6, p7, p8, p9, eb, hev⟩ := T.body
  show codeAny _ _ (.func (defBody st) (NdefX.envF F fI s.heap.objs.size)) _ _
  rw [eb]
  obtain ⟨pl, hev⟩ := hev (NdefX.envF F fI s.heap.objs.size)
  refine ks_codeAny_funcAt (ks_wpAt_execs_cons (ks_wpAt_Expr_any (ks_wpAt_MethodCall (pl := pl) ?_ hev) I.quiet rfl))
  obtain ⟨ar, har, hself⟩ := T.ar
  refine ks_wpAt_super_base (env := NdefX.envF F fI s.heap.objs.size) T.ks T.kc (by decide) rfl (I.kIn _ _ lk) rfl har rfl (I.kIn _ _ hcode) rfl hvs hfile S.top ?_
  obtain ⟨mb, b1, b2⟩ := I.mod.blt
  refine ks_loadName_global T.sc.kind T.ks (Calls.loadGlobal_builtin (env := NdefX.envF F fI s.heap.objs.size) (I.mod.glob.keeps I.bk) S.sp (b1.keeps I.bk) ((b2 _ (by decide)).trans PyProof.Rows.Boot.«super») ⟨rfl, ?_⟩)
  refine wpAny_loadName_free T.sc.kind T.kc rfl ⟨_, kp _ _ hcc, rfl⟩ ?_
  have nd2 : (["self", f] : List Str).Nodup := by
    have := T.sc.nd
    rw [List.nodup_cons] at this
    exact List.nodup_cons.mpr ⟨fun z => this.1 (List.mem_cons.mpr (.inl (List.mem_singleton.mp z))), List.nodup_cons.mpr ⟨(fun z => nomatch z), List.nodup_nil⟩⟩
  rw [hself]
  refine wpAny_loadName_local T.sc.kind T.kself hns (NdefX.zip_look (i := 0) nd2 rfl rfl) ?_
  obtain ⟨nm, qn, N, bs, bm, sn, sub, ab, col, dd, k0, k1, k2, k3, k5, hC, hbm⟩ := ox.cls
  obtain ⟨t1, hoa⟩ := exo_at I.hok ha
  refine ks_wpAny_isType_cls (I.kIn _ _ hC) rfl ⟨rfl, ?_⟩
  refine ks_wpAny_call_super (I.kIn _ _ hC) rfl hoa rfl (fun c e => nomatch e) (looks_mroIn I.kIn S.mr) fun h' hso k => ?_
  have I1 : Inv (NdefX.ncx CX0 P w K mg base ["self", f, "__class__"] F fI A outer s H E) [] (NdefX.startF ["self", f, "__class__"] [.ref a, y] [some (.ref C)]) H ⟨h', s.gens, s.drawn, s.toks + ((["self", f] : List Str).zip [Value.ref a, uy]).length, s.os⟩ := I.kept (t' := s.toks + ((["self", f] : List Str).zip [Value.ref a, uy]).length) k
  have ha1 := k _ _ hoa
  have In1 : InstAt h' a _ C none := ⟨ha1, rfl, rfl, trivial⟩
  have hsu := S.su
  obtain ⟨cd, hc⟩ : ∃ cd, clsIn K C = some cd := by
    unfold ks_superIn at hsu
    cases e : clsIn K C with
    | none => rw [e] at hsu; cases hsu
    | some cd => exact ⟨cd, rfl⟩
  unfold ks_superIn at hsu
  rw [hc] at hsu
  refine kxs_getMethod kxs_ValueError hso (looks_opaque I1.kIn S.op) (l₀ := cd.mro) (fun A Q E s k q => wpAny_bind ((looks_clsIn I1.kIn hc) A _ E s k (wpAny_pure q))) rfl I1.kIn hsu (In1.type.andThen (looks_subIn I1.kIn S.sb)) (ks_ne I1.kIn In1 hc) (by decide) ?_
  have I2 := I1.kept (h' := h'.push (kxs_mw "ValueError.__init__" a)) (t' := s.toks + ((["self", f] : List Str).zip [Value.ref a, uy]).length + 1) fun b o e => Heap.get?_push_of_some _ e
  have hu2 : (h'.push (kxs_mw "ValueError.__init__" a)).get? h'.objs.size = some (kxs_mw "ValueError.__init__" a) := Heap.get?_push_size _ rfl
  have I3 := I2.pins_of (pins' := [(h'.objs.size, kxs_mw "ValueError.__init__" a)]) fun p hp => by
    rw [List.mem_singleton.mp hp]
    exact ⟨hu2, I1.hok.fresh (Nat.le_refl _), fun z => absurd I1.lt (by show ¬ (NdefX.ncx CX0 P w K mg base ["self", f, "__class__"] F fI A outer s H E).env.locals < h'.objs.size; rw [← z]; exact Nat.lt_irrefl _), I1.nofs (Nat.le_refl _), fun v z => nomatch z⟩
  refine kxs_callWith (i := "ValueError.__init__") (x := a) rfl (Calls.evalArgs_plain (wpAny_mono ((pa_cons (pe_var (i := 1) rfl (.inl T.kf) T.nd1 T.nd2) pa_nil).run p4 _ _ _ H (fun vs H1 => vs = [y] ∧ H1 = H) I3 ⟨y, rfl, rfl, rfl⟩) (fun vs s3 hv => ?_) fun _ _ z => z))
  obtain ⟨xs, H1, J, rv, e1, e2⟩ := hv
  subst e1
  obtain rfl : H1 = H := e2
  obtain ⟨v1, rfl, rv1⟩ := rv.one
  obtain ⟨hp, g, dr, tk, os⟩ := s3
  obtain ⟨t2, hoa2⟩ := exo_at J.hok ha
  have hup := (J.pin (h'.objs.size, kxs_mw "ValueError.__init__" a) (List.mem_append_right _ (List.mem_singleton.mpr rfl))).1
  refine ⟨hup, K93S.call_mw (rest := [] ++ [v1]) (J.kIn _ _ hC) hoa2 hup (by show 1 ≤ sizeLine; rw [sizeLine_eq]; decide) fun h'' t3 k2 hx => ?_⟩
  have J2 := J.write (t' := tk) (x := a) (e := a) (o := exo a C none) (by rw [ha]; exact True.intro) (.inl rfl) k2 ⟨_, hx⟩ (exo_ok hx)
  have eu : upd H1 a (exo a C none) = H1 := by
    funext b
    by_cases hb : b = a
    · rw [hb, upd_same, ha]
    · rw [upd_ne hb]
  rw [eu] at J2
  have J3 := J2.pins_of (pins' := []) fun p hp => nomatch hp
  refine wpAt_of_wpAny (wpAny_mono ((pss_one (ps_ost (p' := p7) (pos := p9) (pe_var (i := 0) (pos := p6) rfl (.inl T.kself)) (pe_var (i := 1) (pos := p8) rfl (.inl T.kf) T.nd1 T.nd2) rfl)).run [] _ _ H1 { nx := fun _ H' => Q .non H', rt := fun _ _ => False } J3 ⟨y, rfl, .ref a, rfl, a, C, rfl, ox, hno, .inl ⟨ha, fun dx n ne => q dx n ne⟩⟩) (fun fl s' hs => ?_) fun e s' hs => hs)
  cases fl with
  | next =>
    obtain ⟨σ', H', I', q'⟩ := hs
    exact ⟨.non, H', I'.os, I'.bare, I'.base, I'.hok, rfl, q'⟩
  | ret u =>
    obtain ⟨_, _, _, _, _, z⟩ := hs
    exact z.elim
  | brk =>
    obtain ⟨_, _, _, z⟩ := hs
    exact z.elim
  | cont =>
    obtain ⟨_, _, _, z⟩ := hs
    exact z.elim
end
end K93
set_option maxHeartbeats 4000000
/-! K93N2: raise; check_number. -/
namespace K93
open PySem PySem.Spec PyProof.Rows L2
/-- a class x of the text over ValueError without an __init__ of its own -/
structure ExN (K : PySem.W.Frag) (mg : Str → Option Value) (x : Str) (C : Addr) : Prop where
  at_ : mg x = some (.ref C)
  xc : PySem.W.excIn K C He.veBase "ValueError.__new__" = true
  kp : PySem.W.keepIn K (.ref C) = true
  sb : PySem.W.subIn K (.ref C) (.type "BaseException") = some true
  ty : PySem.W.typeIn K (.ref C) = some (.type "type")
theorem pmk_own0 {X : Cx} {x : Str} {C : Addr} {p pos : Pos} (N : ExN X.K X.mg x C) (hg : Gl X x) (hdb : (x == ("__debug__" : Str)) = false := by decide) : PMk X (.Call (.Name x p) [] [] pos) (fun _ H Q => Q (.ref C) none H) := by
  intro pins s σ H Q I h
  refine wpAny_Call_Name_kw (ld_glob I hg N.at_ (PySem.W.callWith_K0 I.kIn N.kp ?_) hdb)
  obtain ⟨bm, N', nm, qn, bs, hdct, sn, sub, ab, col, dd, k0, k1, k2, k3, k5, mN, hC, hN, hni, T⟩ := exc_obj I.kIn N.xc
  exact wpAny_call_exc_subT F.excBase_ValueError T hC hN hni (fun h' e hm => mk_of I hm (raises_own N.sb N.ty) h (I.hok.gone hm.new)) (Nat.zero_le _)
abbrev cX (P : Program) (w : World) (K : PySem.W.Frag) (mg : Str → Option Value) (base : Heap) (N : List Str) (qual : Str) (sc : Scope) (f : Addr) (cdv : Value) (A : Around) (outer : List Env) (s : Shared) (H : Hp) (E : XK) : Cx :=
  cxOf (L2.CX P w) P w K mg base N qual sc f cdv A outer s H E
section
variable {P : Program} {w : World} {K : PySem.W.Frag} {mg : Str → Option Value} {base : Heap}
/-- a def that may raise, by its body -/
theorem exc_fn {x : Str} {st : Stmt} {N ps : List Str} {k : Nat} {sp : Sp} (F : Df K mg x st ps) (S : FnScope N ps (defScope st)) (len : ∀ vs H Q E, sp vs H Q E → vs.length = ps.length)
    (hb : ∀ (f : Addr) (cdv : Value) (A : Around) (outer : List Env) (s : Shared) (H : Hp) (E : XK) (vs : List V) (Q : VK), Room k (A.deeper (envOfC x (defScope st) s.heap.objs.size f cdv)) → sp vs H Q E →
      SB (cX P w K mg base N x (defScope st) f cdv A outer s H E) { nx := fun _ H' => Q .non H', rt := Q } (defBody st) (start N vs) H) : FnD P w K mg base (L2.CX P w) (k + 1) x sp := by
  obtain ⟨f, fd, F, hm, b⟩ := F
  exact ⟨f, fd, ps, hm, F.kp, b, F.okX S len fun cdv A outer s H vs Q E hr h => ⟨_, pbS, hb f cdv A outer s H E vs Q hr h⟩⟩
end
section
variable {X : Cx} {c : Kx} {I J : Ix c.pa} {σ : St} {H : Hp} {e : Expr} {es : List Expr} {pos p spos : Pos} {x : Str} {C fI : Addr} {fd : FuncData} {qual f : Str} {st : Stmt} {D : Ends} {rest : List Stmt} {W : WX} {P : V → Hp → Prop} {k : Nat}
/-- raise x() -/
theorem sb_raise0 (tk : Takes X W) (N : ExN X.K X.mg x C) (h : W (.ref C) none σ H) (hc : X.calm = true := by rfl) (hg : Gl X x := by rfl) (hdb : (x == ("__debug__" : Str)) = false := by decide) : SB X D (.Raise (some (.Call (.Name x p) [] [] pos)) none spos :: rest) σ H :=
  sb_of (ps_raise hc tk (pmk_own0 N hg hdb)) h
/-- raise x(e) -/
theorem sb_raise1 (tk : Takes X W) (ok : Ok c I H) (S : ExS X.prog X.K X.mg x C fI fd qual st f) (T : ExT st f) (hr : Room 2 X.A) (he : EV X c I J e σ H P) (h : ∀ v d H1, Le c J H H1 → P v H1 → H1 d = none → W (.ref C) (some d) σ (upd H1 d (.xd [(f, v)])))
    (hc : X.calm = true := by rfl) (hg : Gl X x := by rfl) (hdb : (x == ("__debug__" : Str)) = false := by decide) (hs : starEach [e] X.env = (false, eval e X.env) :: starEach [] X.env := by rfl) (hpl : (backTo pos (starEach [] X.env)).any (·.1) = false := by rfl) : SB X D (.Raise (some (.Call (.Name x p) [e] [] pos)) none spos :: rest) σ H :=
  sb_of (ps_raise hc tk (pmk_oex (CX := CX0) S.ox S.in_ S.ty (fEx S T) hr S.bd .nil (fun _ _ _ _ _ _ _ z => z.elim) hg S.at_ (pa_cons peS pa_nil hs) hdb hs hpl)) (he H (.refl ok) _ fun v H1 l w => ⟨(by show 1 ≤ 1000; decide), fun a na => by
    refine ⟨a, v, rfl, upd_same, S.ox, S.no, fun dx nx ne => ⟨rfl, dx, [(f, v)], upd_same, ?_, ?_, ?_⟩⟩
    · rw [upd_ne ne, upd_same]
    · rwa [upd_ne ne] at nx
    · have n1 : H1 dx = none := by rwa [upd_ne ne] at nx
      have e1 : upd (del (upd (upd (upd H1 a (exo a C none)) dx (exd dx [(f, v)])) a (exo a C (some dx))) a) dx (.xd [(f, v)]) = upd H1 dx (.xd [(f, v)]) := by
        funext b
        by_cases hb : b = dx
        · rw [hb, upd_same, upd_same]
        · rw [upd_ne hb, upd_ne hb]
          by_cases hb2 : b = a
          · rw [hb2, del_same, na]
          · rw [del_ne hb2, upd_ne hb2, upd_ne hb, upd_ne hb2]
      rw [e1]
      exact h v dx H1 l w n1⟩)
/-- a call that may raise, as a statement -/
theorem ev_callX {sp : Sp} {Pz : V → Hp → Prop} {R : List V → Hp → Prop} {L : Ix c.pa} (tk : Takes X W) (F : FnD X.prog X.w X.K X.mg X.base (L2.CX X.prog X.w) k x sp) (hr : Room k X.A) (ha : AV X c I J (e :: es) σ H R)
    (hs : ∀ vs H1, Le c J H H1 → R vs H1 → ∀ Q : VK, (∀ z H2, Le c L H1 H2 → Pz z H2 → Q z H2) → sp vs H1 Q fun cls d H' => W cls d σ H') (hg : Gl X x := by rfl) (hdb : (x == ("__debug__" : Str)) = false := by decide)
    (he : starEach (e :: es) X.env = (false, eval e X.env) :: starEach es X.env := by rfl) (hpl : (backTo pos (starEach es X.env)).any (·.1) = false := by rfl) : EV X c I L (.Call (.Name x p) (e :: es) [] pos) σ H Pz := by
  obtain ⟨f, fd, ps, hm, hk, hb, F⟩ := F.ex
  exact EV.of (pe_callS F hr hg hm hk hb (fun σ => passAt tk σ) paS hdb he hpl) fun H1 l Q q => ha H1 l _ fun vs H2 l2 w => hs vs H2 (l.trans l2) w Q fun z H3 l3 y => q z H3 (l2.trans l3) y
end
theorem exT1 : ExT (methS 2 0) "most" := ⟨⟨_, _, _, _, _, _, _, _, _, _, rfl, fun env => ⟨_, rfl⟩⟩, NdefX.nscope_by (by decide +kernel), by decide +kernel, by decide +kernel, by decide +kernel, by decide +kernel, ⟨_, rfl, rfl⟩, by decide, by decide⟩
theorem exT2 : ExT (methS 3 0) "at" := ⟨⟨_, _, _, _, _, _, _, _, _, _, rfl, fun env => ⟨_, rfl⟩⟩, NdefX.nscope_by (by decide +kernel), by decide +kernel, by decide +kernel, by decide +kernel, by decide +kernel, ⟨_, rfl, rfl⟩, by decide, by decide⟩
theorem exT3 : ExT (methS 4 0) "at" := ⟨⟨_, _, _, _, _, _, _, _, _, _, rfl, fun env => ⟨_, rfl⟩⟩, NdefX.nscope_by (by decide +kernel), by decide +kernel, by decide +kernel, by decide +kernel, by decide +kernel, ⟨_, rfl, rfl⟩, by decide, by decide⟩
/-- the exceptions of the text -/
structure Xc (P : Program) (K : PySem.W.Frag) (mg : Str → Option Value) (cTM cBA cFA cNN cNB cNI cRE : Addr) : Prop where
  tm : ∃ fI fd, ExS P K mg "TooMany" cTM fI fd "TooMany.__init__" (methS 2 0) "most"
  ba : ∃ fI fd, ExS P K mg "BadAnswer" cBA fI fd "BadAnswer.__init__" (methS 3 0) "at"
  fa : ∃ fI fd, ExS P K mg "Falling" cFA fI fd "Falling.__init__" (methS 4 0) "at"
  nn : ExN K mg "NoNumber" cNN
  nb : ExN K mg "NoBounds" cNB
  ni : ExN K mg "NoInputs" cNI
  re : mg "RoundError" = some (.ref cRE)
section
variable {P : Program} {w : World} {K : PySem.W.Frag} {mg : Str → Option Value} {base : Heap} {cTM cBA cFA cNN cNB cNI cRE : Addr}
theorem sc14 : FnScope ["thing", "least", "most"] ["thing", "least", "most"] (defScope (topS 14)) := ⟨rfl, rfl, rfl, by decide +kernel, rfl, by decide +kernel, by decide +kernel⟩
def spCk (K : PySem.W.Frag) (cNN : Addr) : Sp := fun vs H Q E => ∃ (c : Kx) (I : Ix c.pa) (e : PyData) (lo hi : Int), Ok c I H ∧ DDs K c.pa H vs [e, .int lo, .int hi] ∧ noq e = true ∧ (within e lo hi = true → ∀ H', Le c I H H' → Q .non H') ∧ (within e lo hi = false → ∀ H', Le c I H H' → E (.ref cNN) none H')
theorem f14 (T : Tx K mg) (Z : Xc P K mg cTM cBA cFA cNN cNB cNI cRE) : FnD P w K mg base (L2.CX P w) 3 "check_number" (spCk K cNN) :=
  exc_fn T.d14 sc14 (fun vs H Q E ⟨_, _, _, _, _, _, h, _⟩ => h.length) fun f cdv A outer s H E vs Q hr h => by
    obtain ⟨c, I, e, lo, hi, ok, hd, hq, q1, q2⟩ := h
    obtain ⟨v, v1, v2, rfl, h0, h1, h2⟩ := dds3 hd
    refine sb_when ok (tv_not (tv_val (ed_call (f11 T) hr (ad_cons (ed_var 0 rfl h0) (ad_cons (ed_var 1 rfl h1) (ad_cons (ed_var 2 rfl h2) ad_nil))) ⟨_, _, _, rfl, hq, rfl⟩))) (fun z H1 l1 => ?_) fun z H1 l1 => ?_
    · exact sb_raise0 (takes_of rfl rfl rfl rfl) Z.nn (q2 (by simpa using z) H1 l1)
    · exact sb_nil (q1 (by simpa using z) H1 l1)
end
end K93
set_option maxHeartbeats 4000000
/-! K93LM: a lambda made, and handed on to a def. -/
namespace K93
open PySem PySem.Spec PyProof.Rows L2
section
variable {X : Cx} {pins : List (Addr × Obj)} {σ : L2.St} {H : Hp} {s : Shared}
/-- the lambda's function; told: nothing that was tracked is gone -/
theorem lam_mk {T : List NdefX.NTab} {nm : Nat → Nat → Str} {c P : Addr} {params : Arguments} {body : Expr} {scope : Scope} {pos : Pos} {E : Value → Shared → Prop} {Q : Value → Shared → Prop} {q : Str} (I : Inv X pins σ H s) (TB : LamX.TabB X.base X.mg c P) (hcode : X.env.code = .ref c) (hq : X.env.qual ++ "<lambda>" = q)
    (hm : (P, nm) ∈ T) (hnm : nm pos.line pos.col = q) (hu : ∀ p ∈ T, p.1 = P → p.2 = nm) (hT : NdefX.TabsN T H) (hdef : defaultsOf params X.env = ([], [])) (hfree : ∀ y ∈ scope.names, y.2 = .free → ∃ c, X.env.cells.lookup y.1 = some c)
    (h : ∀ (f c' : Addr) (pm ctv : Value) (H1 : Hp) (s' : Shared), Inv X pins σ H1 s' → LamX.ExtN H H1 → (∀ b, H1 b = none → H b = none) → NdefX.TabsN T H1 → s'.heap.get? f = some (PySem.W.kla_obj "<lambda>" q params body scope (cloFrom X.env.cells scope.names []) pm c' ctv) → H1 f = none → s.heap.objs.size ≤ f → H1 c' = some (LamX.CodeO c' q) → Q (.ref f) s') :
    wpAny (model X.prog X.w) X.A (eval (.Lambda params body scope pos) X.env) Q E s := by
  obtain ⟨ps, hP, ht, ha⟩ := (show NdefX.TabN H P nm from hT _ hm)
  refine PySem.W.kla_eval hdef ?_
  rw [hq]
  have bP : s.heap.BuiltinsAt X.mg P := TB.bm.keeps I.bk
  have hP' : s.heap.get? P = some { cls := .none, data := .fields ps } := I.hok P _ hP
  cases hc : codeAmong pos ps.toList with
  | some cv =>
    obtain ⟨c', rfl, hco⟩ := ha pos cv hc
    rw [hnm] at hco
    refine PySem.W.kla_makeFunctionHit (mg := X.mg) (c := c) (P := P) (ps := ps) (closure_ok hfree) I.ok.glob (I.mod.glob.keeps I.bk) hcode (TB.code.keeps I.bk) hP' ht hc bP fun ctv h' tk hx hsz => ?_
    exact h h'.objs.size c' ((X.mg "__name__").getD .none) ctv H _ (I.kept (t' := tk) fun b o e => Heap.get?_push_of_some _ (hx b o e)) (LamX.ExtN.refl H) (fun _ z => z) hT (Heap.get?_push_size _ rfl) (I.hok.fresh hsz) hsz hco
  | none =>
    refine PySem.W.kla_makeFunction (mg := X.mg) (c := c) (P := P) (ps := ps) (closure_ok hfree) I.ok.glob (I.mod.glob.keeps I.bk) hcode (TB.code.keeps I.bk) hP' ht hc TB.gP bP fun c' ctv h' tk hx hge hlt hrec htb => ?_
    obtain ⟨c2, oc, vs, t, e2, hoc, hd, hv⟩ := hrec
    cases e2
    have nC : H c' = none := I.hok.fresh hge
    have sz : s.heap.objs.size ≤ h'.objs.size := Nat.le_trans hge (Nat.le_of_lt hlt)
    have I1 := LamX.inv_table (q := q) (t' := tk) (more := #[rawInt pos.line, rawInt pos.col, .ref c']) (h' := h'.push (PySem.W.kla_obj "<lambda>" q params body scope (cloFrom X.env.cells scope.names []) ((X.mg "__name__").getD .none) c' ctv)) I hP (fun b o hb e => Heap.get?_push_of_some _ (hx b o hb e)) (Heap.get?_push_of_some _ htb) hge ⟨oc, vs, t, Heap.get?_push_of_some _ hoc, hd, hv⟩
    have hE : LamX.ExtN H (upd (upd H P (.tbl (ps ++ #[rawInt pos.line, rawInt pos.col, .ref c']))) c' (LamX.CodeO c' q)) := fun b o e n => (upd_ne (ne_of_none e nC)).trans ((upd_ne fun z => n ps (Option.some.inj (e.symm.trans (by rw [z]; exact hP)))).trans e)
    have eL : (ps ++ #[rawInt pos.line, rawInt pos.col, .ref c']).toList = ps.toList ++ [rawInt pos.line, rawInt pos.col, .ref c'] := by simp
    refine h h'.objs.size c' ((X.mg "__name__").getD .none) ctv _ _ I1 hE (fun b z => NdefX.upd_none (NdefX.upd_none z)) (fun p hp => ?_) (Heap.get?_push_size _ rfl) ?_ sz upd_same
    · by_cases hb : p.1 = P
      · rw [hu p hp hb, hb]
        refine ⟨_, (upd_ne (ne_of_none hP nC)).trans upd_same, by rw [eL]; exact PySem.TriplesOk_snoc _ _ _ _ ht, fun p' cv hcv => ?_⟩
        rw [eL] at hcv
        rcases NdefX.among_app2 _ ht hcv with z | ⟨z, z1, z2⟩
        · obtain ⟨c0, e1, e2⟩ := ha p' cv z
          exact ⟨c0, e1, hE _ _ e2 LamX.codeO_ne⟩
        · exact ⟨c', z, by rw [← z1, ← z2, hnm]; exact upd_same⟩
      · obtain ⟨ps', a1, a2, a3⟩ := hT p hp
        refine ⟨ps', (upd_ne (ne_of_none a1 nC)).trans ((upd_ne hb).trans a1), a2, fun p' cv hcv => ?_⟩
        obtain ⟨c0, e1, e2⟩ := a3 p' cv hcv
        exact ⟨c0, e1, hE _ _ e2 LamX.codeO_ne⟩
    · rw [upd_ne (Nat.ne_of_gt hlt), upd_ne (Nat.ne_of_gt (Nat.lt_of_lt_of_le (Heap.lt_size hP') sz))]
      exact I.hok.fresh sz
end
/-! ### untracked objects of our own, shown for a call -/
open Classical in
noncomputable def shw (S : Addr → Prop) (h : Heap) (H : Hp) : Hp := fun a => if S a then (h.get? a).map (XO a) else H a
section
variable {X : Cx} {pins : List (Addr × Obj)} {σ : L2.St} {H H' : Hp} {s s' : Shared} {S : Addr → Prop} {c : Kx} {I J : Ix c.pa}
/-- they are ours -/
structure Our (X : Cx) (S : Addr → Prop) (H : Hp) (s : Shared) : Prop where
  at_ : ∀ a, S a → H a = none ∧ X.s_0.heap.objs.size ≤ a ∧ a ≠ X.env.locals ∧ ∃ o, s.heap.get? a = some o
theorem shw_no {h : Heap} {a : Addr} (n : ¬ S a) : shw S h H a = H a := by unfold shw; rw [if_neg n]
theorem shw_yes (O : Our X S H s) {a : Addr} (y : S a) : ∃ o, s.heap.get? a = some o ∧ shw S s.heap H a = some (XO a o) := by
  obtain ⟨o, e⟩ := (O.at_ a y).2.2.2
  refine ⟨o, e, ?_⟩
  unfold shw
  rw [if_pos y, e]
  rfl
theorem Our.no (O : Our X S H s) {a : Addr} {o : HO} (e : H a = some o) : ¬ S a := fun y => by rw [(O.at_ a y).1] at e; cases e
theorem shw_up (O : Our X S H s) {a : Addr} {o : HO} (e : H a = some o) : shw S s.heap H a = some o := (shw_no (O.no e)).trans e
theorem shw_hok (O : Our X S H s) (k : HOk X.prog X.w H s.heap) : HOk X.prog X.w (shw S s.heap H) s.heap := fun a o e => by
  by_cases y : S a
  · obtain ⟨o', e1, e2⟩ := shw_yes O y
    rw [e] at e2
    cases e2
    exact xo_ok e1
  · rw [shw_no y] at e
    exact (k a o e).stay (fun _ _ _ q => q) (fun c q => shw_up O q) fun c xs q => shw_up O q
theorem shw_env0 (O : Our X S H s) (Iv : Inv X pins σ H s) : Env0 X.prog X.w X.K X.mg X.base X.A X.stack s (shw S s.heap H) := by
  have e := Iv.env0
  have big : ∀ b o, X.base.get? b = some o → ¬ S b := fun b o q y => absurd (Nat.lt_of_lt_of_le (Heap.lt_size q) Iv.ok.bsz) (Nat.not_lt.mpr (O.at_ b y).2.1)
  refine ⟨e.frames, e.mod, fun b o q => ⟨(e.bs b o q).1, (shw_no (big b o q)).trans (e.bs b o q).2⟩, e.bsz, e.funs, fun b q => ?_, shw_hok O e.hok, e.bare⟩
  refine (shw_no fun y => ?_).trans (e.frf b q)
  rcases List.mem_cons.mp (Iv.stkSub b q) with z | z
  · exact (O.at_ b y).2.2.1 z
  · obtain ⟨_, o, ho, _⟩ := Iv.ok.funs.mem z
    exact absurd (Heap.lt_size ho) (Nat.not_lt.mpr (O.at_ b y).2.1)
/-- hidden again behind the call -/
theorem hid_ce {Q Q' : VK} {u : Value} (O : Our X S H s) (Iv : Inv X pins σ H s) (q : ∀ v H', HOk X.prog X.w H' s'.heap → Q' v H' → (∀ a o, S a → s.heap.get? a = some o → H' a = some (XO a o)) ∧ Q v (hid S H')) (c : CE X.stack X.prog X.w (shw S s.heap H) s Q' u s') : CE X.stack X.prog X.w H s Q u s' := by
  obtain ⟨v, H', os, bare, un, hok, rv, q'⟩ := c
  obtain ⟨q1, q2⟩ := q v H' hok q'
  have X' : Hid S H' := ⟨fun a y => by
    obtain ⟨o, e⟩ := (O.at_ a y).2.2.2
    exact ⟨_, q1 a o y e⟩⟩
  have nS : ∀ {b o}, H b = some o → ¬ S b := fun e => O.no e
  refine ⟨v, hid S H', os, bare, ⟨fun b o e n f k => ?_, fun b o e n f k => ?_, fun b o e n k => ?_, un.there, fun b xs e => ?_, fun b ob t e => ?_, fun b ps e => ?_⟩, hid_hok X' hok, rv, q2⟩
  · by_cases y : S b
    · exact xo_at hok (q1 b o y e)
    · exact un.keep b o e ((shw_no y).trans n) f k
  · by_cases y : S b
    · exact ⟨o.slots, xo_at hok (q1 b o y e)⟩
    · exact un.slot b o e ((shw_no y).trans n) f k
  · by_cases y : S b
    · exact hid_yes y
    · exact hid_none (un.free b o e ((shw_no y).trans n) k)
  · exact (hid_no (nS e)).trans (un.tups b xs (shw_up O e))
  · exact (hid_no (nS e)).trans (un.frzs b ob t (shw_up O e))
  · obtain ⟨m, z⟩ := un.tbls b ps (shw_up O e)
    exact ⟨m, (hid_no (nS e)).trans z⟩
theorem shw_ok (O : Our X S H s) (k : Ok c I H) : Ok c I (shw S s.heap H) := by
  refine ⟨k.tab.ext fun b o e => shw_up O e, fun p hp => ?_, I.sta H _ k.inv (fun p hp => ?_) fun b xs e => shw_up O e⟩
  · obtain ⟨o, e, m⟩ := k.live p hp
    exact ⟨o, shw_up O e, m⟩
  · obtain ⟨o, e, m⟩ := k.live p hp
    exact shw_no (O.no e)
theorem shw_ex (O : Our X S H s) {pa : List Addr} : Ex pa H (shw S s.heap H) := fun b o e _ _ => shw_up O e
/-- what stood stands, when they are hidden again -/
theorem hid_le (O : Our X S H s) (X' : Hid S H') (l : Le c J (shw S s.heap H) H') (hc : ∀ a q, S a → H' a ≠ some (LamX.CodeO a q)) : Le c J H (hid S H') := by
  refine ⟨fun b o e n m => (hid_no (O.no e)).trans (l.ex b o (shw_up O e) n m), hid_ok X' l.ok hc, fun p z => ?_⟩
  by_cases y : S p
  · exact (O.at_ p y).1
  · rw [hid_no y] at z
    have := l.fr p z
    rwa [shw_no y] at this
end
theorem TbO.ey {K : PySem.W.Frag} {pa : List Addr} {H H' : Hp} {v : V} {bs ms : List Int} {rs : List (List (Int × List Int))} (h : TbO K pa H v bs ms rs) (e : Ey pa H H') : TbO K pa H' v bs ms rs := by
  obtain ⟨a, C, dx, vb, vm, vr, h1, h2, h3, h4, h5, h6, h7, h8, h9, h10, h11⟩ := h.ex
  exact ⟨a, C, dx, vb, vm, vr, h1, h2, e a _ h3 rfl h2, h4, h5, h6, h7, h8, DD.mono_ e _ _ h9, DD.mono_ e _ _ h10, DD.mono_ e _ _ h11⟩
end K93
set_option maxHeartbeats 4000000
/-! K93LN: made_by, given the lambda. -/
namespace K93
open PySem PySem.Spec PyProof.Rows L2
theorem ev_made {X : Cx} {c : Kx} {I : Ix c.pa} {σ : St} {H : Hp} {e2 e3 : Expr} {p pos : Pos} {tT tL cd td : Addr} {jt : Nat} {bs ms : List Int} {kvs : List (List Int × V)} {m : List (List Int × PyData)} {tl : List Int → List Int}
    (hT : c.T = kT tT tL) (ne : tT ≠ tL) (TB : LamX.TabB X.base X.mg cd tL) (hcode : X.env.code = .ref cd) (hq : X.env.qual ++ "<lambda>" = qL) (F : FnD X.prog X.w X.K X.mg X.base CX0 6 "made_by" (spMd X.prog X.w X.K X.mg X.base)) (hr : Room 6 X.A)
    (hs : σ[jt]? = some (some (.ref td))) (hNt : X.N[jt]? = some ("told" : Str)) (hk : X.env.scope.names.lookup ("told" : Str) = some .cell) (hfn : X.fn "told" = true) (hb : ED X c I I e2 σ H (TI bs)) (hm : ED X c I I e3 σ H (TI ms)) (nO : td ∉ c.pa) (hO : H td = some (.dT (enT kvs))) (dm : DM X.K c.pa H kvs m)
    (B : BM bs ms) (most : mc bs ms ≤ 1000) (hR : ∀ cc ∈ cells bs ms, RbOk bs ms tl (fun k => (lkA m k).isSome = true) cc) (htl : ∀ k d, lkA m k = some d → d = TI (tl k)) (hg : Gl X "made_by" := by rfl)
    (he : starEach [lamE, e2, e3] X.env = [(false, eval lamE X.env), (false, eval e2 X.env), (false, eval e3 X.env)] := by rfl) (he2 : starEach [e2, e3] X.env = (false, eval e2 X.env) :: starEach [e3] X.env := by rfl) (he3 : starEach [e3] X.env = (false, eval e3 X.env) :: starEach [] X.env := by rfl) :
    EV X c I I (.Call (.Name "made_by" p) [lamE, e2, e3] [] pos) σ H fun v H' => TbO X.K c.pa H' v bs ms ((cells bs ms).map (rowB bs ms tl)) := fun H1 l Q q => ⟨fun pins s Iv => by
  obtain ⟨g, fd, ps, hmg, hkp, hbd, Fn⟩ := F.ex
  obtain ⟨lpos, elam⟩ := lam_eq
  have hfree : ∀ y ∈ lamS.names, y.2 = .free → X.env.scope.names.lookup y.1 = some .cell ∨ X.env.scope.names.lookup y.1 = some .free := by
    have h0 : ∀ y ∈ lamS.names, y.2 = .free → y.1 = "told" := by decide +kernel
    intro y hy e
    rw [h0 y hy e]
    exact .inl hk
  have hfr2 : ∀ y ∈ lamS.names, y.2 = .free → ∃ c, X.env.cells.lookup y.1 = some c := fun y hy e => (hfree y hy e).elim (fun z => Iv.ok.has _ (.inl z)) fun z => Iv.ok.has _ (.inr z)
  have he' : starEach (lamE :: [e2, e3]) X.env = (false, eval lamE X.env) :: starEach [e2, e3] X.env := by rw [he, he2, he3]; rfl
  refine wpAny_Call_Name_kw (ld_glob Iv hg hmg (PySem.W.callWith_K (h₀ := X.base) Iv.ok.mod.kin hkp ?_ he' (by rw [he2, he3]; rfl)) (by decide))
  rw [he']
  show wpAny _ _ (spliced ((false, eval lamE X.env) :: backTo pos (starEach [e2, e3] X.env))) _ _ s
  rw [elam]
  have mT : (tL, fun _ _ => ("learned.<locals>.<lambda>" : Str)) ∈ kT tT tL := List.mem_cons_of_mem _ (List.mem_cons_self ..)
  refine Calls.spliced_cons (lam_mk (q := qL) Iv TB hcode hq mT rfl (fun p hp e => ?_) (hT ▸ l.ok.tab) (by rfl) hfr2 fun f d pm ctv H2 s2 I2 eN nn T2 hf hfn2 hfz hd => ?_)
  · rcases List.mem_cons.mp hp with rfl | hp
    · exact absurd e ne
    · rw [List.mem_singleton.mp hp]
  have l2 : Le c I H1 H2 := by
    refine ⟨fun b o e n _ => eN b o e n, ⟨hT ▸ T2, fun p hp => ?_, I.sta H1 H2 l.ok.inv (fun p hp => ?_) fun b xs e => eN b _ e (fun _ z => nomatch z)⟩, nn⟩
    · obtain ⟨o, e, m⟩ := l.ok.live p hp
      exact ⟨o, eN p o e (fun ps z => by rw [z] at m; cases m), m⟩
    · obtain ⟨o, e, m⟩ := l.ok.live p hp
      rw [e]
      exact eN p o e (fun ps z => by rw [z] at m; cases m)
  have nf : f ≠ X.env.locals ∧ f ∉ X.fs := ⟨fun z => absurd Iv.lt (by rw [← z]; exact Nat.not_lt.mpr hfz), Iv.nofs hfz⟩
  have I3 := I2.pins_of (pins' := (f, PySem.W.kla_obj "<lambda>" qL lamA lamB lamS (cloFrom X.env.cells lamS.names []) pm d ctv) :: pins) fun p hp => by
    rcases List.mem_cons.mp hp with rfl | hp
    · exact ⟨hf, hfn2, nf.1, nf.2, fun v z => nomatch z⟩
    · exact I2.pin p (List.mem_append_right _ hp)
  refine wpAny_mono (((ad_cons hb (ad_cons hm ad_nil he3) he2) H2 (l.trans l2) (fun vs H4 => Le c I H2 H4 ∧ DDs X.K c.pa H4 vs [TI bs, TI ms]) (fun vs H4 l4 w => ⟨l4, w⟩)).out pos _ s2 I3) (fun us s4 hv => ?_) fun _ _ z => z
  obtain ⟨vs, H4, I4, r, l4, w⟩ := hv
  refine ⟨I4.kIn, ?_⟩
  obtain ⟨vb, vm, rfl, w1, w2⟩ := dds2 w
  have pf := I4.pin (f, PySem.W.kla_obj "<lambda>" qL lamA lamB lamS (cloFrom X.env.cells lamS.names []) pm d ctv) (List.mem_append_right _ (List.mem_cons_self ..))
  have onm : ∀ y a, (cloFrom X.env.cells lamS.names []).lookup y = some a → y = "told" := fun y a e => by
    have h0 : ∀ y ∈ lamS.names, y.2 = .free → y.1 = "told" := by decide +kernel
    rcases cloFrom_mem (PySem.mem_of_lookup e) with z | ⟨z, _⟩
    · cases z
    · exact h0 _ z rfl
  have caps := NdefX.Caps.made (fr := ["told"]) (js := [jt]) I4.ok hfree (by decide +kernel) (by rw [List.map_cons, hNt]; rfl)
  have CA := NdefX.cells_of I4 caps
  rw [show [jt].map (NdefX.slotAt σ) = [some (.ref td)] by rw [List.map_cons, NdefX.slotAt_of hs]; rfl] at CA
  let S : Addr → Prop := fun a => a = f ∨ clS (cloFrom X.env.cells lamS.names []) a
  have O : Our X S H4 s4 := ⟨fun a y => by
    rcases y with rfl | ⟨y, e⟩
    · exact ⟨pf.2.1, Nat.le_trans Iv.sz hfz, pf.2.2.1, _, pf.1⟩
    · have e' := caps.sub y a e
      obtain ⟨v, o, e1, _⟩ := I4.cell y a e'
      exact ⟨I4.freeC y a e', I4.ok.cab y a (by rw [onm y a e]; exact hfn) e', I4.cne y a e', o, e1⟩⟩
  have k4 := shw_ok O l4.ok
  have l24 : Le c I H H4 := l.trans (l2.trans l4)
  have obj : ∀ a o, S a → s4.heap.get? a = some o → shw S s4.heap H4 a = some (XO a o) := fun a o y e => by
    obtain ⟨o', e1, e2⟩ := shw_yes O y
    rw [e] at e1
    cases e1
    exact e2
  have hclo : ClO (cloFrom X.env.cells lamS.names []) ["told"] [some (.ref td)] (shw S s4.heap H4) := ⟨rfl, CA.inj, fun y a e => by
      obtain ⟨v, o, e1, e2⟩ := (CA.all y a e).2
      exact ⟨o, v, obj a o (.inr ⟨y, e⟩) e1, e2⟩, fun i y e => by
      obtain ⟨a, e1, e2⟩ := CA.has i y e
      refine ⟨a, e1, fun v z => ?_⟩
      obtain ⟨u, rv, o, e3, e4⟩ := e2 v z
      exact ⟨o, u, rv, obj a o (.inr ⟨y, e1⟩) e3, e4⟩⟩
  have SG := (sg_L (P := X.prog) (w := X.w) (mg := X.mg) (base := X.base) k4 (obj f _ (.inl rfl) pf.1) (shw_up O (l4.at hd (fun _ z => nomatch z) (ext_npa l2.ok hd))) hclo nO (shw_up O (l24.at hO (fun _ z => nomatch z) nO)) ((dm.mono l24.ex).mono (shw_ex O))).congr (Pr' := fun k => (lkA m k).isSome = true) (ans' := fun k => TI (tl k)) fun k hk => ⟨hk, by
    obtain ⟨dd, hdd⟩ := Option.isSome_iff_exists.mp hk
    rw [hdd, ← htl k dd hdd]
    rfl⟩
  have hsp : spMd X.prog X.w X.K X.mg X.base [.ref f, vb, vm] (shw S s4.heap H4) (fun v H' => Le c I (shw S s4.heap H4) H' ∧ TbO X.K c.pa H' v bs ms ((cells bs ms).map (rowB bs ms tl))) E0 :=
    ⟨c, I, _, tl, _, vb, vm, bs, ms, rfl, k4, SG, w1.mono (shw_ex O), w2.mono (shw_ex O), B, most, hR, fun v H' l' tb => ⟨l', tb⟩⟩
  have hl := Fn.len _ _ _ _ hsp
  have r2 : Vals [.ref f, vb, vm] (.ref f :: us) := .cons rfl r
  have hbt := hbd s4 (.ref f :: us) I4.kIn (by rw [List.append_nil, ← r2.length]; exact hl)
  rw [List.append_nil] at hbt
  refine wpAny_call (codeAny_mono (Fn.run X.A X.stack s4 (shw S s4.heap H4) ⟨.ref f :: us, []⟩ _ _ _ E0 hr (shw_env0 O I4) hbt r2 hsp) fun r s' hq => ?_)
  cases r with
  | error e => exact (show False from hq).elim
  | ok fl =>
    cases fl with
    | next => exact False.elim hq
    | brk => exact False.elim hq
    | cont => exact False.elim hq
    | ret u =>
      have hx : EP X _ σ Q u s' := I4.after (hid_ce O I4 (fun v H' hok z => by
        have kp : ∀ a o, S a → s4.heap.get? a = some o → H' a = some (XO a o) := fun a o y e => z.1.at (obj a o y e) (fun _ z => nomatch z) (ext_npa k4 (obj a o y e))
        have X' : Hid S H' := ⟨fun a y => by
          obtain ⟨o, e⟩ := (O.at_ a y).2.2.2
          exact ⟨_, kp a o y e⟩⟩
        refine ⟨kp, q v _ (l2.trans (l4.trans (hid_le O X' z.1 fun a q y ec => ?_))) (z.2.ey (hid_ey X'))⟩
        obtain ⟨a', oc, vs', t, e3, e4, e5, _⟩ := NdefX.codeO_at hok ec
        cases e3
        rcases y with rfl | ⟨y, e⟩
        · have e6 := xo_at hok (kp _ _ (.inl rfl) pf.1)
          rw [e4] at e6
          cases e6
          cases e5
        · obtain ⟨v, o, e7, e8⟩ := (CA.all y a e).2
          have e6 := xo_at hok (kp _ _ (.inr ⟨y, e⟩) e7)
          rw [e4] at e6
          cases e6
          rw [e5] at e8
          cases e8) hq)
      obtain ⟨v, H', J, rv, qv⟩ := hx
      exact ⟨v, H', J.pins_of fun p hp => J.pin p (List.mem_append_right _ (List.mem_cons_of_mem _ hp)), rv, qv⟩⟩
end K93
set_option maxHeartbeats 4000000
/-! K93LP: what learned answers, as plain functions. -/
namespace K93
open PySem
def gM (bs ms : List Int) : List (List Int × PyData) := rcMap [] bs ms
def gKeys (bs ms : List Int) : List (List Int) := (gM bs ms).map (·.1)
def probeL (bs ms : List Int) : List (List Int) := srt (cells bs ms ++ gKeys bs ms)
def intOf : PyData → Int
  | .int i => i
  | _ => 0
def tlOf : PyData → List Int
  | .tuple ds => ds.map intOf
  | _ => []
theorem tlOf_TI (ns : List Int) : tlOf (TI ns) = ns := by
  show (ns.map PyData.int).map intOf = ns
  rw [List.map_map]
  exact List.map_id _
theorem areNums_tl {d : PyData} {n : Int} (h : areNums d n = true) : d = TI (tlOf d) ∧ ((tlOf d).length : Int) = n := by
  obtain ⟨ns, rfl, h1, _⟩ := areNums_TI h
  rw [tlOf_TI]
  exact ⟨rfl, h1⟩
/-- the cell that a raised one was raised from -/
def ancO (bs ms k : List Int) : List Int := tlOf ((lkA (gM bs ms) k).getD .none)
def lessAny (a b : List Int) : Bool := (List.range a.length).any fun i => decide (b.getD i 0 < a.getD i 0)
inductive Out where
  | bad (k : List Int)
  | fall (k : List Int)
  | tab
def lrnOut (bs ms : List Int) (n : Int) (ans : List Int → PyData) : Out :=
  match (probeL bs ms).find? (fun k => !areNums (ans k) n) with
  | some k => .bad k
  | none => match (srt (gKeys bs ms)).find? (fun k => lessAny (tlOf (ans (ancO bs ms k))) (tlOf (ans k))) with
    | some k => .fall k
    | none => .tab
/-! ### members -/
theorem ptA_mem {α : Type} {m : List (List Int × α)} {k : List Int} {v : α} {p : List Int × α} (h : p ∈ ptA m k v) : p ∈ m ∨ p = (k, v) := by
  by_cases hk : k ∈ m.map (·.1)
  · have e : ptA m k v = m.map fun p => if p.1 = k then (p.1, v) else p := by
      unfold ptA
      rw [any_dec, decide_eq_true hk]
      rfl
    rw [e] at h
    obtain ⟨q, hq, rfl⟩ := List.mem_map.mp h
    by_cases z : q.1 = k
    · right
      rw [if_pos z, z]
    · left
      rw [if_neg z]
      exact hq
  · rw [ptA_new hk] at h
    rcases List.mem_append.mp h with h | h
    · exact .inl h
    · exact .inr (List.mem_singleton.mp h)
theorem foldP_mem {p : List Int × PyData} : ∀ (l m : List (List Int × PyData)), p ∈ foldP m l → p ∈ m ∨ p ∈ l
  | [], _, h => .inl h
  | q :: l, m, h => by
    rcases foldP_mem l (ptA m q.1 q.2) h with h | h
    · rcases ptA_mem h with h | h
      · exact .inl h
      · exact .inr (h ▸ List.mem_cons_self ..)
    · exact .inr (List.mem_cons_of_mem _ h)
theorem foldP_key {k : List Int} : ∀ (l m : List (List Int × PyData)), k ∈ (foldP m l).map (·.1) ↔ k ∈ m.map (·.1) ∨ k ∈ l.map (·.1)
  | [], m => by simp [foldP]
  | q :: l, m => by
    show k ∈ (foldP (ptA m q.1 q.2) l).map (·.1) ↔ _
    rw [foldP_key l, ptA_keys, List.map_cons, List.mem_cons]
    split
    · rename_i hq
      constructor
      · rintro (h | h)
        · exact .inl h
        · exact .inr (.inr h)
      · rintro (h | h | h)
        · exact .inl h
        · exact .inl (h ▸ hq)
        · exact .inr h
    · rw [List.mem_append, List.mem_singleton]
      constructor
      · rintro ((h | h) | h)
        · exact .inl h
        · exact .inr (.inl h)
        · exact .inr (.inr h)
      · rintro (h | h | h)
        · exact .inl (.inl h)
        · exact .inl (.inr h)
        · exact .inr h
theorem foldP_lk (f : List Int → PyData) (k : List Int) : ∀ (l : List (List Int)) (m : List (List Int × PyData)), (∀ p ∈ m, p.2 = f p.1) → lkA (foldP m (l.map fun k => (k, f k))) k = if k ∈ l ∨ k ∈ m.map (·.1) then some (f k) else none
  | [], m, h => by
    show lkA m k = _
    by_cases hk : k ∈ m.map (·.1)
    · obtain ⟨d, hd⟩ := lkA_some hk
      rw [if_pos (.inr hk), hd]
      exact congrArg some (h _ (lkA_some_mem hd))
    · rw [if_neg (fun z => z.elim (fun z => nomatch z) hk)]
      have := lkA_isSome k m
      rw [decide_eq_false hk] at this
      exact Option.not_isSome_iff_eq_none.mp (by rw [this]; decide)
  | q :: l, m, h => by
    show lkA (foldP (ptA m q (f q)) (l.map fun k => (k, f k))) k = _
    rw [foldP_lk f k l (ptA m q (f q)) fun p hp => (ptA_mem hp).elim (h p) fun e => by rw [e]]
    congr 1
    rw [ptA_keys, List.mem_cons]
    split
    · rename_i hq
      exact propext ⟨fun z => z.elim (fun z => .inl (.inr z)) .inr, fun z => z.elim (fun z => z.elim (fun z => .inr (z ▸ hq)) .inl) .inr⟩
    · rw [List.mem_append, List.mem_singleton]
      exact propext ⟨fun z => z.elim (fun z => .inl (.inr z)) fun z => z.elim .inr fun z => .inl (.inl z), fun z => z.elim (fun z => z.elim (fun z => .inr (.inr z)) .inl) fun z => .inr (.inl z)⟩
theorem prS_mem {bs ms : List Int} {cs : List (List Int)} {p : List Int × PyData} (h : p ∈ prS bs ms cs) : ∃ cc ∈ cs, ∃ k, k < cc.length ∧ bs.getD k 0 ≤ cc.getD k 0 ∧ p = (rz cc k (ms.getD k 0), TI cc) := by
  obtain ⟨cc, hc, h⟩ := List.mem_flatMap.mp h
  obtain ⟨k, hk, rfl⟩ := List.mem_map.mp h
  obtain ⟨h1, h2⟩ := List.mem_filter.mp hk
  exact ⟨cc, hc, k, List.mem_range.mp h1, of_decide_eq_true h2, rfl⟩
theorem prS_of {bs ms : List Int} {cs : List (List Int)} {cc : List Int} {k : Nat} (hc : cc ∈ cs) (hk : k < cc.length) (hg : bs.getD k 0 ≤ cc.getD k 0) : (rz cc k (ms.getD k 0), TI cc) ∈ prS bs ms cs :=
  List.mem_flatMap.mpr ⟨cc, hc, List.mem_map.mpr ⟨k, List.mem_filter.mpr ⟨List.mem_range.mpr hk, decide_eq_true hg⟩, rfl⟩⟩
theorem gM_mem {bs ms : List Int} {p : List Int × PyData} (h : p ∈ gM bs ms) : ∃ cc ∈ cells bs ms, ∃ k, k < cc.length ∧ bs.getD k 0 ≤ cc.getD k 0 ∧ p = (rz cc k (ms.getD k 0), TI cc) :=
  (foldP_mem _ _ h).elim (fun z => nomatch z) prS_mem
theorem gKeys_mem {bs ms k : List Int} (h : k ∈ gKeys bs ms) : ∃ cc ∈ cells bs ms, ∃ j, j < cc.length ∧ bs.getD j 0 ≤ cc.getD j 0 ∧ k = rz cc j (ms.getD j 0) := by
  obtain ⟨p, hp, rfl⟩ := List.mem_map.mp h
  obtain ⟨cc, h1, j, h2, h3, rfl⟩ := gM_mem hp
  exact ⟨cc, h1, j, h2, h3, rfl⟩
theorem gKeys_of {bs ms cc : List Int} {k : Nat} (hc : cc ∈ cells bs ms) (hk : k < cc.length) (hg : bs.getD k 0 ≤ cc.getD k 0) : rz cc k (ms.getD k 0) ∈ gKeys bs ms := by
  unfold gKeys gM rcMap
  rw [foldP_key]
  exact .inr (List.mem_map.mpr ⟨_, prS_of hc hk hg, rfl⟩)
theorem rz_len {cc : List Int} {k : Nat} {m : Int} (h : k < cc.length) : (rz cc k m).length = cc.length := by
  unfold rz
  simp only [List.length_append, List.length_take, List.length_drop, List.length_cons, List.length_nil]
  omega
theorem keys_len {bs ms : List Int} : ∀ k ∈ cells bs ms ++ gKeys bs ms, k.length = bs.length := fun k h => by
  rcases List.mem_append.mp h with h | h
  · exact cells_at k h
  · obtain ⟨cc, h1, j, h2, _, rfl⟩ := gKeys_mem h
    rw [rz_len h2, cells_at cc h1]
theorem gKeys_nil {bs ms : List Int} (h : bs.length = 0) : gKeys bs ms = [] := by
  cases e : gKeys bs ms with
  | nil => rfl
  | cons k r =>
    obtain ⟨cc, h1, j, h2, _⟩ := gKeys_mem (bs := bs) (ms := ms) (k := k) (by rw [e]; exact List.mem_cons_self ..)
    rw [cells_at cc h1] at h2
    omega
theorem cells_nil {bs ms : List Int} (h : bs.length = 0) : cells bs ms = [[]] := by
  unfold cells
  rw [h]
  rfl
theorem keys_one {bs ms : List Int} (h : bs.length = 0) : (cells bs ms ++ gKeys bs ms).length ≤ 1 := by
  rw [gKeys_nil h, cells_nil h]
  exact Nat.le_refl _
theorem srt_mem {ks : List (List Int)} {k : List Int} : k ∈ srt ks ↔ k ∈ ks := List.mem_mergeSort
theorem probe_mem {bs ms k : List Int} : k ∈ probeL bs ms ↔ k ∈ cells bs ms ∨ k ∈ gKeys bs ms := by
  unfold probeL
  rw [srt_mem, List.mem_append]
theorem probe_len {bs ms : List Int} (two : bs.length ≤ 2) : (probeL bs ms).length ≤ (cells bs ms).length * 3 + 2 := by
  unfold probeL gKeys gM
  rw [srt_len, List.length_append, List.length_map]
  have := rcM_len (m0 := []) (bs := bs) (ms := ms) (i := (cells bs ms).length) (j := 0) two (Nat.zero_le _)
  rw [rcM_all] at this
  simp only [List.length_nil] at this
  omega
theorem anc_of {bs ms k : List Int} (h : k ∈ gKeys bs ms) : ancO bs ms k ∈ cells bs ms ∧ lkA (gM bs ms) k = some (TI (ancO bs ms k)) := by
  obtain ⟨d, hd⟩ := lkA_some h
  obtain ⟨cc, h1, j, h2, h3, e⟩ := gM_mem (lkA_some_mem hd)
  have ed : d = TI cc := congrArg Prod.snd e
  have ea : ancO bs ms k = cc := by
    unfold ancO
    rw [hd, ed]
    exact tlOf_TI cc
  rw [ea]
  exact ⟨h1, by rw [hd, ed]⟩
/-- the first of a list that a test holds of -/
theorem find_at {α : Type} {p : α → Bool} {l : List α} {i : Nat} {d : α} (hi : i < l.length) (h0 : ∀ x ∈ l.take i, p x = false) (h1 : p (l.getD i d) = true) : l.find? p = some (l.getD i d) := by
  have e : l = l.take i ++ l.getD i d :: l.drop (i + 1) := by
    rw [List.getD_eq_getElem?_getD, List.getElem?_eq_getElem hi]
    show l = l.take i ++ l[i] :: l.drop (i + 1)
    rw [← List.drop_eq_getElem_cons hi, List.take_append_drop]
  have n : (l.take i).find? p = none := List.find?_eq_none.mpr fun x hx => by rw [h0 x hx]; decide
  generalize hx : l.getD i d = x at *
  rw [e, List.find?_append, n, List.find?_cons_of_pos h1]
  rfl
end K93
set_option maxHeartbeats 4000000
/-! K93LR: learned. -/
namespace K93
open PySem PySem.Spec PyProof.Rows L2
def tlen (d : PyData) : Int := match d with
  | .tuple ds => (ds.length : Int)
  | _ => 0
theorem areMeas_TI' {d : PyData} {n : Nat} (h : areMeas d (n : Int) = true) : ∃ ms : List Int, d = TI ms ∧ ms.length = n ∧ ∀ m ∈ ms, 1 ≤ m := by
  have h0 := areMeas_and d n
  rw [h, Bool.and_true] at h0
  obtain ⟨ms, rfl, h1, h2⟩ := areNums_TI h0
  rw [areMeas_TI h0, List.all_map, List.all_eq_true] at h
  exact ⟨ms, rfl, by omega, fun m hm => by have : 0 < m := of_decide_eq_true (h m hm); omega⟩
theorem Le.downJ {c : Kx} {I J : Ix c.pa} {H0 H1 H2 : Hp} {a : Addr} (l : Le c I H0 H1) (h0 : H0 a = none) (l' : Le (c.up a) (J.up a) H1 H2) : Le c J H0 H2 :=
  ⟨fun b o e n m => l'.ex b o (l.ex b o e n m) n fun z => (List.mem_cons.mp z).elim (ne_of_none e h0) m, l'.ok.down, fun p z => l.fr p (l'.fr p z)⟩
/-- what learned lets out, or gives -/
structure LrnH (P : Program) (w : World) (K : PySem.W.Frag) (mg : Str → Option Value) (base : Heap) (cTM cBA cFA cNN cNB : Addr) (c : Kx) (T : Nat → Ix c.pa) (N : Nat) (ans : List Int → PyData) (vf : V) (d1 d2 d3 : PyData) (H : Hp) (Q : VK) (E : XK) : Prop where
  ok1 : okI d1
  ok2 : okI d2
  ok3 : noq d3 = true
  a : (!areBounds d1 || !areMeas d2 (tlen d1)) = true → ∀ H', Le c (T 0) H H' → E (.ref cNB) none H'
  b : (!areBounds d1 || !areMeas d2 (tlen d1)) = false → within d3 1 12 = false → ∀ H', Le c (T 0) H H' → E (.ref cNN) none H'
  sz : ∀ bs ms, d1 = TI bs → d2 = TI ms → BM bs ms → mc bs ms ≤ 100000
  tm : ∀ bs ms, d1 = TI bs → d2 = TI ms → BM bs ms → within d3 1 12 = true → 1000 < mc bs ms → ∀ H' d, Le c (T 0) H H' → H' d = none → E (.ref cTM) (some d) (upd H' d (.xd [("most", .int 1000)]))
  ok : ∀ bs ms n, d1 = TI bs → d2 = TI ms → d3 = .int n → BM bs ms → 1 ≤ n → n ≤ 12 → mc bs ms ≤ 1000 → Sg P w K mg base 2 c T N (fun k => k ∈ probeL bs ms) ans H vf ∧ (probeL bs ms).length ≤ N ∧ (∀ k ∈ probeL bs ms, okI (ans k)) ∧
    (∀ k i, lrnOut bs ms n ans = .bad k → i ≤ N → ∀ H' v d, Le c (T i) H H' → DD K c.pa H' v (TI k) → H' d = none → E (.ref cBA) (some d) (upd H' d (.xd [("at", v)]))) ∧
    (∀ k i, lrnOut bs ms n ans = .fall k → i ≤ N → ∀ H' v d, Le c (T i) H H' → DD K c.pa H' v (TI k) → H' d = none → E (.ref cFA) (some d) (upd H' d (.xd [("at", v)]))) ∧
    (∀ i, lrnOut bs ms n ans = .tab → i ≤ N → ∀ v H', Le c (T i) H H' → TbO K c.pa H' v bs ms ((cells bs ms).map (rowB bs ms fun k => tlOf (ans k))) → Q v H')
def spLrn (P : Program) (w : World) (K : PySem.W.Frag) (mg : Str → Option Value) (base : Heap) (cTM cBA cFA cNN cNB tT tL : Addr) : Sp := fun vs H Q E => ∃ (c : Kx) (T : Nat → Ix c.pa) (N : Nat) (ans : List Int → PyData) (vf v1 v2 v3 : V) (d1 d2 d3 : PyData), c.T = kT tT tL ∧ vs = [vf, v1, v2, v3] ∧ Ok c (T 0) H ∧ DDs K c.pa H [v1, v2, v3] [d1, d2, d3] ∧
  LrnH P w K mg base cTM cBA cFA cNN cNB c T N ans vf d1 d2 d3 H Q E
abbrev N39 : List Str := ["function", "bounds", "measures", "many", "greater", "told", "probe", "first", "later"]
theorem sc39 : FnScope N39 ["function", "bounds", "measures", "many"] (defScope (topS 39)) := ⟨rfl, rfl, rfl, by decide +kernel, rfl, by decide +kernel, by decide +kernel⟩
section
variable {P : Program} {w : World} {K : PySem.W.Frag} {mg : Str → Option Value} {base : Heap} {cTM cBA cFA cNN cNB cNI cRE tT tL : Addr}
theorem fn_code {k : Nat} {f : Addr} {x qual : Str} {st : Stmt} {fd : FuncData} {N ps : List Str} {sp : Sp} (F : Fun K x qual st f fd) (S : FnScope N ps (defScope st)) (len : ∀ vs H Q E, sp vs H Q E → vs.length = ps.length)
    (hb : ∀ (A : Around) (outer : List Env) (s : Shared) (H : Hp) (vs : List V) (Q : VK) (E : XK), Room k (A.deeper (envOfC qual (defScope st) s.heap.objs.size f fd.code)) → sp vs H Q E → SB (cX P w K mg base N qual (defScope st) f fd.code A outer s H E) { nx := fun _ H' => Q .non H', rt := Q } (defBody st) (start N vs) H) :
    FnOk P w K mg base (L2.CX P w) (k + 1) f fd ps sp := by
  obtain ⟨oc, od, kV, doc, pm, an, cdv, ct, osl, rfl, lk, hcd⟩ := F.ex
  exact fn_of lk hcd S len fun A outer s H vs Q E hr hsp => ⟨_, pbS, hb A outer s H vs Q E hr hsp⟩
theorem f39 (T0 : Tx K mg) (Z : Xc P K mg cTM cBA cFA cNN cNB cNI cRE) (Tbb : Tb K mg base tT tL) : FnD P w K mg base (L2.CX P w) 8 "learned" (spLrn P w K mg base cTM cBA cFA cNN cNB tT tL) := by
  obtain ⟨f, fd, cd, F, hm, hbd, hcd, TB⟩ := Tbb.lrn
  refine ⟨f, fd, ["function", "bounds", "measures", "many"], hm, F.kp, hbd, fn_code F sc39 (fun vs H Q E ⟨_, _, _, _, _, _, _, _, _, _, _, _, h, _⟩ => by rw [h]; rfl) fun A outer s H vs Q E hr h => ?_⟩
  obtain ⟨c, T, N, ans, vf, v1, v2, v3, d1, d2, d3, hT, rfl, ok, hd, L⟩ := h
  rw [hcd] at hr ⊢
  obtain ⟨x1, x2, x3, e123, h1, h2, h3⟩ := dds3 hd
  cases e123
  have tk : Takes (cX P w K mg base N39 "learned" (defScope (topS 39)) f (.ref cd) A outer s H E) (fun cls d _ H => E cls d H) := takes_of rfl rfl rfl rfl
  have hp : PassesOwn (model P w) (cX P w K mg base N39 "learned" (defScope (topS 39)) f (.ref cd) A outer s H E).A (cX P w K mg base N39 "learned" (defScope (topS 39)) f (.ref cd) A outer s H E).env (cX P w K mg base N39 "learned" (defScope (topS 39)) f (.ref cd) A outer s H E).xe := passes_of rfl
  refine sb_when ok (tv_or (k := !areMeas d2 (tlen d1)) (tv_not (tv_val (ed_call ((f19 T0).mono (by decide)) hr (ad_cons (ed_var 1 rfl h1) ad_nil) ⟨_, rfl, L.ok1, rfl⟩))) fun z => ?_) (fun z H1 l1 => ?_) fun z H1 l1 => ?_
  · cases e : areBounds d1 with
    | false => rw [e] at z; cases z
    | true =>
      obtain ⟨ns, rfl, _⟩ := areBounds_TI e
      exact tv_not (tv_val (ed_call ((f20 T0).mono (by decide)) hr (ad_cons (ed_var 2 rfl h2) (ad_cons (ed_lenT T0.B (ed_var 1 rfl h1)) ad_nil)) ⟨_, _, rfl, L.ok2, rfl⟩))
  · exact sb_raise0 tk Z.nb (L.a z H1 l1)
  obtain ⟨z1, z2⟩ := Bool.or_eq_false_iff.mp z
  obtain ⟨bs, rfl, two, b0⟩ := areBounds_TI (by simpa using z1)
  have zm : areMeas d2 (bs.length : Int) = true := by
    have : tlen (TI bs) = (bs.length : Int) := by show (((bs.map PyData.int).length : Nat) : Int) = _; rw [List.length_map]
    rw [this] at z2
    simpa using z2
  obtain ⟨ms, rfl, lm, m1⟩ := areMeas_TI' zm
  have B : BM bs ms := ⟨lm.symm, two, b0, m1⟩
  obtain ⟨tf, hf⟩ := T0.mf
  obtain ⟨tc, hc⟩ := T0.mc
  have sz := L.sz bs ms rfl rfl B
  refine sb_expr (J := T 0) (P := fun _ _ => within d3 1 12 = true) l1.ok (ev_callX tk (f14 T0 Z) (hr.mono (by decide)) (ad_cons (ed_var 3 rfl (l1.dd h3)) (ad_cons ed_int (ad_cons (ed_glob rfl hf) ad_nil))) fun vs H2 l2 w Q' q' => ?_) fun v H2 l2 wn => ?_
  · exact ⟨c, T 0, d3, 1, 12, l2.ok, w, L.ok3, fun z H3 l3 => q' .non H3 l3 z, fun z H3 l3 => L.b ‹_› z H3 (l1.trans (l2.trans l3))⟩
  have l12 := l1.trans l2
  obtain ⟨n, rfl, n1, n12⟩ : ∃ n : Int, d3 = .int n ∧ 1 ≤ n ∧ n ≤ 12 := by
    cases d3 with
    | int n =>
      have w : (decide (1 ≤ n) && decide (n ≤ 12)) = true := wn
      rw [Bool.and_eq_true, decide_eq_true_eq, decide_eq_true_eq] at w
      exact ⟨n, rfl, w.1, w.2⟩
    | _ => cases wn
  refine sb_when l2.ok (tv_gt (ed_call ((f21 T0).mono (by decide)) hr (ad_cons (ed_var 1 rfl (l12.dd h1)) (ad_cons (ed_var 2 rfl (l12.dd h2)) ad_nil)) ⟨_, _, rfl, B, sz, rfl⟩) (ed_glob rfl hc)) (fun z H3 l3 => ?_) fun z H3 l3 => ?_
  · obtain ⟨fI, fdI, S⟩ := Z.tm
    exact sb_raise1 tk l3.ok S exT1 (hr.mono (by decide)) (ed_glob rfl hc) fun v d H4 l4 dv nd => by
      rw [dv.intOf]
      exact L.tm bs ms rfl rfl B wn (of_decide_eq_true z) H4 d (l12.trans (l3.trans l4)) nd
  have most : mc bs ms ≤ 1000 := by have := of_decide_eq_false z; omega
  obtain ⟨SG, hN, hok, qB, qF, qT⟩ := L.ok bs ms n rfl rfl rfl B n1 n12 most
  have l13 := l12.trans l3
  have lc2 : ((cells bs ms).length : Int) = mc bs ms := cellsI_len B bs.length (Nat.le_refl _)
  have hu : (cX P w K mg base N39 "learned" (defScope (topS 39)) f (.ref cd) A outer s H E).A.units + 64 < cLine := by have := hr.un; show (A.deeper _).units + 64 < cLine; omega
  have hu1 : (cX P w K mg base N39 "learned" (defScope (topS 39)) f (.ref cd) A outer s H E).A.units + 1 < cLine := by omega
  refine sb_set (J := T 0) (P := fun v H' => ∃ a kvs, v = .ref a ∧ a ∉ c.pa ∧ H' a = some (.dT (enT kvs)) ∧ DM K c.pa H' kvs (gM bs ms)) 4 l3.ok (ev_call ((f38 T0).mono (by decide)) hr (ad_cons (ed_var 1 rfl (l13.dd h1)) (ad_cons (ed_var 2 rfl (l13.dd h2)) ad_nil)) fun vs H4 l4 w Q' q' => ?_) sc39.nd fun v4 H4 l4 hv => ?_
  · obtain ⟨x, y, rfl, w1, w2⟩ := dds2 w
    exact ⟨c, T 0, x, y, bs, ms, rfl, l4.ok, w1, w2, B, most, fun a kvs H5 l5 h0 ea dm => q' _ H5 l5 ⟨a, kvs, rfl, l4.ok.npa h0, ea, dm⟩⟩
  obtain ⟨ag, gkv, rfl, ng, eg, dg⟩ := hv
  have l14 := l13.trans l4
  refine sb_set 5 l4.ok ev_dnew sc39.nd fun v5 H5 l5 hv => ?_
  obtain ⟨a, rfl, h0, na, ha⟩ := hv
  have m0 : a ∈ (c.up a).pa := List.mem_cons_self ..
  have dlen := dg.len
  have eg5 : H5 ag = some (.dT (enT gkv)) := l5.at eg (fun _ z => nomatch z) ng
  have nga : ag ≠ a := ne_of_none eg h0
  have nag : ag ∉ (c.up a).pa := fun z => (List.mem_cons.mp z).elim nga ng
  have hb5 := (l14.dd h1).upAt h0 l5
  have hm5 := (l14.dd h2).upAt h0 l5
  have gk : gkv.map (·.1) = gKeys bs ms := dg.keys
  have pl := probe_len (bs := bs) (ms := ms) two
  have glen : (gKeys bs ms).length ≤ 4000 := by
    have : (gKeys bs ms).length ≤ (probeL bs ms).length := by
      unfold probeL
      rw [srt_len, List.length_append]
      omega
    omega
  refine sb_for1G (n := (probeL bs ms).length) (f := fun i => ((probeL bs ms).map TI).getD i .none) 6 ((l5.ok.up ha rfl).pin m0 ha) (IT.len (it_list (ed_sortL (ks := cells bs ms ++ gKeys bs ms) (n := bs.length) T0.B hu (ED.is (d := .list ((cells bs ms).map TI ++ (gKeys bs ms).map TI)) (ed_catL (ds := (cells bs ms).map TI) (es' := (gKeys bs ms).map TI) (ed_call ((f22 T0).mono (by decide)) hr (ad_cons (ed_var 1 rfl hb5) (ad_cons (ed_var 2 rfl hm5) ad_nil)) ⟨_, _, rfl, B, by omega, rfl⟩) (ED.is (d := .list ((gkv.map (·.1)).map TI)) (ed_listD (kvs := gkv) T0.B (ev_var 4 rfl) fun H6 l6 => l6.at eg5 (fun _ z => nomatch z) nag) (by rw [gk])) (by rw [List.length_map, List.length_map]; omega)) (by rw [List.map_append])) keys_len keys_one)) (List.length_map _)) sc39.nd hp fun H6 l6 => ?_
  have ok6 := l6.ok.unpin
  have b6 : Le c (T 0) H4 H6 := l5.down h0 l6.unpin
  refine ⟨fun i => (T i).up a, fun i σ' H' => ∃ w6 kvs, σ' = [some vf, some v1, some v2, some v3, some (.ref ag), some (.ref a), w6, none, none] ∧ Le (c.up a) ((T i).up a) H6 H' ∧ H' a = some (.dT (enT kvs)) ∧ DM K (c.up a).pa H' kvs (foldP [] (((probeL bs ms).take i).map fun k => (k, ans k))) ∧ ∀ k ∈ (probeL bs ms).take i, areNums (ans k) n = true,
    ⟨none, [], rfl, .refl ok6, l6.ok.inv.2, .nil, fun k z => nomatch z⟩, ?_, ?_, ?_⟩
  · rintro i σ' H' _ ⟨w6, kvs, rfl, lH, _⟩
    exact ⟨lH.ex, lH.ok⟩
  · rintro i u σ' H7 H8 hi ⟨w6, kvs, rfl, lH, ea, dm, hg⟩ g d6
    rw [getD_map (d := []) hi] at d6
    have l8 := g.le lH.ok
    have ea := g.at ea
    have dm := dm.mono l8.ex
    have hpr : (probeL bs ms).getD i [] ∈ probeL bs ms := getD_memL hi
    have lA : Le c (T i) H4 H8 := l5.downJ h0 ((l6.unpin.trans lH).trans l8)
    have dml := dm.len
    have fl := foldP_len (((probeL bs ms).take i).map fun k => (k, ans k)) []
    rw [List.length_map, List.length_take] at fl
    simp only [List.length_nil] at fl
    have d6c := DD.less (fun b hb => List.mem_cons_of_mem a hb) _ _ d6
    refine sb_dput (I := T i) (J := T (i + 1)) (L := T (i + 1)) (k := (probeL bs ms).getD i []) (P := fun v H' => DD K c.pa H' v (ans ((probeL bs ms).getD i []))) hu1 l8.ok.down (ed_callS (X := cX P w K mg base N39 "learned" (defScope (topS 39)) f (.ref cd) A outer s H E) (T := T) (j := 0) (SG.mono (l14.trans lA).ex) rfl (hr.mono (by decide)) (ed_var 6 rfl d6c) (by omega) hpr) (ev_var 5 rfl) (ed_var 6 rfl d6c) (fun H9 l9 => l9.at ea (fun _ z => nomatch z) na) (by omega) mdd fun v9 H9 l9 d9 => ?_
    have e9 := l9.at ea (fun _ z => nomatch z) na
    have l9u := l9.lift na ea rfl
    have l10 := Le.put (o' := .dT (enT (ptA kvs ((probeL bs ms).getD i []) v9))) na l9u e9 rfl rfl
    have dm10 : DM K (c.up a).pa (upd H9 a (.dT (enT (ptA kvs ((probeL bs ms).getD i []) v9)))) (ptA kvs ((probeL bs ms).getD i []) v9) (foldP [] (((probeL bs ms).take (i + 1)).map fun k => (k, ans k))) := by
      rw [take_snoc (d := []) hi, List.map_append]
      show DM _ _ _ _ (foldP [] (_ ++ [((probeL bs ms).getD i [], ans ((probeL bs ms).getD i []))]))
      rw [foldP_snoc]
      exact ((dm.mono l9u.ex).put (DD.liftD e9 _ _ d9)).mono (Ex.chg m0)
    have ea10 : upd H9 a (.dT (enT (ptA kvs ((probeL bs ms).getD i []) v9))) a = some (.dT (enT (ptA kvs ((probeL bs ms).getD i []) v9))) := upd_same
    generalize upd H9 a (.dT (enT (ptA kvs ((probeL bs ms).getD i []) v9))) = H10 at l10 dm10 ea10
    generalize ptA kvs ((probeL bs ms).getD i []) v9 = kvs10 at dm10 ea10
    have lB : Le c (T (i + 1)) H4 H10 := l5.downJ h0 ((l6.unpin.trans lH).trans (l8.trans l10))
    have d6d := DD.less (fun b hb => List.mem_cons_of_mem a hb) _ _ (l10.dd d6)
    have dmc := dm10.less (pb := c.pa) fun b hb => List.mem_cons_of_mem a hb
    have hl : lkA (foldP [] (((probeL bs ms).take (i + 1)).map fun k => (k, ans k))) ((probeL bs ms).getD i []) = some (ans ((probeL bs ms).getD i [])) := by
      rw [foldP_lk ans _ _ [] (fun p hp => nomatch hp), if_pos]
      rw [take_snoc (d := []) hi]
      exact .inl (List.mem_append_right _ (List.mem_singleton.mpr rfl))
    obtain ⟨vv, hvv, dvv⟩ := dmc.get hl
    have okp := hok _ hpr
    refine sb_when (q := !areNums (ans ((probeL bs ms).getD i [])) n) l10.ok.down (tv_not (tv_val (ed_call ((f13 T0).mono (by decide)) hr (ad_cons (ed_dget hu1 (ev_var 5 rfl) (ed_var 6 rfl d6d) (fun H11 l11 => l11.at ea10 (fun _ z => nomatch z) na) hvv fun H11 l11 => l11.dd dvv) (ad_cons (ed_var 3 rfl ((l14.trans lB).dd h3)) ad_nil)) ⟨_, _, rfl, okp, rfl⟩))) (fun z H11 l11 => ?_) fun z H11 l11 => ?_
    · obtain ⟨fI, fdI, S⟩ := Z.ba
      refine sb_raise1 tk l11.ok S exT2 (hr.mono (by decide)) (ed_var 6 rfl (l11.dd d6d)) fun v d H12 l12' dv nd => ?_
      refine qB _ (i + 1) ?_ (by omega) H12 v d (l14.trans (lB.trans (l11.trans l12'))) dv nd
      unfold lrnOut
      rw [find_at (d := []) hi (fun k hk => by rw [hg k hk]; rfl) z]
    · have e11 := l11.at ea10 (fun _ z => nomatch z) na
      have l11u := l11.lift na ea10 rfl
      refine sb_nil ⟨_, kvs10, rfl, lH.trans (l8.trans (l10.trans l11u)), e11, dm10.mono l11u.ex, fun k hk => ?_⟩
      rw [take_snoc (d := []) hi] at hk
      rcases List.mem_append.mp hk with hk | hk
      · exact hg k hk
      · rw [List.mem_singleton.mp hk]
        simpa using z
  · rintro σ' H7 ⟨w6, kvs, rfl, lH, ea, dm, hg⟩
    rw [List.take_length] at dm hg
    generalize hN' : (probeL bs ms).length = NN at lH hN
    have lE : Le c (T NN) H4 H7 := l5.downJ h0 (l6.unpin.trans lH)
    have dmc := dm.less (pb := c.pa) fun b hb => List.mem_cons_of_mem a hb
    have eg7 : H7 ag = some (.dT (enT gkv)) := lE.at eg (fun _ z => nomatch z) ng
    have dg7 := dg.mono lE.ex
    have tlk : ∀ k ∈ probeL bs ms, lkA (foldP [] ((probeL bs ms).map fun k => (k, ans k))) k = some (TI (tlOf (ans k))) ∧ ((tlOf (ans k)).length : Int) = n := fun k hk => by
      have h := areNums_tl (hg k hk)
      refine ⟨?_, h.2⟩
      rw [foldP_lk ans _ _ [] (fun p hp => nomatch hp), if_pos (.inl hk), ← h.1]
    have find0 : (probeL bs ms).find? (fun k => !areNums (ans k) n) = none := List.find?_eq_none.mpr fun k hk => by rw [hg k hk]; decide
    have ssl : (srt (gKeys bs ms)).length = (gKeys bs ms).length := srt_len _
    have klen : ∀ k ∈ gkv, k.1.length = bs.length := fun k hk => keys_len _ (List.mem_append_right _ (by rw [← gk]; exact List.mem_map.mpr ⟨k, hk, rfl⟩))
    have kone : bs.length = 0 → gkv.length ≤ 1 := fun e => by
      have : (gkv.map (·.1)).length = 0 := by rw [gk, gKeys_nil e]; rfl
      rw [List.length_map] at this
      omega
    refine sb_for1 (n := (srt (gKeys bs ms)).length) (f := fun i => ((srt (gKeys bs ms)).map TI).getD i .none) 6 (I := T NN) (J := T NN) lE.ok (IT.len (it_list (ED.is (d := .list ((srt (gkv.map (·.1))).map TI)) (ed_sortD T0.B hu (ev_var 4 rfl) (fun H8 l8 => l8.at eg7 (fun _ z => nomatch z) ng) klen kone) (by rw [gk]))) (List.length_map _)) sc39.nd hp fun H8 l8 => ?_
    refine ⟨fun i => T NN, fun i σ' H' => ∃ w6, σ' = [some vf, some v1, some v2, some v3, some (.ref ag), some (.ref a), w6, none, none] ∧ Le c (T NN) H8 H' ∧ ∀ k ∈ (srt (gKeys bs ms)).take i, lessAny (tlOf (ans (ancO bs ms k))) (tlOf (ans k)) = false, ⟨_, rfl, .refl l8.ok, fun k z => nomatch z⟩, ?_, ?_, ?_⟩
    · rintro i σ' H' _ ⟨w6, rfl, lH, _⟩
      exact ⟨lH.ex, lH.ok⟩
    · rintro i u σ' H9 H10 hi ⟨w6, rfl, lH, hg2⟩ l10 d6
      rw [getD_map (d := []) hi] at d6
      have hk : (srt (gKeys bs ms)).getD i [] ∈ gKeys bs ms := srt_mem.mp (getD_memL hi)
      obtain ⟨an1, an2⟩ := anc_of hk
      generalize hkk : (srt (gKeys bs ms)).getD i [] = kk at d6 hk an1 an2
      have lC := (l8.trans lH).trans l10
      have ea10 := lC.at ea (fun _ z => nomatch z) na
      have eg10 := lC.at eg7 (fun _ z => nomatch z) ng
      obtain ⟨gv, hgv, dgv⟩ := (dg7.mono lC.ex).get an2
      obtain ⟨t1, n1'⟩ := tlk _ (probe_mem.mpr (.inl an1))
      obtain ⟨t2, n2'⟩ := tlk _ (probe_mem.mpr (.inr hk))
      obtain ⟨u1, hu1', du1⟩ := (dmc.mono lC.ex).get t1
      obtain ⟨u2, hu2', du2⟩ := (dmc.mono lC.ex).get t2
      refine sb_when (q := lessAny (tlOf (ans (ancO bs ms kk))) (tlOf (ans kk))) l10.ok (tv_val (ED.is (ed_any (ns := (List.range (tlOf (ans (ancO bs ms kk))).length).map fun i => decide ((tlOf (ans kk)).getD i 0 < (tlOf (ans (ancO bs ms kk))).getD i 0)) T0.B (ED.is (ed_lcx [("first", 7), ("later", 8)] (lc_2 7 8 [("first", 7), ("later", 8)] (ef := fun i => .bool (decide ((tlOf (ans kk)).getD i 0 < (tlOf (ans (ancO bs ms kk))).getD i 0))) (IT.ints2 (it_zipT T0.B (ed_dget (kvs := kvs) hu1 (ev_var 5 rfl) (ed_dget (kvs := gkv) hu1 (ev_var 4 rfl) (ed_var 6 rfl d6) (fun H11 l11 => l11.at eg10 (fun _ z => nomatch z) ng) hgv fun H11 l11 => l11.dd dgv) (fun H11 l11 => l11.at ea10 (fun _ z => nomatch z) na) hu1' fun H11 l11 => l11.dd du1) (ed_dget (kvs := kvs) hu1 (ev_var 5 rfl) (ed_var 6 rfl d6) (fun H11 l11 => l11.at ea10 (fun _ z => nomatch z) na) hu2' fun H11 l11 => l11.dd du2) (lmap (by omega))) (by omega)) (by omega) (fun i hi => fl_bool _) sc39.nd fun X' bl j v u Hb hj l dv du => ?_) sc39.nd (ok := blkOk_by (N := N39) (sc := defScope (topS 39)) (by decide +kernel))) ?_)) ?_)) (fun z H11 l11 => ?_) fun z H11 l11 => ?_
      · obtain ⟨s', Hx, C, cl, fp, rfl⟩ := bl
        exact ed_lt (ed_var 8 rfl du) (ed_var 7 rfl dv)
      · rw [List.map_map]
        rfl
      · unfold lessAny
        rw [List.any_map]
        rfl
      · obtain ⟨fI, fdI, S⟩ := Z.fa
        refine sb_raise1 tk l11.ok S exT3 (hr.mono (by decide)) (ed_var 6 rfl (l11.dd d6)) fun v d H12 l12' dv nd => ?_
        refine qF _ NN ?_ hN H12 v d (l14.trans (lE.trans (lC.trans (l11.trans l12')))) dv nd
        unfold lrnOut
        rw [find0, find_at (d := []) hi hg2 (by rw [hkk]; exact z), hkk]
      · refine sb_nil ⟨_, rfl, lH.trans (l10.trans l11), fun k hk' => ?_⟩
        rw [take_snoc (d := []) hi] at hk'
        rcases List.mem_append.mp hk' with hk' | hk'
        · exact hg2 k hk'
        · rw [List.mem_singleton.mp hk', hkk]
          exact z
    · rintro σ' H9 ⟨w6, rfl, lH, hg2⟩
      rw [List.take_length] at hg2
      have out : lrnOut bs ms n ans = .tab := by
        unfold lrnOut
        rw [find0, List.find?_eq_none.mpr fun k hk => by rw [hg2 k hk]; decide]
      have lC := l8.trans lH
      have lD := l14.trans (lE.trans lC)
      have isS : ∀ k ∈ probeL bs ms, (lkA (foldP [] ((probeL bs ms).map fun k => (k, ans k))) k).isSome = true := fun k hk => by rw [(tlk k hk).1]; rfl
      refine sb_ret lH.ok (ev_made (jt := 5) (tT := tT) (tL := tL) (cd := cd) (td := a) (tl := fun k => tlOf (ans k)) hT Tbb.ne TB rfl rfl (f36 T0) (hr.mono (by decide)) rfl rfl rfl rfl (ed_var 1 rfl (lD.dd h1)) (ed_var 2 rfl (lD.dd h2)) na (lC.at ea (fun _ z => nomatch z) na) (dmc.mono lC.ex) B most (fun cc hcc => ?_) fun k d hk => ?_) fun v H10 l10 tb => qT NN out hN v H10 (lD.trans l10) tb
      · have hcl := cells_at cc hcc
        have p0 : cc ∈ probeL bs ms := probe_mem.mpr (.inl hcc)
        refine ⟨hcl.symm, by rw [hcl, ← B.len], by omega, ?_, isS cc p0, fun k hk hg => isS _ (probe_mem.mpr (.inr (gKeys_of hcc hk hg))), fun k hk hg => ?_⟩
        · have := (tlk cc p0).2
          show (tlOf (ans cc)).length ≤ 1000
          omega
        · have e1 := (tlk cc p0).2
          have e2 := (tlk _ (probe_mem.mpr (.inr (gKeys_of hcc hk hg)))).2
          show (tlOf (ans (rz cc k (ms.getD k 0)))).length = (tlOf (ans cc)).length
          omega
      · have hm : k ∈ probeL bs ms := by
          have := foldP_lk ans k (probeL bs ms) [] (fun p hp => nomatch hp)
          rw [hk] at this
          by_cases q : k ∈ probeL bs ms
          · exact q
          · rw [if_neg (fun z => z.elim q fun z => nomatch z)] at this
            cases this
        rw [(tlk k hm).1] at hk
        exact (Option.some.inj hk).symm
end
end K93
set_option maxHeartbeats 4000000
/-! K93TR: several except clauses, each with a name; the exception that they hold. -/
namespace K93
open PySem PySem.Spec PyProof.Rows L2
/-- behind a clause with the name at slot i -/
def offE (i : Nat) (D : Ends) : Ends := { nx := fun σ' H' => D.nx (σ'.set i none) H', rt := D.rt, bk := fun σ' H' => D.bk (σ'.set i none) H', ct := fun σ' H' => D.ct (σ'.set i none) H' }
abbrev Cls3 := List (Value × (Addr → Value → Option Addr → TS))
def wAsM (K : PySem.W.Frag) (i : Nat) (Wout : WX) (D : Ends) : Cls3 → WX
  | [] => Wout
  | (c, ts) :: r => fun cls d σ H => ∃ b, PySem.W.exmOne K cls c = some b ∧ (b = true → ∀ a, H a = none → ts a cls d (offE i D) (σ.set i (some (.ref a))) H) ∧ (b = false → wAsM K i Wout D r cls d σ H)
inductive HdsA (X : Cx) (n : Str) : List ExceptHandler → Cls3 → Prop
  | nil : HdsA X n [] []
  | cons {x : Str} {c : Value} {ts : Addr → Value → Option Addr → TS} {b₀ : Stmt} {suite : List Stmt} {np pos' : Pos} {hds : List ExceptHandler} {l : Cls3} (hc : Names X x c)
      (hsu : ∀ (a : Addr) (oe : Obj) (cls : Value) (d : Option Addr) (pn : List (Addr × Obj)), Zc cls d oe → (∃ vs, oe.data = .fields vs) → PSs (X.suite a ((a, oe) :: pn)) (b₀ :: suite) (ts a cls d)) (r : HdsA X n hds l) : HdsA X n (.ExceptHandler (some (.Name x np)) (some n) (b₀ :: suite) pos' :: hds) ((c, ts) :: l)
theorem sp_same {X : Cx} {pins pn : List (Addr × Obj)} {D : Ends} {f : Flow} {s : Shared} {xe : Value → Shared → Prop} (ok : X.Ok) (h : SP (X.tr (X.pn ++ pins) xe) [] D f s) : SP X pins D f s := by
  cases f with
  | next =>
    obtain ⟨σ', H', J', q⟩ := h
    exact ⟨σ', H', J'.ofTry ok, q⟩
  | brk =>
    obtain ⟨σ', H', J', q⟩ := h
    exact ⟨σ', H', J'.ofTry ok, q⟩
  | cont =>
    obtain ⟨σ', H', J', q⟩ := h
    exact ⟨σ', H', J'.ofTry ok, q⟩
  | ret u =>
    obtain ⟨v, σ', H', J', r, q⟩ := h
    exact ⟨v, σ', H', J'.ofTry ok, r, q⟩
section
variable {X : Cx} {n : Str} {i : Nat} {body : List Stmt} {h₀ : ExceptHandler} {hds : List ExceptHandler} {l : Cls3} {pos : Pos} {tb : WX → TS} {Wout : WX}
theorem ps_try_asM (hs : X.stack = X.env :: X.outer) (hf : X.env.frame = some X.env.locals) (hN : X.N.Nodup) (hi : X.N[i]? = some n) (hln : X.env.kindOf n = some .local) (tk : Takes X Wout)
    (hb : ∀ (W : WX) (pn : List (Addr × Obj)) (xe : Value → Shared → Prop), Takes (X.tr pn xe) W → PassesOwn (model X.prog X.w) X.A X.env xe → PSs (X.tr pn xe) body (tb W)) (hh : HdsA X n (h₀ :: hds) l) :
    PS X (.Try body (h₀ :: hds) [] [] pos) (fun D σ H => tb (wAsM X.K i Wout D l) D σ H) := by
  refine ⟨fun pins s σ H D I h => wpAny_Try_except ?_⟩
  have ok := I.ok
  refine wpAny_mono ((hb (wAsM X.K i Wout D l) (X.pn ++ pins) (fun e s₁ => wpAny (model X.prog X.w) X.A (noteFrame e X.env) (fun _ s₂ => wpAny (model X.prog X.w) X.A (setFlight e none) (fun _ s₃ => wpAny (model X.prog X.w) X.A (handleBy e X.env (h₀ :: hds)) (SP X pins D) X.xe s₃) X.xe s₂) X.xe s₁)
    (fun u s' xx => ?_) PassesOwn.looking).run [] s σ H D (I.toTry _) h) (fun f s1 hsp => ?_) fun _ _ he => he
  · obtain ⟨a, B, sI, pins', σ', H', cls, d, rfl, J', nb, up, sky, na, os, ag, w⟩ := xx
    have J : Inv X pins σ' H' sI := J'.ofTry ok
    refine Sky.land Zc.steady (by rw [ok.frames, hs]) hf (hs ▸ sky) fun h3 fl3 up3 => ?_
    have J3 : Inv X pins σ' H' { s' with heap := h3 } := J.landed nb fl3.1 (up.trans up3) os ag
    obtain ⟨oe3, vs3, he3, hz3, hd3⟩ := fl3.there
    have nfr : a ∉ frs (X.env :: X.outer) := fun hm => by
      obtain ⟨_, o', e', hnf⟩ := fl3.2.2.1.mem hm
      rw [he3] at e'; cases e'
      exact hnf _ hd3
    have nL : a ≠ X.env.locals := fun z => nfr (List.mem_filterMap.mpr ⟨X.env, List.mem_cons_self, by rw [hf, z]⟩)
    have nF : a ∉ X.fs := fun hm => (List.mem_filterMap.mp hm).elim fun e q => nfr (List.mem_filterMap.mpr ⟨e, List.mem_cons_of_mem _ q.1, q.2⟩)
    have S3 := J3.suite he3 hd3 na nL nF
    have go : ∀ {hds' : List ExceptHandler} {l' : Cls3}, HdsA X n hds' l' → wAsM X.K i Wout D l' cls d σ' H' → wpAny (model X.prog X.w) X.A (handleBy (.ref a) X.env hds') (SP X pins D) X.xe { s' with heap := h3 } := by
      intro hds' l' hk
      induction hk with
      | nil =>
        intro w
        obtain ⟨k1, k2, k3, oe, vs, T, oT, ts', he, hz, hd, h1, hr⟩ := id fl3
        refine wpAny_handleBy_nil ?_
        unfold PySem.passOn; refine wpAny_bind (wpAny_field he hd h1 ?_)
        rw [if_neg (show ¬ ((Value.ref T == Value.none) = true) by simp)]
        have fin : wpAny (model X.prog X.w) X.A (setFlight (.ref a) X.env.frame) (fun _ s4 => wpAny (model X.prog X.w) X.A (throw (.ref a) : Sem Flow) (SP X pins D) X.xe s4) X.xe { s' with heap := h3 } :=
          hf ▸ HandSPX.setFlight_upZ fl3 fun h4 hh4 up4 => wpAny_throw (tk _ _ ⟨a, B, sI, pins, σ', H', cls, d, rfl, J, nb, (up.trans up3).trans up4, .inr (.inr (by rw [hs]; exact hh4)), na, os, ag, w⟩)
        first
          | exact wpAny_bind (wpAny_pure (wpAny_bind fin))
          | exact wpAny_bind fin
      | @cons x c ts b₀ suite np pos' hds2 l2 hc hsu r ih =>
        intro w
        obtain ⟨b, hb1, hyes, hno⟩ := w
        have LM := PySem.W.exm_one (M := model X.prog X.w) J3.kIn (fun A Q E s k q => wpAny_typeOf_ref (k _ _ he3) (by rw [hz3.1]; exact q) : PySem.W.Looks (model X.prog X.w) h3 (typeOf (.ref a)) cls) hb1
        have test : ∀ {Q : Value → Shared → Prop} {E : Value → Shared → Prop}, Q c { s' with heap := h3 } → wpAny (model X.prog X.w) (X.A.mark (some (.ref a))) (eval (.Name x np) X.env) Q E { s' with heap := h3 } := fun q => by
          obtain ⟨hg, hdbg, hm | ⟨hm, hv, hnn⟩⟩ := hc <;> first | exact ld_glob (X := X.suite a ((a, oe3) :: (X.pn ++ pins))) S3 hg hm q hdbg | exact ld_blt (X := X.suite a ((a, oe3) :: (X.pn ++ pins))) S3 hg hm hv q hnn hdbg
        refine wpAny_handleBy_cons (codeAny_handlers_test (test (LM.here ?_))) (by intro q; cases q)
        cases b with
        | false => exact ih (hno rfl)
        | true =>
          refine codeAny_handlers_suite_as (HandSPX.lands_againZ fl3 fun h4 fl4 up4 => ?_)
          obtain ⟨oe4, vs4, he4, hz4, hd4⟩ := fl4.there
          have S4 := (J.landed nb fl4.1 ((up.trans up3).trans up4) os ag : Inv X pins σ' H' { s' with heap := h4 }).suite he4 hd4 na nL nF
          refine store_ok (X := X.suite a ((a, oe4) :: (X.pn ++ pins))) (v := .ref a) S4 hN hi (.inl hln) rfl (fun s5 S5 => wpAny_mono ((hsu a oe4 cls d (X.pn ++ pins) hz4 ⟨_, hd4⟩).run [] s5 _ H' _ S5 (hyes rfl a na)) (fun f s6 hsp => ?_) fun _ _ z => z.elim) (.inr hln)
          have end_ : ∀ {σ6 : St} {H6 : Hp} {Q : Shared → Prop}, Inv (X.suite a ((a, oe4) :: (X.pn ++ pins))) [] σ6 H6 s6 → (∀ s7, Inv X pins (σ6.set i none) H6 s7 → Q s7) → wpAny (model X.prog X.w) X.A (do bindName X.env n .none; unbindBehindTheSuite X.env n pos') (fun _ s7 => Q s7) X.xe s6 :=
            fun S6 hq => gone_ok (S6.unsuite ok) hN hi hln hq
          cases f with
          | ret u => exact hsp.elim fun v6 q => q.elim fun σ6 q => q.elim fun H6 q => end_ q.1 fun s7 J7 => ⟨_, _, _, J7, q.2.1, q.2.2⟩
          | _ => exact hsp.elim fun σ6 q => q.elim fun H6 q => end_ q.1 fun s7 J7 => ⟨_, _, J7, q.2⟩
    exact go hh w
  · have q := sp_same (pn := []) ok hsp
    cases f with
    | next => exact wpAny_execs_nil q
    | _ => exact q
end
/-! ### isinstance of the exception in hand -/
theorem call_isX {X : Cx} {a D : Addr} {oe : Obj} {d : Option Addr} {pn : List (Addr × Obj)} (C : L2.ExcC X.K D) (hz : Zc (.ref D) d oe) (hf : ∃ vs, oe.data = .fields vs) : CallR (X.suite a ((a, oe) :: pn)) (.builtin "isinstance") (fun xs H' Q => (∀ dd, d = some dd → ∃ fs, H' dd = some (.xd fs)) ∧ rIsE X.K D a xs H' Q) := by
  intro pins s σ H' xs us Q I r h
  obtain ⟨hd, c, cv, b, rfl, hcv, e, q⟩ := h
  cases r with
  | cons rx rr =>
    cases rr with
    | cons rt rr =>
      cases rr
      cases rx
      have ec := hcv _ rt
      subst ec
      have hget := (I.pin (a, oe) (List.mem_append.mpr (.inl List.mem_cons_self))).1
      obtain ⟨vs, hv⟩ := hf
      obtain ⟨od, J⟩ : ∃ od, PySem.W.InstAt s.heap a oe D od := by
        have nc : PySem.W.notCls oe = true := by unfold PySem.W.notCls; rw [hv]
        cases d with
        | none => exact ⟨none, hget, hz.1, nc, by rw [hz.2]; trivial⟩
        | some dd =>
          obtain ⟨fs, hdd⟩ := hd dd rfl
          obtain ⟨o, ho⟩ := objOk_get (I.hok dd _ hdd)
          exact ⟨some o, hget, hz.1, nc, by rw [hz.2]; exact ho⟩
      obtain ⟨cd, hc, _⟩ := PySem.W.any_some C.hd
      exact PySem.W.kia_one (PySem.W.kitx_exc (by rw [hc]; rfl) C.hg C.hk C.hs C.ha C.hn C.ht C.hm) I.kIn J e (fun z => nomatch z) fun tk => ⟨.bl b, H', I.kept (t' := tk) fun _ _ z => z, rfl, q⟩
end K93
set_option maxHeartbeats 4000000
/-! K93LL: the law's learned: what learned gives, or lets out, as data. -/
namespace K93
open PySem PySem.Spec PyProof.Rows L2
/-- what the classes of the exceptions are to each other -/
structure Xe (K : PySem.W.Frag) (cTM cBA cFA cNN cNB cNI cRE : Addr) : Prop where
  bb : PySem.W.exmOne K (.ref cBA) (.ref cBA) = some true
  fb : PySem.W.exmOne K (.ref cFA) (.ref cBA) = some false
  ff : PySem.W.exmOne K (.ref cFA) (.ref cFA) = some true
  r1 : ∀ D ∈ [cNB, cNN, cTM], PySem.W.exmOne K (.ref D) (.ref cBA) = some false ∧ PySem.W.exmOne K (.ref D) (.ref cFA) = some false ∧ PySem.W.exmOne K (.ref D) (.ref cRE) = some true ∧ L2.ExcC K D
  nb : PySem.W.kitOne K (.ref cNB) (.ref cNB) = some true ∧ PySem.W.kitOne K (.ref cNB) (.ref cNN) = some false ∧ PySem.W.kitOne K (.ref cNB) (.ref cTM) = some false
  nn : PySem.W.kitOne K (.ref cNN) (.ref cNB) = some false ∧ PySem.W.kitOne K (.ref cNN) (.ref cNN) = some true ∧ PySem.W.kitOne K (.ref cNN) (.ref cTM) = some false
  tm : PySem.W.kitOne K (.ref cTM) (.ref cNB) = some false ∧ PySem.W.kitOne K (.ref cTM) (.ref cNN) = some false ∧ PySem.W.kitOne K (.ref cTM) (.ref cTM) = some true
  xb : XfC K cBA
  xf : XfC K cFA
  ii : PySem.W.exmOne K (.ref cNI) (.ref cNI) = some true
def flagsD (a b c : Bool) : PyData := .tuple [.str "refused", .list [.bool a, .bool b, .bool c]]
def tabR (bs ms : List Int) (ans : List Int → PyData) : List (List (Int × List Int)) := (cells bs ms).map (rowB bs ms fun k => tlOf (ans k))
def outD (bs ms : List Int) (ans : List Int → PyData) : Out → PyData
  | .bad k => .tuple [.str "answer", TI k]
  | .fall k => .tuple [.str "falling", TI k]
  | .tab => .tuple [.str "table", tbD bs ms (tabR bs ms ans)]
def condA (d1 d2 : PyData) : Bool := !areBounds d1 || !areMeas d2 (tlen d1)
structure LLok (P : Program) (w : World) (K : PySem.W.Frag) (mg : Str → Option Value) (base : Heap) (c : Kx) (T : Nat → Ix c.pa) (N : Nat) (ans : List Int → PyData) (vf : V) (d1 d2 d3 : PyData) (H : Hp) (res : PyData) : Prop where
  ok1 : okI d1
  ok2 : okI d2
  ok3 : noq d3 = true
  a : condA d1 d2 = true → res = flagsD true false false
  b : condA d1 d2 = false → within d3 1 12 = false → res = flagsD false true false
  sz : ∀ bs ms, d1 = TI bs → d2 = TI ms → BM bs ms → mc bs ms ≤ 100000
  tm : ∀ bs ms, d1 = TI bs → d2 = TI ms → BM bs ms → within d3 1 12 = true → 1000 < mc bs ms → res = flagsD false false true
  ok : ∀ bs ms n, d1 = TI bs → d2 = TI ms → d3 = .int n → BM bs ms → 1 ≤ n → n ≤ 12 → mc bs ms ≤ 1000 → Sg P w K mg base 2 c T N (fun k => k ∈ probeL bs ms) ans H vf ∧ (probeL bs ms).length ≤ N ∧ (∀ k ∈ probeL bs ms, okI (ans k)) ∧ res = outD bs ms ans (lrnOut bs ms n ans)
def spLL (P : Program) (w : World) (K : PySem.W.Frag) (mg : Str → Option Value) (base : Heap) (tT tL : Addr) : Sp := fun vs H Q _ => ∃ (c : Kx) (T : Nat → Ix c.pa) (J : Ix c.pa) (N : Nat) (ans : List Int → PyData) (vf v1 v2 v3 : V) (d1 d2 d3 res : PyData), c.T = kT tT tL ∧ vs = [vf, v1, v2, v3] ∧ Ok c (T 0) H ∧ DDs K c.pa H [v1, v2, v3] [d1, d2, d3] ∧
  LLok P w K mg base c T N ans vf d1 d2 d3 H res ∧ (∀ i, i ≤ N → ∀ H, (T i).P H → J.P H) ∧ ∀ v H1, Le c J H H1 → DD K c.pa H1 v res → Q v H1
abbrev N51 : List Str := ["_law_function", "_law_bounds", "_law_measures", "_law_many", "_law_table_here", "_law_found", "e", "_law_flags"]
theorem sc51 : FnScope N51 ["_law_function", "_law_bounds", "_law_measures", "_law_many"] (defScope (topS 51)) := ⟨rfl, rfl, rfl, by decide +kernel, rfl, by decide +kernel, by decide +kernel⟩
/-- a read try's body, a read suite -/
def tTr (X : Cx) (body : List Stmt) : WX → TS := fun W D σ H => ∀ pn xe, Takes (X.tr pn xe) W → tSB (X.tr pn xe) body D σ H
def tSu (X : Cx) (suite : List Stmt) : Addr → Value → Option Addr → TS := fun a cls d D σ H => ∀ oe pn, Zc cls d oe → (∃ vs, oe.data = .fields vs) → tSB (X.suite a ((a, oe) :: pn)) suite D σ H
theorem sb_try3 {X : Cx} {n x1 x2 x3 : Str} {i : Nat} {body : List Stmt} {b1 b2 b3 : Stmt} {s1 s2 s3 rest : List Stmt} {q1 q2 q3 r1 r2 r3 pos : Pos} {C1 C2 C3 : Value} {D : Ends} {σ : St} {H : Hp} (hs : X.stack = X.env :: X.outer) (hf : X.env.frame = some X.env.locals) (hN : X.N.Nodup) (hi : X.N[i]? = some n) (hln : X.env.kindOf n = some .local) (tk : Takes X fun _ _ _ _ => False)
    (h1 : Names X x1 C1) (h2 : Names X x2 C2) (h3 : Names X x3 C3)
    (h : tTr X body (wAsM X.K i (fun _ _ _ _ => False) { D with nx := fun σ' H' => SB X D rest σ' H' } [(C1, tSu X (b1 :: s1)), (C2, tSu X (b2 :: s2)), (C3, tSu X (b3 :: s3))]) { D with nx := fun σ' H' => SB X D rest σ' H' } σ H) :
    SB X D (.Try body [.ExceptHandler (some (.Name x1 q1)) (some n) (b1 :: s1) r1, .ExceptHandler (some (.Name x2 q2)) (some n) (b2 :: s2) r2, .ExceptHandler (some (.Name x3 q3)) (some n) (b3 :: s3) r3] [] [] pos :: rest) σ H := by
  have su : ∀ (s : List Stmt) (a : Addr) (oe : Obj) (cls : Value) (d : Option Addr) (pn : List (Addr × Obj)), Zc cls d oe → (∃ vs, oe.data = .fields vs) → PSs (X.suite a ((a, oe) :: pn)) s (tSu X s a cls d) := fun s a oe cls d pn hz hf => ⟨fun pins s σ H D I h => (h oe pn hz hf).out pins s I⟩
  exact sb_of (ps_try_asM (tb := tTr X body) hs hf hN hi hln tk (fun W pn xe tk' _ => ⟨fun pins s σ H D I h => (h pn xe tk').out pins s I⟩) (.cons h1 (su _) (.cons h2 (su _) (.cons h3 (su _) .nil)))) h
section
variable {X : Cx} {c : Kx} {I : Ix c.pa} {σ : St} {H : Hp} {a D C : Addr} {oe : Obj} {d : Option Addr} {pn : List (Addr × Obj)}
theorem ev_cls {X : Cx} {c : Kx} {I : Ix c.pa} {σ : St} {H : Hp} {x : Str} {C : Addr} {pos : Pos} (hm : X.mg x = some (.ref C)) (hg : Gl X x := by rfl) (hd : (x == ("__debug__" : Str)) = false := by decide) : EV X c I I (.Name x pos) σ H fun v _ => v = .ref C :=
  EV.of (pe_glob (v := .ref C) hg hm rfl hd) fun H1 l Q q => q _ H1 (.refl l.ok) rfl
/-- isinstance(e, x), e the exception in hand -/
theorem ed_isX {e : Expr} {x : Str} {b : Bool} {p p2 pos : Pos} (B : Bn X.mg) (Cc : L2.ExcC X.K D) (hz : Zc (.ref D) d oe) (hf : ∃ vs, oe.data = .fields vs) (ok : Ok c I H) (hd : ∀ dd, d = some dd → ∃ fs, H dd = some (.xd fs)) (hm : X.mg x = some (.ref C)) (hk : PySem.W.kitOne X.K (.ref D) (.ref C) = some b)
    (ha : EV (X.suite a ((a, oe) :: pn)) c I I e σ H fun v _ => v = .ref a) (hg : Gl X "isinstance" := by rfl) (hgx : Gl X x := by rfl) (hdb : (x == ("__debug__" : Str)) = false := by decide)
    (he : starEach [e, .Name x p2] X.env = (false, eval e X.env) :: starEach [.Name x p2] X.env := by rfl) (he2 : starEach [.Name x p2] X.env = (false, eval (.Name x p2) X.env) :: starEach [] X.env := by rfl) (hpl : (backTo pos (starEach [.Name x p2] X.env)).any (·.1) = false := by rfl) :
    ED (X.suite a ((a, oe) :: pn)) c I I (.Call (.Name "isinstance" p) [e, .Name x p2] [] pos) σ H (.bool b) :=
  ev_callB (X := X.suite a ((a, oe) :: pn)) (call_isX Cc hz hf) B.isinstance rfl (av_cons ha (fun _ _ _ _ h => h) (av_cons (ev_cls (X := X.suite a ((a, oe) :: pn)) hm hgx hdb) (fun _ _ _ _ h => h) av_nil he2) he) (fun vs H1 l w Q q => by
    obtain ⟨v, r, rfl, rfl, u, r', rfl, rfl, rfl⟩ := w
    refine ⟨fun dd z => ?_, _, .ref C, b, rfl, fun u hu => hu, hk, q _ H1 (.refl l.ok) (.bl b)⟩
    obtain ⟨fs, e⟩ := hd dd z
    exact ⟨fs, l.at e (fun _ z => nomatch z) fun hp => by
      obtain ⟨o, e', m⟩ := ok.live dd hp
      rw [e] at e'
      cases e'
      cases m⟩) (hg := hg) (he := he) (hpl := hpl)
end
end K93
set_option maxHeartbeats 4000000
/-! K93LS: the law's learned, walked. -/
namespace K93
open PySem PySem.Spec PyProof.Rows L2
def hdS (k : Nat) : List Stmt := match (defBody (topS 51)).getD 0 (.Pass ⟨0, 0, 0, 0⟩) with
  | .Try _ hs _ _ _ => (match hs[k]? with
    | some (.ExceptHandler _ _ s _) => s
    | none => [])
  | _ => []
theorem ed_xf {X : Cx} {c : Kx} {I : Ix c.pa} {σ : St} {H : Hp} {a C dd : Addr} {oe : Obj} {pn : List (Addr × Obj)} {e : Expr} {f : Str} {v : V} {dt : PyData} {pos : Pos} (T : XfC X.K C) (hno : PySem.W.findIn X.K (.ref C) f = some none) (hz : Zc (.ref C) (some dd) oe) (hf : ∃ vs, oe.data = .fields vs) (ok : Ok c I H) (hd : H dd = some (.xd [(f, v)])) (dv : DD X.K c.pa H v dt)
    (ha : EV (X.suite a ((a, oe) :: pn)) c I I e σ H fun v _ => v = .ref a) (hb : attributeBase e f X.env (eval e X.env) = eval e X.env := by rfl) : ED (X.suite a ((a, oe) :: pn)) c I I (.Attribute e f pos) σ H dt :=
  EV.of (pe_xf T hno hz hf peS hb) fun H1 l Q q => ha H1 l _ fun x H2 l2 w => by
    have l12 := l.trans l2
    refine ⟨w, rfl, dd, [(f, v)], v, rfl, l12.at hd (fun _ z => nomatch z) (fun hp => ?_), by simp [List.lookup], q v H2 l2 (l12.dd dv)⟩
    obtain ⟨o, e', m⟩ := ok.live dd hp
    rw [hd] at e'
    cases e'
    cases m
section
variable {P : Program} {w : World} {K : PySem.W.Frag} {mg : Str → Option Value} {base : Heap} {cTM cBA cFA cNN cNB cNI cRE tT tL : Addr}
theorem f51 (T0 : Tx K mg) (Z : Xc P K mg cTM cBA cFA cNN cNB cNI cRE) (Y : Xe K cTM cBA cFA cNN cNB cNI cRE) (Tbb : Tb K mg base tT tL) : FnD P w K mg base CX0 9 "_law_learned" (spLL P w K mg base tT tL) :=
  any_fn T0.d51 sc51 (fun vs H Q E ⟨_, _, _, _, _, _, _, _, _, _, _, _, _, _, h, _⟩ => by rw [h]; rfl) fun f cdv A outer s H E vs Q hr h => by
    obtain ⟨c, T, J, N, ans, vf, v1, v2, v3, d1, d2, d3, res, hT, rfl, ok, hd, L, hJ, q⟩ := h
    obtain ⟨x1, x2, x3, e123, h1, h2, h3⟩ := dds3 hd
    cases e123
    obtain ⟨fBA, fdBA, sBA⟩ := Z.ba
    obtain ⟨fFA, fdFA, sFA⟩ := Z.fa
    obtain ⟨fTM, fdTM, sTM⟩ := Z.tm
    refine sb_try3 (i := 6) rfl rfl sc51.nd rfl rfl takes0 (C1 := .ref cBA) (C2 := .ref cFA) (C3 := .ref cRE) ⟨rfl, by decide, .inl sBA.at_⟩ ⟨rfl, by decide, .inl sFA.at_⟩ ⟨rfl, by decide, .inl Z.re⟩ ?_
    intro pn xe tk
    have fin : ∀ (v : V) (σ' : St) (H1 : Hp) (p1 p2 : Pos), σ'[5]? = some (some v) → Le c J H H1 → DD K c.pa H1 v res → SB (bX P w K mg base N51 "_law_learned" (defScope (topS 51)) f cdv A outer s H E) { nx := fun _ H' => Q .non H', rt := Q } [.Return (some (.Name "_law_found" p1)) p2] σ' H1 := fun v σ' H1 p1 p2 hs l dv =>
      sb_ret l.ok (ed_var 5 hs dv) fun v H2 l2 hv => q v H2 (l.trans l2) hv
    have L0 : Le c (T 0) H H := .refl ok
    refine sb_set (J := J) (P := fun z H2 => ∃ bs ms rs, res = .tuple [.str "table", tbD bs ms rs] ∧ TbO K c.pa H2 z bs ms rs) 4 ok (ev_callX tk (f39 (P := P) (w := w) (base := base) T0 Z Tbb) hr (av_cons (ev_var 0 rfl) (fun _ _ _ _ h => h) (ad_cons (ed_var 1 rfl h1) (ad_cons (ed_var 2 rfl h2) (ad_cons (ed_var 3 rfl h3) ad_nil)))) fun vs H1 l1 w Q' q' => ?_) sc51.nd fun v4 H2 l2 hv => ?_
    · obtain ⟨v, r, rfl, rfl, wd⟩ := w
      obtain ⟨y1, y2, y3, rfl, w1, w2, w3⟩ := dds3 wd
      -- a clause of RoundError
      have refu : ∀ (D : Addr) (b1 b2 b3 : Bool) (d : Option Addr) (i : Nat) (H' : Hp), D ∈ [cNB, cNN, cTM] → PySem.W.kitOne K (.ref D) (.ref cNB) = some b1 ∧ PySem.W.kitOne K (.ref D) (.ref cNN) = some b2 ∧ PySem.W.kitOne K (.ref D) (.ref cTM) = some b3 → res = flagsD b1 b2 b3 → i ≤ N → Le c (T i) H1 H' → (∀ dd, d = some dd → ∃ fs, H' dd = some (.xd fs)) →
          wAsM K 6 (fun _ _ _ _ => False) { nx := fun σ' H' => SB (bX P w K mg base N51 "_law_learned" (defScope (topS 51)) f cdv A outer s H E) { nx := fun _ H' => Q .non H', rt := Q } ((defBody (topS 51)).drop 1) σ' H', rt := Q } [(.ref cBA, tSu (bX P w K mg base N51 "_law_learned" (defScope (topS 51)) f cdv A outer s H E) (hdS 0)), (.ref cFA, tSu (bX P w K mg base N51 "_law_learned" (defScope (topS 51)) f cdv A outer s H E) (hdS 1)), (.ref cRE, tSu (bX P w K mg base N51 "_law_learned" (defScope (topS 51)) f cdv A outer s H E) (hdS 2))] (.ref D) d (start N51 [v, v1, v2, v3]) H' := fun D b1 b2 b3 d i H' hD hk hr' hi l hd => by
        obtain ⟨m1, m2, m3, cD⟩ := Y.r1 D hD
        refine ⟨false, m1, nofun, fun _ => ⟨false, m2, nofun, fun _ => ⟨true, m3, fun _ a na oe pn hz hf => ?_, nofun⟩⟩⟩
        have lJ : Le c J H H' := (l1.trans l).imp (hJ i hi H')
        refine sb_set 7 lJ.ok (ed_lst (ad_cons (ed_isX T0.B cD hz hf lJ.ok hd Z.nb.at_ hk.1 (ev_var 6 rfl)) (ad_cons (ed_isX T0.B cD hz hf lJ.ok hd Z.nn.at_ hk.2.1 (ev_var 6 rfl)) (ad_cons (ed_isX T0.B cD hz hf lJ.ok hd sTM.at_ hk.2.2 (ev_var 6 rfl)) ad_nil)))) sc51.nd fun v7 H3 l3 h7 => ?_
        refine sb_set 5 l3.ok (ed_tup (ad_cons ed_str (ad_cons (ed_var 7 rfl h7) ad_nil))) sc51.nd fun v5 H4 l4 h5 => sb_nil ?_
        exact fin v5 _ H4 _ _ rfl (lJ.trans (l3.trans l4)) (hr' ▸ h5)
      refine ⟨c, T, N, ans, v, y1, y2, y3, d1, d2, d3, hT, rfl, l1.ok, .cons w1 (.cons w2 (.cons w3 .nil)), ⟨L.ok1, L.ok2, L.ok3, fun z H' l => ?_, fun z z2 H' l => ?_, L.sz, fun bs ms e1 e2 B z z2 H' d l nd => ?_, fun bs ms n e1 e2 e3 B n1 n2 most => ?_⟩⟩
      · exact refu cNB _ _ _ none 0 H' (by simp) Y.nb (L.a z) (Nat.zero_le _) l fun dd z => nomatch z
      · exact refu cNN _ _ _ none 0 H' (by simp) Y.nn (L.b z z2) (Nat.zero_le _) l fun dd z => nomatch z
      · exact refu cTM _ _ _ (some d) 0 _ (by simp) Y.tm (L.tm bs ms e1 e2 B z z2) (Nat.zero_le _) (l.new nd) fun dd z => by cases z; exact ⟨_, upd_same⟩
      · obtain ⟨SG, hN, hok, hres⟩ := L.ok bs ms n e1 e2 e3 B n1 n2 most
        refine ⟨SG.mono l1.ex, hN, hok, fun k i e hi H' v' d l dv nd => ?_, fun k i e hi H' v' d l dv nd => ?_, fun i e hi v' H' l tb => ?_⟩
        · refine ⟨true, Y.bb, fun _ a na oe pn hz hf => ?_, nofun⟩
          have l' : Le c (T i) H1 (upd H' d (.xd [("at", v')])) := l.new nd
          have lJ : Le c J H (upd H' d (.xd [("at", v')])) := (l1.trans l').imp (hJ i hi _)
          refine sb_set 5 lJ.ok (ed_tup (ad_cons ed_str (ad_cons (ed_xf Y.xb sBA.no hz hf lJ.ok upd_same ((Le.new (.refl l.ok) nd).dd dv) (ev_var 6 rfl)) ad_nil))) sc51.nd fun v5 H4 l4 h5 => sb_nil ?_
          refine fin v5 _ H4 _ _ rfl (lJ.trans l4) ?_
          rw [hres, e]
          exact h5
        · refine ⟨false, Y.fb, nofun, fun _ => ⟨true, Y.ff, fun _ a na oe pn hz hf => ?_, nofun⟩⟩
          have l' : Le c (T i) H1 (upd H' d (.xd [("at", v')])) := l.new nd
          have lJ : Le c J H (upd H' d (.xd [("at", v')])) := (l1.trans l').imp (hJ i hi _)
          refine sb_set 5 lJ.ok (ed_tup (ad_cons ed_str (ad_cons (ed_xf Y.xf sFA.no hz hf lJ.ok upd_same ((Le.new (.refl l.ok) nd).dd dv) (ev_var 6 rfl)) ad_nil))) sc51.nd fun v5 H4 l4 h5 => sb_nil ?_
          refine fin v5 _ H4 _ _ rfl (lJ.trans l4) ?_
          rw [hres, e]
          exact h5
        · refine q' v' H' (l.imp (hJ i hi _)) ⟨bs, ms, _, ?_, tb⟩
          rw [hres, e]
          rfl
    · obtain ⟨bs, ms, rs, hres, tb⟩ := hv
      refine sb_set 5 l2.ok (ed_tup (ad_cons ed_str (ad_cons (ed_tup (ad_cons (ed_bounds (ev_tb 4 rfl tb)) (ad_cons (ed_measures (ev_tb 4 rfl tb)) (ad_cons (ed_rows (ev_tb 4 rfl tb)) ad_nil)))) ad_nil))) sc51.nd fun v5 H4 l4 h5 => sb_nil ?_
      exact fin v5 _ H4 _ _ rfl (l2.trans l4) (hres ▸ h5)
end
end K93
set_option maxHeartbeats 4000000
/-! K93RF: refuted. -/
namespace K93
open PySem PySem.Spec PyProof.Rows L2
/-- the items of a list or a tuple -/
def itemsD : PyData → Option (List PyData)
  | .list ds => some ds
  | .tuple ds => some ds
  | _ => none
def inpOk (d : PyData) (n : Int) : Bool := match itemsD d with
  | some ds => ds.all fun e => areNums e n
  | none => false
/-- an input that the answers refute -/
def badAt (bs ms : List Int) (rs : List (List (Int × List Int))) (ans : List Int → PyData) (gs : List Int) : Bool := !areNums (ans gs) ((rs.getD 0 []).length : Int) || !PyData.eqv (ans gs) (TI (rvI bs ms rs gs))
def firstI (p : List Int → Bool) : Nat → List (List Int) → PyData
  | _, [] => .none
  | i, g :: gs => if p g = true then .int (i : Int) else firstI p (i + 1) gs
theorem firstI_at {p : List Int → Bool} : ∀ {gs : List (List Int)} {i j : Nat}, j < gs.length → (∀ g ∈ gs.take j, p g = false) → p (gs.getD j []) = true → firstI p i gs = .int ((i + j : Nat) : Int)
  | [], _, _, h, _, _ => nomatch h
  | g :: gs, i, 0, _, _, h => by
    have h : p g = true := h
    show (if p g = true then _ else _) = _
    rw [if_pos h]
    rfl
  | g :: gs, i, j + 1, hj, h0, h => by
    have n : p g = false := h0 g (by rw [List.take_succ_cons]; exact List.mem_cons_self ..)
    show (if p g = true then _ else firstI p (i + 1) gs) = _
    rw [if_neg (by rw [n]; decide), firstI_at (i := i + 1) (j := j) (by simpa using hj) (fun x hx => h0 x (by rw [List.take_succ_cons]; exact List.mem_cons_of_mem _ hx)) h]
    congr 1
    omega
theorem firstI_none {p : List Int → Bool} : ∀ {gs : List (List Int)} {i : Nat}, (∀ g ∈ gs, p g = false) → firstI p i gs = .none
  | [], _, _ => rfl
  | g :: gs, i, h => by
    show (if p g = true then _ else firstI p (i + 1) gs) = _
    rw [if_neg (by rw [h g (List.mem_cons_self ..)]; decide)]
    exact firstI_none fun x hx => h x (List.mem_cons_of_mem _ hx)
/-- what refuted gives -/
structure RfH (P : Program) (w : World) (K : PySem.W.Frag) (mg : Str → Option Value) (base : Heap) (c : Kx) (T : Nat → Ix c.pa) (N : Nat) (ans : List Int → PyData) (vf : V) (bs ms : List Int) (rs : List (List (Int × List Int))) (d : PyData) (gs : List (List Int)) (H : Hp) : Prop where
  sg : Sg P w K mg base 2 c T N (fun k => k ∈ gs) ans H vf
  le : gs.length ≤ N
  sm : gs.length ≤ 1000
  at_ : itemsD d = some (gs.map TI)
  len : ∀ g ∈ gs, g.length = bs.length ∧ ∀ i ∈ g, 0 ≤ i
  oka : ∀ g ∈ gs, okI (ans g)
  rv : ∀ g ∈ gs, ∃ r, RvOk bs ms rs g r
  ne : ∃ r0 rs', rs = r0 :: rs'
  small : ∀ r ∈ rs, r.length ≤ 1000
def spRf (P : Program) (w : World) (K : PySem.W.Frag) (mg : Str → Option Value) (base : Heap) (cNI : Addr) : Sp := fun vs H Q E => ∃ (c : Kx) (T : Nat → Ix c.pa) (N : Nat) (ans : List Int → PyData) (vt vf vi : V) (bs ms : List Int) (rs : List (List (Int × List Int))) (d : PyData), vs = [vt, vf, vi] ∧ Ok c (T 0) H ∧ TbO K c.pa H vt bs ms rs ∧ DD K c.pa H vi d ∧ bs.length ≤ 2 ∧
  (∀ ds, itemsD d = some ds → ds.length ≤ 100000 ∧ ∀ e ∈ ds, okI e) ∧ (inpOk d (bs.length : Int) = false → ∀ H', Le c (T 0) H H' → E (.ref cNI) none H') ∧
  (inpOk d (bs.length : Int) = true → ∃ gs, RfH P w K mg base c T N ans vf bs ms rs d gs H ∧ ∀ i, i ≤ N → ∀ v H', Le c (T i) H H' → DD K c.pa H' v (firstI (badAt bs ms rs ans) 0 gs) → Q v H')
abbrev N40 : List Str := ["table", "function", "inputs", "index", "given", "answer"]
theorem sc40 : FnScope N40 ["table", "function", "inputs"] (defScope (topS 40)) := ⟨rfl, rfl, rfl, by decide +kernel, rfl, by decide +kernel, by decide +kernel⟩
theorem itemsD_no : ∀ {d : PyData}, itemsD d = none → (isLst d || isTup d) = false
  | .list _, h => nomatch h
  | .tuple _, h => nomatch h
  | .none, _ => rfl
  | .bool _, _ => rfl
  | .int _, _ => rfl
  | .str _, _ => rfl
  | .dict _, _ => rfl
theorem it_seq {X : Cx} {c : Kx} {I J : Ix c.pa} {σ : St} {H : Hp} {tg it : Expr} {d : PyData} {ds : List PyData} (h : ED X c I J it σ H d) (e : itemsD d = some ds) : IT X c I J tg it σ H ds.length fun i => ds.getD i .none := by
  cases d with
  | list es => cases e; exact it_list h
  | tuple es => cases e; exact it_tup h
  | _ => cases e
theorem it_enumS {X : Cx} {c : Kx} {I J : Ix c.pa} {σ : St} {H : Hp} {a : Expr} {p pos tpos : Pos} {elts : List Expr} {kk : Nat} {d : PyData} {ds : List PyData} (B : Bn X.mg) (h : ED X c I J a σ H d) (e : itemsD d = some ds) (hg : Gl X "enumerate" := by rfl) (hs : starEach [a] X.env = [(false, eval a X.env)] := by rfl) :
    IT X c I J (.Tuple elts kk tpos) (.Call (.Name "enumerate" p) [a] [] pos) σ H ds.length fun i => .tuple [.int (i : Int), ds.getD i .none] := by
  cases d with
  | list es => cases e; exact it_enumL B h hg hs
  | tuple es => cases e; exact it_enumT B h hg hs
  | _ => cases e
section
variable {P : Program} {w : World} {K : PySem.W.Frag} {mg : Str → Option Value} {base : Heap} {cTM cBA cFA cNN cNB cNI cRE tT tL : Addr}
theorem lay_ints : ∀ ns : List Int, PyData.canLayAll0 (ns.map PyData.int) = true
  | [] => rfl
  | x :: ns => by
    show (PyData.canLay0 (.int x) && PyData.canLayAll0 (ns.map PyData.int)) = true
    rw [lay_ints ns]
    rfl
theorem shaped_TI (ns : List Int) (h : ns.length ≤ 100000) : SeqAt.shaped (TI ns) = true := by
  unfold SeqAt.shaped
  have h1 : PyData.canLay0 (TI ns) = true := lay_ints ns
  have h2 := depth_TI ns
  rw [h1, decide_eq_true (by omega)]
  rfl
theorem pl_TI (ns : List Int) : pl (TI ns) = true := by
  unfold TI pl
  induction ns with
  | nil => rfl
  | cons x k ih => exact ih
theorem f40 (T0 : Tx K mg) (Z : Xc P K mg cTM cBA cFA cNN cNB cNI cRE) : FnD P w K mg base (L2.CX P w) 6 "refuted" (spRf P w K mg base cNI) :=
  exc_fn T0.d40 sc40 (fun vs H Q E ⟨_, _, _, _, _, _, _, _, _, _, _, h, _⟩ => by rw [h]; rfl) fun f cdv A outer s H E vs Q hr h => by
    obtain ⟨c, T, N, ans, vt, vf, vi, bs, ms, rs, d, rfl, ok, ht, hi, two, hds, qE, qT⟩ := h
    have tk : Takes (cX P w K mg base N40 "refuted" (defScope (topS 40)) f cdv A outer s H E) (fun cls d _ H => E cls d H) := takes_of rfl rfl rfl rfl
    have hp : PassesOwn (model P w) (cX P w K mg base N40 "refuted" (defScope (topS 40)) f cdv A outer s H E).A (cX P w K mg base N40 "refuted" (defScope (topS 40)) f cdv A outer s H E).env (cX P w K mg base N40 "refuted" (defScope (topS 40)) f cdv A outer s H E).xe := passes_of rfl
    refine sb_when (q := !inpOk d (bs.length : Int)) ok (TV.is (tv_or (j := !(isLst d || isTup d)) (k := !inpOk d (bs.length : Int)) (tv_not (tv_val (ed_isLT T0.B (ed_var 2 rfl hi)))) fun z => tv_not (tv_val ?_)) ?_) (fun z H1 l1 => ?_) fun z H1 l1 => ?_
    · cases e : itemsD d with
      | none =>
        rw [itemsD_no e] at z
        cases z
      | some ds =>
        obtain ⟨dl, dk⟩ := hds ds e
        have ei : inpOk d (bs.length : Int) = (ds.map fun e => areNums e (bs.length : Int)).all id := by
          unfold inpOk
          rw [e, List.all_map]
          rfl
        rw [ei]
        refine ed_all T0.B (ED.is (ed_lcx [("given", 4)] (lc_S 4 [("given", 4)] (T := fun _ => T 0) (ef := fun i => .bool (areNums (ds.getD i .none) (bs.length : Int))) (it_seq (ed_var 2 rfl hi) e) (by omega) (fun i hi => fl_bool _) sc40.nd fun X' bl i v Hb hi' l dv => ?_) sc40.nd (ok := blkOk_by (N := N40) (sc := defScope (topS 40)) (by decide +kernel))) ?_)
        · obtain ⟨s', Hx, C, cl, fp, rfl⟩ := bl
          exact ed_call ((f13 T0).mono (by decide)) hr (ad_cons (ed_var 4 rfl dv) (ad_cons (ED.is (ed_lenT T0.B (ed_bounds (ev_tb 0 rfl (ht.mono l.ex)))) (by rw [List.length_map])) ad_nil)) ⟨_, _, rfl, dk _ (getD_memL hi'), rfl⟩
        · rw [List.map_map]
          exact congrArg PyData.list (range_map PyData.none (fun e => PyData.bool (areNums e (bs.length : Int))) ds)
    · cases d <;> simp [isLst, isTup, inpOk, itemsD]
    · exact sb_raise0 tk Z.ni (qE (by simpa using z) H1 l1)
    · obtain ⟨gs, R, qR⟩ := qT (by simpa using z)
      have hsm := R.sm
      have hle := R.le
      obtain ⟨r0, rs', hrs⟩ := R.ne
      have hu : (cX P w K mg base N40 "refuted" (defScope (topS 40)) f cdv A outer s H E).A.units + 64 < cLine := by have := hr.un; show (A.deeper _).units + 64 < cLine; omega
      refine sb_for2 3 4 l1.ok (IT.len (it_enumS T0.B (ed_var 2 rfl (l1.dd hi)) R.at_) (List.length_map _)) sc40.nd hp fun H2 l2 => ?_
      refine ⟨T, fun i σ' H' => ∃ w3 w4 w5, σ' = [some vt, some vf, some vi, w3, w4, w5] ∧ Le c (T i) H2 H' ∧ ∀ g ∈ gs.take i, badAt bs ms rs ans g = false, ⟨none, none, none, rfl, .refl l2.ok, fun k z => nomatch z⟩, ?_, ?_, ?_⟩
      · rintro i σ' H' _ ⟨w3, w4, w5, rfl, lH, _⟩
        exact ⟨lH.ex, lH.ok⟩
      · rintro i u u1 σ' H3 H4 hi' ⟨w3, w4, w5, rfl, lH, hg⟩ l4 d3 d4
        rw [getD_map (d := []) hi'] at d4
        have hmem : gs.getD i [] ∈ gs := getD_memL hi'
        obtain ⟨gl, g0⟩ := R.len _ hmem
        obtain ⟨r, RV⟩ := R.rv _ hmem
        have lA := (l1.trans l2).trans (lH.trans l4)
        refine sb_set 5 l4.ok (ed_callS (X := cX P w K mg base N40 "refuted" (defScope (topS 40)) f cdv A outer s H E) (T := T) (j := 1) (i := i) (R.sg.mono lA.ex) rfl (hr.mono (by decide)) (ed_var 4 rfl d4) (by omega) hmem) sc40.nd fun v5 H5 l5 d5 => ?_
        have lB := lA.trans l5
        have tb5 := ht.mono lB.ex
        refine sb_when (q := badAt bs ms rs ans (gs.getD i [])) l5.ok (tv_or (tv_not (tv_val (ed_call ((f13 T0).mono (by decide)) hr (ad_cons (ed_var 5 rfl d5) (ad_cons (ed_callO ((f28 T0).mono (by decide)) hr (ev_tb 0 rfl tb5) ad_nil ⟨r0, rs', rfl, hrs, rfl⟩) ad_nil)) ⟨_, _, rfl, R.oka _ hmem, by rw [hrs]; rfl⟩))) fun z2 => ?_) (fun z2 H6 l6 => ?_) fun z2 H6 l6 => ?_
        · have an : areNums (ans (gs.getD i [])) ((rs.getD 0 []).length : Int) = true := by simpa using z2
          obtain ⟨e1, e2⟩ := areNums_tl an
          have r0l : (rs.getD 0 []).length ≤ 1000 := R.small _ (by rw [hrs]; exact List.mem_cons_self ..)
          have rvl : (rvI bs ms rs (gs.getD i [])).length ≤ 1000 := by
            have := RV.rl
            rw [← rvR_I RV]
            unfold rvR
            rw [List.length_map]
            exact this
          refine tv_neD hu (ed_var 5 rfl d5) (ED.is (ed_callO ((f33 T0).mono (by decide)) hr (ev_tb 0 rfl tb5) (ad_cons (ed_var 4 rfl (l5.dd d4)) ad_nil) RV.r33) (by rw [rvR_I RV])) ?_ (pl_TI _) ?_ (shaped_TI _ (by omega))
          · rw [e1]; exact pl_TI _
          · rw [e1]; exact shaped_TI _ (by omega)
        · refine sb_ret l6.ok (ed_var 3 rfl ((l5.trans l6).dd d3)) fun v H7 l7 hv => qR (i + 1) (by omega) v H7 (lB.trans (l6.trans l7)) ?_
          rw [firstI_at hi' hg z2, Nat.zero_add]
          exact hv
        · refine sb_nil ⟨_, _, _, rfl, lH.trans (l4.trans (l5.trans l6)), fun k hk => ?_⟩
          rw [take_snoc (d := []) hi'] at hk
          rcases List.mem_append.mp hk with hk | hk
          · exact hg k hk
          · rw [List.mem_singleton.mp hk]
            exact z2
      · rintro σ' H3 ⟨w3, w4, w5, rfl, lH, hg⟩
        rw [List.take_length] at hg
        refine sb_ret lH.ok ed_non fun v H7 l7 hv => qR gs.length hle v H7 ((l1.trans l2).trans (lH.trans l7)) ?_
        rw [firstI_none hg]
        exact hv
end
end K93
set_option maxHeartbeats 4000000
/-! K93RG: the law's refuted. -/
namespace K93
open PySem PySem.Spec PyProof.Rows L2
theorem sb_try1 {X : Cx} {x1 : Str} {body : List Stmt} {b1 : Stmt} {s1 rest : List Stmt} {q1 r1 pos : Pos} {C1 : Value} {D : Ends} {σ : St} {H : Hp} (hs : X.stack = X.env :: X.outer) (hf : X.env.frame = some X.env.locals) (tk : Takes X fun _ _ _ _ => False) (h1 : Names X x1 C1)
    (h : tTr X body (wOnly X.K C1 (tSu X (b1 :: s1)) (fun _ _ _ _ => False) { D with nx := fun σ' H' => SB X D rest σ' H' }) { D with nx := fun σ' H' => SB X D rest σ' H' } σ H) : SB X D (.Try body [.ExceptHandler (some (.Name x1 q1)) none (b1 :: s1) r1] [] [] pos :: rest) σ H :=
  sb_of (ps_try_only (tb := tTr X body) hs hf h1 tk (fun W pn xe tk' _ => ⟨fun pins s σ H D I h => (h pn xe tk').out pins s I⟩) fun a oe cls d pn hz hf => ⟨fun pins s σ H D I h => (h oe pn hz hf).out pins s I⟩) h
/-- what the law's refuted gives -/
def rfD (bs ms : List Int) (rs : List (List (Int × List Int))) (ans : List Int → PyData) (d : PyData) (gs : List (List Int)) : PyData := if inpOk d (bs.length : Int) = true then firstI (badAt bs ms rs ans) 0 gs else .str "inputs"
def spLR (P : Program) (w : World) (K : PySem.W.Frag) (mg : Str → Option Value) (base : Heap) : Sp := fun vs H Q _ => ∃ (c : Kx) (T : Nat → Ix c.pa) (J : Ix c.pa) (N : Nat) (ans : List Int → PyData) (vt vf vi : V) (bs ms : List Int) (rs : List (List (Int × List Int))) (d : PyData) (gs : List (List Int)), vs = [vt, vf, vi] ∧ Ok c (T 0) H ∧ TbO K c.pa H vt bs ms rs ∧ DD K c.pa H vi d ∧ bs.length ≤ 2 ∧
  (∀ ds, itemsD d = some ds → ds.length ≤ 100000 ∧ ∀ e ∈ ds, okI e) ∧ (inpOk d (bs.length : Int) = true → RfH P w K mg base c T N ans vf bs ms rs d gs H) ∧ (∀ i, i ≤ N → ∀ H, (T i).P H → J.P H) ∧ ∀ v H', Le c J H H' → DD K c.pa H' v (rfD bs ms rs ans d gs) → Q v H'
abbrev N55 : List Str := ["_law_table_here", "_law_function", "_law_inputs", "_law_found"]
theorem sc55 : FnScope N55 ["_law_table_here", "_law_function", "_law_inputs"] (defScope (topS 55)) := ⟨rfl, rfl, rfl, by decide +kernel, rfl, by decide +kernel, by decide +kernel⟩
theorem RfH.mono {P : Program} {w : World} {K : PySem.W.Frag} {mg : Str → Option Value} {base : Heap} {c : Kx} {T : Nat → Ix c.pa} {N : Nat} {ans : List Int → PyData} {vf : V} {bs ms : List Int} {rs : List (List (Int × List Int))} {d : PyData} {gs : List (List Int)} {H H' : Hp} (h : RfH P w K mg base c T N ans vf bs ms rs d gs H) (e : Ex c.pa H H') : RfH P w K mg base c T N ans vf bs ms rs d gs H' :=
  ⟨h.sg.mono e, h.le, h.sm, h.at_, h.len, h.oka, h.rv, h.ne, h.small⟩
section
variable {P : Program} {w : World} {K : PySem.W.Frag} {mg : Str → Option Value} {base : Heap} {cTM cBA cFA cNN cNB cNI cRE tT tL : Addr}
theorem f55 (T0 : Tx K mg) (Z : Xc P K mg cTM cBA cFA cNN cNB cNI cRE) (Y : Xe K cTM cBA cFA cNN cNB cNI cRE) : FnD P w K mg base CX0 7 "_law_refuted" (spLR P w K mg base) :=
  any_fn T0.d55 sc55 (fun vs H Q E ⟨_, _, _, _, _, _, _, _, _, _, _, _, _, h, _⟩ => by rw [h]; rfl) fun f cdv A outer s H E vs Q hr h => by
    obtain ⟨c, T, J, N, ans, vt, vf, vi, bs, ms, rs, d, gs, rfl, ok, ht, hi, two, hds, hR, hJ, q⟩ := h
    refine sb_set 3 ok ed_non sc55.nd fun v3 H1 l1 h3 => ?_
    refine sb_try1 rfl rfl takes0 (C1 := .ref cNI) ⟨rfl, by decide, .inl Z.ni.at_⟩ ?_
    intro pn xe tk
    have fin : ∀ (v : V) (σ' : St) (H2 : Hp) (p1 p2 : Pos), σ'[3]? = some (some v) → Le c J H H2 → DD K c.pa H2 v (rfD bs ms rs ans d gs) → SB (bX P w K mg base N55 "_law_refuted" (defScope (topS 55)) f cdv A outer s H E) { nx := fun _ H' => Q .non H', rt := Q } [.Return (some (.Name "_law_found" p1)) p2] σ' H2 := fun v σ' H2 p1 p2 hs l dv =>
      sb_ret l.ok (ed_var 3 hs dv) fun v H2 l2 hv => q v H2 (l.trans l2) hv
    refine sb_set (J := J) (P := fun v H' => DD K c.pa H' v (rfD bs ms rs ans d gs)) 3 l1.ok (ev_callX tk (f40 (P := P) (w := w) (base := base) T0 Z) hr (av_cons (ev_tb 0 rfl (ht.mono l1.ex)) mtb (av_cons (ev_var 1 rfl) (fun _ _ _ _ h => h) (ad_cons (ed_var 2 rfl (l1.dd hi)) ad_nil))) fun vs H2 l2 w Q' q' => ?_) sc55.nd fun v4 H2 l2 hv => ?_
    · obtain ⟨v, r, rfl, tb, u, r', rfl, rfl, wd⟩ := w
      obtain ⟨y, rfl, w1⟩ := dds1 wd
      have l12 := l1.trans l2
      refine ⟨c, T, N, ans, v, u, y, bs, ms, rs, d, rfl, l2.ok, tb, w1, two, hds, fun z H' l => ?_, fun z => ⟨gs, (hR z).mono l12.ex, fun i hi' v' H' l dv => ?_⟩⟩
      · refine ⟨true, Y.ii, fun _ a na oe pn hz hf => ?_, nofun⟩
        have lJ : Le c J H H' := (l12.trans l).imp (hJ 0 (Nat.zero_le _) H')
        refine sb_set 3 lJ.ok ed_str sc55.nd fun v5 H4 l4 h5 => sb_nil (fin v5 _ H4 _ _ rfl (lJ.trans l4) ?_)
        unfold rfD
        rw [z, if_neg (by decide)]
        exact h5
      · refine q' v' H' (l.imp (hJ i hi' H')) ?_
        unfold rfD
        rw [if_pos z]
        exact dv
    · exact sb_nil (fin v4 _ H2 _ _ rfl (l1.trans l2) hv)
end
end K93
set_option maxHeartbeats 4000000
/-! K93PD: the pot, and what is drawn of it. -/
namespace K93
open PySem PySem.Spec PyProof.Rows L2
section
variable {X : Cx} {c : Kx} {I J L : Ix c.pa} {σ : St} {H : Hp} {a b e : Expr} {pos p apos cpos : Pos} {q : Addr} {xs : List V} {v : V} {i : Nat} {D : Ends} {rest : List Stmt}
theorem ev_ixA (ha : EV X c I I a σ H fun v _ => v = .ref q) (hb : ED X c I I b σ H (.int (i : Int))) (hp : ∀ H1, Le c I H H1 → H1 q = some (.lst xs)) (hv : xs[i]? = some v) (hs : PlainIx b := by exact fun _ _ => rfl) : EV X c I I (.Subscript a b pos) σ H fun u _ => u = v :=
  EV.of (pe_ix ix_list peS peS hs) fun H1 l Q k => ha H1 l _ fun x H2 l2 w => hb H2 (l.trans l2) _ fun y H3 l3 p2 => by
    cases w
    exact ⟨q, xs, _, v, rfl, p2.intOf, .of (hp H3 ((l.trans l2).trans l3)), atI_nat hv, k v H3 (l2.trans l3) rfl⟩
theorem EV.int {n : Int} (h : EV X c I J e σ H fun u _ => u = .int n) : ED X c I J e σ H (.int n) := h.imp fun v H1 _ w => by rw [w]; exact .int n
theorem ed_lenA (B : Bn X.mg) (ha : EV X c I I a σ H fun v _ => v = .ref q) (hp : ∀ H1, Le c I H H1 → H1 q = some (.lst xs)) (hg : Gl X "len" := by rfl) (he : starEach [a] X.env = (false, eval a X.env) :: starEach [] X.env := by rfl) : ED X c I I (.Call (.Name "len" p) [a] [] pos) σ H (.int (xs.length : Int)) :=
  ev_callB call_len_seq B.len PySem.boot_len (av_cons ha (fun _ _ _ _ h => h) av_nil he) (fun vs H1 l w Q k => by
    obtain ⟨v, r, rfl, rfl, rfl⟩ := w
    exact ⟨q, xs, rfl, .inl (.of (hp H1 l)), k _ H1 (.refl l.ok) (.int _)⟩) hg (by decide) (by decide) he
/-- a[b] = e, a the list at q -/
theorem sb_setA {Pz : V → Hp → Prop} {pos' : Pos} (ok : Ok c I H) (h : EV X c I I e σ H Pz) (ha : EV X c I I a σ H fun v _ => v = .ref q) (hb : ED X c I I b σ H (.int (i : Int))) (hp : ∀ H1, Le c I H H1 → H1 q = some (.lst xs)) (hi : i < xs.length) (k : ∀ v H1, Le c I H H1 → (∃ H0, Pz v H0) → SB X D rest σ (upd H1 q (.lst (xs.set i v))))
    (hs : swapsWithSole [.Subscript a b pos'] e pos.line X.env = pure false := by rfl) (hw : swappedStores [.Subscript a b pos'] e X.env = pure none := by rfl) (h1 : (assignEach [.Subscript a b pos'] X.env).map (·.2) = [assign (.Subscript a b pos') X.env] := by rfl)
    (hass : ∀ v, assign (.Subscript a b pos') X.env v = (do
      let ov ← holding [v] (eval a X.env)
      let iv ← holding [v, ov] (eval b X.env)
      standAt pos'
      holding [v, ov, iv] (setItem ov iv v)
      release [v, ov, iv] []) := by intro _; rfl) : SB X D (.Assign [.Subscript a b pos'] e pos :: rest) σ H :=
  sb_of (ps_asg peS (pg_sub peS peS set_list hass) hs hw h1) (h H (.refl ok) _ fun v H1 l w => ha H1 l _ fun x H2 l2 w2 => hb H2 (l.trans l2) _ fun y H3 l3 w3 => by
    cases w2
    have l13 := (l.trans l2).trans l3
    refine ⟨q, xs, _, i, rfl, w3.intOf, hp H3 l13, ?_, k v H3 l13 ⟨H1, w⟩⟩
    unfold ixN
    rw [if_pos (by omega), if_pos (by omega), Int.toNat_natCast])
/-- a.pop(0), a the list at q -/
theorem sb_pop0 (ok : Ok c I H) {y : V} {ys : List V} {j : Nat} {p2 : Pos} (ha : EV X c I I a σ H fun v _ => v = .ref q) (hp : ∀ H1, Le c I H H1 → H1 q = some (.lst (y :: ys))) (k : ∀ H1, Le c I H H1 → SB X D rest σ (upd H1 q (.lst ys)))
    (hbase : attributeBase a "pop" X.env (eval a X.env) = eval a X.env := by rfl)
    (hfew : ((backTo cpos (starEach [.Constant (.int 0) j p2] X.env)).all (fun x => !x.1) && (backToKw cpos (keywordEach [] X.env)).all (fun x => x.1.isSome) && decide (([.Constant (.int 0) j p2] : List Expr).length + ([] : List Keyword).length + (if ([] : List Keyword).isEmpty then 0 else 1) < 30)) = true := by rfl)
    (hline : (apos.endLine == cpos.line) = true := by rfl) (hs : starEach [.Constant (.int 0) j p2] X.env = (false, eval (.Constant (.int 0) j p2) X.env) :: starEach [] X.env := by rfl) (hplain : (backTo cpos (starEach [] X.env)).any (·.1) = false := by rfl)
    (hsw : swapsWith (.Call (.Attribute a "pop" apos) [.Constant (.int 0) j p2] [] cpos) none pos.line X.env = pure false := by rfl) : SB X D (.Expr (.Call (.Attribute a "pop" apos) [.Constant (.int 0) j p2] [] cpos) pos :: rest) σ H :=
  sb_of (ps_expr (pe_bm PySem.F.plainAttrs_list PySem.F.slot_list_pop PySem.F.type_list_pop mt_popAt peS (pa_cons pe_int pa_nil hs) hbase hfew hline hs hplain) hsw) (ha H (.refl ok) _ fun v H1 l1 w => by
    cases w
    exact ⟨Or.inl ⟨rfl, _, .of (hp H1 l1)⟩, q, y :: ys, 0, 0, y, rfl, rfl, hp H1 l1, by decide, by decide, by simp [seqIndex?], rfl, k H1 l1⟩)
end
/-- the pot stands -/
def potP (pp pg ps : Addr) (H : Hp) : Prop := ∃ (gs ss : List Int) (turn tot : Int), H pp = some (.lst [.ref pg, .ref ps, .int turn, .int tot]) ∧ H pg = some (.lst (gs.map V.int)) ∧ H ps = some (.lst (ss.map V.int)) ∧ 1 ≤ ss.length
structure PotX (c : Kx) (I : Ix c.pa) (pp pg ps : Addr) : Prop where
  mp : pp ∈ c.pa
  mg : pg ∈ c.pa
  ms : ps ∈ c.pa
  n1 : pp ≠ pg
  n2 : pp ≠ ps
  n3 : pg ≠ ps
  pot : ∀ H, I.P H → potP pp pg ps H
  put : ∀ H H', I.P H → potP pp pg ps H' → (∀ p ∈ c.pa, p ≠ pp → p ≠ pg → H' p = H p) → (∀ b xs, H b = some (.tup xs) → H' b = some (.tup xs)) → I.P H'
def spDr : Sp := fun vs H Q _ => ∃ (c : Kx) (I : Ix c.pa) (pp pg ps : Addr) (many : Int), vs = [.ref pp, .int many] ∧ PotX c I pp pg ps ∧ Ok c I H ∧ 0 < many ∧ many < 1073741824 ∧ ∀ i H1, 0 ≤ i → i < many → Le c I H H1 → Q (.int i) H1
abbrev N43 : List Str := ["_law_pot_here", "_law_many", "_law_turn", "_law_number", "_law_seed"]
theorem sc43 : FnScope N43 ["_law_pot_here", "_law_many"] (defScope (topS 43)) := ⟨rfl, rfl, rfl, by decide +kernel, rfl, by decide +kernel, by decide +kernel⟩
/-- the pot's three lists, known -/
abbrev pin3 {c : Kx} {I : Ix c.pa} {pp pg ps : Addr} (Z : PotX c I pp pg ps) (gs ss : List Int) (turn tot : Int) : Ix c.pa := ((I.pin pp Z.mp (.lst [.ref pg, .ref ps, .int turn, .int tot])).pin pg Z.mg (.lst (gs.map V.int))).pin ps Z.ms (.lst (ss.map V.int))
section
variable {P : Program} {w : World} {K : PySem.W.Frag} {mg : Str → Option Value} {base : Heap}
theorem f43 (T0 : Tx K mg) : FnD P w K mg base CX0 1 "_law_draw" spDr :=
  any_fn T0.d43 sc43 (fun vs H Q E ⟨_, _, _, _, _, _, h, _⟩ => by rw [h]; rfl) fun f cdv A outer s H E vs Q hr h => by
    obtain ⟨c, I, pp, pg, ps, many, rfl, Z, ok, m0, m1, q⟩ := h
    obtain ⟨gs, ss, turn, tot, e1, e2, e3, hs⟩ := Z.pot H ok.inv
    have ok3 : Ok c (pin3 Z gs ss turn tot) H := ((ok.pin Z.mp e1).pin Z.mg e2).pin Z.ms e3
    refine sb_set 2 ok3 (ev_ixA (i := 2) (ev_var 0 rfl) ed_int (fun H1 l => l.ok.inv.1.1.2) rfl) sc43.nd fun v2 H1 l1 h2 => ?_
    subst h2
    refine sb_setA (i := 2) l1.ok (Pz := fun v _ => v = .int (turn + 1)) ((ed_add (ed_var 2 rfl (.int turn)) ed_int).imp fun v H2 _ d => d.intOf) (ev_var 0 rfl) ed_int (fun H1 l => l.ok.inv.1.1.2) (by show 2 < 4; decide) fun v H2 l2 hv => ?_
    obtain ⟨_, rfl⟩ := hv
    have l12 := l1.trans l2
    have e1' := l12.ok.inv.1.1.2
    have l3 : Le c I H (upd H2 pp (.lst [.ref pg, .ref ps, .int (turn + 1), .int tot])) := by
      refine .chg (l12.imp fun z => z.1.1.1) Z.mp e1' rfl rfl (Z.put H2 _ l12.ok.inv.1.1.1 ⟨gs, ss, turn + 1, tot, upd_same, (upd_ne Z.n1.symm).trans l12.ok.inv.1.2, (upd_ne Z.n2.symm).trans l12.ok.inv.2, hs⟩ (fun p _ n _ => upd_ne n) (upd_tups e1' fun _ z => nomatch z))
    have f1 : (upd H2 pp (.lst [.ref pg, .ref ps, .int (turn + 1), .int tot])) pp = some (.lst [.ref pg, .ref ps, .int (turn + 1), .int tot]) := upd_same
    have f2 := (upd_ne (o := .lst [.ref pg, .ref ps, .int (turn + 1), .int tot]) Z.n1.symm).trans l12.ok.inv.1.2
    have f3 := (upd_ne (o := .lst [.ref pg, .ref ps, .int (turn + 1), .int tot]) Z.n2.symm).trans l12.ok.inv.2
    show SB _ _ _ _ (upd H2 pp (.lst [.ref pg, .ref ps, .int (turn + 1), .int tot]))
    generalize upd H2 pp (.lst [.ref pg, .ref ps, .int (turn + 1), .int tot]) = H3 at l3 f1 f2 f3
    have ok4 : Ok c (pin3 Z gs ss (turn + 1) tot) H3 := ((l3.ok.pin Z.mp f1).pin Z.mg f2).pin Z.ms f3
    have at0 : ∀ {σ : St} {H' : Hp} {p1 p2 p3 : Pos} {j : Nat}, σ[0]? = some (some (.ref pp)) → EV (bX P w K mg base N43 "_law_draw" (defScope (topS 43)) f cdv A outer s H E) c (pin3 Z gs ss (turn + 1) tot) (pin3 Z gs ss (turn + 1) tot) (.Subscript (.Name "_law_pot_here" p1) (.Constant (.int 0) j p2) p3) σ H' fun u _ => u = .ref pg := fun hs => ev_ixA (i := 0) (ev_var 0 hs) ed_int (fun H1 l => l.ok.inv.1.1.2) rfl
    have at1 : ∀ {σ : St} {H' : Hp} {p1 p2 p3 : Pos} {j : Nat}, σ[0]? = some (some (.ref pp)) → EV (bX P w K mg base N43 "_law_draw" (defScope (topS 43)) f cdv A outer s H E) c (pin3 Z gs ss (turn + 1) tot) (pin3 Z gs ss (turn + 1) tot) (.Subscript (.Name "_law_pot_here" p1) (.Constant (.int 1) j p2) p3) σ H' fun u _ => u = .ref ps := fun hs => ev_ixA (i := 1) (ev_var 0 hs) ed_int (fun H1 l => l.ok.inv.1.1.2) rfl
    refine sb_when ok4 (tv_gt (ed_lenA T0.B (at0 rfl) fun H1 l => l.ok.inv.1.2) ed_int) (fun z H4 l4 => ?_) fun z H4 l4 => ?_
    · cases gs with
      | nil => exact absurd z (by simp)
      | cons g gs =>
        refine sb_set 3 l4.ok (ev_ixA (i := 0) (at0 rfl) ed_int (fun H1 l => l.ok.inv.1.2) rfl) sc43.nd fun v3 H5 l5 h3 => ?_
        subst h3
        refine sb_setA (i := 0) l5.ok (Pz := fun v _ => v = .int (g / many)) ((ed_div ⟨m0, m1⟩ (ed_var 3 rfl (.int g)) (ed_var 1 rfl (.int many))).imp fun v H2 _ d => d.intOf) (at0 rfl) ed_int (fun H1 l => l.ok.inv.1.2) (by simp) fun v H6 l6 hv => ?_
        obtain ⟨_, rfl⟩ := hv
        have l46 := (l4.trans l5).trans l6
        have e2' := l46.ok.inv.1.2
        have l7 : Le c I H (upd H6 pg (.lst ((g / many :: gs).map V.int))) := by
          refine .chg (l3.trans (l46.imp fun z => z.1.1.1)) Z.mg e2' rfl rfl (Z.put H6 _ l46.ok.inv.1.1.1 ⟨g / many :: gs, ss, turn + 1, tot, (upd_ne Z.n1).trans l46.ok.inv.1.1.2, upd_same, (upd_ne Z.n3.symm).trans l46.ok.inv.2, hs⟩ (fun p _ _ n => upd_ne n) (upd_tups e2' fun _ z => nomatch z))
        have g1 := (upd_ne (o := .lst ((g / many :: gs).map V.int)) Z.n1).trans l46.ok.inv.1.1.2
        have g2 : (upd H6 pg (.lst ((g / many :: gs).map V.int))) pg = some (.lst ((g / many :: gs).map V.int)) := upd_same
        have g3 := (upd_ne (o := .lst ((g / many :: gs).map V.int)) Z.n3.symm).trans l46.ok.inv.2
        show SB _ _ _ _ (upd H6 pg (.lst ((g / many :: gs).map V.int)))
        generalize upd H6 pg (.lst ((g / many :: gs).map V.int)) = H7 at l7 g1 g2 g3
        have ok7 : Ok c (pin3 Z (g / many :: gs) ss (turn + 1) tot) H7 := ((l7.ok.pin Z.mp g1).pin Z.mg g2).pin Z.ms g3
        refine sb_when ok7 (tv_lt (ed_var 3 rfl (.int g)) (ed_var 1 rfl (.int many))) (fun z2 H8 l8 => ?_) fun z2 H8 l8 => ?_
        · refine sb_pop0 (y := .int (g / many)) (ys := gs.map V.int) l8.ok (ev_ixA (i := 0) (ev_var 0 rfl) ed_int (fun H1 l => l.ok.inv.1.1.2) rfl) (fun H1 l => l.ok.inv.1.2) fun H9 l9 => ?_
          have l89 := l8.trans l9
          have l10 : Le c I H (upd H9 pg (.lst (gs.map V.int))) := by
            refine .chg (l7.trans (l89.imp fun z => z.1.1.1)) Z.mg l89.ok.inv.1.2 rfl rfl (Z.put H9 _ l89.ok.inv.1.1.1 ⟨gs, ss, turn + 1, tot, (upd_ne Z.n1).trans l89.ok.inv.1.1.2, upd_same, (upd_ne Z.n3.symm).trans l89.ok.inv.2, hs⟩ (fun p _ _ n => upd_ne n) (upd_tups l89.ok.inv.1.2 fun _ z => nomatch z))
          refine sb_nil (sb_ret l10.ok (ed_mod m0 (ed_toInt T0.B (ed_var 3 rfl (.int g))) (ed_var 1 rfl (.int many))) fun v H11 l11 hv => ?_)
          rw [hv.intOf]
          exact q _ H11 (Int.emod_nonneg _ (by omega)) (Int.emod_lt_of_pos _ m0) (l10.trans l11)
        · refine sb_ret l8.ok (ed_mod m0 (ed_toInt T0.B (ed_var 3 rfl (.int g))) (ed_var 1 rfl (.int many))) fun v H11 l11 hv => ?_
          rw [hv.intOf]
          exact q _ H11 (Int.emod_nonneg _ (by omega)) (Int.emod_lt_of_pos _ m0) (l7.trans ((l8.trans l11).imp fun z => z.1.1.1))
    · have sl : 0 < ((ss.map V.int).length : Int) := by rw [List.length_map]; omega
      have ix1 := Int.emod_nonneg turn (show ((ss.map V.int).length : Int) ≠ 0 by omega)
      have ix2 := Int.emod_lt_of_pos turn sl
      obtain ⟨j, hj⟩ : ∃ j : Nat, turn % ((ss.map V.int).length : Int) = (j : Int) := ⟨(turn % ((ss.map V.int).length : Int)).toNat, by omega⟩
      have hjl : j < ss.length := by rw [List.length_map] at ix2 hj; omega
      refine sb_set 4 l4.ok (ed_add (ed_add (ed_mul (Or.inr ⟨by decide, by decide⟩) (EV.int (n := ss.getD j 0) (ev_ixA (i := j) (at1 rfl) (ED.is (ed_mod sl (ed_toInt T0.B (ed_var 2 rfl (.int turn))) (ed_lenA T0.B (at1 rfl) fun H1 l => l.ok.inv.2)) (by rw [hj])) (fun H1 l => l.ok.inv.2) (by rw [List.getElem?_map, List.getElem?_eq_getElem hjl, List.getD_eq_getElem?_getD, List.getElem?_eq_getElem hjl]; rfl))) ed_int) (ed_mul (Or.inl ⟨by decide, by decide⟩) ed_int (ed_var 2 rfl (.int turn)))) (ed_mul (Or.inr ⟨by decide, by decide⟩) (EV.int (ev_ixA (i := 3) (ev_var 0 rfl) ed_int (fun H1 l => l.ok.inv.1.1.2) rfl)) ed_int)) sc43.nd fun v4 H5 l5 h4 => ?_
      refine sb_set 3 l5.ok (ed_mod (by decide) (ed_toInt T0.B (ed_add (ed_mul (Or.inr ⟨by decide, by decide⟩) (ed_var 4 rfl h4) ed_int) ed_int)) ed_int) sc43.nd fun v3 H6 l6 h3 => ?_
      generalize hn1 : (((ss.getD j 0 * 7919 + 104729 * turn + tot * 31) * 48271 + 11) % 2147483647 : Int) = n1 at h3
      have b1 : 0 ≤ n1 ∧ n1 < 2147483647 := by rw [← hn1]; exact ⟨Int.emod_nonneg _ (by decide), Int.emod_lt_of_pos _ (by decide)⟩
      refine sb_set 3 l6.ok (ed_mod (by decide) (ed_toInt T0.B (ed_mul (Or.inl ⟨by omega, by omega⟩) (ed_var 3 rfl h3) (ed_add (ed_div ⟨by decide, by decide⟩ (ed_var 3 rfl h3) ed_int) ed_int))) ed_int) sc43.nd fun v7 H7 l7 h7 => ?_
      generalize hn2 : (n1 * (n1 / 1009 + 69621) % 2147483629 : Int) = n2 at h7
      have b2 : 0 ≤ n2 ∧ n2 < 2147483629 := by rw [← hn2]; exact ⟨Int.emod_nonneg _ (by decide), Int.emod_lt_of_pos _ (by decide)⟩
      refine sb_set 3 l7.ok (ed_mod (by decide) (ed_toInt T0.B (ed_add (ed_mul (Or.inl ⟨by omega, by omega⟩) (ed_var 3 rfl h7) (ed_add (ed_div ⟨by decide, by decide⟩ (ed_var 3 rfl h7) ed_int) ed_int)) (ed_var 2 rfl (.int turn)))) ed_int) sc43.nd fun v8 H8 l8 h8 => ?_
      refine sb_ret l8.ok (ed_mod m0 (ed_toInt T0.B (ed_div ⟨by decide, by decide⟩ (ed_var 3 rfl h8) ed_int)) (ed_var 1 rfl (.int many))) fun v H9 l9 hv => ?_
      rw [hv.intOf]
      exact q _ H9 (Int.emod_nonneg _ (by omega)) (Int.emod_lt_of_pos _ m0) (l3.trans ((l4.trans (l5.trans (l6.trans (l7.trans (l8.trans l9))))).imp fun z => z.1.1.1))
end
end K93
set_option maxHeartbeats 4000000
/-! K93PE: comprehensions of what is drawn; any, input, pot, table of the law. -/
namespace K93
open PySem PySem.Spec PyProof.Rows L2
section
variable {X : Cx} {c : Kx} {I J : Ix c.pa} {σ : St} {H : Hp} {elt it : Expr} {pos : Pos} {n : Nat} {f : Nat → PyData} {scope : Scope} {R : Int → Prop}
/-- a comprehension of ints that are not told to the letter -/
theorem ev_lcN (j : Nat) {x : Str} {px : Pos} (own : List (Str × Nat)) (w : IT X c I J (.Name x px) it σ H n f) (hn : n ≤ 1000000) (hN : X.N.Nodup)
    (he : ∀ X', Blk X scope X' → ∀ i v Hb, i < n → Le c J H Hb → DD X.K c.pa Hb v (f i) → EV X' c J J elt ((wipe σ (own.map (·.2))).set j (some v)) Hb fun u _ => ∃ k, u = .int k ∧ R k)
    (hsw : ∀ v, wipe ((wipe σ (own.map (·.2))).set j (some v)) (own.map (·.2)) = wipe σ (own.map (·.2)) := by intro _; rfl) (ok : BlkOk X.N X.env.scope scope own := by exact blkOk_by (by decide +kernel))
    (hi : X.N[j]? = some x := by rfl) (hx : Loc (compEnvC scope [] 0 X.env).scope x := by first | exact Or.inl rfl | exact Or.inr rfl) (hf : (scope.names.lookup x == some .cell) = true ∨ (compEnvC scope [] 0 X.env).scope.names.lookup x = some .local := by first | exact .inr rfl | exact .inl rfl) (hc : X.calm = true := by rfl)
    (hs : ∀ x, foldedSetIterable it X.env x = pure x := by intro _; rfl) : EV X c I J (.ListComp elt [⟨.Name x px, it, [], 0⟩] scope pos) σ H fun v H' => ∃ ns : List Int, ns.length = n ∧ (∀ k ∈ ns, R k) ∧ DD X.K c.pa H' v (.list (ns.map .int)) := by
  obtain ⟨wi, h1, h2⟩ := w
  refine EV.of (pe_lc (te := tEl X scope elt) (g := gName j) (tt := tYes) hc hN h1 ok (fun s H C cl fp => pg_name (X := X.blk s H scope (compEnvC scope cl C X.env) fp) hN hi hx hf) (fun s H C cl fp => pts_nil) (fun s H C cl fp => tEl_ok ⟨s, H, C, cl, fp, rfl⟩) hs) fun H1 l Q q => ?_
  refine h2 H1 l _ fun Jt H2 G Y l2 W gg y D hD => ?_
  have nD : D ∉ c.pa := l2.ok.npa hD
  refine lc_it W (fun i H' => ∃ ns : List Int, H' D = some (.lst (ns.map V.int)) ∧ Le c J H2 H' ∧ ns.length = i ∧ ∀ k ∈ ns, R k) ⟨[], upd_same, .new (.refl l2.ok) hD, rfl, fun _ z => nomatch z⟩ (fun i H' _ p => gg H' p.choose_spec.2.1.ex) (fun i x Ha Hb hi' p yy => ?_) fun H' p => ?_
  · obtain ⟨ns, p1, p2, p3, p4⟩ := p
    obtain ⟨z1, z2⟩ := y i Ha x Hb hi' p2.ex (fun T' hT => p2.ok.npa hT) yy
    have lab : Le c J Ha Hb := z1.le p2.ok
    have lb : Le c J H Hb := (l.trans l2).trans (p2.trans lab)
    have e4 : ∀ X', Blk X scope X' → tS X' elt ((wipe σ (own.map (·.2))).set j (some x)) Hb fun y H4 => ∃ acc, H4 D = some (.lst acc) ∧ acc.length < sizeLine ∧ ∃ ns : List Int, upd H4 D (.lst (acc ++ [y])) D = some (.lst (ns.map V.int)) ∧ Le c J H2 (upd H4 D (.lst (acc ++ [y]))) ∧ ns.length = i + 1 ∧ ∀ k ∈ ns, R k := fun X' bl =>
      he X' bl i x Hb hi' lb z2 Hb (.refl lab.ok) _ fun y H4 l4 w => by
        obtain ⟨k, rfl, hk⟩ := w
        have r1 : H4 D = some (.lst (ns.map V.int)) := l4.lst (lab.lst p1 nD) nD
        refine ⟨_, r1, by rw [List.length_map]; exact Nat.lt_of_le_of_lt (by omega : ns.length ≤ 1000000) (by decide), ns ++ [k], by rw [upd_same, List.map_append]; rfl, .mut (p2.trans (lab.trans l4)) hD r1 rfl nD, by rw [List.length_append, p3]; rfl, fun m hm => ?_⟩
        rcases List.mem_append.mp hm with hm | hm
        · exact p4 m hm
        · rw [List.mem_singleton.mp hm]; exact hk
    refine ⟨hsw x, ?_⟩
    exact iteT (B := ∃ ns : List Int, Hb D = some (.lst (ns.map V.int)) ∧ Le c J H2 Hb ∧ ns.length = i + 1 ∧ ∀ k ∈ ns, R k) e4
  · obtain ⟨ns, p1, p2, p3, p4⟩ := p
    exact q _ H' (l2.trans p2) ⟨ns, p3, p4, .lst p1 nD (DDs.ofInts _)⟩
end
end K93
set_option maxHeartbeats 4000000
/-! K93PF: what is drawn: any item, an input, the pot. -/
namespace K93
open PySem PySem.Spec PyProof.Rows L2
section
variable {X : Cx} {c : Kx} {I J L : Ix c.pa} {σ : St} {H : Hp} {a b e : Expr} {pos p : Pos} {ds : List PyData} {pp pg ps : Addr}
theorem ev_draw {n : Int} (F : FnD X.prog X.w X.K X.mg X.base CX0 1 "_law_draw" spDr) (hr : Room 1 X.A) (Z : PotX c I pp pg ps) (ha : EV X c I I a σ H fun v _ => v = .ref pp) (hb : ED X c I I b σ H (.int n)) (m0 : 0 < n) (m1 : n < 1073741824)
    (he : starEach [a, b] X.env = (false, eval a X.env) :: starEach [b] X.env := by rfl) (he2 : starEach [b] X.env = (false, eval b X.env) :: starEach [] X.env := by rfl) (hg : Gl X "_law_draw" := by rfl) (hpl : (backTo pos (starEach [b] X.env)).any (·.1) = false := by rfl) :
    EV X c I I (.Call (.Name "_law_draw" p) [a, b] [] pos) σ H fun v _ => ∃ i : Int, v = .int i ∧ 0 ≤ i ∧ i < n :=
  ev_call F hr (av_cons ha (fun _ _ _ _ h => h) (av_cons hb mdd av_nil he2) he) (fun vs H1 l w Q k => by
    obtain ⟨v, r, rfl, rfl, u, r2, rfl, hu, rfl⟩ := w
    rw [hu.intOf]
    exact ⟨c, I, pp, pg, ps, n, rfl, Z, l.ok, m0, m1, fun i H2 h0 h1 l2 => k _ H2 l2 ⟨i, rfl, h0, h1⟩⟩) hg (by decide) he hpl
/-- an item at a drawn place -/
theorem ev_ixN (ha : ED X c I I a σ H (.list ds)) (hb : EV X c I J b σ H fun v _ => ∃ i : Int, v = .int i ∧ 0 ≤ i ∧ i < (ds.length : Int)) (hs : PlainIx b := by exact fun _ _ => rfl) : EV X c I J (.Subscript a b pos) σ H fun u H' => ∃ i : Nat, i < ds.length ∧ DD X.K c.pa H' u (ds.getD i .none) :=
  EV.of (pe_ix ix_list peS peS hs) fun H1 l Q q => ha H1 l _ fun x H2 l2 d => hb H2 (l.trans l2) _ fun y H3 l3 w => by
    obtain ⟨i, rfl, i0, i1⟩ := w
    obtain ⟨t, xs, rfl, h1, h2, h3⟩ := (l3.dd d).lstOf
    obtain ⟨j, rfl⟩ : ∃ j : Nat, i = (j : Int) := ⟨i.toNat, by omega⟩
    have hj : j < ds.length := by omega
    obtain ⟨v, h4, h5⟩ := h3.get (List.getElem?_eq_getElem hj)
    refine ⟨t, xs, _, v, rfl, rfl, .of h1, atI_nat h4, q v H3 (l2.trans l3) ⟨j, hj, ?_⟩⟩
    rw [List.getD_eq_getElem?_getD, List.getElem?_eq_getElem hj]
    exact h5
theorem ed_slToL {k : Nat} {p2 : Pos} (ha : ED X c I I a σ H (.list ds)) (hb : ED X c I I b σ H (.int (k : Int))) : ED X c I I (.Subscript a (.Slice none (some b) none p2) pos) σ H (.list (ds.take k)) :=
  EV.of (pe_slice sl_list peS po_none (po_some peS)) fun H1 l Q q => ha H1 l _ fun x H2 l2 p => hb H2 (l.trans l2) _ fun y H3 l3 w => ⟨_, w.intOf, by
    obtain ⟨t, xs, rfl, h1, h2, h3⟩ := (l3.dd p).lstOf
    refine ⟨t, xs, rfl, .of h1, fun p hp => ?_⟩
    rw [cut_to]
    exact q _ _ ((l2.trans l3).new hp) (.lst upd_same (l3.ok.npa hp) ((Le.new (.refl l3.ok) hp).dds (h3.take k)))⟩
/-- the list at t reads as these ints, however it is held -/
def RdI (K : PySem.W.Frag) (H : Hp) (t : Addr) (ns : List Int) : Prop := SqL K H t (ns.map V.int)
theorem rdi_mono {K : PySem.W.Frag} {t : Addr} {ns : List Int} {H1 : Hp} (l : Le c I H H1) (n : t ∉ c.pa) (h : RdI K H t ns) : RdI K H1 t ns := by
  rcases h with (h | ⟨o, h⟩) | h
  · exact .inl (.inl (l.ex _ _ h (fun _ z => nomatch z) n))
  · exact .inl (.inr ⟨o, l.ex _ _ h (fun _ z => nomatch z) n⟩)
  · exact .inr h
theorem ed_slToS {k : Nat} {t : Addr} {ns : List Int} {p2 : Pos} (hr : RdI X.K H t ns) (n : t ∉ c.pa) (ha : EV X c I I a σ H fun v _ => v = .ref t) (hb : ED X c I I b σ H (.int (k : Int))) : ED X c I I (.Subscript a (.Slice none (some b) none p2) pos) σ H (.list ((ns.take k).map .int)) :=
  EV.of (pe_slice sl_list peS po_none (po_some peS)) fun H1 l Q q => ha H1 l _ fun x H2 l2 p => hb H2 (l.trans l2) _ fun y H3 l3 w => ⟨_, w.intOf, by
    have e : x = .ref t := p
    subst e
    refine ⟨t, ns.map V.int, rfl, rdi_mono ((l.trans l2).trans l3) n hr, fun p hp => ?_⟩
    rw [cut_to, ← List.map_take]
    exact q _ _ ((l2.trans l3).new hp) (.lst upd_same (l3.ok.npa hp) (DDs.ofInts _))⟩
/-- a sum of two lists, its place told -/
theorem ev_catF {ms ns : List Int} (ha : ED X c I I a σ H (.list (ms.map .int))) (hb : ED X c I I b σ H (.list (ns.map .int))) (hl : ms.length + ns.length ≤ 100000) : EV X c I I (.BinOp a .Add b pos) σ H fun v H' => ∃ q, v = .ref q ∧ H q = none ∧ q ∉ c.pa ∧ H' q = some (.lst ((ms ++ ns).map V.int)) := fun H1 l =>
  ev_op op_cat ha hb mdd (fun x y H2 l2 p q Q k => by
    obtain ⟨s, xs, rfl, h1, h2, h3⟩ := p.lstOf
    obtain ⟨t, ys, rfl, g1, g2, g3⟩ := q.lstOf
    refine ⟨s, t, xs, ys, rfl, rfl, h1, g1, by rw [h3.length, g3.length, List.length_map, List.length_map]; exact Nat.le_trans hl (by decide), fun p hp => ?_⟩
    have n := Le.new (o := .lst (xs ++ ys)) (.refl l2.ok) hp
    refine k _ _ n ⟨p, rfl, l2.fr p hp, l2.ok.npa hp, ?_⟩
    rw [upd_same, h3.ints, g3.ints, List.map_append]) H1 l
theorem av_imp {es : List Expr} {R R' : List V → Hp → Prop} (h : AV X c I J es σ H R) (f : ∀ vs H1, R vs H1 → R' vs H1) : AV X c I J es σ H R' := fun H1 l Q q => h H1 l Q fun vs H2 l2 w => q vs H2 l2 (f vs H2 w)
/-- a display of a list, its place told -/
theorem ev_lstF {es : List Expr} {R : List V → Prop} (h : AV X c I J es σ H fun vs _ => R vs) (hl : ∀ vs, R vs → vs.length ≤ 100000) : EV X c I J (.List es pos) σ H fun v H' => ∃ q vs, v = .ref q ∧ H q = none ∧ q ∉ c.pa ∧ R vs ∧ H' q = some (.lst vs) := fun H0 l0 =>
  EV.of (pe_lst paS) (fun H1 l Q q => h H1 (l0.trans l) _ fun vs H2 l2 w => ⟨Nat.le_trans (hl vs w) (by decide), fun p hp => q _ _ (l2.new hp) ⟨p, vs, rfl, (l0.trans (l.trans l2)).fr p hp, l2.ok.npa hp, w, upd_same⟩⟩) H0 (.refl l0.ok)
theorem ev_tupN {R : List Int → Prop} (B : Bn X.mg) (ha : EV X c I J a σ H fun v H' => ∃ ns : List Int, R ns ∧ DD X.K c.pa H' v (.list (ns.map .int))) (hg : Gl X "tuple" := by rfl) (he : starEach [a] X.env = (false, eval a X.env) :: starEach [] X.env := by rfl) : EV X c I J (.Call (.Name "tuple" p) [a] [] pos) σ H fun v H' => ∃ ns, R ns ∧ DD X.K c.pa H' v (TI ns) :=
  ev_callT call_tuple_of B.tuple (by decide +kernel) (av_cons ha (fun v H1 H2 l ⟨ns, r, d⟩ => ⟨ns, r, l.dd d⟩) av_nil he) (fun vs H1 l w Q q => by
    obtain ⟨v, r, rfl, ⟨ns, hR, h⟩, rfl⟩ := w
    obtain ⟨t, xs, rfl, h1, h2, h3⟩ := h.lstOf
    exact ⟨t, xs, rfl, .inl ⟨.of h1, fun p hp => q _ _ (Le.new (.refl l.ok) hp) ⟨ns, hR, .tup upd_same (l.ok.npa hp) ((Le.new (.refl l.ok) hp).dds h3)⟩⟩⟩) hg (by decide) (by decide) he
end
theorem IT.ints {X : Cx} {c : Kx} {I J : Ix c.pa} {σ : St} {H : Hp} {tg it : Expr} {bs : List Int} (h : IT X c I J tg it σ H (bs.map PyData.int).length fun i => (bs.map PyData.int).getD i .none) : IT X c I J tg it σ H bs.length fun i => .int (bs.getD i 0) := by
  rw [List.length_map] at h
  exact h.congr fun i hi => getD_int hi
def spAny (K : PySem.W.Frag) : Sp := fun vs H Q _ => ∃ (c : Kx) (I : Ix c.pa) (pp pg ps : Addr) (v : V) (ds : List PyData), vs = [.ref pp, v] ∧ PotX c I pp pg ps ∧ Ok c I H ∧ DD K c.pa H v (.list ds) ∧ 0 < ds.length ∧ ds.length < 1073741824 ∧ ∀ i u H1, i < ds.length → Le c I H H1 → DD K c.pa H1 u (ds.getD i .none) → Q u H1
abbrev N44 : List Str := ["_law_pot_here", "_law_items"]
theorem sc44 : FnScope N44 ["_law_pot_here", "_law_items"] (defScope (topS 44)) := ⟨rfl, rfl, rfl, by decide +kernel, rfl, by decide +kernel, by decide +kernel⟩
def spInp (K : PySem.W.Frag) : Sp := fun vs H Q _ => ∃ (c : Kx) (I : Ix c.pa) (pp pg ps : Addr) (n : Nat) (most : Int), vs = [.ref pp, .int (n : Int), .int most] ∧ PotX c I pp pg ps ∧ Ok c I H ∧ n ≤ 1000 ∧ 0 ≤ most ∧ most < 1000000 ∧ ∀ gs v H1, gs.length = n → (∀ i ∈ gs, 0 ≤ i ∧ i ≤ most) → Le c I H H1 → DD K c.pa H1 v (TI gs) → Q v H1
abbrev N45 : List Str := ["_law_pot_here", "_law_many", "_law_most", "_law_k"]
theorem sc45 : FnScope N45 ["_law_pot_here", "_law_many", "_law_most"] (defScope (topS 45)) := ⟨rfl, rfl, rfl, by decide +kernel, rfl, by decide +kernel, by decide +kernel⟩
def spPot (K : PySem.W.Frag) : Sp := fun vs H Q _ => ∃ (c : Kx) (I : Ix c.pa) (sa : Addr) (ns : List Int), vs = [.ref sa] ∧ Ok c I H ∧ RdI K H sa ns ∧ sa ∉ c.pa ∧ ∀ pp pg ps H1, Le c I H H1 → pp ∉ c.pa → pg ∉ c.pa → ps ∉ c.pa → pp ≠ pg → pp ≠ ps → pg ≠ ps → potP pp pg ps H1 → Q (.ref pp) H1
abbrev N42 : List Str := ["_law_script", "_law_cells_here", "_law_greats", "_law_smalls", "_law_item"]
theorem sc42 : FnScope N42 ["_law_script"] (defScope (topS 42)) := ⟨rfl, rfl, rfl, by decide +kernel, rfl, by decide +kernel, by decide +kernel⟩
section
variable {P : Program} {w : World} {K : PySem.W.Frag} {mg : Str → Option Value} {base : Heap}
theorem f44 (T0 : Tx K mg) : FnD P w K mg base CX0 2 "_law_any" (spAny K) :=
  any_fn T0.d44 sc44 (fun vs H Q E ⟨_, _, _, _, _, _, _, h, _⟩ => by rw [h]; rfl) fun f cdv A outer s H E vs Q hr h => by
    obtain ⟨c, I, pp, pg, ps, v, ds, rfl, Z, ok, hd, n0, n1, q⟩ := h
    exact sb_ret ok (ev_ixN (ed_var 1 rfl hd) (ev_draw (n := (ds.length : Int)) (f43 T0) hr Z (ev_var 0 rfl) (ed_lenL T0.B (ed_var 1 rfl hd)) (by omega) (by omega))) fun u H1 l ⟨i, hi, d⟩ => q i u H1 hi l d
theorem f45 (T0 : Tx K mg) : FnD P w K mg base CX0 2 "_law_input" (spInp K) :=
  any_fn T0.d45 sc45 (fun vs H Q E ⟨_, _, _, _, _, _, _, h, _⟩ => by rw [h]; rfl) fun f cdv A outer s H E vs Q hr h => by
    obtain ⟨c, I, pp, pg, ps, n, most, rfl, Z, ok, hn, m0, m1, q⟩ := h
    refine sb_ret ok (ev_tupN (R := fun gs => gs.length = n ∧ ∀ i ∈ gs, 0 ≤ i ∧ i ≤ most) T0.B ((ev_lcN (R := fun i => 0 ≤ i ∧ i ≤ most) 3 [("_law_k", 3)] (it_range T0.B (ed_var 1 rfl (.int _)) (by omega)) (by omega) sc45.nd (fun X' bl i v Hb hi l dv => ?_) (ok := blkOk_by (N := N45) (sc := defScope (topS 45)) (by decide +kernel))).imp fun v H1 _ ⟨ns, h1, h2, h3⟩ => ⟨ns, ⟨h1, h2⟩, h3⟩)) fun v H1 l ⟨gs, hR, dv⟩ => q gs v H1 hR.1 hR.2 l dv
    obtain ⟨s', Hx, C, cl, fp, rfl⟩ := bl
    exact (ev_draw (n := most + 1) (f43 T0) hr Z (ev_var 0 rfl) (ed_add (ed_var 2 rfl (.int most)) ed_int) (by omega) (by omega)).imp fun v H1 _ ⟨i, e, i0, i1⟩ => ⟨i, e, i0, by omega⟩
theorem f42 (T0 : Tx K mg) : FnD P w K mg base CX0 1 "_law_pot" (spPot K) :=
  any_fn T0.d42 sc42 (fun vs H Q E ⟨_, _, _, _, h, _⟩ => by rw [h]; rfl) fun f cdv A outer s H E vs Q hr h => by
    obtain ⟨c, I, sa, ns, rfl, ok, hd, hna, q⟩ := h
    refine sb_lc 1 [("_law_item", 4)] ok (lc_S 4 [("_law_item", 4)] (T := fun _ => I) (n := (ns.take 63).length) (ef := fun k => .int ((ns.take 63).getD k 0)) (IT.ints (it_list (ed_slToS (k := 63) hd hna (ev_var 0 rfl) ed_int))) (by rw [List.length_take]; omega) (fun i hi => fl_int _) sc42.nd fun X' bl i v Hb hi l dv => ?_) sc42.nd (fun v1 H1 l1 h1 => ?_) (ok := blkOk_by (N := N42) (sc := defScope (topS 42)) (by decide +kernel))
    · obtain ⟨s', Hx, C, cl, fp, rfl⟩ := bl
      exact ed_toInt T0.B (ed_var 4 rfl dv)
    rw [range_map (0 : Int) PyData.int (ns.take 63)] at h1
    have lc : (ns.take 63).length ≤ 63 := by rw [List.length_take]; omega
    generalize ns.take 63 = cs at h1 lc
    refine sb_lc 2 [("_law_item", 4)] l1.ok (lc_If (J := I) 4 [("_law_item", 4)] (n := cs.length) (b := fun i => decide ((10 : Int) ^ (18 : Int).toNat ≤ if cs.getD i 0 < 0 then -cs.getD i 0 else cs.getD i 0)) (ef := fun i => .int (if cs.getD i 0 < 0 then -cs.getD i 0 else cs.getD i 0)) (IT.ints (it_list (ed_var 1 rfl h1))) (by omega) (fun i hi => fl_int _) sc42.nd (fun X' bl i v Hb hi l dv => ?_) fun X' bl i v Hb hi l dv _ => ?_) sc42.nd (fun v2 H2 l2 h2 => ?_) (ok := blkOk_by (N := N42) (sc := defScope (topS 42)) (by decide +kernel))
    · obtain ⟨s', Hx, C, cl, fp, rfl⟩ := bl
      exact tv_ge (ed_abs T0.B (ed_var 4 rfl dv)) (ed_pow (by unfold CPow; decide) ed_int ed_int)
    · obtain ⟨s', Hx, C, cl, fp, rfl⟩ := bl
      exact ed_abs T0.B (ed_var 4 rfl dv)
    generalize hgs : (trn cs.length fun i => decide ((10 : Int) ^ (18 : Int).toNat ≤ if cs.getD i 0 < 0 then -cs.getD i 0 else cs.getD i 0)).map (fun i => if cs.getD i 0 < 0 then -cs.getD i 0 else cs.getD i 0) = gs
    have h2' : DD K c.pa H2 v2 (.list (gs.map .int)) := by
      rw [← hgs, List.map_map]
      exact h2
    obtain ⟨pg, xs, rfl, g1, g2, g3⟩ := h2'.lstOf
    rw [g3.ints] at g1
    have h1' := l2.dd h1
    have ls : (trn cs.length fun i => decide ((if cs.getD i 0 < 0 then -cs.getD i 0 else cs.getD i 0) < (10 : Int) ^ (18 : Int).toNat)).length ≤ 63 := Nat.le_trans (trn_len _ _) lc
    refine sb_set 3 l2.ok (ev_catF (ms := (trn cs.length fun i => decide ((if cs.getD i 0 < 0 then -cs.getD i 0 else cs.getD i 0) < (10 : Int) ^ (18 : Int).toNat)).map fun i => cs.getD i 0 % 1000000007) (ns := [(cs.length : Int) + 1]) (ED.is (ed_lcx [("_law_item", 4)] (lc_If (J := I) 4 [("_law_item", 4)] (n := cs.length) (b := fun i => decide ((if cs.getD i 0 < 0 then -cs.getD i 0 else cs.getD i 0) < (10 : Int) ^ (18 : Int).toNat)) (ef := fun i => .int (cs.getD i 0 % 1000000007)) (IT.ints (it_list (ed_var 1 rfl h1'))) (by omega) (fun i hi => fl_int _) sc42.nd (fun X' bl i v Hb hi l dv => ?_) fun X' bl i v Hb hi l dv _ => ?_) sc42.nd (ok := blkOk_by (N := N42) (sc := defScope (topS 42)) (by decide +kernel))) (by rw [List.map_map]; rfl)) (ed_lst (ad_cons (ed_add (ED.is (ed_lenL T0.B (ed_var 1 rfl h1')) (by rw [List.length_map])) ed_int) ad_nil)) (by rw [List.length_map]; simp only [List.length_cons, List.length_nil]; omega)) sc42.nd fun v3 H3 l3 h3 => ?_
    · obtain ⟨s', Hx, C, cl, fp, rfl⟩ := bl
      exact tv_lt (ed_abs T0.B (ed_var 4 rfl dv)) (ed_pow (by unfold CPow; decide) ed_int ed_int)
    · obtain ⟨s', Hx, C, cl, fp, rfl⟩ := bl
      exact ed_mod (by decide) (ed_toInt T0.B (ed_var 4 rfl dv)) ed_int
    obtain ⟨ps, rfl, f1, f2, f3⟩ := h3
    generalize hss : ((trn cs.length fun i => decide ((if cs.getD i 0 < 0 then -cs.getD i 0 else cs.getD i 0) < (10 : Int) ^ (18 : Int).toNat)).map fun i => cs.getD i 0 % 1000000007) ++ [(cs.length : Int) + 1] = ss at f3
    have g4 := l3.lst g1 g2
    refine sb_ret l3.ok (ev_lstF (R := fun vs => vs = [.ref pg, .ref ps, .int 0, .int (ss.sum % 999983)]) (av_imp (av_cons (ev_var 2 rfl) (fun _ _ _ _ h => h) (av_cons (ev_var 3 rfl) (fun _ _ _ _ h => h) (av_cons ed_int mdd (av_cons (ed_mod (by decide) (ed_toInt T0.B (ed_sum T0.B (ed_var 3 rfl (.lst f3 f2 (DDs.ofInts ss))))) ed_int) mdd av_nil)))) fun vs H1 h => ?_) fun vs h => by rw [h]; show 4 ≤ 100000; decide) fun v H4 l4 h4 => ?_
    · obtain ⟨a1, r1, rfl, rfl, a2, r2, rfl, rfl, a3, r3, rfl, e3, a4, r4, rfl, e4, rfl⟩ := h
      rw [e3.intOf, e4.intOf]
    obtain ⟨pp, vs, rfl, e1, e2, rfl, e4⟩ := h4
    have lall := ((l1.trans l2).trans l3).trans l4
    refine q pp pg ps H4 lall e2 g2 f2 (fun z => ?_) (fun z => ?_) (fun z => ?_) ⟨gs, ss, 0, _, e4, l4.lst g4 g2, l4.lst f3 f2, ?_⟩
    · rw [z, g4] at e1; cases e1
    · rw [z, f3] at e1; cases e1
    · rw [← z, g1] at f1; cases f1
    · rw [← hss, List.length_append]; simp only [List.length_cons, List.length_nil]; omega
end
end K93
set_option maxHeartbeats 4000000
/-! K93PG: a table that is drawn. -/
namespace K93
open PySem PySem.Spec PyProof.Rows L2
section
variable {X : Cx} {c : Kx} {I J L : Ix c.pa} {σ : St} {H : Hp} {a b e : Expr} {es : List Expr} {pos p : Pos} {ds : List PyData} {pp pg ps : Addr}
theorem PotX.up {q : Addr} (Z : PotX c I pp pg ps) : PotX (c.up q) (I.up q) pp pg ps :=
  ⟨List.mem_cons_of_mem _ Z.mp, List.mem_cons_of_mem _ Z.mg, List.mem_cons_of_mem _ Z.ms, Z.n1, Z.n2, Z.n3, Z.pot, fun H H' p q e t => Z.put H H' p q (fun b hb => e b (List.mem_cons_of_mem _ hb)) t⟩
theorem PotX.pin {q : Addr} {m : q ∈ c.pa} {o : HO} (Z : PotX c I pp pg ps) (n1 : q ≠ pp) (n2 : q ≠ pg) : PotX c (I.pin q m o) pp pg ps :=
  ⟨Z.mp, Z.mg, Z.ms, Z.n1, Z.n2, Z.n3, fun H h => Z.pot H h.1, fun H H' p k e t => ⟨Z.put H H' p.1 k e t, (e q m n1 n2).trans p.2⟩⟩
theorem ev_addN {i : Int} {R : Int → Prop} (ha : ED X c I J a σ H (.int i)) (hb : EV X c J L b σ H fun v _ => ∃ j : Int, v = .int j ∧ R j) : EV X c I L (.BinOp a .Add b pos) σ H fun v _ => ∃ j : Int, v = .int (i + j) ∧ R j :=
  ev_op op_add ha hb mdd fun x y H1 l p q Q k => by
    obtain ⟨j, rfl, r⟩ := q
    exact ⟨i, j, p.intOf, rfl, k _ H1 (.refl l.ok) ⟨j, rfl, r⟩⟩
theorem av_consX {R : PyData → Prop} {e : Expr} (h : EV X c I J e σ H fun v H' => ∃ d, R d ∧ DD X.K c.pa H' v d) (g : AD X c J L es σ H ds) (hs : starEach (e :: es) X.env = (false, eval e X.env) :: starEach es X.env := by rfl) : AV X c I L (e :: es) σ H fun vs H' => ∃ d, R d ∧ DDs X.K c.pa H' vs (d :: ds) := fun H1 l Q q => ⟨fun pos pins s i =>
  (pa_cons peS paS hs).run pos pins s σ H1 Q i (h H1 l _ fun v H2 l2 ⟨d, hR, p⟩ => g H2 (l.trans l2) _ fun r H3 l3 w => q (v :: r) H3 (l2.trans l3) ⟨d, hR, .cons (l3.dd p) w⟩)⟩
theorem ev_tupX {R : List PyData → Prop} {x1 : Nat} (h : AV X c I J es σ H fun vs H' => ∃ ds, R ds ∧ DDs X.K c.pa H' vs ds) (hl : ∀ ds, R ds → ds.length ≤ 100000) : EV X c I J (.Tuple es x1 pos) σ H fun v H' => ∃ ds, R ds ∧ DD X.K c.pa H' v (.tuple ds) :=
  EV.of (pe_tup paS) fun H1 l Q q => h H1 l _ fun vs H2 l2 ⟨ds, hR, w⟩ => ⟨by rw [w.length]; exact Nat.le_trans (hl ds hR) (by decide), fun p hp => q _ _ (l2.new hp) ⟨ds, hR, .tup upd_same (l2.ok.npa hp) ((Le.new (.refl l2.ok) hp).dds w)⟩⟩
theorem ev_catX {R : List PyData → Prop} (ha : ED X c I J a σ H (.tuple ds)) (hb : EV X c J L b σ H fun v H' => ∃ es, R es ∧ DD X.K c.pa H' v (.tuple es)) (hl : ∀ es, R es → ds.length + es.length ≤ 100000) : EV X c I L (.BinOp a .Add b pos) σ H fun v H' => ∃ es, R es ∧ DD X.K c.pa H' v (.tuple (ds ++ es)) :=
  ev_op op_catA ha hb mdd fun x y H1 l p q Q k => by
    obtain ⟨es', hR, q⟩ := q
    obtain ⟨s, xs, rfl, h1, h2, h3⟩ := p.tupOf
    obtain ⟨t, ys, rfl, g1, g2, g3⟩ := q.tupOf
    refine ⟨s, t, xs, ys, rfl, rfl, .of h1, .of g1, by rw [h3.length, g3.length]; exact Nat.le_trans (hl es' hR) (by decide), fun z => ?_, fun _ z => ?_, fun _ _ p hp => ?_⟩
    · have e : ds = [] := List.length_eq_zero_iff.mp (by rw [← h3.length, z]; rfl)
      refine k _ H1 (.refl l.ok) ⟨es', hR, ?_⟩
      rw [e, List.nil_append]
      exact .tup g1 g2 g3
    · have e : es' = [] := List.length_eq_zero_iff.mp (by rw [← g3.length, z]; rfl)
      refine k _ H1 (.refl l.ok) ⟨es', hR, ?_⟩
      rw [e, List.append_nil]
      exact .tup h1 h2 h3
    · have n := Le.new (o := .tup (xs ++ ys)) (.refl l.ok) hp
      exact k _ _ n ⟨es', hR, .tup upd_same (l.ok.npa hp) (n.dds (h3.append g3))⟩
end
theorem mc_18 {bs ms : List Int} {most : Int} (hm : most ≤ 9) (h2 : bs.length ≤ 2) (hl : ms.length = bs.length) (hb : ∀ b ∈ bs, 0 ≤ b ∧ b ≤ most) (hs : ∀ m ∈ ms, 1 ≤ m ∧ m ≤ most) : BM bs ms ∧ mc bs ms ≤ 1000 := by
  refine ⟨⟨hl.symm, h2, fun b h => (hb b h).1, fun m h => (hs m h).1⟩, ?_⟩
  match bs, ms, hl with
  | [], [], _ => show (1 : Int) ≤ 1000; decide
  | [b], [m], _ =>
    have h1 := hb b (List.mem_cons_self ..)
    have h3 := hs m (List.mem_cons_self ..)
    show 1 * (b + m) ≤ 1000
    omega
  | [b, b'], [m, m'], _ =>
    have h1 := hb b (List.mem_cons_self ..)
    have h3 := hs m (List.mem_cons_self ..)
    have h4 := hb b' (List.mem_cons_of_mem _ (List.mem_cons_self ..))
    have h5 := hs m' (List.mem_cons_of_mem _ (List.mem_cons_self ..))
    show 1 * (b + m) * (b' + m') ≤ 1000
    have : 1 * (b + m) * (b' + m') ≤ 18 * 18 := Int.mul_le_mul (by omega) (by omega) (by omega) (by omega)
    omega
  | _ :: _ :: _ :: _, _, _ => exact absurd h2 (by simp only [List.length_cons]; omega)
structure FormR (bs cc : List Int) (steps : Int) (f : Int × List Int) : Prop where
  a0 : 0 ≤ f.1 ∧ f.1 < steps
  len : f.2.length = cc.length
  g0 : ∀ g ∈ f.2, 0 ≤ g ∧ g < steps
  z : ∀ k, k < cc.length → f.2.getD k 0 = 0 ∨ bs.getD k 0 ≤ cc.getD k 0
structure TbR (n forms : Nat) (most steps : Int) (bs ms : List Int) (rs : List (List (Int × List Int))) : Prop where
  lb : bs.length = n
  lm : ms.length = n
  b : ∀ b ∈ bs, 0 ≤ b ∧ b ≤ most
  m : ∀ m ∈ ms, 1 ≤ m ∧ m ≤ most
  len : rs.length = (cells bs ms).length
  rl : ∀ r ∈ rs, r.length = forms
  row : ∀ k, k < rs.length → ∀ f ∈ rs.getD k [], FormR bs ((cells bs ms).getD k []) steps f
def spTb (K : PySem.W.Frag) : Sp := fun vs H Q _ => ∃ (c : Kx) (I : Ix c.pa) (pp pg ps : Addr) (n forms : Nat) (most steps : Int), vs = [.ref pp, .int (n : Int), .int (forms : Int), .int most, .int steps] ∧ PotX c I pp pg ps ∧ Ok c I H ∧ n ≤ 2 ∧ forms ≤ 12 ∧ 1 ≤ most ∧ most ≤ 9 ∧ 1 ≤ steps ∧ steps ≤ 6 ∧
  ∀ bs ms rs v H1, TbR n forms most steps bs ms rs → Le c I H H1 → DD K c.pa H1 v (tbD bs ms rs) → Q v H1
abbrev N47 : List Str := ["_law_pot_here", "_law_many", "_law_forms", "_law_most", "_law_steps", "_law_k", "_law_bounds", "_law_measures", "_law_rows", "_law_cell", "_law_row", "_law_at", "_law_grown", "_law_step"]
theorem sc47 : FnScope N47 ["_law_pot_here", "_law_many", "_law_forms", "_law_most", "_law_steps"] (defScope (topS 47)) := ⟨rfl, rfl, rfl, by decide +kernel, rfl, by decide +kernel, by decide +kernel⟩
section
variable {P : Program} {w : World} {K : PySem.W.Frag} {mg : Str → Option Value} {base : Heap}
theorem f47 (T0 : Tx K mg) : FnD P w K mg base CX0 2 "_law_table" (spTb K) :=
  any_fn T0.d47 sc47 (fun vs H Q E ⟨_, _, _, _, _, _, _, _, _, h, _⟩ => by rw [h]; rfl) fun f cdv A outer s H E vs Q hr h => by
    obtain ⟨c, I, pp, pg, ps, n, forms, most, steps, rfl, Z, ok, n2, f12, m1, m9, s1, s6, q⟩ := h
    refine sb_set 6 ok (ev_tupN (R := fun gs => gs.length = n ∧ ∀ i ∈ gs, 0 ≤ i ∧ i ≤ most) T0.B ((ev_lcN (R := fun i => 0 ≤ i ∧ i ≤ most) 5 [("_law_k", 5)] (it_range T0.B (ed_var 1 rfl (.int _)) (by omega)) (by omega) sc47.nd (fun X' bl i v Hb hi l dv => ?_) (ok := blkOk_by (N := N47) (sc := defScope (topS 47)) (by decide +kernel))).imp fun v H1 _ ⟨ns, h1, h2, h3⟩ => ⟨ns, ⟨h1, h2⟩, h3⟩)) sc47.nd fun v6 H1 l1 h6 => ?_
    · obtain ⟨s', Hx, C, cl, fp, rfl⟩ := bl
      exact (ev_draw (n := most + 1) (f43 T0) hr Z (ev_var 0 rfl) (ed_add (ed_var 3 rfl (.int most)) ed_int) (by omega) (by omega)).imp fun v H1 _ ⟨i, e, i0, i1⟩ => ⟨i, e, i0, by omega⟩
    obtain ⟨bs, ⟨lb, hb⟩, h6⟩ := h6
    refine sb_set 7 l1.ok (ev_tupN (R := fun gs => gs.length = n ∧ ∀ i ∈ gs, 1 ≤ i ∧ i ≤ most) T0.B ((ev_lcN (R := fun i => 1 ≤ i ∧ i ≤ most) 5 [("_law_k", 5)] (it_range T0.B (ed_var 1 rfl (.int _)) (by omega)) (by omega) sc47.nd (fun X' bl i v Hb hi l dv => ?_) (ok := blkOk_by (N := N47) (sc := defScope (topS 47)) (by decide +kernel))).imp fun v H1 _ ⟨ns, h1, h2, h3⟩ => ⟨ns, ⟨h1, h2⟩, h3⟩)) sc47.nd fun v7 H2 l2 h7 => ?_
    · obtain ⟨s', Hx, C, cl, fp, rfl⟩ := bl
      exact (ev_addN ed_int (ev_draw (n := most) (f43 T0) hr Z (ev_var 0 rfl) (ed_var 3 rfl (.int most)) (by omega) (by omega))).imp fun v H1 _ ⟨i, e, i0, i1⟩ => ⟨1 + i, e, by omega, by omega⟩
    obtain ⟨ms, ⟨lm, hm⟩, h7⟩ := h7
    obtain ⟨B, mx⟩ := mc_18 m9 (lb ▸ n2) (lm.trans lb.symm) hb hm
    have lcl : ((cells bs ms).length : Int) = mc bs ms := cellsI_len B bs.length (Nat.le_refl _)
    have cat : ∀ cc ∈ cells bs ms, cc.length = bs.length := cellsI_at bs ms bs.length
    refine sb_set 8 l2.ok ev_lnew sc47.nd fun v8 H3 l3 h8 => ?_
    obtain ⟨a, rfl, h0, na, ha⟩ := h8
    have ok3 := l3.ok.up ha rfl
    have m0 : a ∈ (c.up a).pa := List.mem_cons_self ..
    have npp : a ≠ pp := fun z => na (z ▸ Z.mp)
    have npg : a ≠ pg := fun z => na (z ▸ Z.mg)
    have h6' := (l2.dd h6).upAt h0 l3
    have h7' := h7.upAt h0 l3
    refine sb_for1G 9 (ok3.pin m0 ha) (IT.len (it_list (ed_call ((f46 T0).mono (by decide)) hr (ad_cons (ed_var 6 rfl h6') (ad_cons (ed_var 7 rfl h7') ad_nil)) ⟨_, _, rfl, B, by omega, rfl⟩)) (List.length_map _)) sc47.nd never fun H4 l4 => ?_
    have ok4 := l4.ok.unpin
    refine ⟨fun _ => I.up a, fun j σ' H' => ∃ w5 w9 w10 w11 w12 w13 xs rs, σ' = [some (.ref pp), some (.int (n : Int)), some (.int (forms : Int)), some (.int most), some (.int steps), w5, some v6, some v7, some (.ref a), w9, w10, w11, w12, w13] ∧ Le (c.up a) (I.up a) H4 H' ∧ H' a = some (.lst xs) ∧ DDs K (c.up a).pa H' xs (rs.map rD) ∧ rs.length = j ∧ (∀ r ∈ rs, r.length = forms) ∧ ∀ k, k < j → ∀ f ∈ rs.getD k [], FormR bs ((cells bs ms).getD k []) steps f, ⟨_, _, _, _, _, _, [], [], rfl, .refl ok4, l4.ok.inv.2, .nil, rfl, fun _ z => (nomatch z), fun k z => absurd z (by omega)⟩, ?_, ?_, ?_⟩
    · rintro j σ' H' _ ⟨w5, w9, w10, w11, w12, w13, xs, rs, rfl, lJ, _⟩
      exact ⟨lJ.ex, lJ.ok⟩
    · rintro j u σ' H5 H6 hj ⟨w5, w9, w10, w11, w12, w13, xs, rs, rfl, lJ, ea, dm, hrs, hrl, hrr⟩ g du
      rw [getD_map (d := []) hj] at du
      have hcl := cat _ (getD_memL (d := []) hj)
      generalize hcc : (cells bs ms).getD j [] = cc at du hcl
      have l6 := g.le lJ.ok
      have ea6 := g.at ea
      have dm6 := l6.dds dm
      have lB := lJ.trans l6
      have h6c := lB.dd (l4.dd h6')
      refine sb_set 10 (l6.ok.pin m0 ea6) (ed_tup ad_nil) sc47.nd fun v10 H7 l7 h10 => ?_
      refine sb_for1G 11 l7.ok (it_range T0.B (ed_var 2 rfl (.int _)) (by omega)) sc47.nd never fun H8 l8 => ?_
      have l78 := l7.trans l8
      refine ⟨fun _ => (I.up a).pin a m0 (.lst xs), fun i σ' H' => ∃ w5 w10 w11 w12 w13 fs, σ' = [some (.ref pp), some (.int (n : Int)), some (.int (forms : Int)), some (.int most), some (.int steps), w5, some v6, some v7, some (.ref a), some u, some w10, w11, w12, w13] ∧ Le (c.up a) ((I.up a).pin a m0 (.lst xs)) H8 H' ∧ DD K (c.up a).pa H' w10 (rD fs) ∧ fs.length = i ∧ ∀ f ∈ fs, FormR bs cc steps f, ⟨_, v10, _, _, _, [], rfl, .refl l8.ok, l8.dd h10, rfl, fun _ z => nomatch z⟩, ?_, ?_, ?_⟩
      · rintro i σ' H' _ ⟨w5, w10, w11, w12, w13, fs, rfl, lI, _⟩
        exact ⟨lI.ex, lI.ok⟩
      · rintro i u1 σ' H9 H10 hi ⟨w5, w10, w11, w12, w13, fs, rfl, lI, d10, hfs, hff⟩ g1 du1
        have l10 := g1.le lI.ok
        have d10' := l10.dd d10
        refine sb_set 12 l10.ok ev_lnew sc47.nd fun v12 H11 l11 h12 => ?_
        obtain ⟨a2, rfl, h02, na2, ha2⟩ := h12
        have Z2 : PotX ((c.up a).up a2) (((I.up a).pin a m0 (.lst xs)).up a2) pp pg ps := (Z.up.pin npp npg).up
        have m2 : a2 ∈ ((c.up a).up a2).pa := List.mem_cons_self ..
        have du2 := ((l78.trans (lI.trans l10)).dd du).upAt h02 l11
        have h62 := ((l78.trans (lI.trans l10)).dd h6c).upAt h02 l11
        refine sb_for1G 5 ((l11.ok.up ha2 rfl).pin m2 ha2) (it_range T0.B (ed_var 1 rfl (.int _)) (by omega)) sc47.nd never fun H12 l12 => ?_
        have ok12 := l12.ok.unpin
        refine ⟨fun _ => ((I.up a).pin a m0 (.lst xs)).up a2, fun k σ' H' => ∃ w5 w13 ys gs, σ' = [some (.ref pp), some (.int (n : Int)), some (.int (forms : Int)), some (.int most), some (.int steps), w5, some v6, some v7, some (.ref a), some u, some w10, some u1, some (.ref a2), w13] ∧ Le ((c.up a).up a2) (((I.up a).pin a m0 (.lst xs)).up a2) H12 H' ∧ H' a2 = some (.lst ys) ∧ DDs K ((c.up a).up a2).pa H' ys (gs.map PyData.int) ∧ gs.length = k ∧ (∀ g ∈ gs, 0 ≤ g ∧ g < steps) ∧ ∀ t, t < k → gs.getD t 0 = 0 ∨ bs.getD t 0 ≤ cc.getD t 0, ⟨_, _, [], [], rfl, .refl ok12, l12.ok.inv.2, .nil, rfl, fun _ z => (nomatch z), fun t z => absurd z (by omega)⟩, ?_, ?_, ?_⟩
        · rintro k σ' H' _ ⟨w5, w13, ys, gs, rfl, lK, _⟩
          exact ⟨lK.ex, lK.ok⟩
        · rintro k u5 σ' H13 H14 hk ⟨w5, w13, ys, gs, rfl, lK, ea2, dm2, hgl, hg0, hgz⟩ g2 du5
          have l14 := g2.le lK.ok
          have ea2' := g2.at ea2
          refine sb_set 13 (l14.ok.pin m2 ea2') (ev_draw (n := steps) (f43 T0) hr (Z2.pin (fun z => na2 (z ▸ Z.up.mp)) (fun z => na2 (z ▸ Z.up.mg))) (ev_var 0 rfl) (ed_var 4 rfl (.int steps)) (by omega) (by omega)) sc47.nd fun v13 H15 l15 h13 => ?_
          obtain ⟨st, rfl, st0, st1⟩ := h13
          have lk := (l12.unpin.trans (lK.trans l14)).trans l15.unpin
          have du' := lk.dd du2
          have h6' := lk.dd h62
          have tk := hcl ▸ lb ▸ hk
          refine sb_appO (d := .int (if bs.getD k 0 ≤ cc.getD k 0 then st else 0)) na2 l15.ok.unpin l15.ok.inv.2 (l15.dds (l14.dds dm2)) (ev_var 12 rfl) (ev_if (k := decide (bs.getD k 0 ≤ cc.getD k 0)) (tv_ge (ed_ixT (i := k) (ed_var 9 rfl du') (ed_var 5 rfl (l15.dd du5)) (TI_ix (by omega))) (ed_ixT (i := k) (ed_var 6 rfl h6') (ed_var 5 rfl (l15.dd du5)) (TI_ix (by omega)))) (fun z => ?_) fun z => ?_) (by rw [List.length_map]; omega) fun ys' H16 l16 ea16 dm16 => ?_
          · rw [if_pos (of_decide_eq_true z)]
            exact ed_var 13 rfl (.int st)
          · rw [if_neg (of_decide_eq_false z)]
            exact ed_int
          · refine sb_nil ⟨_, _, ys', gs ++ [if bs.getD k 0 ≤ cc.getD k 0 then st else 0], rfl, lK.trans (l14.trans (l15.unpin.trans l16)), ea16, ?_, ?_, ?_, ?_⟩
            · rw [List.map_append]
              exact dm16
            · rw [List.length_append, hgl]; rfl
            · intro x hx
              rcases List.mem_append.mp hx with hx | hx
              · exact hg0 x hx
              · rw [List.mem_singleton.mp hx]
                split <;> omega
            · intro t ht
              by_cases e : t = k
              · rw [e, ← hgl, List.getD_eq_getElem?_getD, List.getElem?_append_right (Nat.le_refl _), Nat.sub_self]
                show (if bs.getD gs.length 0 ≤ cc.getD gs.length 0 then st else 0) = 0 ∨ _
                by_cases h : bs.getD gs.length 0 ≤ cc.getD gs.length 0
                · exact .inr h
                · exact .inl (if_neg h)
              · have := hgz t (by omega)
                rw [List.getD_eq_getElem?_getD, List.getElem?_append_left (by omega), ← List.getD_eq_getElem?_getD]
                exact this
        · rintro σ' H13 ⟨w5, w13, ys, gs, rfl, lK, ea2, dm2, hgl, hg0, hgz⟩
          have dg := own_dd na2 ea2 dm2
          have lD : Le (c.up a) ((I.up a).pin a m0 (.lst xs)) H10 H13 := l11.down h02 (l12.unpin.trans lK)
          refine sb_set (P := fun v H' => ∃ f, FormR bs cc steps f ∧ DD K (c.up a).pa H' v (rD (fs ++ [f]))) 10 lD.ok ((ev_catX (R := fun ds => ∃ f, FormR bs cc steps f ∧ ds = [fD f]) (ed_var 10 rfl (lD.dd d10')) ((ev_tupX (R := fun ds => ∃ f, FormR bs cc steps f ∧ ds = [fD f]) (av_imp (av_consX (R := fun d => ∃ f, FormR bs cc steps f ∧ d = fD f) ((ev_tupX (R := fun ds => ∃ x, 0 ≤ x ∧ x < steps ∧ ds = [.int x, TI gs]) (av_imp (av_consX (R := fun d => ∃ x, 0 ≤ x ∧ x < steps ∧ d = .int x) ((ev_draw (n := steps) (f43 T0) hr (Z.up.pin npp npg) (ev_var 0 rfl) (ed_var 4 rfl (.int steps)) (by omega) (by omega)).imp fun v H1 _ ⟨x, e, x0, x1⟩ => ⟨.int x, ⟨x, x0, x1, rfl⟩, by rw [e]; exact .int x⟩) (ad_cons (ed_tupleL T0.B (ed_var 12 rfl dg)) ad_nil)) fun vs H1 ⟨d, ⟨x, x0, x1, e⟩, h⟩ => ⟨_, ⟨x, x0, x1, by rw [e]; rfl⟩, h⟩) fun ds ⟨x, _, _, e⟩ => by rw [e]; show 2 ≤ 100000; decide).imp fun v H1 _ ⟨ds, ⟨x, x0, x1, e⟩, h⟩ => ⟨_, ⟨(x, gs), ⟨⟨x0, x1⟩, by show gs.length = _; rw [hgl, hcl, lb], hg0, fun k hk => hgz k (by omega)⟩, by rw [e]; rfl⟩, h⟩) ad_nil) fun vs H1 ⟨d, ⟨f, hf, e⟩, h⟩ => ⟨_, ⟨f, hf, by rw [e]⟩, h⟩) fun ds ⟨f, _, e⟩ => by rw [e]; show 1 ≤ 100000; decide)) fun ds ⟨f, _, e⟩ => by rw [e, List.length_map]; show fs.length + 1 ≤ 100000; omega).imp fun v H1 _ ⟨ds, ⟨f, hf, e⟩, h⟩ => ⟨f, hf, by rw [e] at h; unfold rD; rw [List.map_append]; exact h⟩) sc47.nd fun v10 H14 l14 h14 => ?_
          obtain ⟨f, hf, h14⟩ := h14
          refine sb_nil ⟨_, v10, _, _, _, fs ++ [f], rfl, lI.trans (l10.trans (lD.trans l14)), h14, by rw [List.length_append, hfs]; rfl, fun x hx => ?_⟩
          rcases List.mem_append.mp hx with hx | hx
          · exact hff x hx
          · rw [List.mem_singleton.mp hx]
            exact hf
      · rintro σ' H9 ⟨w5, w10, w11, w12, w13, fs, rfl, lI, d10, hfs, hff⟩
        refine sb_appO (d := rD fs) na lI.ok.unpin lI.ok.inv.2 (lI.dds (l78.dds dm6)) (ev_var 8 rfl) (ed_var 10 rfl d10) (by rw [List.length_map]; omega) fun ys H10 l10 ea10 dm10 => ?_
        refine sb_nil ⟨_, _, _, _, _, _, ys, rs ++ [fs], rfl, lJ.trans (l6.trans (l78.unpin.trans (lI.unpin.trans l10))), ea10, ?_, ?_, ?_, ?_⟩
        · rw [List.map_append]
          exact dm10
        · rw [List.length_append, hrs]; rfl
        · intro x hx
          rcases List.mem_append.mp hx with hx | hx
          · exact hrl x hx
          · rw [List.mem_singleton.mp hx]
            exact hfs
        · intro t ht f hf
          by_cases e : t = j
          · subst e
            rw [List.getD_eq_getElem?_getD, ← hrs, List.getElem?_append_right (Nat.le_refl _), Nat.sub_self] at hf
            rw [hcc]
            exact hff f hf
          · rw [List.getD_eq_getElem?_getD, List.getElem?_append_left (by omega), ← List.getD_eq_getElem?_getD] at hf
            exact hrr t (by omega) f hf
    · rintro σ' H5 ⟨w5, w9, w10, w11, w12, w13, xs, rs, rfl, lJ, ea, dm, hrs, hrl, hrr⟩
      have dr := own_dd na ea dm
      have lE : Le c I H2 H5 := l3.down h0 (l4.unpin.trans lJ)
      refine sb_ret lE.ok (ed_tup (ad_cons (ed_var 6 rfl (lE.dd (l2.dd h6))) (ad_cons (ed_var 7 rfl (lE.dd h7)) (ad_cons (ed_tupleL T0.B (ed_var 8 rfl dr)) ad_nil)))) fun v H6 l6 h => ?_
      exact q bs ms rs v H6 ⟨lb, lm, hb, hm, hrs, hrl, fun k hk => hrr k (hrs ▸ hk)⟩ (((l1.trans l2).trans lE).trans l6) h
end
end K93
set_option maxHeartbeats 4000000
/-! K93PH: the plain law of the probes. -/
namespace K93
open PySem PySem.Spec PyProof.Rows L2
/-! ### cells -/
theorem getD_snoc_lt {cc : List Int} {x : Int} {k : Nat} (h : k < cc.length) : (cc ++ [x]).getD k 0 = cc.getD k 0 := by
  rw [List.getD_eq_getElem?_getD, List.getElem?_append_left h, ← List.getD_eq_getElem?_getD]
theorem getD_snoc_eq {cc : List Int} {x : Int} : (cc ++ [x]).getD cc.length 0 = x := by
  rw [List.getD_eq_getElem?_getD, List.getElem?_append_right (Nat.le_refl _), Nat.sub_self]
  rfl
theorem cellsI_in (bs ms : List Int) : ∀ i, ∀ cc ∈ cellsI bs ms i, ∀ k, k < cc.length → 0 ≤ cc.getD k 0 ∧ cc.getD k 0 < bs.getD k 0 + ms.getD k 0
  | 0, cc, h, k, hk => by
    have : cc = [] := List.mem_singleton.mp h
    rw [this] at hk
    exact absurd hk (Nat.not_lt_zero _)
  | i + 1, cc, h, k, hk => by
    obtain ⟨c', hc, h⟩ := List.mem_flatMap.mp h
    obtain ⟨j, hj, rfl⟩ := List.mem_map.mp h
    have hj := List.mem_range.mp hj
    have hl := cellsI_at bs ms i c' hc
    rw [List.length_append] at hk
    simp only [List.length_cons, List.length_nil] at hk
    by_cases e : k < c'.length
    · rw [getD_snoc_lt e]
      exact cellsI_in bs ms i c' hc k e
    · have e : k = c'.length := by omega
      rw [e, getD_snoc_eq, hl]
      omega
theorem cells_in {bs ms cc : List Int} (h : cc ∈ cells bs ms) {k : Nat} (hk : k < cc.length) : 0 ≤ cc.getD k 0 ∧ cc.getD k 0 < bs.getD k 0 + ms.getD k 0 := cellsI_in bs ms _ cc h k hk
theorem snoc_inj {a b : List Int} {x y : Int} (h : a ++ [x] = b ++ [y]) : a = b ∧ x = y := by
  obtain ⟨h1, h2⟩ := List.append_inj' h rfl
  exact ⟨h1, List.cons.inj h2 |>.1⟩
theorem cellsI_nd (bs ms : List Int) : ∀ i, (cellsI bs ms i).Nodup
  | 0 => List.nodup_cons.mpr ⟨fun h => (nomatch h), List.nodup_nil⟩
  | i + 1 => by
    refine List.pairwise_flatMap.mpr ⟨fun cc _ => List.pairwise_map.mpr (List.nodup_range.imp fun {a b} h e => h ?_), (cellsI_nd bs ms i).imp fun {a b} h x hx y hy e => h ?_⟩
    · have := (snoc_inj e).2
      omega
    · obtain ⟨j, _, rfl⟩ := List.mem_map.mp hx
      obtain ⟨j', _, rfl⟩ := List.mem_map.mp hy
      exact (snoc_inj e).1
theorem rz_get {cc : List Int} {k : Nat} {m : Int} (h : k < cc.length) : (rz cc k m).getD k 0 = cc.getD k 0 + m := by
  unfold rz
  have hl : (cc.take k).length = k := by rw [List.length_take]; omega
  rw [List.getD_eq_getElem?_getD, List.append_assoc, List.getElem?_append_right (by omega), hl, Nat.sub_self]
  rfl
theorem rz_get_ne {cc : List Int} {k j : Nat} {m : Int} (h : k < cc.length) (e : j ≠ k) : (rz cc k m).getD j 0 = cc.getD j 0 := by
  unfold rz
  have hl : (cc.take k).length = k := by rw [List.length_take]; omega
  rw [List.getD_eq_getElem?_getD, List.append_assoc]
  by_cases h1 : j < k
  · rw [List.getElem?_append_left (by omega), List.getElem?_take_of_lt h1, ← List.getD_eq_getElem?_getD]
  · rw [List.getElem?_append_right (by omega), hl]
    obtain ⟨d, hd⟩ : ∃ d, j = k + 1 + d := ⟨j - (k + 1), by omega⟩
    subst hd
    rw [show k + 1 + d - k = d + 1 by omega]
    show (Option.getD ((cc.drop (k + 1))[d]?) 0) = _
    rw [List.getElem?_drop, ← List.getD_eq_getElem?_getD]
theorem g_notin {bs ms k : List Int} (h : k ∈ gKeys bs ms) : k ∉ cells bs ms := fun hc => by
  obtain ⟨cc, h1, j, h2, h3, rfl⟩ := gKeys_mem h
  have := cells_in hc (k := j) (by rw [rz_len h2]; exact h2)
  rw [rz_get h2] at this
  omega
/-! ### the probes' dict -/
theorem foldP_new : ∀ (l m : List (List Int × PyData)), (l.map (·.1)).Nodup → (∀ k ∈ l.map (·.1), k ∉ m.map (·.1)) → foldP m l = m ++ l
  | [], m, _, _ => (List.append_nil m).symm
  | q :: l, m, h, g => by
    have h := List.nodup_cons.mp h
    show foldP (ptA m q.1 q.2) l = _
    rw [ptA_new (g _ (List.mem_cons_self ..)), foldP_new l _ h.2 fun k hk hm => ?_, List.append_assoc]
    · rfl
    · rw [List.map_append] at hm
      rcases List.mem_append.mp hm with hm | hm
      · exact g k (List.mem_cons_of_mem _ hk) hm
      · have e : k = q.1 := List.mem_singleton.mp hm
        exact h.1 (show q.1 ∈ l.map (·.1) by rw [← e]; exact hk)
theorem foldP_app : ∀ (l A m : List (List Int × PyData)), (∀ k ∈ l.map (·.1), k ∉ A.map (·.1)) → foldP (A ++ m) l = A ++ foldP m l
  | [], A, m, _ => rfl
  | q :: l, A, m, g => by
    show foldP (ptA (A ++ m) q.1 q.2) l = A ++ foldP (ptA m q.1 q.2) l
    have e : ptA (A ++ m) q.1 q.2 = A ++ ptA m q.1 q.2 := by
      have nA := g q.1 (List.mem_cons_self ..)
      by_cases hm : q.1 ∈ m.map (·.1)
      · have e1 : ptA m q.1 q.2 = m.map fun p => if p.1 = q.1 then (p.1, q.2) else p := by
          unfold ptA
          rw [any_dec, decide_eq_true hm]
          rfl
        have e2 : ptA (A ++ m) q.1 q.2 = (A ++ m).map fun p => if p.1 = q.1 then (p.1, q.2) else p := by
          unfold ptA
          rw [any_dec, decide_eq_true (by rw [List.map_append]; exact List.mem_append_right _ hm)]
          rfl
        rw [e1, e2, List.map_append]
        congr 1
        have : ∀ p ∈ A, (if p.1 = q.1 then (p.1, q.2) else p) = p := fun p hp => if_neg fun z => nA (by rw [← z]; exact List.mem_map.mpr ⟨p, hp, rfl⟩)
        exact (List.map_congr_left this).trans (List.map_id' A)
      · rw [ptA_new hm, ptA_new (by rw [List.map_append]; exact fun z => (List.mem_append.mp z).elim nA hm), List.append_assoc]
    rw [e]
    exact foldP_app l A _ fun k hk => g k (List.mem_cons_of_mem _ hk)
theorem prM_eq (bs ms : List Int) : prM bs ms = (cells bs ms).map (fun cc => (cc, PyData.none)) ++ gM bs ms := by
  have nd : (cells bs ms).Nodup := cellsI_nd bs ms _
  have ke : ((cells bs ms).map fun cc => (cc, PyData.none)).map (·.1) = cells bs ms := by
    rw [List.map_map]
    exact List.map_id' _
  unfold prM gM rcMap
  rw [foldP_new _ [] (by rw [ke]; exact nd) (fun k _ z => nomatch z), List.nil_append]
  conv => lhs; rw [← List.append_nil ((cells bs ms).map fun cc => (cc, PyData.none))]
  refine foldP_app _ _ _ fun k hk => ?_
  rw [ke]
  obtain ⟨p, hp, rfl⟩ := List.mem_map.mp hk
  obtain ⟨cc, h1, j, h2, h3, rfl⟩ := prS_mem hp
  exact g_notin (gKeys_of h1 h2 h3)
theorem prM_keys (bs ms : List Int) : (prM bs ms).map (·.1) = cells bs ms ++ gKeys bs ms := by
  rw [prM_eq, List.map_append, List.map_map]
  congr 1
  exact List.map_id' _
theorem prM_srt (bs ms : List Int) : srt ((prM bs ms).map (·.1)) = probeL bs ms := by rw [prM_keys]; rfl
theorem prM_cell {bs ms k : List Int} (h : k ∈ cells bs ms) : lkA (prM bs ms) k = some .none := by
  have e : foldP [] ((cells bs ms).map fun cc => (cc, PyData.none)) = (cells bs ms).map fun cc => (cc, PyData.none) := by
    rw [foldP_new _ [] _ fun k _ z => nomatch z]
    · rfl
    · rw [List.map_map]
      exact (List.map_id' _).symm ▸ cellsI_nd bs ms _
  rw [prM_eq, lkA_append, ← e, foldP_lk (fun _ => .none) k _ [] (fun _ z => nomatch z), if_pos (.inl h)]
  rfl
theorem prM_g {bs ms k : List Int} (h : k ∈ gKeys bs ms) : lkA (prM bs ms) k = some (TI (ancO bs ms k)) := by
  rw [prM_eq, lkA_append]
  have : lkA ((cells bs ms).map fun cc => (cc, PyData.none)) k = none := by
    refine Option.not_isSome_iff_eq_none.mp ?_
    rw [lkA_isSome, List.map_map]
    exact fun z => g_notin h (by have := of_decide_eq_true z; rwa [show (cells bs ms).map ((fun p : List Int × PyData => p.1) ∘ fun cc => (cc, PyData.none)) = cells bs ms from List.map_id' _] at this)
  rw [this, (anc_of h).2]
  rfl
/-! ### sorted -/
theorem leI_iff {p q : List Int} : leI p q = true ↔ p ≤ q := decide_eq_true_iff
theorem leI_trans (a b c : List Int) (h : leI a b = true) (g : leI b c = true) : leI a c = true := leI_iff.mpr (List.le_trans (leI_iff.mp h) (leI_iff.mp g))
theorem leI_total (a b : List Int) : (leI a b || leI b a) = true := by
  rcases List.le_total a b with h | h
  · rw [leI_iff.mpr h]; rfl
  · rw [leI_iff.mpr h, Bool.or_true]
theorem srt_filter (C G : List (List Int)) (h : ∀ k ∈ G, k ∉ C) : (srt (C ++ G)).filter (fun k => decide (k ∈ G)) = srt G := by
  refine List.Perm.eq_of_pairwise (le := fun a b => leI a b = true) (fun a b _ _ h1 h2 => List.le_antisymm (leI_iff.mp h1) (leI_iff.mp h2)) ?_ (List.pairwise_mergeSort leI_trans leI_total G) ?_
  · exact (List.pairwise_mergeSort leI_trans leI_total (C ++ G)).sublist List.filter_sublist
  · refine ((List.mergeSort_perm (C ++ G) leI).filter _).trans ?_
    rw [List.filter_append, List.filter_eq_nil_iff.mpr fun k hk z => h k (of_decide_eq_true z) hk, List.nil_append, List.filter_eq_self.mpr fun k hk => decide_eq_true hk]
    exact (List.mergeSort_perm G leI).symm
theorem fall_eq (bs ms : List Int) (q : List Int → Bool) : (probeL bs ms).find? (fun k => decide (k ∈ gKeys bs ms) && q k) = (srt (gKeys bs ms)).find? q := by
  rw [← srt_filter (cells bs ms) (gKeys bs ms) fun k hk => g_notin hk, List.find?_filter]
  unfold probeL
  congr 1
  funext k
  rw [Bool.decide_and, Bool.decide_eq_true, Bool.decide_eq_true]
end K93
set_option maxHeartbeats 4000000
/-! K93DU: what is due of learned. -/
namespace K93
open PySem PySem.Spec PyProof.Rows L2
def notN : PyData → Bool
  | .none => false
  | _ => true
theorem DD.notN {K : PySem.W.Frag} {pa : List Addr} {H : Hp} {v : V} {d : PyData} (h : DD K pa H v d) : (!decide (v = .non)) = K93.notN d := by
  cases h <;> rfl
/-- the told, as they stand -/
structure TK (K : PySem.W.Frag) (c : Kx) (a : Addr) (kvs : List (List Int × V)) (L : List (List Int)) (tl : List Int → List Int) (H : Hp) : Prop where
  na : a ∉ c.pa
  at_ : H a = some (.dT (enT kvs))
  get : ∀ k ∈ L, ∃ u, lkA kvs k = some u ∧ DD K c.pa H u (TI (tl k))
section
variable {X : Cx} {c : Kx} {I J L' : Ix c.pa} {σ : St} {H H' : Hp} {e o i j : Expr} {p1 p2 pos : Pos} {a : Addr} {kvs : List (List Int × V)} {L : List (List Int)} {tl : List Int → List Int} {k : List Int} {n : Nat} {K : PySem.W.Frag}
theorem TK.mono (t : TK K c a kvs L tl H) (l : Le c I H H') : TK K c a kvs L tl H' := ⟨t.na, l.at t.at_ (fun _ z => nomatch z) t.na, fun k hk => (t.get k hk).imp fun u h => ⟨h.1, l.dd h.2⟩⟩
theorem TK.up {b : Addr} (t : TK K c a kvs L tl H) (h0 : H b = none) (l : Le c I H H') : TK K (c.up b) a kvs L tl H' := ⟨fun z => (List.mem_cons.mp z).elim (ne_of_none t.at_ h0) t.na, l.at t.at_ (fun _ z => nomatch z) t.na, fun k hk => (t.get k hk).imp fun u h => ⟨h.1, h.2.upAt h0 l⟩⟩
theorem ed_tk (hu : X.A.units + 1 < cLine) (t : TK X.K c a kvs L tl H) (ho : EV X c I I o σ H fun v _ => v = .ref a) (hi : ED X c I I i σ H (TI k)) (hk : k ∈ L) (hj : ED X c I I j σ H (.int (n : Int))) (hn : n < (tl k).length)
    (hs : NoSl i := by first | rfl | exact fun _ _ => rfl | exact fun _ _ _ _ => nofun | decide) (hs2 : PlainIx j := by exact fun _ _ => rfl) : ED X c I I (.Subscript (.Subscript o i p1) j p2) σ H (.int ((tl k).getD n 0)) := by
  obtain ⟨u, h1, h2⟩ := t.get k hk
  exact ed_ixT (i := n) (ed_dget hu ho hi (fun H1 l => l.at t.at_ (fun _ z => nomatch z) t.na) h1 (fun H1 l => l.dd h2) hs) hj (TI_ix hn) hs2
theorem tv_notN {d : PyData} {m : Nat} (h : ED X c I J e σ H d) (hm : behindInMarks .IsNot (.Constant .none m p1) = false := by rfl) : TV X c I J (.Compare e [.IsNot] [.Constant .none m p1] pos) σ H (notN d) :=
  TV.of (pt_cmp (pc_notN peS) hm) fun H1 l Q q => h H1 l _ fun v H2 l2 w => by
    refine ⟨_, rfl, ?_⟩
    rw [w.notN]
    exact q H2 l2
theorem trn_any (n : Nat) (b : Nat → Bool) (ef : Nat → PyData) : decide ((0 : Int) < (((trn n b).map ef).length : Int)) = (List.range n).any b := by
  rw [List.length_map]
  unfold trn
  cases h : (List.range n).any b with
  | true =>
    obtain ⟨x, hx, hb⟩ := List.any_eq_true.mp h
    have := List.length_pos_of_mem (List.mem_filter.mpr ⟨hx, hb⟩)
    exact decide_eq_true (by omega)
  | false =>
    have : (List.range n).filter b = [] := List.filter_eq_nil_iff.mpr fun x hx hb => by
      have := List.any_eq_false.mp h x hx
      exact this hb
    rw [this]
    rfl
end
def spDue (K : PySem.W.Frag) : Sp := fun vs H Q _ => ∃ (c : Kx) (I : Ix c.pa) (tv : V) (od : Addr) (kvs : List (List Int × V)) (m : List (List Int × PyData)) (bs ms : List Int) (rs : List (List (Int × List Int))) (n : Nat),
  vs = [tv, .ref od, .int (n : Int)] ∧ Ok c I H ∧ DD K c.pa H tv (tbD bs ms rs) ∧ od ∉ c.pa ∧ H od = some (.dT (enT kvs)) ∧ DM K c.pa H kvs m ∧ BM bs ms ∧ mc bs ms ≤ 1000 ∧ n ≤ 1000 ∧ (∀ k ∈ probeL bs ms, okI (ansG m bs ms rs k)) ∧ (∀ k ∈ probeL bs ms, lkA m k = none → ∃ r, RvOk bs ms rs k r) ∧
  ∀ v H1, Le c I H H1 → DD K c.pa H1 v (outD bs ms (ansG m bs ms rs) (lrnOut bs ms (n : Int) (ansG m bs ms rs))) → Q v H1
abbrev N54 : List Str := ["_law_made", "_law_odd", "_law_many", "_law_bounds", "_law_measures", "_law_probes_here", "_law_told", "_law_place", "_law_first", "_law_at", "_law_rows", "_law_cell", "_law_row", "_law_steps", "_law_k", "_law_raised"]
theorem sc54 : FnScope N54 ["_law_made", "_law_odd", "_law_many"] (defScope (topS 54)) := ⟨rfl, rfl, rfl, by decide +kernel, rfl, by decide +kernel, by decide +kernel⟩
section
variable {P : Program} {w : World} {K : PySem.W.Frag} {mg : Str → Option Value} {base : Heap}
theorem f54 (T0 : Tx K mg) : FnD P w K mg base CX0 3 "_law_due" (spDue K) :=
  any_fn T0.d54 sc54 (fun vs H Q E ⟨_, _, _, _, _, _, _, _, _, _, h, _⟩ => by rw [h]; rfl) fun f cdv A outer s H E vs Q hr h => by
    obtain ⟨c, I, tv, od, okv, m, bs, ms, rs, n, rfl, ok, ht, nO, hO, dmO, B, most, hn, hok, hR, q⟩ := h
    have two := B.two
    have lcl : ((cells bs ms).length : Int) = mc bs ms := cellsI_len B bs.length (Nat.le_refl _)
    have hu64 : (bX P w K mg base N54 "_law_due" (defScope (topS 54)) f cdv A outer s H E).A.units + 64 < cLine := by have := hr.un; show (A.deeper _).units + 64 < cLine; omega
    have hu : (bX P w K mg base N54 "_law_due" (defScope (topS 54)) f cdv A outer s H E).A.units + 1 < cLine := by omega
    generalize hans : ansG m bs ms rs = ans at hok q
    refine sb_set2 3 4 (d := TI bs) (d' := TI ms) ok (ED.is (ed_slTo (k := 2) (ed_var 0 rfl ht) ed_int) rfl) sc54.nd fun v3 v4 H1 l1 h3 h4 => ?_
    refine sb_set (J := I) (P := fun v H' => ∃ p kvs, v = .ref p ∧ p ∉ c.pa ∧ H' p = some (.dT (enT kvs)) ∧ DM K c.pa H' kvs (prM bs ms)) 5 l1.ok (ev_call ((f50 T0).mono (by decide)) hr (ad_cons (ed_var 3 rfl h3) (ad_cons (ed_var 4 rfl h4) ad_nil)) fun vs H2 l2 w Q' q' => ?_) sc54.nd fun v5 H2 l2 hv => ?_
    · obtain ⟨x, y, rfl, w1, w2⟩ := dds2 w
      exact ⟨c, I, x, y, bs, ms, rfl, l2.ok, w1, w2, B, most, fun a kvs H3 l3 h0 ea dm => q' _ H3 l3 ⟨a, kvs, rfl, l2.ok.npa h0, ea, dm⟩⟩
    obtain ⟨pd, pkv, rfl, np, ep, dp⟩ := hv
    have pk : srt (pkv.map (·.1)) = probeL bs ms := by rw [dp.keys]; exact prM_srt bs ms
    have pkl : pkv.map (·.1) = cells bs ms ++ gKeys bs ms := by rw [dp.keys]; exact prM_keys bs ms
    have l12 := l1.trans l2
    refine sb_set 6 l2.ok ev_dnew sc54.nd fun v6 H3 l3 hv => ?_
    obtain ⟨a, rfl, h0, na, ha⟩ := hv
    have m0 : a ∈ (c.up a).pa := List.mem_cons_self ..
    have l13 := l12.trans l3
    have nOa : od ≠ a := ne_of_none (l12.at hO (fun _ z => nomatch z) nO) h0
    have nO1 : od ∉ (c.up a).pa := fun z => (List.mem_cons.mp z).elim nOa nO
    have nPa : pd ≠ a := ne_of_none ep h0
    have np1 : pd ∉ (c.up a).pa := fun z => (List.mem_cons.mp z).elim nPa np
    have ep3 := l3.at ep (fun _ z => nomatch z) np
    have hO3 := l13.at hO (fun _ z => nomatch z) nO
    have dmO2 := dmO.mono l12.ex
    have ht3 := (l12.dd ht).upAt h0 l3
    have pl := probe_len (bs := bs) (ms := ms) two
    have srtL : ∀ {c' : Kx} {I' : Ix c'.pa} {H' : Hp} {σ' : St} {x1 x2 x3 : Pos} {y1 y2 : Pos}, pd ∉ c'.pa → H' pd = some (.dT (enT pkv)) → σ'[5]? = some (some (.ref pd)) → ED (bX P w K mg base N54 "_law_due" (defScope (topS 54)) f cdv A outer s H E) c' I' I' (.Call (.Name "sorted" x1) [.Call (.Name "list" x2) [.Name "_law_probes_here" x3] [] y1] [] y2) σ' H' (.list ((probeL bs ms).map TI)) := fun np1 e hs => by
      refine ED.is (ed_sortL (ks := cells bs ms ++ gKeys bs ms) (n := bs.length) T0.B hu64 (ED.is (ed_listD T0.B (ev_var 5 hs) fun H1 l => l.at e (fun _ z => nomatch z) np1) (by rw [pkl])) keys_len keys_one) rfl
    refine sb_for1G 7 ((l3.ok.up ha rfl).pin m0 ha) (IT.len (it_list (srtL np1 ep3 rfl)) (List.length_map _)) sc54.nd never fun H4 l4 => ?_
    refine ⟨fun _ => I.up a, fun i σ' H' => ∃ w7 kvs, σ' = [some tv, some (.ref od), some (.int (n : Int)), some v3, some v4, some (.ref pd), some (.ref a), w7, none, none, none, none, none, none, none, none] ∧ Le (c.up a) (I.up a) H4 H' ∧ H' a = some (.dT (enT kvs)) ∧ DM K (c.up a).pa H' kvs (foldP [] (((probeL bs ms).take i).map fun k => (k, ans k))) ∧ ∀ k ∈ (probeL bs ms).take i, areNums (ans k) (n : Int) = true,
      ⟨none, [], rfl, .refl l4.ok.unpin, l4.ok.inv.2, .nil, fun k z => nomatch z⟩, ?_, ?_, ?_⟩
    · rintro i σ' H' _ ⟨w7, kvs, rfl, lH, _⟩
      exact ⟨lH.ex, lH.ok⟩
    · rintro i u σ' H5 H6 hi ⟨w7, kvs, rfl, lH, ea, dm, hg⟩ g d7
      rw [getD_map (d := []) hi] at d7
      have l6 := g.le lH.ok
      have ea6 := g.at ea
      have dm6 := dm.mono l6.ex
      have hpr : (probeL bs ms).getD i [] ∈ probeL bs ms := getD_memL hi
      generalize hkk : (probeL bs ms).getD i [] = kk at d7 hpr
      have l36 : Le (c.up a) (I.up a) H3 H6 := l4.unpin.trans (lH.trans l6)
      have ht6 := l36.dd ht3
      have hO6 := l36.at hO3 (fun _ z => nomatch z) nO1
      have fl := foldP_len (((probeL bs ms).take i).map fun k => (k, ans k)) []
      rw [List.length_map, List.length_take] at fl
      simp only [List.length_nil] at fl
      have dml := dm.len
      refine sb_dput (I := (I.up a).pin a m0 (.dT (enT kvs))) (J := (I.up a).pin a m0 (.dT (enT kvs))) (L := (I.up a).pin a m0 (.dT (enT kvs))) (kvs := kvs) (k := kk) (P := fun v H' => DD K (c.up a).pa H' v (ans kk)) hu (l6.ok.pin m0 ea6) (ev_if (tv_din hu (ed_var 7 rfl d7) (ev_var 1 rfl) fun H7 l7 => l7.at hO6 (fun _ z => nomatch z) nO1) (fun z => ?_) fun z => ?_) (ev_var 6 rfl) (ed_var 7 rfl d7) (fun H8 l8 => l8.ok.inv.2) (by omega) mdd fun w8 H8 l8 d8 => ?_
      · rw [dmO.isSome] at z
        obtain ⟨d', hd'⟩ := Option.isSome_iff_exists.mp z
        obtain ⟨v', hv', dv'⟩ := dmO2.get hd'
        have dv6 := l36.dd (dv'.upAt h0 l3)
        refine ED.is (ed_dget hu (ev_var 1 rfl) (ed_var 7 rfl d7) (fun H3 l3 => l3.at hO6 (fun _ z => nomatch z) nO1) hv' fun H3 l3 => l3.dd dv6) ?_
        rw [← hans]
        unfold ansG
        rw [hd']
        rfl
      · rw [dmO.isSome] at z
        have hn : lkA m kk = none := by
          cases e : lkA m kk with
          | none => rfl
          | some _ => rw [e] at z; cases z
        obtain ⟨r, R⟩ := hR kk hpr hn
        refine ED.is (ed_call ((f48 T0).mono (by decide)) hr (ad_cons (ed_var 0 rfl ht6) (ad_cons (ed_var 7 rfl d7) ad_nil)) ⟨_, _, _, _, r, rfl, R, rfl⟩) ?_
        rw [← hans]
        unfold ansG
        rw [hn, rvR_I R]
        rfl
      have lC := l6.trans l8.unpin
      have lD := Le.put (o' := .dT (enT (ptA kvs kk w8))) na l8.unpin l8.ok.inv.2 rfl rfl
      have dm9 : DM K (c.up a).pa (upd H8 a (.dT (enT (ptA kvs kk w8)))) (ptA kvs kk w8) (foldP [] (((probeL bs ms).take (i + 1)).map fun k => (k, ans k))) := by
        rw [take_snoc (d := []) hi, hkk, List.map_append]
        show DM _ _ _ _ (foldP [] (_ ++ [(kk, ans kk)]))
        rw [foldP_snoc]
        exact ((dm.mono lC.ex).put d8).mono (Ex.chg m0)
      have ea9 : upd H8 a (.dT (enT (ptA kvs kk w8))) a = some (.dT (enT (ptA kvs kk w8))) := upd_same
      generalize upd H8 a (.dT (enT (ptA kvs kk w8))) = H9 at lD dm9 ea9
      generalize ptA kvs kk w8 = kvs9 at dm9 ea9
      have d79 := lD.dd d7
      have lE : Le (c.up a) (I.up a) H4 H9 := lH.trans (l6.trans lD)
      have hl : lkA (foldP [] (((probeL bs ms).take (i + 1)).map fun k => (k, ans k))) kk = some (ans kk) := by
        rw [foldP_lk ans _ _ [] (fun p hp => nomatch hp), if_pos]
        rw [take_snoc (d := []) hi, hkk]
        exact .inl (List.mem_append_right _ (List.mem_singleton.mpr rfl))
      obtain ⟨vv, hvv, dvv⟩ := dm9.get hl
      refine sb_when (q := !areNums (ans kk) (n : Int)) (lD.ok.pin m0 ea9) (tv_not (tv_val (ed_call ((f53 T0).mono (by decide)) hr (ad_cons (ed_dget (kvs := kvs9) hu (ev_var 6 rfl) (ed_var 7 rfl d79) (fun H11 l11 => l11.ok.inv.2) hvv fun H11 l11 => l11.dd dvv) (ad_cons (ed_var 2 rfl (.int (n : Int))) ad_nil)) ⟨_, _, rfl, hok _ hpr, rfl⟩))) (fun z H10 l10 => ?_) fun z H10 l10 => ?_
      · refine sb_ret l10.ok (ed_tup (ad_cons ed_str (ad_cons (ed_var 7 rfl (l10.dd d79)) ad_nil))) fun v H11 l11 dv => ?_
        refine q v H11 (l12.trans (l3.down h0 (l4.unpin.trans (lE.trans (l10.trans l11).unpin)))) ?_
        have e : lrnOut bs ms (n : Int) ans = .bad kk := by
          unfold lrnOut
          rw [find_at (d := []) hi (fun k hk => by rw [hg k hk]; rfl) (by rw [hkk]; exact z), hkk]
        rw [e]
        exact DD.less (fun b hb => List.mem_cons_of_mem a hb) _ _ dv
      · refine sb_nil ⟨_, kvs9, rfl, lE.trans l10.unpin, l10.ok.inv.2, dm9.mono l10.ex, fun k hk => ?_⟩
        rw [take_snoc (d := []) hi, hkk] at hk
        rcases List.mem_append.mp hk with hk | hk
        · exact hg k hk
        · rw [List.mem_singleton.mp hk]
          simpa using z
    · rintro σ' H5 ⟨w7, kvs, rfl, lH, ea, dm, hg⟩
      rw [List.take_length] at dm hg
      have lE : Le c I H2 H5 := l3.down h0 (l4.unpin.trans lH)
      have dmc := dm.less (pb := c.pa) fun b hb => List.mem_cons_of_mem a hb
      have find0 : (probeL bs ms).find? (fun k => !areNums (ans k) (n : Int)) = none := List.find?_eq_none.mpr fun k hk => by rw [hg k hk]; decide
      have tlen : ∀ k ∈ probeL bs ms, (tlOf (ans k)).length = n := fun k hk => by
        have := (areNums_tl (hg k hk)).2
        omega
      have tk : TK K c a kvs (probeL bs ms) (fun k => tlOf (ans k)) H5 := ⟨na, ea, fun k hk => by
        have e : lkA (foldP [] ((probeL bs ms).map fun k => (k, ans k))) k = some (TI (tlOf (ans k))) := by
          rw [foldP_lk ans _ _ [] (fun p hp => nomatch hp), if_pos (.inl hk), ← (areNums_tl (hg k hk)).1]
        exact dmc.get e⟩
      have ep5 := lE.at ep (fun _ z => nomatch z) np
      have dp5 := dp.mono lE.ex
      refine sb_for1G 7 lE.ok (IT.len (it_list (srtL np ep5 rfl)) (List.length_map _)) sc54.nd never fun H6 l6 => ?_
      refine ⟨fun _ => I, fun i σ' H' => ∃ w7 w8 w9, σ' = [some tv, some (.ref od), some (.int (n : Int)), some v3, some v4, some (.ref pd), some (.ref a), w7, w8, w9, none, none, none, none, none, none] ∧ Le c I H6 H' ∧ ∀ k ∈ (probeL bs ms).take i, (decide (k ∈ gKeys bs ms) && lessAny (tlOf (ans (ancO bs ms k))) (tlOf (ans k))) = false,
        ⟨_, none, none, rfl, .refl l6.ok, fun k z => nomatch z⟩, ?_, ?_, ?_⟩
      · rintro i σ' H' _ ⟨w7, w8, w9, rfl, lI, _⟩
        exact ⟨lI.ex, lI.ok⟩
      · rintro i u σ' H7 H8 hi ⟨w7, w8, w9, rfl, lI, hg2⟩ g d7
        rw [getD_map (d := []) hi] at d7
        have l8 := g.le lI.ok
        have l58 := l6.trans (lI.trans l8)
        have hpr : (probeL bs ms).getD i [] ∈ probeL bs ms := getD_memL hi
        generalize hkk : (probeL bs ms).getD i [] = kk at d7 hpr
        have tk8 := tk.mono l58
        have ep8 := l58.at ep5 (fun _ z => nomatch z) np
        have dp8 := dp5.mono l58.ex
        obtain ⟨fd, hfd, ffd, fan⟩ : ∃ fd, lkA (prM bs ms) kk = some fd ∧ notN fd = decide (kk ∈ gKeys bs ms) ∧ (kk ∈ gKeys bs ms → fd = TI (ancO bs ms kk)) := by
          rcases probe_mem.mp hpr with hc | hc
          · refine ⟨_, prM_cell hc, ?_, fun z => absurd hc (g_notin z)⟩
            rw [decide_eq_false fun z => g_notin z hc]
            rfl
          · refine ⟨_, prM_g hc, ?_, fun _ => rfl⟩
            rw [decide_eq_true hc]
            rfl
        obtain ⟨fv, hfv, dfv⟩ := dp8.get hfd
        refine sb_set (P := fun v H' => DD K c.pa H' v fd) 8 l8.ok (ed_dget (kvs := pkv) hu (ev_var 5 rfl) (ed_var 7 rfl d7) (fun H11 l11 => l11.at ep8 (fun _ z => nomatch z) np) hfv fun H11 l11 => l11.dd dfv) sc54.nd fun v8 H9 l9 h8 => ?_
        have tk9 := tk8.mono l9
        have d79 := l9.dd d7
        refine sb_when (q := decide (kk ∈ gKeys bs ms) && lessAny (tlOf (ans (ancO bs ms kk))) (tlOf (ans kk))) l9.ok (tv_and (j := decide (kk ∈ gKeys bs ms)) (TV.is (tv_notN (ed_var 8 rfl h8)) ffd) fun z => ?_) (fun z H10 l10 => ?_) fun z H10 l10 => ?_
        · have hkg := of_decide_eq_true z
          obtain ⟨an1, an2⟩ := anc_of hkg
          rw [fan hkg] at h8
          have hpa := probe_mem.mpr (.inl an1)
          refine TV.is (tv_gt (ed_lenL T0.B (ed_lcx [("_law_at", 9)] (lc_If (J := I) 9 [("_law_at", 9)] (n := n) (b := fun i => decide ((tlOf (ans kk)).getD i 0 < (tlOf (ans (ancO bs ms kk))).getD i 0)) (ef := fun i => .int (i : Int)) (it_range T0.B (ed_var 2 rfl (.int (n : Int))) (by omega)) (by omega) (fun i hi => fl_int _) sc54.nd (fun X' bl i v Hb hi l dv => ?_) fun X' bl i v Hb hi l dv _ => ?_) sc54.nd (ok := blkOk_by (N := N54) (sc := defScope (topS 54)) (by decide +kernel)))) ed_int) ?_
          · obtain ⟨s', Hx, C, cl, fp, rfl⟩ := bl
            exact tv_lt (ed_tk (tl := fun k => tlOf (ans k)) (by exact hu) (by exact tk9.mono l) (ev_var 6 rfl) (ed_var 7 rfl (l.dd d79)) hpr (ed_var 9 rfl dv) (by rw [tlen kk hpr]; exact hi)) (ed_tk (tl := fun k => tlOf (ans k)) (by exact hu) (by exact tk9.mono l) (ev_var 6 rfl) (ed_var 8 rfl (l.dd h8)) hpa (ed_var 9 rfl dv) (by rw [tlen _ hpa]; exact hi))
          · obtain ⟨s', Hx, C, cl, fp, rfl⟩ := bl
            exact ed_var 9 rfl dv
          · rw [trn_any]
            unfold lessAny
            rw [tlen _ hpa]
        · refine sb_ret l10.ok (ed_tup (ad_cons ed_str (ad_cons (ed_var 7 rfl (l10.dd d79)) ad_nil))) fun v H11 l11 dv => ?_
          refine q v H11 (l12.trans (lE.trans (l58.trans (l9.trans (l10.trans l11))))) ?_
          have e : lrnOut bs ms (n : Int) ans = .fall kk := by
            unfold lrnOut
            rw [find0]
            show (match (srt (gKeys bs ms)).find? (fun k => lessAny (tlOf (ans (ancO bs ms k))) (tlOf (ans k))) with | some k => Out.fall k | none => Out.tab) = _
            rw [← fall_eq, find_at (d := []) hi hg2 (by rw [hkk]; exact z), hkk]
          rw [e]
          exact dv
        · refine sb_nil ⟨_, _, _, rfl, lI.trans (l8.trans (l9.trans l10)), fun k hk => ?_⟩
          rw [take_snoc (d := []) hi, hkk] at hk
          rcases List.mem_append.mp hk with hk | hk
          · exact hg2 k hk
          · rw [List.mem_singleton.mp hk]
            exact z
      · rintro σ' H7 ⟨w7, w8, w9, rfl, lI, hg2⟩
        rw [List.take_length] at hg2
        have out : lrnOut bs ms (n : Int) ans = .tab := by
          unfold lrnOut
          rw [find0]
          show (match (srt (gKeys bs ms)).find? (fun k => lessAny (tlOf (ans (ancO bs ms k))) (tlOf (ans k))) with | some k => Out.fall k | none => Out.tab) = _
          rw [← fall_eq, List.find?_eq_none.mpr fun k hk => by rw [hg2 k hk]; decide]
        rw [out] at q
        have l27 := lE.trans (l6.trans lI)
        have tk7 := tk.mono (l6.trans lI)
        have h37 := l27.dd (l2.dd h3)
        have h47 := l27.dd (l2.dd h4)
        refine sb_set 10 lI.ok ev_lnew sc54.nd fun v10 H8 l8 h10 => ?_
        obtain ⟨a1, rfl, h01, na1, ha1⟩ := h10
        have m1 : a1 ∈ (c.up a1).pa := List.mem_cons_self ..
        have tk8 := tk7.up h01 l8
        have h38 := h37.upAt h01 l8
        have h48 := h47.upAt h01 l8
        refine sb_for1G 11 ((l8.ok.up ha1 rfl).pin m1 ha1) (IT.len (it_list (ed_call ((f46 T0).mono (by decide)) hr (ad_cons (ed_var 3 rfl h38) (ad_cons (ed_var 4 rfl h48) ad_nil)) ⟨_, _, rfl, B, by omega, rfl⟩)) (List.length_map _)) sc54.nd never fun H9 l9 => ?_
        refine ⟨fun _ => I.up a1, fun j σ' H' => ∃ w7 w8 w9 w11 w12 w13 w14 w15 xs, σ' = [some tv, some (.ref od), some (.int (n : Int)), some v3, some v4, some (.ref pd), some (.ref a), w7, w8, w9, some (.ref a1), w11, w12, w13, w14, w15] ∧ Le (c.up a1) (I.up a1) H9 H' ∧ H' a1 = some (.lst xs) ∧ DDs K (c.up a1).pa H' xs ((((cells bs ms).take j).map fun cc => rowB bs ms (fun k => tlOf (ans k)) cc).map rD),
          ⟨_, _, _, _, _, _, _, _, [], rfl, .refl l9.ok.unpin, l9.ok.inv.2, .nil⟩, ?_, ?_, ?_⟩
        · rintro j σ' H' _ ⟨w7, w8, w9, w11, w12, w13, w14, w15, xs, rfl, lJ, _⟩
          exact ⟨lJ.ex, lJ.ok⟩
        · rintro j u σ' H10 H11 hj ⟨w7, w8, w9, w11, w12, w13, w14, w15, xs, rfl, lJ, ea1, dm1⟩ g d11
          rw [getD_map (d := []) hj] at d11
          have hcc := getD_memL (d := []) hj
          have hcl := cells_at _ hcc
          have hlm := B.len
          generalize hce : (cells bs ms).getD j [] = cc at d11 hcc hcl
          have l11 := g.le lJ.ok
          have l81 : Le (c.up a1) (I.up a1) H8 H11 := l9.unpin.trans (lJ.trans l11)
          have ea11 := g.at ea1
          have pcc : cc ∈ probeL bs ms := probe_mem.mpr (.inl hcc)
          have tcc := tlen cc pcc
          have tk11 := tk8.mono l81
          refine sb_set 12 (l11.ok.pin m1 ea11) ev_lnew sc54.nd fun v12 H12 l12' h12 => ?_
          obtain ⟨a2, rfl, h02, na2, ha2⟩ := h12
          have m2 : a2 ∈ ((c.up a1).up a2).pa := List.mem_cons_self ..
          have tk12 := tk11.up h02 l12'
          have d12 := d11.upAt h02 l12'
          have h312 := (l81.dd h38).upAt h02 l12'
          have h412 := (l81.dd h48).upAt h02 l12'
          refine sb_for1G 9 ((l12'.ok.up ha2 rfl).pin m2 ha2) (it_range T0.B (ed_var 2 rfl (.int (n : Int))) (by omega)) sc54.nd never fun H13 l13' => ?_
          refine ⟨fun _ => ((I.up a1).pin a1 m1 (.lst xs)).up a2, fun i σ' H' => ∃ w7 w8 w9 w13 w14 w15 ys, σ' = [some tv, some (.ref od), some (.int (n : Int)), some v3, some v4, some (.ref pd), some (.ref a), w7, w8, w9, some (.ref a1), some u, some (.ref a2), w13, w14, w15] ∧ Le ((c.up a1).up a2) (((I.up a1).pin a1 m1 (.lst xs)).up a2) H13 H' ∧ H' a2 = some (.lst ys) ∧ DDs K ((c.up a1).up a2).pa H' ys (((List.range i).map fun i => ((tlOf (ans cc)).getD i 0, (List.range cc.length).map fun k => (endB bs ms (fun k => tlOf (ans k)) cc k).getD i 0 - (tlOf (ans cc)).getD i 0)).map fD),
            ⟨_, _, _, _, _, _, [], rfl, .refl l13'.ok.unpin, l13'.ok.inv.2, .nil⟩, ?_, ?_, ?_⟩
          · rintro i σ' H' _ ⟨w7, w8, w9, w13, w14, w15, ys, rfl, lK, _⟩
            exact ⟨lK.ex, lK.ok⟩
          · rintro i u1 σ' H14 H15 hi ⟨w7, w8, w9, w13, w14, w15, ys, rfl, lK, ea2, dm2⟩ g1 d9
            have l15 := g1.le lK.ok
            have l125 : Le ((c.up a1).up a2) (((I.up a1).pin a1 m1 (.lst xs)).up a2) H12 H15 := l13'.unpin.trans (lK.trans l15)
            have ea15 := g1.at ea2
            refine sb_set 13 (l15.ok.pin m2 ea15) ev_lnew sc54.nd fun v13 H16 l16 h13 => ?_
            obtain ⟨a3, rfl, h03, na3, ha3⟩ := h13
            have m3 : a3 ∈ (((c.up a1).up a2).up a3).pa := List.mem_cons_self ..
            have tk16 := (tk12.mono l125).up h03 l16
            have d16 := (l125.dd d12).upAt h03 l16
            have h316 := (l125.dd h312).upAt h03 l16
            have h416 := (l125.dd h412).upAt h03 l16
            have d916 := d9.upAt h03 l16
            refine sb_for1G 14 ((l16.ok.up ha3 rfl).pin m3 ha3) (it_range (j := cc.length) T0.B (ED.is (ed_lenT T0.B (ed_var 11 rfl d16)) (by rw [List.length_map])) (by omega)) sc54.nd never fun H17 l17 => ?_
            refine ⟨fun _ => ((((I.up a1).pin a1 m1 (.lst xs)).up a2).pin a2 m2 (.lst ys)).up a3, fun k σ' H' => ∃ w14 w15 zs, σ' = [some tv, some (.ref od), some (.int (n : Int)), some v3, some v4, some (.ref pd), some (.ref a), w7, w8, some u1, some (.ref a1), some u, some (.ref a2), some (.ref a3), w14, w15] ∧ Le (((c.up a1).up a2).up a3) (((((I.up a1).pin a1 m1 (.lst xs)).up a2).pin a2 m2 (.lst ys)).up a3) H17 H' ∧ H' a3 = some (.lst zs) ∧ DDs K (((c.up a1).up a2).up a3).pa H' zs (((List.range k).map fun k => (endB bs ms (fun k => tlOf (ans k)) cc k).getD i 0 - (tlOf (ans cc)).getD i 0).map PyData.int),
              ⟨_, _, [], rfl, .refl l17.ok.unpin, l17.ok.inv.2, .nil⟩, ?_, ?_, ?_⟩
            · rintro k σ' H' _ ⟨w14, w15, zs, rfl, lM, _⟩
              exact ⟨lM.ex, lM.ok⟩
            · rintro k u2 σ' H18 H19 hk ⟨w14, w15, zs, rfl, lM, ea3, dm3⟩ g2 d14
              have l19 := g2.le lM.ok
              have ea19 := g2.at ea3
              have l169 : Le (((c.up a1).up a2).up a3) (((((I.up a1).pin a1 m1 (.lst xs)).up a2).pin a2 m2 (.lst ys)).up a3) H16 H19 := l17.unpin.trans (lM.trans l19)
              have tk19 := tk16.mono l169
              have d1119 := l169.dd d16
              have d919 := l169.dd d916
              have h319 := l169.dd h316
              have h419 := l169.dd h416
              refine sb_set 15 (l19.ok.pin m3 ea19) (ed_rz hk (by omega) (ed_var 11 rfl d1119) (ed_var 14 rfl d14) (ed_var 11 rfl d1119) (ed_var 14 rfl d14) (ed_ixT (ed_var 4 rfl h419) (ed_var 14 rfl d14) (TI_ix (by omega))) (ed_var 11 rfl d1119) (ed_var 14 rfl d14)) sc54.nd fun v15 H20 l20 h15 => ?_
              have l20u := l20.unpin
              refine sb_appO (d := .int ((endB bs ms (fun k => tlOf (ans k)) cc k).getD i 0 - (tlOf (ans cc)).getD i 0)) na3 l20.ok.unpin l20.ok.inv.2 ((l19.trans l20u).dds dm3) (ev_var 13 rfl) (ev_if (k := decide (bs.getD k 0 ≤ cc.getD k 0)) (tv_ge (ed_ixT (i := k) (ed_var 11 rfl (l20u.dd d1119)) (ed_var 14 rfl (l20u.dd d14)) (TI_ix hk)) (ed_ixT (i := k) (ed_var 3 rfl (l20u.dd h319)) (ed_var 14 rfl (l20u.dd d14)) (TI_ix (by omega)))) (fun z => ?_) fun z => ?_) (by rw [List.length_map, List.length_map, List.length_range]; omega) fun zs' H21 l21 ea21 dm21 => ?_
              · have hg := of_decide_eq_true z
                have prr : rz cc k (ms.getD k 0) ∈ probeL bs ms := probe_mem.mpr (.inr (gKeys_of hcc hk hg))
                have e : endB bs ms (fun k => tlOf (ans k)) cc k = tlOf (ans (rz cc k (ms.getD k 0))) := by
                  unfold endB
                  rw [if_pos hg]
                rw [e]
                exact ed_sub (ed_tk hu (tk19.mono l20u) (ev_var 6 rfl) (ed_var 15 rfl h15) prr (ed_var 9 rfl (l20u.dd d919)) (by rw [tlen _ prr]; exact hi)) (ed_tk hu (tk19.mono l20u) (ev_var 6 rfl) (ed_var 11 rfl (l20u.dd d1119)) pcc (ed_var 9 rfl (l20u.dd d919)) (by rw [tcc]; exact hi))
              · have hg := of_decide_eq_false z
                have e : endB bs ms (fun k => tlOf (ans k)) cc k = tlOf (ans cc) := by
                  unfold endB
                  rw [if_neg hg]
                rw [e, Int.sub_self]
                exact ed_int
              · refine sb_nil ⟨_, _, zs', rfl, lM.trans (l19.trans (l20u.trans l21)), ea21, ?_⟩
                rw [rSn, List.map_append]
                exact dm21
            · rintro σ' H18 ⟨w14, w15, zs, rfl, lM, ea3, dm3⟩
              have dz := own_dd na3 ea3 dm3
              have lD : Le ((c.up a1).up a2) ((((I.up a1).pin a1 m1 (.lst xs)).up a2).pin a2 m2 (.lst ys)) H15 H18 := l16.down h03 (l17.unpin.trans lM)
              have lDu := lD.unpin
              refine sb_appO (d := fD ((tlOf (ans cc)).getD i 0, (List.range cc.length).map fun k => (endB bs ms (fun k => tlOf (ans k)) cc k).getD i 0 - (tlOf (ans cc)).getD i 0)) na2 lD.ok.unpin lD.ok.inv.2 ((l15.trans lDu).dds dm2) (ev_var 12 rfl) (ed_tup (ad_cons (ed_tk hu ((tk12.mono l125).mono lDu) (ev_var 6 rfl) (ed_var 11 rfl (lDu.dd (l125.dd d12))) pcc (ed_var 9 rfl (lDu.dd d9)) (by rw [tcc]; exact hi)) (ad_cons (ed_tupleL T0.B (ed_var 13 rfl dz)) ad_nil))) (by rw [List.length_map, List.length_map, List.length_range]; omega) fun ys' H19 l19 ea19 dm19 => ?_
              refine sb_nil ⟨_, _, _, _, _, _, ys', rfl, lK.trans (l15.trans (lDu.trans l19)), ea19, ?_⟩
              rw [rSn, List.map_append]
              exact dm19
          · rintro σ' H14 ⟨w7, w8, w9, w13, w14, w15, ys, rfl, lK, ea2, dm2⟩
            have dy := own_dd na2 ea2 dm2
            have lD : Le (c.up a1) ((I.up a1).pin a1 m1 (.lst xs)) H11 H14 := l12'.down h02 (l13'.unpin.trans lK)
            have lDu := lD.unpin
            refine sb_appO (d := rD (rowB bs ms (fun k => tlOf (ans k)) cc)) na1 lD.ok.unpin lD.ok.inv.2 ((l11.trans lDu).dds dm1) (ev_var 10 rfl) (ED.is (ed_tupleL T0.B (ed_var 12 rfl dy)) ?_) (by rw [List.length_map, List.length_map, List.length_take]; omega) fun xs' H15 l15 ea15 dm15 => ?_
            · unfold rD rowB
              rw [tcc]
            · refine sb_nil ⟨_, _, _, _, _, _, _, _, xs', rfl, lJ.trans (l11.trans (lDu.trans l15)), ea15, ?_⟩
              rw [take_snoc (d := []) hj, hce, List.map_append, List.map_append]
              exact dm15
        · rintro σ' H10 ⟨w7, w8, w9, w11, w12, w13, w14, w15, xs, rfl, lJ, ea1, dm1⟩
          rw [List.take_length] at dm1
          have dx := own_dd na1 ea1 dm1
          have lD : Le c I H7 H10 := l8.down h01 (l9.unpin.trans lJ)
          refine sb_ret lD.ok (ed_tup (ad_cons ed_str (ad_cons (ed_tup (ad_cons (ed_var 3 rfl (lD.dd h37)) (ad_cons (ed_var 4 rfl (lD.dd h47)) (ad_cons (ed_tupleL T0.B (ed_var 10 rfl dx)) ad_nil)))) ad_nil))) fun v H11 l11 dv => ?_
          exact q v H11 (l12.trans (l27.trans (lD.trans l11))) dv
end
end K93
set_option maxHeartbeats 4000000
/-! K93PT: plain facts of the drawn table; data that may be compared. -/
namespace K93
open PySem PySem.Spec PyProof.Rows L2
/-! ### data that may be compared -/
structure GD (k : Nat) (d : PyData) : Prop where
  pl : K93.pl d = true
  lay : PyData.canLay0 d = true
  dep : d.depth ≤ k
theorem GD.mono {j k : Nat} {d : PyData} (h : GD j d) (e : j ≤ k) : GD k d := ⟨h.pl, h.lay, Nat.le_trans h.dep e⟩
theorem gd_all {k : Nat} : ∀ (ds : List PyData), (∀ d ∈ ds, GD k d) → pls ds = true ∧ PyData.canLayAll0 ds = true ∧ PyData.depthAll ds ≤ k
  | [], _ => ⟨rfl, rfl, by rw [PyData.depthAll]; exact Nat.zero_le _⟩
  | d :: ds, h => by
    obtain ⟨h1, h2, h3⟩ := gd_all ds fun x hx => h x (List.mem_cons_of_mem _ hx)
    have g := h d (List.mem_cons_self ..)
    refine ⟨?_, ?_, ?_⟩
    · unfold pls
      rw [g.pl, h1]
      rfl
    · rw [PyData.canLayAll0, g.lay, h2]
      rfl
    · rw [PyData.depthAll]
      have := g.dep
      omega
theorem GD.tup {k : Nat} {ds : List PyData} (h : ∀ d ∈ ds, GD k d) : GD (k + 1) (.tuple ds) := by
  obtain ⟨h1, h2, h3⟩ := gd_all ds h
  exact ⟨by unfold K93.pl; exact h1, by rw [PyData.canLay0]; exact h2, by rw [PyData.depth]; omega⟩
theorem GD.lst {k : Nat} {ds : List PyData} (h : ∀ d ∈ ds, GD k d) : GD (k + 1) (.list ds) := by
  obtain ⟨h1, h2, h3⟩ := gd_all ds h
  exact ⟨by unfold K93.pl; exact h1, by rw [PyData.canLay0]; exact h2, by rw [PyData.depth]; omega⟩
theorem GD.int {k : Nat} (i : Int) : GD k (.int i) := ⟨by unfold K93.pl; rfl, rfl, by rw [PyData.depth]; exact Nat.zero_le _⟩
theorem GD.bool {k : Nat} (i : Bool) : GD k (.bool i) := ⟨by unfold K93.pl; rfl, rfl, by rw [PyData.depth]; exact Nat.zero_le _⟩
theorem GD.non {k : Nat} : GD k .none := ⟨by unfold K93.pl; rfl, rfl, by rw [PyData.depth]; exact Nat.zero_le _⟩
theorem GD.str {k : Nat} {x : Str} (h : PyData.canLay0 (.str x) = true) : GD k (.str x) := ⟨by unfold K93.pl; rfl, h, by rw [PyData.depth]; exact Nat.zero_le _⟩
theorem GD.two {k : Nat} {a b : PyData} (h : GD k a) (g : GD k b) : GD (k + 1) (.tuple [a, b]) := .tup fun d hd => by
  rcases List.mem_cons.mp hd with e | hd
  · rw [e]; exact h
  · rw [List.mem_singleton.mp hd]; exact g
theorem GD.TI (ns : List Int) : GD 1 (K93.TI ns) := .tup fun d hd => by
  obtain ⟨i, _, rfl⟩ := List.mem_map.mp hd
  exact .int i
theorem GD.fD (f : Int × List Int) : GD 2 (K93.fD f) := .two (.int _) (.TI _)
theorem GD.rD (fs : List (Int × List Int)) : GD 3 (K93.rD fs) := .tup fun d hd => by
  obtain ⟨i, _, rfl⟩ := List.mem_map.mp hd
  exact .fD i
theorem GD.tbD (bs ms : List Int) (rs : List (List (Int × List Int))) : GD 5 (K93.tbD bs ms rs) := .tup fun d hd => by
  rcases List.mem_cons.mp hd with e | hd
  · rw [e]; exact (GD.TI _).mono (by decide)
  rcases List.mem_cons.mp hd with e | hd
  · rw [e]; exact (GD.TI _).mono (by decide)
  rw [List.mem_singleton.mp hd]
  exact .tup fun d hd => by
    obtain ⟨i, _, rfl⟩ := List.mem_map.mp hd
    exact .rD i
theorem GD.outD (bs ms : List Int) (ans : List Int → PyData) (o : Out) : GD 6 (K93.outD bs ms ans o) := by
  cases o with
  | bad k => exact .two (.str (by decide +kernel)) ((GD.TI _).mono (by decide))
  | fall k => exact .two (.str (by decide +kernel)) ((GD.TI _).mono (by decide))
  | tab => exact .two (.str (by decide +kernel)) (.tbD ..)
theorem GD.dp : ∀ n, GD (n + 1) (K93.dp n)
  | 0 => .tup fun _ h => nomatch h
  | n + 1 => .tup fun d hd => by rw [List.mem_singleton.mp hd]; exact GD.dp n
theorem GD.shaped {k : Nat} {d : PyData} (h : GD k d) (e : k ≤ 64) : SeqAt.shaped d = true := by
  unfold SeqAt.shaped
  rw [h.lay, decide_eq_true (Nat.le_trans h.dep e)]
  rfl
theorem GD.refl {k : Nat} {d : PyData} (h : GD k d) : PyData.eqv d d = true := SeqAt.eqv_refl d h.lay
theorem tv_ne {X : Cx} {c : Kx} {I J L : Ix c.pa} {σ : St} {H : Hp} {a b : Expr} {pos : Pos} {d d' : PyData} {k : Nat} (hu : X.A.units + 64 < cLine) (ha : ED X c I J a σ H d) (hb : ED X c J L b σ H d') (g : GD k d) (g' : GD k d') (hk : k ≤ 64) : TV X c I L (.Compare a [.NotEq] [b] pos) σ H (!PyData.eqv d d') :=
  tv_neD hu ha hb g.pl g'.pl (g.shaped hk) (g'.shaped hk)
/-! ### raw cells of what is not below 0 -/
theorem rc_in {b m g : Int} (hb : 0 ≤ b) (hm : 1 ≤ m) (hg : 0 ≤ g) : 0 ≤ rc b m g ∧ rc b m g < b + m ∧ rc b m g ≤ g := by
  unfold rc
  split
  · omega
  · have h1 := Int.emod_nonneg (g - b) (show m ≠ 0 by omega)
    have h2 := Int.emod_lt_of_pos (g - b) (show 0 < m by omega)
    have h3 := Int.mul_ediv_add_emod (g - b) m
    have h4 : 0 ≤ (g - b) / m := Int.ediv_nonneg (by omega) (by omega)
    have h5 : 0 ≤ m * ((g - b) / m) := Int.mul_nonneg (by omega) h4
    omega
theorem plI_in {bs ms cc : List Int} (B : BM bs ms) (h : ∀ k, k < bs.length → 0 ≤ cc.getD k 0 ∧ cc.getD k 0 < bs.getD k 0 + ms.getD k 0) : ∀ i, i ≤ bs.length → 0 ≤ plI bs ms cc i ∧ plI bs ms cc i < mcI bs ms i
  | 0, _ => ⟨Int.le_refl 0, by show (0 : Int) < 1; decide⟩
  | i + 1, hi => by
    obtain ⟨h1, h2⟩ := plI_in B h i (by omega)
    obtain ⟨h3, h4⟩ := h i (by omega)
    show 0 ≤ plI bs ms cc i * (bs.getD i 0 + ms.getD i 0) + cc.getD i 0 ∧ plI bs ms cc i * (bs.getD i 0 + ms.getD i 0) + cc.getD i 0 < mcI bs ms i * (bs.getD i 0 + ms.getD i 0)
    generalize bs.getD i 0 + ms.getD i 0 = s at *
    have h5 : 0 ≤ plI bs ms cc i * s := Int.mul_nonneg h1 (by omega)
    have h6 : plI bs ms cc i * s ≤ (mcI bs ms i - 1) * s := Int.mul_le_mul_of_nonneg_right (by omega) (by omega)
    rw [Int.sub_mul, Int.one_mul] at h6
    omega
theorem sum_nn : ∀ l : List Int, (∀ x ∈ l, 0 ≤ x) → 0 ≤ l.sum
  | [], _ => by rw [List.sum_nil]; exact Int.le_refl 0
  | x :: l, h => by
    rw [List.sum_cons]
    have := h x (List.mem_cons_self ..)
    have := sum_nn l fun y hy => h y (List.mem_cons_of_mem _ hy)
    omega
theorem getD_all {ns : List Int} {Pz : Int → Prop} (h : ∀ x ∈ ns, Pz x) {k : Nat} (hk : k < ns.length) : Pz (ns.getD k 0) := h _ (getD_memL (d := 0) hk)
section
variable {n forms : Nat} {most steps : Int} {bs ms : List Int} {rs : List (List (Int × List Int))}
structure TbF (n forms : Nat) (bs ms : List Int) (rs : List (List (Int × List Int))) : Prop where
  n2 : n ≤ 2
  f1 : 1 ≤ forms
  f12 : forms ≤ 12
  rows : RowsOk bs ms rs
  lb : bs.length = n
  b : ∀ b ∈ bs, 0 ≤ b ∧ b ≤ 9
  m : ∀ m ∈ ms, 1 ≤ m ∧ m ≤ 9
  rl : ∀ r ∈ rs, r.length = forms
theorem TbR.f (h : TbR n forms most steps bs ms rs) (n2 : n ≤ 2) (m9 : most ≤ 9) (f1 : 1 ≤ forms) (f12 : forms ≤ 12) : TbF n forms bs ms rs := by
  obtain ⟨B, mx⟩ := mc_18 m9 (h.lb ▸ n2) (h.lm.trans h.lb.symm) h.b h.m
  refine ⟨n2, f1, f12, ⟨B, mx, h.len, fun k hk => ?_, fun k hk => by rw [h.rl _ (getD_memL (d := []) hk), h.rl _ (getD_memL (d := []) (by omega : 0 < rs.length))]⟩, h.lb, fun b hb => ⟨(h.b b hb).1, by have := (h.b b hb).2; omega⟩, fun m hm => ⟨(h.m m hm).1, by have := (h.m m hm).2; omega⟩, h.rl⟩
  have e := h.rl _ (getD_memL (d := []) hk)
  refine ⟨by omega, by omega, fun f hf => ?_⟩
  have F := h.row k hk f hf
  exact ⟨F.a0.1, F.len, fun g hg => (F.g0 g hg).1, F.z⟩
theorem TbF.cell (h : TbF n forms bs ms rs) {gs : List Int} (hl : gs.length = n) (hg : ∀ g ∈ gs, 0 ≤ g ∧ g ≤ 100000) {k : Nat} (hk : k < bs.length) : 0 ≤ rc (bs.getD k 0) (ms.getD k 0) (gs.getD k 0) ∧ rc (bs.getD k 0) (ms.getD k 0) (gs.getD k 0) < bs.getD k 0 + ms.getD k 0 ∧ rc (bs.getD k 0) (ms.getD k 0) (gs.getD k 0) ≤ gs.getD k 0 :=
  rc_in (h.rows.bm.bm hk).1 (h.rows.bm.bm hk).2 (getD_all hg (by rw [hl, ← h.lb]; exact hk)).1
theorem TbF.rv (h : TbF n forms bs ms rs) {gs : List Int} (hl : gs.length = n) (hg : ∀ g ∈ gs, 0 ≤ g ∧ g ≤ 100000) : ∃ r, RvOk bs ms rs gs r ∧ r.length = forms ∧ areNums (TI (rvI bs ms rs gs)) (forms : Int) = true := by
  have B := h.rows.bm
  have lcl : ((cells bs ms).length : Int) = mc bs ms := cellsI_len B bs.length (Nat.le_refl _)
  obtain ⟨p0, p1⟩ := plI_in (cc := rcell bs ms gs) B (fun k hk => by rw [rcell_get hk]; exact ⟨(h.cell hl hg hk).1, (h.cell hl hg hk).2.1⟩) bs.length (Nat.le_refl _)
  have p1 : plc bs ms (rcell bs ms gs) < mc bs ms := p1
  have p0 : 0 ≤ plc bs ms (rcell bs ms gs) := p0
  obtain ⟨i, hi⟩ : ∃ i : Nat, plc bs ms (rcell bs ms gs) = (i : Int) := ⟨_, (Int.toNat_of_nonneg p0).symm⟩
  have hil : i < rs.length := by rw [h.rows.len]; omega
  have tm : ∀ t ∈ tmI bs ms gs, 0 ≤ t ∧ t ≤ 100000 := fun t ht => by
    obtain ⟨k, hk, rfl⟩ := List.mem_map.mp ht
    have hk := List.mem_range.mp hk
    obtain ⟨c0, c1, c2⟩ := h.cell hl hg hk
    have g1 := (getD_all hg (k := k) (by rw [hl, ← h.lb]; exact hk)).2
    have m1 := (B.bm hk).2
    refine ⟨Int.ediv_nonneg (by omega) (by omega), Int.le_trans (Int.ediv_le_self _ (by omega)) (by omega)⟩
  have row := h.rows.row i hil
  have cel : (cells bs ms).getD i [] ∈ cells bs ms := getD_memL (by rw [← h.rows.len]; exact hil)
  have rm := getD_memL (d := []) hil
  have re : rs[i]? = some (rs.getD i []) := by rw [List.getD_eq_getElem?_getD, List.getElem?_eq_getElem hil]; rfl
  have R : RvOk bs ms rs gs (rs.getD i []) := ⟨B, h.rows.most, by rw [hl, h.lb], ⟨i, hi, re⟩, by have := row.most; omega, fun f hf => by rw [(row.fm f hf).len, cells_at _ cel], fun m hm => by have := (h.m m hm).2; omega, fun t ht => by have := tm t ht; omega⟩
  refine ⟨_, R, h.rl _ rm, ?_⟩
  rw [← rvR_I R]
  show (decide ((((rvR bs ms gs (rs.getD i [])).map PyData.int).length : Int) = (forms : Int)) && ((rvR bs ms gs (rs.getD i [])).map PyData.int).all isNum) = true
  rw [Bool.and_eq_true]
  refine ⟨decide_eq_true ?_, List.all_eq_true.mpr fun d hd => ?_⟩
  · unfold rvR
    rw [List.length_map, List.length_map, h.rl _ rm]
  · obtain ⟨x, hx, rfl⟩ := List.mem_map.mp hd
    obtain ⟨f, hf, rfl⟩ := List.mem_map.mp hx
    refine decide_eq_true ?_
    have F := row.fm f hf
    have := F.a0
    have : 0 ≤ dotI f.2 (tmI bs ms gs) := sum_nn _ fun x hx => by
      obtain ⟨k, hk, rfl⟩ := List.mem_map.mp hx
      have hk := List.mem_range.mp hk
      have hkb : k < bs.length := by rw [F.len, cells_at _ cel] at hk; exact hk
      exact Int.mul_nonneg (getD_all F.g0 hk) (getD_all (Pz := fun t => 0 ≤ t) (fun t ht => (tm t ht).1) (by rw [tmI_len]; exact hkb))
    unfold fvI
    omega
theorem TbF.probe (h : TbF n forms bs ms rs) {k : List Int} (hk : k ∈ probeL bs ms) : k.length = n ∧ ∀ g ∈ k, 0 ≤ g ∧ g ≤ 100000 := by
  have B := h.rows.bm
  refine ⟨by rw [keys_len k (by unfold probeL at hk; exact srt_mem.mp hk), h.lb], fun g hg => ?_⟩
  obtain ⟨j, hj, rfl⟩ := List.mem_iff_getElem.mp hg
  have e : k[j] = k.getD j 0 := by rw [List.getD_eq_getElem?_getD, List.getElem?_eq_getElem hj]; rfl
  rw [e]
  have cin : ∀ cc ∈ cells bs ms, ∀ j, j < cc.length → 0 ≤ cc.getD j 0 ∧ cc.getD j 0 < 18 := fun cc hc j hj => by
    have hl := cells_at cc hc
    have := cells_in hc hj
    have := getD_all h.b (k := j) (by omega)
    have := getD_all h.m (k := j) (by rw [← B.len]; omega)
    omega
  rcases probe_mem.mp hk with hc | hc
  · have := cin k hc j hj
    omega
  · obtain ⟨cc, h1, i, h2, h3, rfl⟩ := gKeys_mem hc
    rw [rz_len h2] at hj
    have hl := cells_at cc h1
    have := cin cc h1 j hj
    by_cases e : j = i
    · rw [e, rz_get h2]
      have := cin cc h1 i h2
      have := getD_all h.m (k := i) (by rw [← B.len]; omega)
      omega
    · rw [rz_get_ne h2 e]
      omega
end
end K93
set_option maxHeartbeats 4000000
/-! K93RE: what learned must refuse. -/
namespace K93
open PySem PySem.Spec PyProof.Rows L2
section
variable {X : Cx} {c : Kx} {I J L : Ix c.pa} {σ : St} {H : Hp} {a b e f e1 e2 e3 : Expr} {pos p : Pos} {ds : List PyData} {pp pg ps tT tL : Addr}
theorem ed_neg {i : Int} (h : ED X c I J e σ H (.int i)) : ED X c I J (.UnaryOp .USub e pos) σ H (.int (-i)) :=
  EV.of (pe_un un_neg peS) fun H1 l Q q => h H1 l _ fun v H2 l2 w => ⟨i, w.intOf, q _ H2 l2 (.int _)⟩
theorem ed_dict0 : ED X c I I (.Dict [] [] pos) σ H (.dict []) := fun H1 l Q q => ⟨fun pins s i =>
  pe_dnewK.run pins s σ H1 Q i fun p hp => q (.ref p) _ (.new (.refl l.ok) hp) (.opq (.inl upd_same) (l.ok.npa hp))⟩
theorem ev_any (T0 : Tx X.K X.mg) (hr : Room 2 X.A) (Z : PotX c I pp pg ps) (ha : EV X c I I a σ H fun v _ => v = .ref pp) (hb : ED X c I I b σ H (.list ds)) (h0 : 0 < ds.length) (h1 : ds.length < 1073741824)
    (he : starEach [a, b] X.env = (false, eval a X.env) :: starEach [b] X.env := by rfl) (he2 : starEach [b] X.env = (false, eval b X.env) :: starEach [] X.env := by rfl) (hg : Gl X "_law_any" := by rfl) (hpl : (backTo pos (starEach [b] X.env)).any (·.1) = false := by rfl) :
    EV X c I I (.Call (.Name "_law_any" p) [a, b] [] pos) σ H fun v H' => ∃ i : Nat, i < ds.length ∧ DD X.K c.pa H' v (ds.getD i .none) :=
  ev_call (f44 T0) hr (av_cons ha meq (av_cons hb mdd av_nil he2) he) (fun vs H1 l w Q k => by
    obtain ⟨v, r, rfl, rfl, u, r2, rfl, hu, rfl⟩ := w
    exact ⟨c, I, pp, pg, ps, u, ds, rfl, Z, l.ok, hu, h0, h1, fun i v H2 hi l2 d => k v H2 l2 ⟨i, hi, d⟩⟩) hg (by decide) he hpl
theorem ed_LL {T : Nat → Ix c.pa} {N : Nat} {ans : List Int → PyData} {vf : V} {d1 d2 d3 res : PyData} (F : FnD X.prog X.w X.K X.mg X.base CX0 9 "_law_learned" (spLL X.prog X.w X.K X.mg X.base tT tL)) (hr : Room 9 X.A) (hT : c.T = kT tT tL) (hf : EV X c (T 0) (T 0) f σ H fun v _ => v = vf)
    (h1 : ED X c (T 0) (T 0) e1 σ H d1) (h2 : ED X c (T 0) (T 0) e2 σ H d2) (h3 : ED X c (T 0) (T 0) e3 σ H d3) (LL : ∀ H1, Le c (T 0) H H1 → LLok X.prog X.w X.K X.mg X.base c T N ans vf d1 d2 d3 H1 res) (hJ : ∀ i, i ≤ N → ∀ H, (T i).P H → J.P H)
    (he : starEach [f, e1, e2, e3] X.env = (false, eval f X.env) :: starEach [e1, e2, e3] X.env := by rfl) (he1 : starEach [e1, e2, e3] X.env = (false, eval e1 X.env) :: starEach [e2, e3] X.env := by rfl) (he2 : starEach [e2, e3] X.env = (false, eval e2 X.env) :: starEach [e3] X.env := by rfl) (he3 : starEach [e3] X.env = (false, eval e3 X.env) :: starEach [] X.env := by rfl)
    (hg : Gl X "_law_learned" := by rfl) (hpl : (backTo pos (starEach [e1, e2, e3] X.env)).any (·.1) = false := by rfl) : ED X c (T 0) J (.Call (.Name "_law_learned" p) [f, e1, e2, e3] [] pos) σ H res :=
  ev_call F hr (av_cons (R := fun vs H' => DDs X.K c.pa H' vs [d1, d2, d3]) hf meq (ad_cons h1 (ad_cons h2 (ad_cons h3 ad_nil he3) he2) he1) he) (fun vs H1 l w Q k => by
    obtain ⟨v, r, rfl, rfl, w⟩ := w
    obtain ⟨x1, x2, x3, rfl, w1, w2, w3⟩ := dds3 w
    exact ⟨c, T, J, N, ans, v, x1, x2, x3, d1, d2, d3, res, hT, rfl, l.ok, w, LL H1 l, hJ, fun u H2 l2 d => k u H2 l2 d⟩) hg (by decide) he hpl
end
theorem TI_inj {a b : List Int} (h : TI a = TI b) : a = b := by
  have : tlOf (TI a) = tlOf (TI b) := by rw [h]
  rwa [tlOf_TI, tlOf_TI] at this
theorem condA_BM {bs ms : List Int} (B : BM bs ms) : condA (TI bs) (TI ms) = false := by
  have h1 : areBounds (TI bs) = true := by
    show (decide ((bs.map PyData.int).length ≤ 2) && (bs.map PyData.int).all isNum) = true
    rw [List.length_map, decide_eq_true B.two, Bool.true_and]
    exact List.all_eq_true.mpr fun d hd => by
      obtain ⟨x, hx, rfl⟩ := List.mem_map.mp hd
      exact decide_eq_true (B.b0 x hx)
  have h2 : areMeas (TI ms) (tlen (TI bs)) = true := by
    have : tlen (TI bs) = (bs.length : Int) := by show (((bs.map PyData.int).length : Nat) : Int) = _; rw [List.length_map]
    rw [this]
    show (decide ((((ms.map PyData.int).length : Nat) : Int) = (bs.length : Int)) && (ms.map PyData.int).all isNum && (ms.map PyData.int).all posD) = true
    rw [List.length_map, decide_eq_true (by rw [B.len]), Bool.true_and, Bool.and_eq_true]
    exact ⟨List.all_eq_true.mpr fun d hd => by
      obtain ⟨x, hx, rfl⟩ := List.mem_map.mp hd
      have := B.m1 x hx
      exact decide_eq_true (by omega), List.all_eq_true.mpr fun d hd => by
      obtain ⟨x, hx, rfl⟩ := List.mem_map.mp hd
      have := B.m1 x hx
      exact decide_eq_true (by omega)⟩
  unfold condA
  rw [h1, h2]
  rfl
/-! ### the things -/
def oddD : List PyData := [.none, .int 0, .list [.int 0], TI [-1], .tuple [.bool true], TI [0, 0, 0], .str "0", .dict [], dp 36]
def wrongD (t : PyData) : List PyData := [.tuple [t, TI [1]], .tuple [TI [0], TI [0]], .tuple [TI [0], TI [1, 1]], .tuple [TI [0], .list [.int 1]], .tuple [TI [0], .tuple [.bool true]], .tuple [TI [0], .none]]
def numD : List PyData := [.int 0, .int 13, .int (-1), .bool true, .none, .str "1", TI [1]]
theorem ok_fin {d : PyData} (h : ∀ ds, d = .tuple ds → (decide (ds.length ≤ 100000) && ds.all noq) = true) : okI d := fun ds e => by
  have := h ds e
  rw [Bool.and_eq_true, decide_eq_true_eq, List.all_eq_true] at this
  exact this
theorem odd_bad : ∀ t ∈ oddD, areBounds t = false ∧ okI t := fun t ht => by
  unfold oddD at ht
  simp only [List.mem_cons, List.not_mem_nil, or_false] at ht
  rcases ht with rfl | rfl | rfl | rfl | rfl | rfl | rfl | rfl | rfl <;> exact ⟨rfl, ok_fin fun ds e => by cases e <;> rfl⟩
theorem wrong_bad {t : PyData} (ht : t ∈ oddD) : ∀ p ∈ wrongD t, ∃ x y, p = .tuple [x, y] ∧ condA x y = true ∧ okI x ∧ okI y := fun p hp => by
  obtain ⟨h1, h2⟩ := odd_bad t ht
  unfold wrongD at hp
  simp only [List.mem_cons, List.not_mem_nil, or_false] at hp
  rcases hp with rfl | rfl | rfl | rfl | rfl | rfl
  · exact ⟨_, _, rfl, by unfold condA; rw [h1]; rfl, h2, ok_fin fun ds e => by cases e <;> rfl⟩
  all_goals exact ⟨_, _, rfl, rfl, ok_fin fun ds e => by cases e <;> rfl, ok_fin fun ds e => by cases e <;> rfl⟩
theorem num_bad : ∀ d ∈ numD, within d 1 12 = false ∧ noq d = true := fun d hd => by
  unfold numD at hd
  simp only [List.mem_cons, List.not_mem_nil, or_false] at hd
  rcases hd with rfl | rfl | rfl | rfl | rfl | rfl | rfl <;> exact ⟨rfl, rfl⟩
section
variable {P : Program} {w : World} {K : PySem.W.Frag} {mg : Str → Option Value} {base : Heap} {c : Kx} {T : Nat → Ix c.pa} {N : Nat} {ans : List Int → PyData} {vf : V} {H : Hp}
theorem ll_a {d1 d2 d3 : PyData} (h : condA d1 d2 = true) (o1 : okI d1) (o2 : okI d2) (o3 : noq d3 = true) : LLok P w K mg base c T N ans vf d1 d2 d3 H (flagsD true false false) :=
  ⟨o1, o2, o3, fun _ => rfl, fun z => (by rw [h] at z; cases z), fun bs ms e1 e2 B => (by rw [e1, e2, condA_BM B] at h; cases h), fun bs ms e1 e2 B => (by rw [e1, e2, condA_BM B] at h; cases h), fun bs ms n e1 e2 _ B => by rw [e1, e2, condA_BM B] at h; cases h⟩
theorem ll_b {b m : Int} {d3 : PyData} (B : BM [b] [m]) (hs : b + m ≤ 100000) (h : within d3 1 12 = false) (o3 : noq d3 = true) : LLok P w K mg base c T N ans vf (TI [b]) (TI [m]) d3 H (flagsD false true false) :=
  ⟨okI_TI (by show 1 ≤ 100000; decide), okI_TI (by show 1 ≤ 100000; decide), o3, fun z => (by rw [condA_BM B] at z; cases z), fun _ _ => rfl, fun bs ms e1 e2 _ => (by rw [← TI_inj e1, ← TI_inj e2]; show 1 * (b + m) ≤ 100000; omega), fun _ _ _ _ _ z => (by rw [h] at z; cases z), fun bs ms n _ _ e _ n1 n12 => by
    rw [e] at h
    have h : (decide (1 ≤ n) && decide (n ≤ 12)) = false := h
    rw [decide_eq_true n1, decide_eq_true n12] at h
    cases h⟩
theorem ll_c {b m : Int} (B : BM [b] [m]) (h1 : 1000 < b + m) (hs : b + m ≤ 100000) : LLok P w K mg base c T N ans vf (TI [b]) (TI [m]) (.int 1) H (flagsD false false true) :=
  ⟨okI_TI (by show 1 ≤ 100000; decide), okI_TI (by show 1 ≤ 100000; decide), rfl, fun z => (by rw [condA_BM B] at z; cases z), fun _ z => (nomatch z), fun bs ms e1 e2 _ => (by rw [← TI_inj e1, ← TI_inj e2]; show 1 * (b + m) ≤ 100000; omega), fun _ _ _ _ _ _ _ => rfl, fun bs ms n e1 e2 _ _ _ _ z => by
    rw [← TI_inj e1, ← TI_inj e2] at z
    have z : 1 * (b + m) ≤ 1000 := z
    omega⟩
end
theorem GD.flags (x y z : Bool) : GD 2 (flagsD x y z) := .two (.str (by decide +kernel)) (.lst fun d hd => by
  simp only [List.mem_cons, List.not_mem_nil, or_false] at hd
  rcases hd with rfl | rfl | rfl <;> exact .bool _)
end K93
set_option maxHeartbeats 4000000
/-! K93RW: what learned must refuse, walked. -/
namespace K93
open PySem PySem.Spec PyProof.Rows L2
def spRe (K : PySem.W.Frag) (tT tL : Addr) : Sp := fun vs H Q _ => ∃ (c : Kx) (I : Ix c.pa) (pp pg ps : Addr) (vf : V), c.T = kT tT tL ∧ vs = [.ref pp, vf] ∧ PotX c I pp pg ps ∧ Ok c I H ∧ ∀ v H1, Le c I H H1 → DD K c.pa H1 v (.bool true) → Q v H1
abbrev N56 : List Str := ["_law_pot_here", "_law_function", "_law_odd", "_law_thing", "_law_wrong", "_law_number"]
theorem sc56 : FnScope N56 ["_law_pot_here", "_law_function"] (defScope (topS 56)) := ⟨rfl, rfl, rfl, by decide +kernel, rfl, by decide +kernel, by decide +kernel⟩
section
variable {P : Program} {w : World} {K : PySem.W.Frag} {mg : Str → Option Value} {base : Heap} {cTM cBA cFA cNN cNB cNI cRE tT tL : Addr}
theorem f56 (T0 : Tx K mg) (Z : Xc P K mg cTM cBA cFA cNN cNB cNI cRE) (Y : Xe K cTM cBA cFA cNN cNB cNI cRE) (Tbb : Tb K mg base tT tL) : FnD P w K mg base CX0 10 "_law_refused" (spRe K tT tL) :=
  any_fn T0.d56 sc56 (fun vs H Q E ⟨_, _, _, _, _, _, _, h, _⟩ => by rw [h]; rfl) fun f cdv A outer s H E vs Q hr h => by
    obtain ⟨c, I, pp, pg, ps, vf, hT, rfl, ZP, ok, q⟩ := h
    have hu : (bX P w K mg base N56 "_law_refused" (defScope (topS 56)) f cdv A outer s H E).A.units + 64 < cLine := by have := hr.un; show (A.deeper _).units + 64 < cLine; omega
    refine sb_set 2 ok (ed_lst (ds := oddD) (ad_cons ed_non (ad_cons ed_int (ad_cons (ed_lst (ad_cons ed_int ad_nil)) (ad_cons (ed_tup (ad_cons (ed_neg ed_int) ad_nil)) (ad_cons (ed_tup (ad_cons ed_bl ad_nil)) (ad_cons (ed_tup (ad_cons ed_int (ad_cons ed_int (ad_cons ed_int ad_nil)))) (ad_cons ed_str (ad_cons ed_dict0 (ad_cons (ed_call0 ((f49 T0).mono (by decide)) hr ⟨rfl, rfl⟩) ad_nil))))))))) (by show 9 ≤ 100000; decide)) sc56.nd fun v2 H1 l1 h2 => ?_
    refine sb_set 3 l1.ok (ev_ixN (ed_var 2 rfl h2) (ev_draw (n := 9) ((f43 T0)) (hr.mono (by decide)) ZP (ev_var 0 rfl) ed_int (by decide) (by decide))) sc56.nd fun v3 H2 l2 h3 => ?_
    obtain ⟨i, hi, h3⟩ := h3
    have hto := getD_memL (d := PyData.none) hi
    generalize oddD.getD i .none = t at h3 hto
    refine sb_set 4 l2.ok (ev_any (ds := wrongD t) T0 (hr.mono (by decide)) ZP (ev_var 0 rfl) (ed_lst (ad_cons (ed_tup (ad_cons (ed_var 3 rfl h3) (ad_cons (ed_tup (ad_cons ed_int ad_nil)) ad_nil))) (ad_cons (ed_tup (ad_cons (ed_tup (ad_cons ed_int ad_nil)) (ad_cons (ed_tup (ad_cons ed_int ad_nil)) ad_nil))) (ad_cons (ed_tup (ad_cons (ed_tup (ad_cons ed_int ad_nil)) (ad_cons (ed_tup (ad_cons ed_int (ad_cons ed_int ad_nil))) ad_nil))) (ad_cons (ed_tup (ad_cons (ed_tup (ad_cons ed_int ad_nil)) (ad_cons (ed_lst (ad_cons ed_int ad_nil)) ad_nil))) (ad_cons (ed_tup (ad_cons (ed_tup (ad_cons ed_int ad_nil)) (ad_cons (ed_tup (ad_cons ed_bl ad_nil)) ad_nil))) (ad_cons (ed_tup (ad_cons (ed_tup (ad_cons ed_int ad_nil)) (ad_cons ed_non ad_nil))) ad_nil)))))) (by show 6 ≤ 100000; decide)) (by show 0 < 6; decide) (by show 6 < 1073741824; decide)) sc56.nd fun v4 H3 l3 h4 => ?_
    obtain ⟨i4, hi4, h4⟩ := h4
    have hw := getD_memL (d := PyData.none) hi4
    obtain ⟨x, y, hxy, cond, ox, oy⟩ := wrong_bad hto _ hw
    rw [hxy] at h4
    refine sb_set 5 l3.ok (ev_any (ds := numD) T0 (hr.mono (by decide)) ZP (ev_var 0 rfl) (ed_lst (ad_cons ed_int (ad_cons ed_int (ad_cons (ed_neg ed_int) (ad_cons ed_bl (ad_cons ed_non (ad_cons ed_str (ad_cons (ed_tup (ad_cons ed_int ad_nil)) ad_nil))))))) (by show 7 ≤ 100000; decide)) (by show 0 < 7; decide) (by show 7 < 1073741824; decide)) sc56.nd fun v5 H4 l4 h5 => ?_
    obtain ⟨i5, hi5, h5⟩ := h5
    obtain ⟨win, nq⟩ := num_bad _ (getD_memL (d := PyData.none) hi5)
    generalize numD.getD i5 .none = nm at h5 win nq
    have h4 := l4.dd h4
    have F51 : FnD P w K mg base CX0 9 "_law_learned" (spLL P w K mg base tT tL) := f51 T0 Z Y Tbb
    have flg : ∀ {σ : St} {H' : Hp} {x y z : Bool} {p1 p2 p3 p4 p5 p6 : Pos} {k1 k2 k3 k4 k5 : Nat}, ED (bX P w K mg base N56 "_law_refused" (defScope (topS 56)) f cdv A outer s H E) c I I (.Tuple [.Constant (.str "refused") k1 p1, .List [.Constant (.bool x) k2 p2, .Constant (.bool y) k3 p3, .Constant (.bool z) k4 p4] p5] k5 p6) σ H' (flagsD x y z) := ed_tup (ad_cons ed_str (ad_cons (ed_lst (ad_cons ed_bl (ad_cons ed_bl (ad_cons ed_bl ad_nil)))) ad_nil))
    refine sb_when (q := false) l4.ok (TV.is (tv_ne hu (ed_LL (T := fun _ => I) (J := I) (N := 0) (ans := fun _ => .none) (vf := vf) F51 hr hT (ev_var 1 rfl) (ed_ixT (i := 0) (ed_var 4 rfl h4) ed_int rfl) (ed_ixT (i := 1) (ed_var 4 rfl h4) ed_int rfl) (ed_var 5 rfl h5) (fun H1 l => ll_a cond ox oy nq) (fun _ _ _ h => h)) flg (GD.flags ..) (GD.flags ..) (by decide)) rfl) (fun z => nomatch z) fun _ H5 l5 => ?_
    refine sb_when (q := false) l5.ok (TV.is (tv_ne hu (ed_LL (T := fun _ => I) (J := I) (N := 0) (ans := fun _ => .none) (vf := vf) F51 hr hT (ev_var 1 rfl) (ed_tup (ad_cons ed_int ad_nil)) (ed_tup (ad_cons ed_int ad_nil)) (ed_var 5 rfl (l5.dd h5)) (fun H1 l => ll_b ⟨rfl, by decide, by decide, by decide⟩ (by decide) win nq) (fun _ _ _ h => h)) flg (GD.flags ..) (GD.flags ..) (by decide)) rfl) (fun z => nomatch z) fun _ H6 l6 => ?_
    refine sb_when (q := false) l6.ok (TV.is (tv_ne hu (ed_LL (T := fun _ => I) (J := I) (N := 0) (ans := fun _ => .none) (vf := vf) F51 hr hT (ev_var 1 rfl) (ed_tup (ad_cons ed_int ad_nil)) (ed_tup (ad_cons ed_int ad_nil)) (ed_var 5 rfl (l6.dd (l5.dd h5))) (fun H1 l => ll_b ⟨rfl, by decide, by decide, by decide⟩ (by decide) win nq) (fun _ _ _ h => h)) flg (GD.flags ..) (GD.flags ..) (by decide)) rfl) (fun z => nomatch z) fun _ H7 l7 => ?_
    refine sb_ret l7.ok (ED.is (ed_eqD hu (ed_LL (T := fun _ => I) (J := I) (N := 0) (ans := fun _ => .none) (vf := vf) F51 hr hT (ev_var 1 rfl) (ed_tup (ad_cons ed_int ad_nil)) (ed_tup (ad_cons ed_int ad_nil)) ed_int (fun H1 l => ll_c ⟨rfl, by decide, by decide, by decide⟩ (by decide) (by decide)) (fun _ _ _ h => h)) flg (GD.flags ..).pl (GD.flags ..).pl ((GD.flags ..).shaped (by decide)) ((GD.flags ..).shaped (by decide))) (by rfl)) fun v H8 l8 hv => q v H8 (l1.trans (l2.trans (l3.trans (l4.trans (l5.trans (l6.trans (l7.trans l8))))))) hv
end
end K93
set_option maxHeartbeats 4000000
/-! K93LA: rules for law itself. -/
namespace K93
open PySem PySem.Spec PyProof.Rows L2
section
variable {X : Cx} {c : Kx} {I J L : Ix c.pa} {σ : St} {H : Hp} {a b e f it elt : Expr} {es : List Expr} {pos p : Pos} {D : Ends} {body rest : List Stmt} {pp pg ps : Addr}
/-- a for over a range that is drawn -/
theorem sb_forR (j : Nat) {x : Str} {px p : Pos} {R : Nat → Prop} (ok : Ok c I H) (h : EV X c I J a σ H fun v _ => ∃ n : Nat, v = .int (n : Int) ∧ n ≤ 1000000 ∧ R n) (B : Bn X.mg) (hN : X.N.Nodup) (hp : PassesOwn (model X.prog X.w) X.A X.env X.xe)
    (k : ∀ n H1, R n → Le c J H H1 → ∃ (T : Nat → Ix c.pa) (Pv : Nat → St → Hp → Prop), Pv 0 σ H1 ∧ (∀ i σ' H', i ≤ n → Pv i σ' H' → Ex c.pa H1 H' ∧ Ok c (T i) H') ∧
      (∀ i v σ' H' H'', i < n → Pv i σ' H' → Gr H' H'' → DD X.K c.pa H'' v (.int (i : Int)) → SB X { D with nx := Pv (i + 1), ct := Pv (i + 1), bk := fun σ' H' => SB X D rest σ' H' } body (σ'.set j (some v)) H'') ∧ ∀ σ' H', Pv n σ' H' → SB X D rest σ' H')
    (hi : X.N[j]? = some x := by rfl) (hx : Loc X.env.scope x := by first | exact Or.inl rfl | exact Or.inr rfl) (hf : X.fn x = true ∨ X.env.scope.names.lookup x = some .local := by first | exact .inl rfl | exact .inr rfl)
    (hc : X.calm = true := by rfl) (hg : Gl X "range" := by rfl) (hs1 : starEach [a] X.env = [(false, eval a X.env)] := by rfl) (hs : ∀ x, foldedSetIterable (.Call (.Name "range" p) [a] [] pos) X.env x = pure x := by intro _; rfl) : SB X D (.For (.Name x px) (.Call (.Name "range" p) [a] [] pos) body [] pos' :: rest) σ H := by
  refine sb_of (ps_for hp hc (pi_range1 hg B.range paS hs1) (pg_name hN hi hx hf) pbS hs) ((av_cons h (fun _ _ _ _ w => w) av_nil hs1) H (.refl ok) _ fun vs H2 l2 w => ?_)
  obtain ⟨v, r, rfl, ⟨n, rfl, hn, hR⟩, rfl⟩ := w
  obtain ⟨T, Pv, k0, k1, k2, k3⟩ := k n H2 hR l2
  refine ⟨(n : Int), rfl, by omega, by omega, ?_⟩
  rw [Int.toNat_natCast]
  exact for_it walk_range Pv k0 (fun i σ' H' hi q => trivial) (fun i x σ' Ha Hb hi q yy => by
    obtain ⟨m1, m2⟩ := k1 i σ' Ha (Nat.le_of_lt hi) q
    obtain ⟨e1, e2⟩ := yy
    rw [e1, e2]
    exact k2 i _ σ' Ha Ha hi q (.inl rfl) (by show DD X.K c.pa Ha (.int (0 + (i : Int))) (.int (i : Int)); rw [Int.zero_add]; exact .int _)) k3
/-- or, the right one after what the left one did -/
theorem tv_orJ {j k : Bool} (h : TV X c I J a σ H j) (g : j = false → TV X c J J b σ H k) : TV X c I J (.BoolOp .Or [a, b] pos) σ H (j || k) :=
  tv_wv (wv_of (pw_or ptS pwS) fun H1 l Q q => h H1 l _ fun H2 l2 => by
    cases j with
    | true => exact q H2 l2
    | false => exact wv_or1 (g rfl) H2 (l.trans l2) Q fun H3 l3 => q H3 (l2.trans l3))
/-- a test in a smaller context -/
theorem TV.low {q : Addr} {I' : Ix (q :: c.pa)} {k : Bool} (h : ∀ H1, Le (c.up q) I' H H1 → ∃ (I0 : Ix c.pa) (u : HO), Ok c I0 H1 ∧ q ∉ c.pa ∧ H1 q = some u ∧ Mo u = true ∧ (∀ H2, Le c I0 H1 H2 → H2 q = some u → I'.P H2) ∧ TV X c I0 I0 e σ H1 k) : TV X (c.up q) I' I' e σ H k := fun H1 l Q k' => by
  obtain ⟨I0, u, ok, nq, hq, mu, hI, t⟩ := h H1 l
  refine t H1 (.refl ok) Q fun H2 l2 => k' H2 ?_
  have l3 := l2.lift (J := I0) nq hq mu
  exact ⟨l3.ex, l3.ok.imp fun _ => hI H2 l2 (l2.at hq (fun ps z => by rw [z] at mu; cases mu) nq), l3.fr⟩
/-- min of a list of ints -/
theorem ed_min {ns : List Int} {m : Int} (B : Bn X.mg) (hb : X.mg "min" = none) (ha : ED X c I J a σ H (.list (ns.map .int))) (hm : m ∈ ns) (hl : ∀ y ∈ ns, m ≤ y) (hc : X.calm = true := by rfl) (hg : Gl X "min" := by rfl) (he : starEach [a] X.env = (false, eval a X.env) :: starEach [] X.env := by rfl) : ED X c I J (.Call (.Name "min" p) [a] [] pos) σ H (.int m) :=
  ev_callB (cr_min hc) hb (by decide +kernel) (ad_cons ha ad_nil he) (fun vs H1 l w Q q => by
    obtain ⟨v, rfl, h⟩ := dds1 w
    obtain ⟨t, xs, rfl, h1, h2, h3⟩ := h.lstOf
    rw [h3.ints] at h1
    refine ⟨t, ns, rfl, .of h1, List.length_pos_of_mem hm, fun m' hm' hl' => ?_⟩
    have : m' = m := Int.le_antisymm (hl' m hm) (hl m' hm')
    rw [this]
    exact q _ H1 (.refl l.ok) (.int _)) hg (by decide) (by decide) he
/-- a if f else b, the test drawn -/
theorem ev_ifN {i : Int} {Pz : V → Hp → Prop} {f1 f2 : Expr} {fp : Pos} (hf1 : EV X c I J f1 σ H fun v _ => ∃ j : Int, v = .int j) (hf2 : ED X c J J f2 σ H (.int i)) (h1 : EV X c J L a σ H Pz) (h2 : EV X c J L b σ H Pz) (hm : behindInMarks .Eq f2 = false) : EV X c I L (.IfExp (.Compare f1 [.Eq] [f2] fp) a b pos) σ H Pz :=
  EV.of (pe_ifExp (ptS (X := X)) peS peS) fun H1 l Q q => ⟨fun pins s i' => (pt_cmpR op_eq (peS (X := X)) (peS (X := X)) hm).run pins s σ H1 _ i' (hf1 H1 l _ fun x H2 l2 w1 => hf2 H2 (l.trans l2) _ fun y H3 l3 w2 => by
    obtain ⟨j, rfl⟩ := w1
    rw [w2.intOf]
    refine ⟨rfl, ?_⟩
    refine ⟨_, rfl, ?_⟩
    have l23 := l2.trans l3
    generalize (decide (V.int j = V.int i)) = kk
    cases kk with
    | true => exact h1 H3 (l.trans l23) Q fun v H4 l4 => q v H4 (l23.trans l4)
    | false => exact h2 H3 (l.trans l23) Q fun v H4 l4 => q v H4 (l23.trans l4))⟩
end
end K93
set_option maxHeartbeats 4000000
/-! K93LB: more rules for law itself. -/
namespace K93
open PySem PySem.Spec PyProof.Rows L2
section
variable {X : Cx} {c : Kx} {I J L : Ix c.pa} {σ : St} {H : Hp} {a b e f it elt : Expr} {es : List Expr} {pos p : Pos} {n : Nat} {fz : Nat → PyData} {scope : Scope} {R R' : PyData → Prop} {pp pg ps : Addr}
/-- a comprehension of data that are not told to the letter -/
theorem ev_lcD (j : Nat) {x : Str} {px : Pos} (own : List (Str × Nat)) (w : IT X c I J (.Name x px) it σ H n fz) (hn : n ≤ 1000000) (hN : X.N.Nodup) (hfl : ∀ d, R d → fl d = true)
    (he : ∀ X', Blk X scope X' → ∀ i v Hb, i < n → Le c J H Hb → DD X.K c.pa Hb v (fz i) → EV X' c J J elt ((wipe σ (own.map (·.2))).set j (some v)) Hb fun u H' => ∃ d, R d ∧ DD X.K c.pa H' u d)
    (hsw : ∀ v, wipe ((wipe σ (own.map (·.2))).set j (some v)) (own.map (·.2)) = wipe σ (own.map (·.2)) := by intro _; rfl) (ok : BlkOk X.N X.env.scope scope own := by exact blkOk_by (by decide +kernel))
    (hi : X.N[j]? = some x := by rfl) (hx : Loc (compEnvC scope [] 0 X.env).scope x := by first | exact Or.inl rfl | exact Or.inr rfl) (hf : (scope.names.lookup x == some .cell) = true ∨ (compEnvC scope [] 0 X.env).scope.names.lookup x = some .local := by first | exact .inr rfl | exact .inl rfl) (hc : X.calm = true := by rfl)
    (hs : ∀ x, foldedSetIterable it X.env x = pure x := by intro _; rfl) : EV X c I J (.ListComp elt [⟨.Name x px, it, [], 0⟩] scope pos) σ H fun v H' => ∃ ds : List PyData, (ds.length = n ∧ ∀ d ∈ ds, R d) ∧ DD X.K c.pa H' v (.list ds) := by
  obtain ⟨wi, h1, h2⟩ := w
  refine EV.of (pe_lc (te := tEl X scope elt) (g := gName j) (tt := tYes) hc hN h1 ok (fun s H C cl fp => pg_name (X := X.blk s H scope (compEnvC scope cl C X.env) fp) hN hi hx hf) (fun s H C cl fp => pts_nil) (fun s H C cl fp => tEl_ok ⟨s, H, C, cl, fp, rfl⟩) hs) fun H1 l Q q => ?_
  refine h2 H1 l _ fun Jt H2 G Y l2 W gg y D hD => ?_
  have nD : D ∉ c.pa := l2.ok.npa hD
  refine lc_it W (fun i H' => ∃ (acc : List V) (ds : List PyData), H' D = some (.lst acc) ∧ Le c J H2 H' ∧ DDs X.K c.pa H' acc ds ∧ ds.length = i ∧ ∀ d ∈ ds, R d) ⟨[], [], upd_same, .new (.refl l2.ok) hD, .nil, rfl, fun _ z => nomatch z⟩ (fun i H' _ p => gg H' p.choose_spec.choose_spec.2.1.ex) (fun i x Ha Hb hi' p yy => ?_) fun H' p => ?_
  · obtain ⟨acc, ds, p1, p2, p3, p4, p5⟩ := p
    obtain ⟨z1, z2⟩ := y i Ha x Hb hi' p2.ex (fun T' hT => p2.ok.npa hT) yy
    have lab : Le c J Ha Hb := z1.le p2.ok
    have lb : Le c J H Hb := (l.trans l2).trans (p2.trans lab)
    have e4 : ∀ X', Blk X scope X' → tS X' elt ((wipe σ (own.map (·.2))).set j (some x)) Hb fun y H4 => ∃ acc, H4 D = some (.lst acc) ∧ acc.length < sizeLine ∧ ∃ (acc' : List V) (ds : List PyData), upd H4 D (.lst (acc ++ [y])) D = some (.lst acc') ∧ Le c J H2 (upd H4 D (.lst (acc ++ [y]))) ∧ DDs X.K c.pa (upd H4 D (.lst (acc ++ [y]))) acc' ds ∧ ds.length = i + 1 ∧ ∀ d ∈ ds, R d :=
      fun X' bl =>
      he X' bl i x Hb hi' lb z2 Hb (.refl lab.ok) _ fun y H4 l4 w => by
        obtain ⟨d, hd, dd⟩ := w
        have r1 : H4 D = some (.lst acc) := l4.lst (lab.lst p1 nD) nD
        have len : acc.length ≤ 1000000 := by rw [p3.length]; omega
        refine ⟨_, r1, Nat.lt_of_le_of_lt len (by decide), acc ++ [y], ds ++ [d], upd_same, .mut (p2.trans (lab.trans l4)) hD r1 rfl nD, ?_, by rw [List.length_append, p4]; rfl, fun m hm => ?_⟩
        · refine DDs.tups (upd_tups r1 (fun _ z => nomatch z)) _ _ ?_ ((l4.dds (lab.dds p3)).append (.cons dd .nil))
          refine fls_all fun d' hd' => ?_
          rcases List.mem_append.mp hd' with hm | hm
          · exact hfl _ (p5 _ hm)
          · rw [List.mem_singleton.mp hm]; exact hfl _ hd
        · rcases List.mem_append.mp hm with hm | hm
          · exact p5 m hm
          · rw [List.mem_singleton.mp hm]; exact hd
    refine ⟨hsw x, ?_⟩
    exact iteT (B := ∃ (acc : List V) (ds : List PyData), Hb D = some (.lst acc) ∧ Le c J H2 Hb ∧ DDs X.K c.pa Hb acc ds ∧ ds.length = i + 1 ∧ ∀ d ∈ ds, R d) e4
  · obtain ⟨acc, ds, p1, p2, p3, p4, p5⟩ := p
    exact q _ H' (l2.trans p2) ⟨ds, ⟨p4, p5⟩, .lst p1 nD p3⟩
/-- a list of one that is drawn -/
theorem ev_lst1X {e : Expr} (h : EV X c I J e σ H fun v H' => ∃ d, R d ∧ DD X.K c.pa H' v d) (hs : starEach [e] X.env = (false, eval e X.env) :: starEach [] X.env := by rfl) : EV X c I J (.List [e] pos) σ H fun v H' => ∃ d, R d ∧ DD X.K c.pa H' v (.list [d]) :=
  EV.of (pe_lst paS) fun H1 l Q q => (av_consX h ad_nil hs) H1 l _ fun vs H2 l2 ⟨d, hR, w⟩ => ⟨by rw [w.length]; show 1 ≤ _; decide, fun p hp => q _ _ (l2.new hp) ⟨d, hR, .lst upd_same (l2.ok.npa hp) ((Le.new (.refl l2.ok) hp).dds w)⟩⟩
/-- the sum of two lists that are drawn -/
theorem ev_catLX {A B : List PyData → Prop} (ha : EV X c I J a σ H fun v H' => ∃ ds, A ds ∧ DD X.K c.pa H' v (.list ds)) (hb : EV X c J L b σ H fun v H' => ∃ ds, B ds ∧ DD X.K c.pa H' v (.list ds)) (hl : ∀ ds es, A ds → B es → ds.length + es.length ≤ 100000) : EV X c I L (.BinOp a .Add b pos) σ H fun v H' => ∃ ds es, A ds ∧ B es ∧ DD X.K c.pa H' v (.list (ds ++ es)) :=
  ev_op op_cat ha hb (fun v H1 H2 l ⟨ds, h, d⟩ => ⟨ds, h, l.dd d⟩) fun x y H1 l ⟨ds, hA, p⟩ ⟨es, hB, q⟩ Q k => by
    obtain ⟨s, xs, rfl, h1, h2, h3⟩ := p.lstOf
    obtain ⟨t, ys, rfl, g1, g2, g3⟩ := q.lstOf
    refine ⟨s, t, xs, ys, rfl, rfl, h1, g1, by rw [h3.length, g3.length]; exact Nat.le_trans (hl ds es hA hB) (by decide), fun p hp => ?_⟩
    have n := Le.new (o := .lst (xs ++ ys)) (.refl l.ok) hp
    exact k _ _ n ⟨ds, es, hA, hB, .lst upd_same (l.ok.npa hp) (n.dds (h3.append g3))⟩
theorem PotX.ask {q : Addr} {m : q ∈ c.pa} {Pr : List Int → Prop} {n : Nat} (Z : PotX c I pp pg ps) (n1 : q ≠ pp) (n2 : q ≠ pg) : PotX c (askI I q m Pr n) pp pg ps :=
  ⟨Z.mp, Z.mg, Z.ms, Z.n1, Z.n2, Z.n3, fun H h => Z.pot H h.1, fun H H' ⟨p, xs, ks, h1, h2, h3⟩ k e t => ⟨Z.put H H' p k e t, xs, ks, (e q m n1 n2).trans h1, h2.mono fun x k ⟨a, e1, e2⟩ => ⟨a, e1, t _ _ e2⟩, h3⟩⟩
theorem askI_mono {pa : List Addr} {I : Ix pa} {q : Addr} {m : q ∈ pa} {Pr Pr' : List Int → Prop} {n n' : Nat} (h : ∀ k, Pr k → Pr' k) (hn : n ≤ n') {H : Hp} (z : (askI I q m Pr n).P H) : (askI I q m Pr' n').P H := by
  obtain ⟨p, xs, ks, h1, h2, h3, h4⟩ := z
  exact ⟨p, xs, ks, h1, h2, fun k hk => h k (h3 k hk), Nat.le_trans h4 hn⟩
end
theorem Sg.less {P : Program} {w : World} {K : PySem.W.Frag} {mg : Str → Option Value} {base : Heap} {k : Nat} {c : Kx} {T : Nat → Ix c.pa} {N N' : Nat} {Pr Pr' : List Int → Prop} {ans : List Int → PyData} {H0 : Hp} {v : V} (h : Sg P w K mg base k c T N Pr ans H0 v) (e : ∀ k, Pr' k → Pr k) (hn : N' ≤ N) : Sg P w K mg base k c T N' Pr' ans H0 v := by
  obtain ⟨f, h1, h2, h3⟩ := h.ex
  exact ⟨f, h1, h2, fun A outer s H b key i Q E a b' => h3 A outer s H b key i Q E (Nat.lt_of_lt_of_le a hn) (e key b')⟩
end K93
set_option maxHeartbeats 4000000
/-! K93PR: plain facts of law: the odd things, the wrong places, the bad inputs. -/
namespace K93
open PySem PySem.Spec PyProof.Rows L2
def repD (r : Nat) (d : PyData) : List PyData := List.replicate r d
def thD (r : Nat) : List PyData := [.none, .tuple (List.replicate (r + 1) (.int 0)), .list (List.replicate r (.int 0)), .tuple (List.replicate r (.int (-1))), .tuple (List.replicate r (.bool true)), .str "0", .int 0, .tuple (List.replicate r (.int 0))] ++ [.tuple (List.replicate r (.int 0)), dp 36, .tuple (List.replicate r (.int 5))]
structure OkV (d : PyData) : Prop where
  i : okI d
  g : GD 40 d
theorem gd_rep {k r : Nat} {d : PyData} (h : GD k d) : ∀ x ∈ List.replicate r d, GD k x := fun x hx => by rw [List.eq_of_mem_replicate hx]; exact h
theorem okI_rep {r : Nat} {d : PyData} (hr : r ≤ 1000) (h : noq d = true) : okI (.tuple (List.replicate r d)) := fun ds e => by
  cases e
  exact ⟨by rw [List.length_replicate]; omega, fun x hx => by rw [List.eq_of_mem_replicate hx]; exact h⟩
theorem okI_nt {d : PyData} (h : ∀ ds, d ≠ .tuple ds) : okI d := fun ds e => absurd e (h ds)
theorem th_ok {r : Nat} (hr : r ≤ 12) : ∀ d ∈ thD r, OkV d := fun d hd => by
  unfold thD at hd
  simp only [List.mem_append, List.mem_cons, List.not_mem_nil, or_false] at hd
  rcases hd with (rfl | rfl | rfl | rfl | rfl | rfl | rfl | rfl) | rfl | rfl | rfl
  · exact ⟨okI_nt fun _ z => (nomatch z), .non⟩
  · exact ⟨okI_rep (by omega) rfl, (GD.tup (k := 0) (gd_rep (.int _))).mono (by decide)⟩
  · exact ⟨okI_nt fun _ z => (nomatch z), (GD.lst (k := 0) (gd_rep (.int _))).mono (by decide)⟩
  · exact ⟨okI_rep (by omega) rfl, (GD.tup (k := 0) (gd_rep (.int _))).mono (by decide)⟩
  · exact ⟨okI_rep (by omega) rfl, (GD.tup (k := 0) (gd_rep (.bool _))).mono (by decide)⟩
  · exact ⟨okI_nt fun _ z => (nomatch z), .str (by decide +kernel)⟩
  · exact ⟨okI_nt fun _ z => (nomatch z), .int _⟩
  · exact ⟨okI_rep (by omega) rfl, (GD.tup (k := 0) (gd_rep (.int _))).mono (by decide)⟩
  · exact ⟨okI_rep (by omega) rfl, (GD.tup (k := 0) (gd_rep (.int _))).mono (by decide)⟩
  · exact ⟨(odd_bad _ (by unfold oddD; simp only [List.mem_cons, true_or, or_true])).2, (GD.dp 36).mono (by decide)⟩
  · exact ⟨okI_rep (by omega) rfl, (GD.tup (k := 0) (gd_rep (.int _))).mono (by decide)⟩
/-! ### the wrong places -/
theorem ex_min : ∀ W : List Nat, W ≠ [] → ∃ m ∈ W, ∀ y ∈ W, m ≤ y
  | [], h => absurd rfl h
  | [x], _ => ⟨x, List.mem_cons_self .., fun y hy => by rw [List.mem_singleton.mp hy]; exact Nat.le_refl _⟩
  | x :: y :: W, _ => by
    obtain ⟨m, hm, hl⟩ := ex_min (y :: W) (by simp)
    by_cases h : x ≤ m
    · refine ⟨x, List.mem_cons_self .., fun z hz => ?_⟩
      rcases List.mem_cons.mp hz with e | hz
      · omega
      · have := hl z hz
        omega
    · refine ⟨m, List.mem_cons_of_mem _ hm, fun z hz => ?_⟩
      rcases List.mem_cons.mp hz with e | hz
      · omega
      · exact hl z hz
section
variable {p : List Int → Bool} {gs : List (List Int)} {b1 b2 : Nat → Bool}
theorem wrong_mem {n i : Nat} : i ∈ trn n b1 ++ trn n b2 ↔ i < n ∧ (b1 i || b2 i) = true := by
  unfold trn
  rw [List.mem_append, List.mem_filter, List.mem_filter, List.mem_range, Bool.or_eq_true]
  constructor
  · rintro (⟨a, b⟩ | ⟨a, b⟩)
    · exact ⟨a, .inl b⟩
    · exact ⟨a, .inr b⟩
  · rintro ⟨a, b | b⟩
    · exact .inl ⟨a, b⟩
    · exact .inr ⟨a, b⟩
theorem firstI_no (h : ∀ i, i < gs.length → p (gs.getD i []) = (b1 i || b2 i)) (w : trn gs.length b1 ++ trn gs.length b2 = []) : firstI p 0 gs = .none := by
  refine firstI_none fun g hg => ?_
  obtain ⟨i, hi, rfl⟩ := List.mem_iff_getElem.mp hg
  have e : gs[i] = gs.getD i [] := by rw [List.getD_eq_getElem?_getD, List.getElem?_eq_getElem hi]; rfl
  rw [e, h i hi]
  cases hb : (b1 i || b2 i) with
  | false => rfl
  | true =>
    have := wrong_mem (b1 := b1) (b2 := b2).mpr ⟨hi, hb⟩
    rw [w] at this
    cases this
theorem firstI_min (h : ∀ i, i < gs.length → p (gs.getD i []) = (b1 i || b2 i)) {m : Nat} (hm : m ∈ trn gs.length b1 ++ trn gs.length b2) (hl : ∀ y ∈ trn gs.length b1 ++ trn gs.length b2, m ≤ y) : firstI p 0 gs = .int (m : Int) := by
  obtain ⟨h1, h2⟩ := wrong_mem.mp hm
  rw [firstI_at (j := m) h1 (fun g hg => ?_) (by rw [h m h1]; exact h2)]
  · rw [Nat.zero_add]
  · obtain ⟨i, hi, rfl⟩ := List.mem_iff_getElem.mp hg
    rw [List.length_take] at hi
    have e : (gs.take m)[i] = gs.getD i [] := by rw [List.getElem_take, List.getD_eq_getElem?_getD, List.getElem?_eq_getElem (by omega)]; rfl
    rw [e, h i (by omega)]
    cases hb : (b1 i || b2 i) with
    | false => rfl
    | true =>
      have := hl i (wrong_mem.mpr ⟨by omega, hb⟩)
      omega
end
section
variable {n forms : Nat} {bs ms : List Int} {rs : List (List (Int × List Int))} {m : List (List Int × PyData)}
theorem bad_eq (h : TbF n forms bs ms rs) {g : List Int} (hl : g.length = n) (hg : ∀ i ∈ g, 0 ≤ i ∧ i ≤ 100000) :
    badAt bs ms rs (ansG m bs ms rs) g = (((lkA m g).isSome && !PyData.eqv (ansG m bs ms rs g) (TI (rvI bs ms rs g))) || ((lkA m g).isSome && !areNums (ansG m bs ms rs g) (forms : Int))) := by
  obtain ⟨r, R, hr, hn⟩ := h.rv hl hg
  have e : (rs.getD 0 []).length = forms := h.rl _ (getD_memL (by
    obtain ⟨i, _, hi⟩ := R.at_
    have := (List.getElem?_eq_some_iff.mp hi).1
    omega))
  unfold badAt
  rw [e]
  cases hk : lkA m g with
  | none =>
    have ea : ansG m bs ms rs g = TI (rvI bs ms rs g) := by unfold ansG; rw [hk]; rfl
    rw [ea, hn, (GD.TI _).refl]
    rfl
  | some d =>
    show _ = ((true && _) || (true && _))
    rw [Bool.true_and, Bool.true_and, Bool.or_comm]
theorem ans_ok (h : TbF n forms bs ms rs) (hm : ∀ p ∈ m, OkV p.2) {g : List Int} (hl : g.length = n) (hg : ∀ i ∈ g, 0 ≤ i ∧ i ≤ 100000) : OkV (ansG m bs ms rs g) := by
  obtain ⟨r, R, hr, hn⟩ := h.rv hl hg
  have := h.f12
  unfold ansG
  cases hk : lkA m g with
  | none =>
    refine ⟨okI_TI ?_, (GD.TI _).mono (by decide)⟩
    rw [← rvR_I R]
    unfold rvR
    rw [List.length_map]
    omega
  | some d => exact hm _ (lkA_some_mem hk)
/-! ### bad inputs -/
def badL (L : List PyData) (n : Nat) : List PyData := [.none, .int 0, .str "", .dict [], .list (L ++ [.tuple (List.replicate (n + 1) (.int 0))]), .list (L ++ [.none]), .list [.list (List.replicate n (.int 0))], .tuple [.bool true], .dict []]
theorem bad_in {L : List PyData} {n : Nat} (hL : L.length ≤ 1000) (hok : ∀ e ∈ L, okI e) (hn : n ≤ 100) : ∀ d ∈ badL L n, inpOk d (n : Int) = false ∧ ∀ ds, itemsD d = some ds → ds.length ≤ 100000 ∧ ∀ e ∈ ds, okI e := fun d hd => by
  unfold badL at hd
  simp only [List.mem_cons, List.not_mem_nil, or_false] at hd
  rcases hd with rfl | rfl | rfl | rfl | rfl | rfl | rfl | rfl | rfl
  · exact ⟨rfl, fun ds e => (nomatch e)⟩
  · exact ⟨rfl, fun ds e => (nomatch e)⟩
  · exact ⟨rfl, fun ds e => (nomatch e)⟩
  · exact ⟨rfl, fun ds e => (nomatch e)⟩
  · refine ⟨?_, fun ds e => ?_⟩
    · show (L ++ [PyData.tuple (List.replicate (n + 1) (.int 0))]).all (fun e => areNums e (n : Int)) = false
      rw [List.all_append]
      have : areNums (.tuple (List.replicate (n + 1) (.int 0))) (n : Int) = false := by
        show (decide (((List.replicate (n + 1) (PyData.int 0)).length : Int) = (n : Int)) && _) = false
        rw [List.length_replicate, decide_eq_false (by omega)]
        rfl
      show (_ && (areNums (.tuple (List.replicate (n + 1) (.int 0))) (n : Int) && true)) = false
      rw [this, Bool.false_and, Bool.and_false]
    · cases e
      refine ⟨by rw [List.length_append]; show L.length + 1 ≤ _; omega, fun e he => ?_⟩
      rcases List.mem_append.mp he with he | he
      · exact hok e he
      · rw [List.mem_singleton.mp he]
        exact okI_rep (by omega) rfl
  · refine ⟨?_, fun ds e => ?_⟩
    · show (L ++ [PyData.none]).all (fun e => areNums e (n : Int)) = false
      rw [List.all_append]
      show (_ && (false && true)) = false
      rw [Bool.false_and, Bool.and_false]
    · cases e
      refine ⟨by rw [List.length_append]; show L.length + 1 ≤ _; omega, fun e he => ?_⟩
      rcases List.mem_append.mp he with he | he
      · exact hok e he
      · rw [List.mem_singleton.mp he]
        exact okI_nt fun _ z => (nomatch z)
  · refine ⟨rfl, fun ds e => ?_⟩
    cases e
    refine ⟨by show 1 ≤ 100000; decide, fun e he => ?_⟩
    rw [List.mem_singleton.mp he]
    exact okI_nt fun _ z => (nomatch z)
  · refine ⟨rfl, fun ds e => ?_⟩
    cases e
    refine ⟨by show 1 ≤ 100000; decide, fun e he => ?_⟩
    rw [List.mem_singleton.mp he]
    exact okI_nt fun _ z => (nomatch z)
  · exact ⟨rfl, fun ds e => (nomatch e)⟩
end
end K93
set_option maxHeartbeats 4000000
/-! K93LC: law, walked from the teller on. -/
namespace K93
open PySem PySem.Spec PyProof.Rows L2
abbrev N57 : List Str := ["_law_script", "_law_pot_here", "_law_many", "_law_results", "_law_made", "_law_bounds", "_law_measures", "_law_probes_here", "_law_odd", "_law_turn", "_law_place", "_law_things", "_law_asked", "_law_function", "_law_due_here", "_law_one", "_law_table_here", "_law_inputs", "_law_at", "_law_wrong", "_law_told", "_law_bad"]
theorem sc57 : FnScope N57 ["_law_script"] (defScope (topS 57)) := ⟨rfl, rfl, rfl, by decide +kernel, rfl, by decide +kernel, by decide +kernel⟩
section
variable {P : Program} {w : World} {K : PySem.W.Frag} {mg : Str → Option Value} {base : Heap} {cTM cBA cFA cNN cNB cNI cRE tT tL : Addr}
theorem ll_ok {c : Kx} {T : Nat → Ix c.pa} {N : Nat} {ans : List Int → PyData} {vf : V} {H : Hp} {bs ms : List Int} {r : Int} (B : BM bs ms) (mx : mc bs ms ≤ 1000) (r1 : 1 ≤ r) (r12 : r ≤ 12) (S : Sg P w K mg base 2 c T N (fun k => k ∈ probeL bs ms) ans H vf) (hN : (probeL bs ms).length ≤ N) (ho : ∀ k ∈ probeL bs ms, okI (ans k)) :
    LLok P w K mg base c T N ans vf (TI bs) (TI ms) (.int r) H (outD bs ms ans (lrnOut bs ms r ans)) :=
  ⟨okI_TI (by have := B.two; omega), okI_TI (by have := B.two; have := B.len; omega), rfl, fun z => (by rw [condA_BM B] at z; cases z), fun _ z => (by
    have z : (decide (1 ≤ r) && decide (r ≤ 12)) = false := z
    rw [decide_eq_true r1, decide_eq_true r12] at z
    cases z), fun b' m' e1 e2 _ => (by rw [← TI_inj e1, ← TI_inj e2]; omega), fun b' m' e1 e2 _ _ z => (by rw [← TI_inj e1, ← TI_inj e2] at z; omega), fun b' m' n' e1 e2 e3 _ _ _ _ => by
    cases e3
    cases TI_inj e1
    cases TI_inj e2
    exact ⟨S, hN, ho, rfl⟩⟩
theorem rows_of {Pz : List Int → Prop} : ∀ {ds : List PyData}, (∀ d ∈ ds, ∃ g, d = TI g ∧ Pz g) → ∃ gs : List (List Int), ds = gs.map TI ∧ ∀ g ∈ gs, Pz g
  | [], _ => ⟨[], rfl, fun _ z => nomatch z⟩
  | d :: ds, h => by
    obtain ⟨gs, e, hg⟩ := rows_of fun x hx => h x (List.mem_cons_of_mem _ hx)
    obtain ⟨g, eg, pg⟩ := h d (List.mem_cons_self ..)
    refine ⟨g :: gs, by rw [eg, e]; rfl, fun x hx => ?_⟩
    rcases List.mem_cons.mp hx with z | hx
    · rw [z]; exact pg
    · exact hg x hx
theorem lawC (T0 : Tx K mg) (Z : Xc P K mg cTM cBA cFA cNN cNB cNI cRE) (Y : Xe K cTM cBA cFA cNN cNB cNI cRE) (Tbb : Tb K mg base tT tL) (hmin : mg "min" = none) {f : Addr} {cdv : Value} {A : Around} {outer : List Env} {s : Shared} {H : Hp} {E : XK} {Q : VK} {v v4 v5 v6 : V} {w9 w10 w11 : Option V} {pp pg ps pA od pd : Addr} {c : Kx} {I : Ix c.pa} {H1 : Hp} {n r : Nat} {bs ms : List Int} {rs : List (List (Int × List Int))} {m : List (List Int × PyData)} {kvs pkv : List (List Int × V)}
    (hr : Room 10 (A.deeper (envOfC "law" (defScope (topS 57)) s.heap.objs.size f cdv))) (hT : c.T = kT tT tL) (ZP : PotX c I pp pg ps) (onl : ∀ p ∈ c.pa, p = pp ∨ p = pg ∨ p = ps) (nA : pA ∉ c.pa) (hA : H1 pA = some (.lst [])) (ok : Ok (c.up pA) (I.up pA) H1) (F : TbF n r bs ms rs) (hmo : ∀ p ∈ m, OkV p.2)
    (h4 : DD K (c.up pA).pa H1 v4 (tbD bs ms rs)) (h5 : DD K (c.up pA).pa H1 v5 (TI bs)) (h6 : DD K (c.up pA).pa H1 v6 (TI ms)) (nO : od ∉ (c.up pA).pa) (eo : H1 od = some (.dT (enT kvs))) (dm : DM K (c.up pA).pa H1 kvs m) (nP : pd ∉ (c.up pA).pa) (ep : H1 pd = some (.dT (enT pkv))) (dp : DM K (c.up pA).pa H1 pkv (prM bs ms)) (q : ∀ H1, Q (.bl true) H1) :
    SB (bX P w K mg base N57 "law" (defScope (topS 57)) f cdv A outer s H E) { nx := fun _ H' => Q .non H', rt := Q } ((defBody (topS 57)).drop 9) [some v, some (.ref pp), some (.int (n : Int)), some (.int (r : Int)), some v4, some v5, some v6, some (.ref pd), some (.ref od), w9, w10, w11, some (.ref pA), none, none, none, none, none, none, none, none, none] H1 := by
  have hu : (bX P w K mg base N57 "law" (defScope (topS 57)) f cdv A outer s H E).A.units + 64 < cLine := by have := hr.un; show (A.deeper _).units + 64 < cLine; omega
  have hu1 : (bX P w K mg base N57 "law" (defScope (topS 57)) f cdv A outer s H E).A.units + 1 < cLine := by omega
  have r1 := hr.mono (show 1 ≤ 10 by decide)
  have B := F.rows.bm
  have mx := F.rows.most
  have hok : ∀ k ∈ probeL bs ms, okI (ansG m bs ms rs k) := fun k hk => (ans_ok F hmo (F.probe hk).1 (F.probe hk).2).i
  have hrv : ∀ k ∈ probeL bs ms, lkA m k = none → ∃ r, RvOk bs ms rs k r := fun k hk _ => by
    obtain ⟨r, R, _⟩ := F.rv (F.probe hk).1 (F.probe hk).2
    exact ⟨r, R⟩
  have mA : pA ∈ (c.up pA).pa := List.mem_cons_self ..
  have nAp : pA ≠ pp := fun z => nA (z ▸ ZP.mp)
  have nAg : pA ≠ pg := fun z => nA (z ▸ ZP.mg)
  have okA : Ok (c.up pA) (askI (I.up pA) pA mA (fun k => k ∈ probeL bs ms) 0) H1 := ok.imp fun z => ⟨z, [], [], hA, .nil, fun _ z => (nomatch z), Nat.le_refl _⟩
  refine sb_set (J := askI (I.up pA) pA mA (fun k => k ∈ probeL bs ms) 0) (P := fun v H' => ∃ f d cl, v = .ref f ∧ H' f = some (NdefX.FnO f (gvF cl d)) ∧ H' d = some (LamX.CodeO d "_law_teller.<locals>._law_give") ∧ ClO cl frG [some (.ref pA), some (.ref od), some v4] H') 13 okA (ev_call (f52 Tbb) r1 (av_cons (ev_var 4 rfl) meq (av_cons (ev_var 12 rfl) meq (av_cons (ev_var 8 rfl) meq av_nil))) fun vs H2 l w Q' q' => ?_) sc57.nd fun v13 H2 l2 hv => ?_
  · obtain ⟨_, _, rfl, rfl, _, _, rfl, rfl, _, _, rfl, rfl, rfl⟩ := w
    exact ⟨c.up pA, _, _, pA, od, hT, rfl, l.ok, fun f d cl H3 l3 e1 e2 e3 => q' _ H3 l3 ⟨f, d, cl, rfl, e1, e2, e3⟩⟩
  obtain ⟨fv, dv, cl, rfl, ef, ed, ec⟩ := hv
  have h42 := l2.dd h4
  have h52 := l2.dd h5
  have h62 := l2.dd h6
  have eo2 := l2.at eo (fun _ z => nomatch z) nO
  have ep2 := l2.at ep (fun _ z => nomatch z) nP
  have dm2 := dm.mono l2.ex
  have dp2 := dp.mono l2.ex
  have hI : ∀ H H' : Hp, (I.up pA).P H → (∀ p ∈ (c.up pA).pa, p ≠ pA → H' p = H p) → (∀ b xs, H b = some (.tup xs) → H' b = some (.tup xs)) → (I.up pA).P H' := fun Ha Hb z e t => I.sta Ha Hb z (fun p hp => e p (List.mem_cons_of_mem _ hp) fun y => nA (y ▸ hp)) t
  have ok0 : ∀ Pr : List Int → Prop, Ok (c.up pA) (askI (I.up pA) pA mA Pr 0) H2 := fun Pr => l2.ok.imp fun ⟨z, xs, ks, e1, e2, e3, e4⟩ => ⟨z, xs, ks, e1, e2, fun k hk => (by rw [List.length_eq_zero_iff.mp (Nat.le_zero.mp e4)] at hk; exact nomatch hk), e4⟩
  have S1 : Sg P w K mg base 2 (c.up pA) (fun i => askI (I.up pA) pA mA (fun k => k ∈ probeL bs ms) (0 + i)) 5000 (fun k => k ∈ probeL bs ms) (ansG m bs ms rs) H2 (.ref fv) := sg_G T0 hI (ok0 _) ef ed ec nO eo2 dm2 h42 hrv (by decide)
  have S2 : Sg P w K mg base 2 (c.up pA) (fun i => askI (I.up pA) pA mA (fun k => k.length = n ∧ ∀ g ∈ k, 0 ≤ g ∧ g ≤ 100000) (5000 + i)) 6 (fun k => k.length = n ∧ ∀ g ∈ k, 0 ≤ g ∧ g ≤ 100000) (ansG m bs ms rs) H2 (.ref fv) := sg_G T0 hI (ok0 _) ef ed ec nO eo2 dm2 h42 (fun k hk _ => by
    obtain ⟨r, R, _⟩ := F.rv hk.1 hk.2
    exact ⟨r, R⟩) (by decide)
  have pl : (probeL bs ms).length ≤ 5000 := by
    have h1 : ((cells bs ms).length : Int) = mc bs ms := cellsI_len B bs.length (Nat.le_refl _)
    have := probe_len (bs := bs) (ms := ms) B.two
    omega
  have rr := F.f1
  have rr2 := F.f12
  refine sb_set (J := askI (I.up pA) pA mA (fun k => k ∈ probeL bs ms) 0) (P := fun v H' => DD K (c.up pA).pa H' v (outD bs ms (ansG m bs ms rs) (lrnOut bs ms (r : Int) (ansG m bs ms rs)))) 14 l2.ok (ev_call ((f54 T0).mono (show 3 ≤ 10 by decide)) hr (av_cons (ev_var 4 rfl) meq (av_cons (ev_var 8 rfl) meq (ad_cons (ed_var 3 rfl (.int (r : Int))) ad_nil))) fun vs H3 l w Q' q' => ?_) sc57.nd fun v14 H3 l3 h14 => ?_
  · obtain ⟨_, _, rfl, rfl, _, _, rfl, rfl, w⟩ := w
    obtain ⟨x, rfl, wx⟩ := dds1 w
    rw [wx.intOf]
    exact ⟨c.up pA, _, _, od, kvs, m, bs, ms, rs, r, rfl, l.ok, l.dd h42, nO, l.at eo2 (fun _ z => nomatch z) nO, dm2.mono l.ex, B, mx, by omega, hok, hrv, fun v H4 l4 d => q' v H4 l4 d⟩
  have h53 := l3.dd h52
  have h63 := l3.dd h62
  refine sb_when (J := askI (I.up pA) pA mA (fun k => k ∈ probeL bs ms) 5000) (q := false) l3.ok (TV.is (tv_orJ (j := false) (k := false) (TV.is (tv_ne hu (ed_LL (T := fun i => askI (I.up pA) pA mA (fun k => k ∈ probeL bs ms) (0 + i)) (J := askI (I.up pA) pA mA (fun k => k ∈ probeL bs ms) 5000) (N := 5000) (ans := ansG m bs ms rs) (vf := .ref fv) (f51 T0 Z Y Tbb) (hr.mono (by decide)) hT (ev_var 13 rfl) (ed_var 5 rfl h53) (ed_var 6 rfl h63) (ed_var 3 rfl (.int (r : Int))) (fun H4 l4 => ll_ok B mx (by omega) (by omega) (S1.mono (l3.trans l4).ex) pl hok) (fun i hi Ha z => askI_mono (fun _ h => h) (by omega) z)) (ed_var 14 rfl h14) (GD.outD ..) (GD.outD ..) (by decide)) (by rw [(GD.outD ..).refl]; rfl)) fun _ => ?_) rfl) (fun z => nomatch z) fun _ H4 l4 => ?_
  · refine TV.low fun H4 l4 => ?_
    obtain ⟨zI, xs, ks, e1, e2, e3, e4⟩ := l4.ok.inv
    have okc : Ok c I H4 := ⟨l4.ok.tab, fun p hp => l4.ok.live p (List.mem_cons_of_mem _ hp), zI⟩
    have l24 := l3.trans l4
    refine ⟨I, .lst xs, okc, nA, e1, rfl, fun H5 l5 e5 => ⟨l5.ok.inv, xs, ks, e5, e2.mono fun x k ⟨a, e1, e2⟩ => ⟨a, e1, l5.tup okc e2⟩, e3, e4⟩, ?_⟩
    have dA : DD K c.pa H4 (.ref pA) (.list (ks.map TI)) := .lst e1 nA (dds_TIv okc e2)
    have nPc : pd ∉ c.pa := fun z => nP (List.mem_cons_of_mem _ z)
    have ep4 := l24.at ep2 (fun _ z => nomatch z) nP
    have pk : ∀ k ∈ ks, (lkA pkv k).isSome = true := fun k hk => by
      rw [dp2.isSome, lkA_isSome, prM_keys]
      exact decide_eq_true (List.mem_append.mpr (probe_mem.mp (e3 k hk)))
    refine TV.is (tv_gt (ed_lenL T0.B (ed_lcx [("_law_one", 15)] (lc_If (J := I) 15 [("_law_one", 15)] (n := ks.length) (b := fun _ => false) (ef := fun i => TI (ks.getD i [])) (IT.len (it_list (ed_var 12 rfl dA)) (List.length_map _)) (by omega) (fun i hi => fl_TI _) sc57.nd (fun X' bl i v Hb hi l dv => ?_) fun X' bl i v Hb hi l dv z => nomatch z) sc57.nd (ok := blkOk_by (N := N57) (sc := defScope (topS 57)) (by decide +kernel)))) ed_int) ?_
    · obtain ⟨s', Hx, C, cl, fp, rfl⟩ := bl
      rw [getD_map (d := []) hi] at dv
      exact TV.is (tv_dnin (kvs := pkv) (by exact hu1) (ed_var 15 rfl dv) (ev_var 7 rfl) fun H6 l6 => (l.trans l6).at ep4 (fun _ z => nomatch z) nPc) (by rw [pk _ (getD_memL (d := []) hi)]; rfl)
    · rw [trn_any]
      exact List.any_eq_false.mpr fun x hx => by decide
  have l34 := l3.trans (l4.imp (J := askI (I.up pA) pA mA (fun k => k.length = n ∧ ∀ g ∈ k, 0 ≤ g ∧ g ≤ 100000) (5000 + 0)) fun z => askI_mono (fun k hk => F.probe hk) (by omega) z)
  generalize hJ2 : askI (I.up pA) pA mA (fun k => k.length = n ∧ ∀ g ∈ k, 0 ≤ g ∧ g ≤ 100000) (5000 + 0) = J2 at l34
  have ZP2 : PotX (c.up pA) J2 pp pg ps := hJ2 ▸ ZP.up.ask nAp nAg
  obtain ⟨C, fi, fk, fdi, fdk, Ct, Fi, Bi, Fk, Bk⟩ := T0.tb
  refine sb_set 16 l34.ok (ev_mk Ct (fTab T0 Fi) Bi Fk Bk (hr.mono (by decide)) (ad_cons (ed_var 5 rfl (l34.dd h52)) (ad_cons (ed_var 6 rfl (l34.dd h62)) (ad_cons (ed_ixT (i := 2) (ed_var 4 rfl (l34.dd h42)) ed_int rfl) ad_nil))) F.rows) sc57.nd fun v16 H5 l5 h16 => ?_
  have l35 := l34.trans l5
  have pne : 0 < ((probeL bs ms).map TI).length := by
    have h1 : ((cells bs ms).length : Int) = mc bs ms := cellsI_len B bs.length (Nat.le_refl _)
    have h2 : 1 ≤ mc bs ms := mcI_pos B bs.length (Nat.le_refl _)
    unfold probeL
    rw [List.length_map, srt_len, List.length_append]
    omega
  have pkl : pkv.map (·.1) = cells bs ms ++ gKeys bs ms := by rw [dp2.keys]; exact prM_keys bs ms
  have ep5 := l35.at ep2 (fun _ z => nomatch z) nP
  have n2 := F.n2
  refine sb_set (J := J2) (P := fun v H' => ∃ gs : List (List Int), gs.length = 6 ∧ (∀ g ∈ gs, g.length = n ∧ ∀ i ∈ g, 0 ≤ i ∧ i ≤ 100000) ∧ DD K (c.up pA).pa H' v (.list (gs.map TI))) 17 l5.ok ((ev_catLX (A := fun ds => ds.length = 5 ∧ ∀ d ∈ ds, ∃ g, d = TI g ∧ (g.length = n ∧ ∀ i ∈ g, 0 ≤ i ∧ i ≤ 100000)) (B := fun ds => ds.length = 1 ∧ ∀ d ∈ ds, ∃ g, d = TI g ∧ (g.length = n ∧ ∀ i ∈ g, 0 ≤ i ∧ i ≤ 100000))
    (ev_lcD (R := fun d => ∃ g, d = TI g ∧ (g.length = n ∧ ∀ i ∈ g, 0 ≤ i ∧ i ≤ 100000)) 9 [("_law_turn", 9)] (it_range (j := 5) T0.B ed_int (by decide)) (by decide) sc57.nd (fun d ⟨g, e, _⟩ => by rw [e]; exact fl_TI g) (fun X' bl i v Hb hi l dv => ?_) (ok := blkOk_by (N := N57) (sc := defScope (topS 57)) (by decide +kernel)))
    ((ev_lst1X (R := fun d => ∃ g, d = TI g ∧ (g.length = n ∧ ∀ i ∈ g, 0 ≤ i ∧ i ≤ 100000)) ((ev_any (ds := (probeL bs ms).map TI) T0 (hr.mono (by decide)) ZP2 (ev_var 1 rfl) (ED.is (ed_sortL (ks := cells bs ms ++ gKeys bs ms) (n := bs.length) T0.B hu (ED.is (ed_listD T0.B (ev_var 7 rfl) fun H1 l => l.at ep5 (fun _ z => nomatch z) nP) (by rw [pkl])) keys_len keys_one) rfl) pne (by rw [List.length_map]; omega)).imp fun v H1 _ ⟨i, hi, d⟩ => ?_)).imp fun v H1 _ ⟨d, hd, dd⟩ => ⟨[d], ⟨rfl, fun x hx => by rw [List.mem_singleton.mp hx]; exact hd⟩, dd⟩)
    (fun ds es h1 h2 => by have := h1.1; have := h2.1; omega)).imp fun v H1 _ ⟨ds, es, h1, h2, dd⟩ => ?_) sc57.nd fun v17 H6 l6 h17 => ?_
  · obtain ⟨s', Hx, C, cl, fp, rfl⟩ := bl
    refine ev_call (R := fun vs H' => vs = [.ref pp, .int (n : Int), .int 12]) ((f45 (P := P) (w := w) (base := base) T0).mono (show 2 ≤ 10 by decide)) hr (av_imp (av_cons (ev_var 1 rfl) meq (ad_cons (ed_var 2 rfl (.int (n : Int))) (ad_cons ed_int ad_nil))) fun vs H' ⟨x, y, e1, e2, w⟩ => ?_) fun vs H1 l1 w Q q => ?_
    · obtain ⟨a1, a2, rfl, w1, w2⟩ := dds2 w
      rw [e1, e2, w1.intOf, w2.intOf]
    · exact ⟨c.up pA, J2, pp, pg, ps, n, 12, w, ZP2, l1.ok, by omega, by decide, by decide, fun gs v H2 hl hb l2 d => q v H2 l2 ⟨_, ⟨gs, rfl, hl, fun i hi => by have := hb i hi; omega⟩, d⟩⟩
  · rw [List.length_map] at hi
    rw [getD_map (d := []) hi] at d
    exact ⟨_, ⟨_, rfl, F.probe (getD_memL hi)⟩, d⟩
  · obtain ⟨gs, e, hg⟩ := rows_of (ds := ds ++ es) (Pz := fun g => g.length = n ∧ ∀ i ∈ g, 0 ≤ i ∧ i ≤ 100000) fun d hd => (List.mem_append.mp hd).elim (h1.2 d) (h2.2 d)
    refine ⟨gs, ?_, hg, by rw [← e]; exact dd⟩
    have := congrArg List.length e
    rw [List.length_append, List.length_map, h1.1, h2.1] at this
    exact this.symm
  obtain ⟨gs, gl, hg, h17⟩ := h17
  have l36 := l35.trans l6
  have gat : ∀ i, i < 6 → (gs.map TI)[i]? = some (TI (gs.getD i [])) ∧ (gs.getD i []).length = n ∧ ∀ x ∈ gs.getD i [], 0 ≤ x ∧ x ≤ 100000 := fun i hi => by
    have hi : i < gs.length := by omega
    refine ⟨?_, hg _ (getD_memL hi)⟩
    rw [List.getElem?_map, List.getD_eq_getElem?_getD, List.getElem?_eq_getElem hi]
    rfl
  have eo6 := l36.at eo2 (fun _ z => nomatch z) nO
  have dm6 := dm2.mono l36.ex
  have h46 := l36.dd h42
  refine sb_lc 19 [("_law_at", 18)] l6.ok (lc_If (J := J2) 18 [("_law_at", 18)] (n := 6) (b := fun i => (lkA m (gs.getD i [])).isSome && !PyData.eqv (ansG m bs ms rs (gs.getD i [])) (TI (rvI bs ms rs (gs.getD i [])))) (ef := fun i => .int (i : Int)) (it_range (j := 6) T0.B ed_int (by decide)) (by decide) (fun i hi => fl_int _) sc57.nd (fun X' bl i v Hb hi l dv => ?_) fun X' bl i v Hb hi l dv _ => ?_) sc57.nd (fun v19 H7 l7 h19 => ?_) (ok := blkOk_by (N := N57) (sc := defScope (topS 57)) (by decide +kernel))
  · obtain ⟨s', Hx, C, cl, fp, rfl⟩ := bl
    obtain ⟨g1, g2, g3⟩ := gat i hi
    refine tv_and (j := (lkA m (gs.getD i [])).isSome) (TV.is (tv_din (kvs := kvs) (by exact hu1) (ed_ixL (i := i) (ed_var 17 rfl (l.dd h17)) (ed_var 18 rfl dv) g1) (ev_var 8 rfl) fun H1 l1 => (l.trans l1).at eo6 (fun _ z => nomatch z) nO) (by rw [dm6.isSome])) fun z => ?_
    obtain ⟨d', hd'⟩ := Option.isSome_iff_exists.mp z
    obtain ⟨v', hv', dv'⟩ := dm6.get hd'
    obtain ⟨r', R, _⟩ := F.rv g2 g3
    have ea : ansG m bs ms rs (gs.getD i []) = d' := by unfold ansG; rw [hd']; rfl
    rw [ea]
    refine tv_ne (k := 40) (by exact hu) (ed_dget (kvs := kvs) (by exact hu1) (ev_var 8 rfl) (ed_ixL (i := i) (ed_var 17 rfl (l.dd h17)) (ed_var 18 rfl dv) g1) (fun H1 l1 => (l.trans l1).at eo6 (fun _ z => nomatch z) nO) hv' fun H1 l1 => (l.trans l1).dd dv') (ED.is (ed_call ((f48 (P := P) (w := w) (base := base) T0).mono (show 1 ≤ 10 by decide)) hr (ad_cons (ed_var 4 rfl (l.dd h46)) (ad_cons (ed_ixL (i := i) (ed_var 17 rfl (l.dd h17)) (ed_var 18 rfl dv) g1) ad_nil)) ⟨_, _, _, _, r', rfl, R, rfl⟩) (by rw [rvR_I R])) (hmo _ (lkA_some_mem hd')).g ((GD.TI _).mono (by decide)) (by decide)
  · obtain ⟨s', Hx, C, cl, fp, rfl⟩ := bl
    exact ed_var 18 rfl dv
  refine sb_set 19 l7.ok (ed_catL (ed_var 19 rfl h19) (ed_lcx [("_law_at", 18)] (lc_If (J := J2) 18 [("_law_at", 18)] (n := 6) (b := fun i => (lkA m (gs.getD i [])).isSome && !areNums (ansG m bs ms rs (gs.getD i [])) (r : Int)) (ef := fun i => .int (i : Int)) (it_range (j := 6) T0.B ed_int (by decide)) (by decide) (fun i hi => fl_int _) sc57.nd (fun X' bl i v Hb hi l dv => ?_) fun X' bl i v Hb hi l dv _ => ?_) sc57.nd (ok := blkOk_by (N := N57) (sc := defScope (topS 57)) (by decide +kernel))) (by rw [List.length_map, List.length_map]; have := trn_len 6 (fun i => (lkA m (gs.getD i [])).isSome && !PyData.eqv (ansG m bs ms rs (gs.getD i [])) (TI (rvI bs ms rs (gs.getD i [])))); have := trn_len 6 (fun i => (lkA m (gs.getD i [])).isSome && !areNums (ansG m bs ms rs (gs.getD i [])) (r : Int)); omega)) sc57.nd fun v20 H8 l8 h20 => ?_
  · obtain ⟨s', Hx, C, cl, fp, rfl⟩ := bl
    obtain ⟨g1, g2, g3⟩ := gat i hi
    have l := l7.trans l
    refine tv_and (j := (lkA m (gs.getD i [])).isSome) (TV.is (tv_din (kvs := kvs) (by exact hu1) (ed_ixL (i := i) (ed_var 17 rfl (l.dd h17)) (ed_var 18 rfl dv) g1) (ev_var 8 rfl) fun H1 l1 => (l.trans l1).at eo6 (fun _ z => nomatch z) nO) (by rw [dm6.isSome])) fun z => ?_
    obtain ⟨d', hd'⟩ := Option.isSome_iff_exists.mp z
    obtain ⟨v', hv', dv'⟩ := dm6.get hd'
    have ea : ansG m bs ms rs (gs.getD i []) = d' := by unfold ansG; rw [hd']; rfl
    rw [ea]
    exact tv_not (tv_val (ed_call ((f53 (P := P) (w := w) (base := base) T0).mono (show 1 ≤ 10 by decide)) hr (ad_cons (ed_dget (kvs := kvs) (by exact hu1) (ev_var 8 rfl) (ed_ixL (i := i) (ed_var 17 rfl (l.dd h17)) (ed_var 18 rfl dv) g1) (fun H1 l1 => (l.trans l1).at eo6 (fun _ z => nomatch z) nO) hv' fun H1 l1 => (l.trans l1).dd dv') (ad_cons (ed_var 3 rfl (.int (r : Int))) ad_nil)) ⟨_, _, rfl, (hmo _ (lkA_some_mem hd')).i, rfl⟩))
  · obtain ⟨s', Hx, C, cl, fp, rfl⟩ := bl
    exact ed_var 18 rfl dv
  rw [← List.map_append] at h20
  have badE : ∀ i, i < gs.length → badAt bs ms rs (ansG m bs ms rs) (gs.getD i []) = (((lkA m (gs.getD i [])).isSome && !PyData.eqv (ansG m bs ms rs (gs.getD i [])) (TI (rvI bs ms rs (gs.getD i [])))) || ((lkA m (gs.getD i [])).isSome && !areNums (ansG m bs ms rs (gs.getD i [])) (r : Int))) := fun i hi => bad_eq F (gat i (by omega)).2.1 (gat i (by omega)).2.2
  have l38 := l36.trans (l7.trans l8)
  have h168 := (h16.mono l6.ex).mono (l7.trans l8).ex
  have h178 := (l7.trans l8).dd h17
  subst hJ2
  have inpY : ∀ d, (d = .list (gs.map TI) ∨ d = .tuple (gs.map TI)) → itemsD d = some (gs.map TI) := fun d h => by rcases h with rfl | rfl <;> rfl
  have allY : ∀ d, (d = .list (gs.map TI) ∨ d = .tuple (gs.map TI)) → inpOk d (bs.length : Int) = true := fun d h => by
    unfold inpOk
    rw [inpY d h]
    refine List.all_eq_true.mpr fun e he => ?_
    obtain ⟨g, hgm, rfl⟩ := List.mem_map.mp he
    obtain ⟨g2, g3⟩ := hg g hgm
    show (decide (((g.map PyData.int).length : Int) = (bs.length : Int)) && (g.map PyData.int).all isNum) = true
    rw [List.length_map, g2, F.lb, decide_eq_true rfl, Bool.true_and]
    refine List.all_eq_true.mpr fun x hx => ?_
    obtain ⟨y, hy, rfl⟩ := List.mem_map.mp hx
    exact decide_eq_true (g3 y hy).1
  refine sb_set (J := askI (I.up pA) pA mA (fun k => k.length = n ∧ ∀ g ∈ k, 0 ≤ g ∧ g ≤ 100000) (5000 + 6)) (P := fun v H' => DD K (c.up pA).pa H' v (firstI (badAt bs ms rs (ansG m bs ms rs)) 0 gs)) 20 l8.ok (ev_call ((f55 T0 Z Y).mono (show 7 ≤ 10 by decide)) hr (av_cons (ev_var 16 rfl) meq (av_cons (ev_var 13 rfl) meq (av_cons (P := fun v H' => ∃ d, (d = .list (gs.map TI) ∨ d = .tuple (gs.map TI)) ∧ DD K (c.up pA).pa H' v d) (ev_ifN ((ev_draw (n := 2) (f43 T0) r1 ZP2 (ev_var 1 rfl) ed_int (by decide) (by decide)).imp fun v H1 _ ⟨i, e, _⟩ => ⟨i, e⟩) ed_int ((ed_var 17 rfl h178).imp fun v H1 _ d => ⟨_, .inl rfl, d⟩) ((ed_tupleL T0.B (ed_var 17 rfl h178)).imp fun v H1 _ d => ⟨_, .inr rfl, d⟩) rfl) (fun v H1 H2 l ⟨d, h, dd⟩ => ⟨d, h, l.dd dd⟩) av_nil))) fun vs H9 l9 w Q' q' => ?_) sc57.nd fun v21 H9 l9 h21 => ?_
  · obtain ⟨_, _, rfl, rfl, _, _, rfl, rfl, vi, _, rfl, ⟨d, hd, dd⟩, rfl⟩ := w
    refine ⟨c.up pA, fun i => askI (I.up pA) pA mA (fun k => k.length = n ∧ ∀ g ∈ k, 0 ≤ g ∧ g ≤ 100000) (5000 + i), _, 6, ansG m bs ms rs, _, _, _, bs, ms, rs, d, gs, rfl, l9.ok, h168.mono l9.ex, dd, B.two, fun ds e => ?_, fun _ => ?_, fun i hi Ha z => askI_mono (fun _ h => h) (by omega) z, fun v H10 l10 dv => q' v H10 l10 ?_⟩
    · rw [inpY d hd] at e
      cases e
      refine ⟨by rw [List.length_map]; omega, fun e he => ?_⟩
      obtain ⟨g, hgm, rfl⟩ := List.mem_map.mp he
      exact okI_TI (by rw [(hg g hgm).1]; omega)
    · refine ⟨(S2.less (fun k hk => hg k hk) (Nat.le_refl _)).mono (l38.trans l9).ex, by omega, by omega, inpY d hd, fun g hgm => ⟨by rw [(hg g hgm).1, F.lb], fun i hi => ((hg g hgm).2 i hi).1⟩, fun g hgm => (ans_ok F hmo (hg g hgm).1 (hg g hgm).2).i, fun g hgm => ?_, ?_, fun r' hr' => by rw [F.rl r' hr']; omega⟩
      · obtain ⟨r', R, _⟩ := F.rv (hg g hgm).1 (hg g hgm).2
        exact ⟨r', R⟩
      · have hl := F.rows.len
        have h1 : ((cells bs ms).length : Int) = mc bs ms := cellsI_len B bs.length (Nat.le_refl _)
        have h2 : 1 ≤ mc bs ms := mcI_pos B bs.length (Nat.le_refl _)
        cases rs with
        | nil => simp only [List.length_nil] at hl; omega
        | cons r0 rs' => exact ⟨r0, rs', rfl⟩
    · unfold rfD at dv
      rw [if_pos (allY d hd)] at dv
      exact dv
  generalize hb1 : (fun i => (lkA m (gs.getD i [])).isSome && !PyData.eqv (ansG m bs ms rs (gs.getD i [])) (TI (rvI bs ms rs (gs.getD i [])))) = b1 at h20
  generalize hb2 : (fun i => (lkA m (gs.getD i [])).isSome && !areNums (ansG m bs ms rs (gs.getD i [])) (r : Int)) = b2 at h20
  have badE : ∀ i, i < gs.length → badAt bs ms rs (ansG m bs ms rs) (gs.getD i []) = (b1 i || b2 i) := fun i hi => by rw [badE i hi, ← hb1, ← hb2]
  have wl : (trn 6 b1 ++ trn 6 b2).length ≤ 12 := by
    have := trn_len 6 b1
    have := trn_len 6 b2
    rw [List.length_append]
    omega
  have gF : GD 1 (firstI (badAt bs ms rs (ansG m bs ms rs)) 0 gs) ∧ isBoo (firstI (badAt bs ms rs (ansG m bs ms rs)) 0 gs) = false ∧ noq (firstI (badAt bs ms rs (ansG m bs ms rs)) 0 gs) = true := by
    by_cases hw : trn 6 b1 ++ trn 6 b2 = []
    · rw [firstI_no badE (by rw [gl]; exact hw)]
      exact ⟨.non, rfl, rfl⟩
    · obtain ⟨mm, hm1, hm2⟩ := ex_min _ hw
      rw [firstI_min badE (by rw [gl]; exact hm1) (by rw [gl]; exact hm2)]
      exact ⟨.int _, rfl, rfl⟩
  have h209 := l9.dd h20
  have e20 : (trn 6 b1 ++ trn 6 b2).map (fun i : Nat => PyData.int (i : Int)) = ((trn 6 b1 ++ trn 6 b2).map fun i : Nat => (i : Int)).map PyData.int := by rw [List.map_map]; rfl
  refine sb_when (q := false) l9.ok (TV.is (tv_or (j := false) (k := false) (TV.is (tv_ne hu (ed_var 20 rfl h21) (d' := firstI (badAt bs ms rs (ansG m bs ms rs)) 0 gs) (ev_if (k := decide (0 < (((trn 6 b1 ++ trn 6 b2).map fun i : Nat => PyData.int (i : Int)).length : Int))) (tv_gt (ed_lenL T0.B (ed_var 19 rfl h209)) ed_int) (fun z => ?_) fun z => ?_) gF.1 gF.1 (by decide)) (by rw [gF.1.refl]; rfl)) fun _ => ?_) rfl) (fun z => nomatch z) fun _ H10 l10 => ?_
  · have hw : trn 6 b1 ++ trn 6 b2 ≠ [] := fun e => by rw [e] at z; cases z
    obtain ⟨mm, hm1, hm2⟩ := ex_min _ hw
    rw [firstI_min badE (by rw [gl]; exact hm1) (by rw [gl]; exact hm2)]
    refine ed_min (ns := (trn 6 b1 ++ trn 6 b2).map fun i : Nat => (i : Int)) T0.B hmin (ed_var 19 rfl (by rw [← e20]; exact h209)) (List.mem_map.mpr ⟨mm, hm1, rfl⟩) fun y hy => ?_
    obtain ⟨x, hx, rfl⟩ := List.mem_map.mp hy
    have := hm2 x hx
    omega
  · have hw : trn 6 b1 ++ trn 6 b2 = [] := by
      have z := of_decide_eq_false z
      rw [List.length_map] at z
      exact List.length_eq_zero_iff.mp (by omega)
    rw [firstI_no badE (by rw [gl]; exact hw)]
    exact ed_non
  · exact TV.is (tv_val (ed_isBoo T0.B gF.2.2 (ed_var 20 rfl h21))) gF.2.1
  generalize hJ3 : askI (I.up pA) pA mA (fun k => k.length = n ∧ ∀ g ∈ k, 0 ≤ g ∧ g ≤ 100000) (5000 + 6) = J3 at l9 l10
  have ZP3 : PotX (c.up pA) J3 pp pg ps := hJ3 ▸ ZP.up.ask nAp nAg
  have l810 := l9.trans l10
  have h1710 := l810.dd h178
  have h1610 := h168.mono l810.ex
  have hdT : DD K (c.up pA).pa H10 v16 (.dict []) := by
    obtain ⟨a, C, dx, vb, vm, vr, rfl, na, ha, _, _, _, _, hi, _⟩ := h1610.ex
    exact .opq (.inr ⟨C, dx, _, ha, hi⟩) na
  refine sb_set 21 l10.ok (ed_lst (ds := badL (gs.map TI) n) (ad_cons ed_non (ad_cons ed_int (ad_cons ed_str (ad_cons ed_dict0 (ad_cons (ed_catL (ed_var 17 rfl h1710) (ed_lst (ad_cons (ed_repT (k := n + 1) (ed_tup (ad_cons ed_int ad_nil)) (ED.is (ed_add (ed_var 2 rfl (.int (n : Int))) ed_int) rfl) (by omega) (by omega)) ad_nil)) (by rw [List.length_map, gl]; show 6 + 1 ≤ 100000; decide)) (ad_cons (ed_catL (ed_var 17 rfl h1710) (ed_lst (ad_cons ed_non ad_nil)) (by rw [List.length_map, gl]; show 6 + 1 ≤ 100000; decide)) (ad_cons (ed_lst (ad_cons (ed_repL (ed_lst (ad_cons ed_int ad_nil)) (ed_var 2 rfl (.int (n : Int))) (by omega)) ad_nil)) (ad_cons (ed_tup (ad_cons ed_bl ad_nil)) (ad_cons (ed_var 16 rfl hdT) ad_nil))))))))) (by show 9 ≤ 100000; decide)) sc57.nd fun v22 H11 l11 h22 => ?_
  have h1611 := h1610.mono l11.ex
  have bad := bad_in (L := gs.map TI) (n := n) (by rw [List.length_map]; omega) (fun e he => by
    obtain ⟨g, hgm, rfl⟩ := List.mem_map.mp he
    exact okI_TI (by rw [(hg g hgm).1]; omega)) (by omega)
  refine sb_ret (P := fun v H' => DD K (c.up pA).pa H' v (.bool (true && true))) l11.ok (ed_and (ED.is (ed_eqD hu (d := .str "inputs") (d' := .str "inputs") (ev_call (L := J3) ((f55 T0 Z Y).mono (show 7 ≤ 10 by decide)) hr (av_cons (ev_var 16 rfl) meq (av_cons (ev_var 13 rfl) meq (av_cons (ev_ixN (ed_var 21 rfl h22) (ev_draw (n := 9) (f43 T0) r1 ZP3 (ev_var 1 rfl) ed_int (by decide) (by decide))) (fun v H1 H2 l ⟨d, h, dd⟩ => ⟨d, h, l.dd dd⟩) av_nil))) fun vs H12 l12 w Q' q' => ?_) ed_str rfl rfl (by decide +kernel) (by decide +kernel)) (by rfl)) fun _ => ?_) fun v H12 l12 hv => by rw [hv.blOf]; exact q H12
  · obtain ⟨_, _, rfl, rfl, _, _, rfl, rfl, vi, _, rfl, ⟨i, hi, dd⟩, rfl⟩ := w
    obtain ⟨b1', b2'⟩ := bad _ (getD_memL hi)
    refine ⟨c.up pA, fun _ => J3, J3, 0, ansG m bs ms rs, _, _, _, bs, ms, rs, _, gs, rfl, l12.ok, h1611.mono l12.ex, dd, B.two, b2', fun z => ?_, fun _ _ _ z => z, fun v H13 l13 dv => q' v H13 l13 ?_⟩
    · rw [F.lb, b1'] at z
      cases z
    · unfold rfD at dv
      rw [F.lb, b1'] at dv
      exact dv
  · refine ev_call (X := bX P w K mg base N57 "law" (defScope (topS 57)) f cdv A outer s H E) (c := c.up pA) (I := J3) (J := J3) (L := J3) (f56 T0 Z Y Tbb) hr (av_cons (ev_var 1 rfl) meq (av_cons (ev_var 13 rfl) meq av_nil)) fun vs H12 l12 w Q' q' => ?_
    obtain ⟨_, _, rfl, rfl, _, _, rfl, rfl, rfl⟩ := w
    exact ⟨c.up pA, J3, pp, pg, ps, _, hT, rfl, ZP3, l12.ok, fun v H13 l13 dv => q' v H13 l13 dv⟩
end
end K93
set_option maxHeartbeats 4000000
/-! K93LW: law, walked. -/
namespace K93
open PySem PySem.Spec PyProof.Rows L2
def ixPot (pp pg ps : Addr) : Ix [pp, pg, ps] := ⟨potP pp pg ps, fun H H' ⟨gs, ss, t, u, h1, h2, h3, h4⟩ e _ => ⟨gs, ss, t, u, (e pp (by simp)).trans h1, (e pg (by simp)).trans h2, (e ps (by simp)).trans h3, h4⟩⟩
theorem potX {T : List NdefX.NTab} {pp pg ps : Addr} (n1 : pp ≠ pg) (n2 : pp ≠ ps) (n3 : pg ≠ ps) : PotX ⟨T, [pp, pg, ps]⟩ (ixPot pp pg ps) pp pg ps :=
  ⟨by simp, by simp, by simp, n1, n2, n3, fun _ h => h, fun _ _ _ h _ _ => h⟩
def ixT : Ix [] := ⟨fun _ => True, fun _ _ _ _ _ => trivial⟩
def mst (n : Nat) : Int := ([1, 9, 3] : List Int).getD n 1
def spLaw (K : PySem.W.Frag) (tT tL : Addr) : Sp := fun vs H Q _ => ∃ (sa : Addr) (ns : List Int), vs = [.ref sa] ∧ NdefX.TabsN (kT tT tL) H ∧ RdI K H sa ns ∧ ∀ H1, Q (.bl true) H1
section
variable {P : Program} {w : World} {K : PySem.W.Frag} {mg : Str → Option Value} {base : Heap} {cTM cBA cFA cNN cNB cNI cRE tT tL : Addr}
theorem lawB (T0 : Tx K mg) (Z : Xc P K mg cTM cBA cFA cNN cNB cNI cRE) (Y : Xe K cTM cBA cFA cNN cNB cNI cRE) (Tbb : Tb K mg base tT tL) (hmin : mg "min" = none) {f : Addr} {cdv : Value} {A : Around} {outer : List Env} {s : Shared} {H : Hp} {E : XK} {Q : VK} {v : V} {pp pg ps : Addr} {c : Kx} {I : Ix c.pa} {H1 : Hp}
    (hr : Room 10 (A.deeper (envOfC "law" (defScope (topS 57)) s.heap.objs.size f cdv))) (hT : c.T = kT tT tL) (ok : Ok c I H1) (ZP : PotX c I pp pg ps) (onl : ∀ p ∈ c.pa, p = pp ∨ p = pg ∨ p = ps) (q : ∀ H1, Q (.bl true) H1) :
    SB (bX P w K mg base N57 "law" (defScope (topS 57)) f cdv A outer s H E) { nx := fun _ H' => Q .non H', rt := Q } (defBody (topS 57)).tail ((start N57 [v]).set 1 (some (.ref pp))) H1 := by
  have hu : (bX P w K mg base N57 "law" (defScope (topS 57)) f cdv A outer s H E).A.units + 64 < cLine := by have := hr.un; show (A.deeper _).units + 64 < cLine; omega
  have hu1 : (bX P w K mg base N57 "law" (defScope (topS 57)) f cdv A outer s H E).A.units + 1 < cLine := by omega
  have r1 := hr.mono (show 1 ≤ 10 by decide)
  refine sb_set 2 ok (ev_draw (n := 3) (f43 T0) r1 ZP (ev_var 1 rfl) ed_int (by decide) (by decide)) sc57.nd fun v2 H2 l2 h2 => ?_
  obtain ⟨n', rfl, n0, n3⟩ := h2
  obtain ⟨n, rfl⟩ : ∃ n : Nat, n' = (n : Int) := ⟨n'.toNat, by omega⟩
  refine sb_set 3 l2.ok (ev_addN ed_int (ev_draw (n := 3) (f43 T0) r1 ZP (ev_var 1 rfl) ed_int (by decide) (by decide))) sc57.nd fun v3 H3 l3 h3 => ?_
  obtain ⟨m', rfl, m0, m3⟩ := h3
  obtain ⟨r, hr1⟩ : ∃ r : Nat, 1 + m' = (r : Int) := ⟨(1 + m').toNat, by omega⟩
  rw [hr1]
  have hm9 : 1 ≤ mst n ∧ mst n ≤ 9 ∧ ([1, 9, 3].map PyData.int)[n]? = some (.int (mst n)) := by
    have : n = 0 ∨ n = 1 ∨ n = 2 := by omega
    rcases this with rfl | rfl | rfl <;> exact ⟨by decide, by decide, rfl⟩
  refine sb_set (J := I) (P := fun v H' => ∃ bs ms rs, TbF n r bs ms rs ∧ DD K c.pa H' v (tbD bs ms rs)) 4 l3.ok (ev_call (f47 T0) (hr.mono (by decide)) (av_cons (ev_var 1 rfl) meq (ad_cons (ed_var 2 rfl (.int (n : Int))) (ad_cons (ed_var 3 rfl (.int (r : Int))) (ad_cons (ed_ixL (i := n) (ed_lst (ad_cons ed_int (ad_cons ed_int (ad_cons ed_int ad_nil)))) (ed_var 2 rfl (.int (n : Int))) hm9.2.2) (ad_cons ed_int ad_nil))))) fun vs H4 l w Q' q' => ?_) sc57.nd fun v4 H4 l4 h4 => ?_
  · obtain ⟨x, y, rfl, rfl, w⟩ := w
    cases w with
    | cons w1 w =>
    cases w with
    | cons w2 w =>
    cases w with
    | cons w3 w =>
    cases w with
    | cons w4 w =>
    cases w
    rw [w1.intOf, w2.intOf, w3.intOf, w4.intOf]
    exact ⟨c, I, pp, pg, ps, n, r, mst n, 6, rfl, ZP, l.ok, by omega, by omega, hm9.1, hm9.2.1, by decide, by decide, fun bs ms rs v H5 hR l5 dv => q' v H5 l5 ⟨bs, ms, rs, hR.f (by omega) hm9.2.1 (by omega) (by omega), dv⟩⟩
  obtain ⟨bs, ms, rs, F, h4⟩ := h4
  have B := F.rows.bm
  have mx := F.rows.most
  refine sb_set2 5 6 (d := TI bs) (d' := TI ms) l4.ok (ED.is (ed_slTo (k := 2) (ed_var 4 rfl h4) ed_int) rfl) sc57.nd fun v5 v6 H5 l5 h5 h6 => ?_
  refine sb_set (J := I) (P := fun v H' => ∃ p kvs, v = .ref p ∧ p ∉ c.pa ∧ H' p = some (.dT (enT kvs)) ∧ DM K c.pa H' kvs (prM bs ms)) 7 l5.ok (ev_call ((f50 T0).mono (by decide)) hr (ad_cons (ed_var 5 rfl h5) (ad_cons (ed_var 6 rfl h6) ad_nil)) fun vs H2 l2 w Q' q' => ?_) sc57.nd fun v7 H6 l6 hv => ?_
  · obtain ⟨x, y, rfl, w1, w2⟩ := dds2 w
    exact ⟨c, I, x, y, bs, ms, rfl, l2.ok, w1, w2, B, mx, fun a kvs H3 l3 h0 ea dm => q' _ H3 l3 ⟨a, kvs, rfl, l2.ok.npa h0, ea, dm⟩⟩
  obtain ⟨pd, pkv, rfl, np, ep, dp⟩ := hv
  have h4 := (l5.trans l6).dd h4
  have h5 := l6.dd h5
  have h6 := l6.dd h6
  refine sb_set 8 l6.ok ev_dnew sc57.nd fun v8 H7 l7 hv => ?_
  obtain ⟨od, rfl, h0, na, ha⟩ := hv
  have mo : od ∈ (c.up od).pa := List.mem_cons_self ..
  have nPo : pd ≠ od := ne_of_none ep h0
  have np1 : pd ∉ (c.up od).pa := fun z => (List.mem_cons.mp z).elim nPo np
  have pkl : pkv.map (·.1) = cells bs ms ++ gKeys bs ms := by rw [dp.keys]; exact prM_keys bs ms
  have ep7 := l7.at ep (fun _ z => nomatch z) np
  have pne : 0 < ((probeL bs ms).map TI).length := by
    have h1 : ((cells bs ms).length : Int) = mc bs ms := cellsI_len B bs.length (Nat.le_refl _)
    have h2 : 1 ≤ mc bs ms := mcI_pos B bs.length (Nat.le_refl _)
    unfold probeL
    rw [List.length_map, srt_len, List.length_append]
    omega
  have pla : ((probeL bs ms).map TI).length < 1073741824 := by
    have h1 : ((cells bs ms).length : Int) = mc bs ms := cellsI_len B bs.length (Nat.le_refl _)
    have := probe_len (bs := bs) (ms := ms) B.two
    rw [List.length_map]
    omega
  have srtL : ∀ {c' : Kx} {I' : Ix c'.pa} {H' : Hp} {σ' : St} {x1 x2 x3 : Pos} {y1 y2 : Pos}, pd ∉ c'.pa → H' pd = some (.dT (enT pkv)) → σ'[7]? = some (some (.ref pd)) → ED (bX P w K mg base N57 "law" (defScope (topS 57)) f cdv A outer s H E) c' I' I' (.Call (.Name "sorted" x1) [.Call (.Name "list" x2) [.Name "_law_probes_here" x3] [] y1] [] y2) σ' H' (.list ((probeL bs ms).map TI)) := fun np1 e hs => by
    refine ED.is (ed_sortL (ks := cells bs ms ++ gKeys bs ms) (n := bs.length) T0.B hu (ED.is (ed_listD T0.B (ev_var 7 hs) fun H1 l => l.at e (fun _ z => nomatch z) np1) (by rw [pkl])) keys_len keys_one) rfl
  have npp : od ≠ pp := fun z => na (z ▸ ZP.mp)
  have npg : od ≠ pg := fun z => na (z ▸ ZP.mg)
  refine sb_forR 9 (R := fun n => n ≤ 3) ((l7.ok.up ha rfl).pin mo ha) ((ev_draw (n := 3) (f43 T0) r1 (ZP.up.pin npp npg) (ev_var 1 rfl) ed_int (by decide) (by decide)).imp fun v H1 _ ⟨i, e, i0, i1⟩ => ⟨i.toNat, by rw [e, Int.toNat_of_nonneg i0], by omega, by omega⟩) T0.B sc57.nd never fun nT H8 hnT l8 => ?_
  refine ⟨fun _ => I.up od, fun i σ' H' => ∃ w9 w10 w11 kvs m, σ' = [some v, some (.ref pp), some (.int (n : Int)), some (.int (r : Int)), some v4, some v5, some v6, some (.ref pd), some (.ref od), w9, w10, w11, none, none, none, none, none, none, none, none, none, none] ∧ Le (c.up od) (I.up od) H8 H' ∧ H' od = some (.dT (enT kvs)) ∧ DM K (c.up od).pa H' kvs m ∧ m.length ≤ i ∧ ∀ p ∈ m, OkV p.2,
    ⟨none, none, none, [], [], rfl, .refl l8.ok.unpin, l8.ok.inv.2, .nil, Nat.zero_le _, fun _ z => nomatch z⟩, ?_, ?_, ?_⟩
  · rintro i σ' H' _ ⟨w9, w10, w11, kvs, m, rfl, lI, _⟩
    exact ⟨lI.ex, lI.ok⟩
  · rintro i u σ' H9 H10 hi ⟨w9, w10, w11, kvs, m, rfl, lI, eo, dm, hml, hmo⟩ g du
    have l10 := g.le lI.ok
    have l8' : Le (c.up od) (I.up od) H7 H10 := l8.unpin.trans (lI.trans l10)
    have ep10 := l8'.at ep7 (fun _ z => nomatch z) np1
    refine sb_set 10 (l10.ok.pin mo (g.at eo)) (ev_any (ds := (probeL bs ms).map TI) T0 (hr.mono (by decide)) (ZP.up.pin npp npg) (ev_var 1 rfl) (srtL np1 ep10 rfl) pne pla) sc57.nd fun v10 H11 l11 h10 => ?_
    obtain ⟨i10, hi10, h10⟩ := h10
    rw [List.length_map] at hi10
    rw [getD_map (d := []) hi10] at h10
    generalize (probeL bs ms).getD i10 [] = kk at h10
    refine sb_set 11 l11.ok (ed_lst (ds := [.none, .tuple (List.replicate (r + 1) (.int 0)), .list (List.replicate r (.int 0)), .tuple (List.replicate r (.int (-1))), .tuple (List.replicate r (.bool true)), .str "0", .int 0, .tuple (List.replicate r (.int 0))])
      (ad_cons ed_non (ad_cons (ed_repT (k := r + 1) (ed_tup (ad_cons ed_int ad_nil)) (ED.is (ed_add (ed_var 3 rfl (.int (r : Int))) ed_int) rfl) (by omega) (by omega)) (ad_cons (ed_repL (ed_lst (ad_cons ed_int ad_nil)) (ed_var 3 rfl (.int (r : Int))) (by omega)) (ad_cons (ed_repT (ed_tup (ad_cons (ed_neg ed_int) ad_nil)) (ed_var 3 rfl (.int (r : Int))) (by omega) (by omega)) (ad_cons (ed_repT (ed_tup (ad_cons ed_bl ad_nil)) (ed_var 3 rfl (.int (r : Int))) (by omega) (by omega)) (ad_cons ed_str (ad_cons ed_int (ad_cons (ed_repT (ed_tup (ad_cons ed_int ad_nil)) (ed_var 3 rfl (.int (r : Int))) (by omega) (by omega)) ad_nil)))))))) (by show 8 ≤ 100000; decide)) sc57.nd fun v11 H12 l12 h11 => ?_
    have dml := dm.len
    refine sb_dput (c := c.up od) (I := (I.up od).pin od mo (.dT (enT kvs))) (J := (I.up od).pin od mo (.dT (enT kvs))) (L := (I.up od).pin od mo (.dT (enT kvs))) (kvs := kvs) (k := kk) (P := fun v H' => ∃ d, OkV d ∧ DD K (c.up od).pa H' v d) hu1 l12.ok ((ev_ixN (ds := thD r) (ed_catL (ed_var 11 rfl h11) (ed_lst (ad_cons (ed_repT (ed_tup (ad_cons ed_int ad_nil)) (ed_var 3 rfl (.int (r : Int))) (by omega) (by omega)) (ad_cons (ed_call0 ((f49 T0).mono (by decide)) hr ⟨rfl, rfl⟩) (ad_cons (ed_repT (ed_tup (ad_cons ed_int ad_nil)) (ed_var 3 rfl (.int (r : Int))) (by omega) (by omega)) ad_nil))) (by show 3 ≤ 100000; decide)) (by show 8 + 3 ≤ 100000; decide)) (ev_draw (n := 11) (f43 T0) r1 (ZP.up.pin npp npg) (ev_var 1 rfl) ed_int (by decide) (by decide))).imp fun v H1 _ ⟨i, hi, d⟩ => ⟨_, th_ok (by omega) _ (getD_memL hi), d⟩) (ev_var 8 rfl) (ed_var 10 rfl (l12.dd h10)) (fun H1 (l : Le (c.up od) ((I.up od).pin od mo (.dT (enT kvs))) H12 H1) => l.ok.inv.2) (by omega) (fun v H1 H2 l ⟨d, h, dd⟩ => ⟨d, h, l.dd dd⟩) (fun w8 H13 l13 d13 => ?_) (mj := fun v H1 H2 l ⟨d, h, dd⟩ => ⟨d, h, l.dd dd⟩)
    obtain ⟨d, hd, d13⟩ := d13
    have lC : Le (c.up od) (I.up od) H9 H13 := l10.trans (l11.trans (l12.trans l13)).unpin
    have lD := Le.put (o' := .dT (enT (ptA kvs kk w8))) na lC l13.ok.inv.2 rfl rfl
    refine sb_nil ⟨_, _, _, ptA kvs kk w8, ptA m kk d, rfl, lI.trans lD, upd_same, ((dm.mono lC.ex).put d13).mono (Ex.chg mo), Nat.le_trans (ptA_len m kk d) (by omega), fun p hp => ?_⟩
    rcases ptA_mem hp with hp | rfl
    · exact hmo p hp
    · exact hd
  rintro σ' H9 ⟨w9, w10, w11, kvs, m, rfl, lI, eo, dm, hml, hmo⟩
  have l69 : Le c I H6 H9 := l7.down h0 (l8.unpin.trans lI)
  have dmc := dm.less (pb := c.pa) fun b hb => List.mem_cons_of_mem od hb
  have h4 := l69.dd h4
  have h5 := l69.dd h5
  have h6 := l69.dd h6
  have ep9 := l69.at ep (fun _ z => nomatch z) np
  have dp9 := dp.mono l69.ex
  clear l8 hnT lI hml dm h0 l7 ha ep7 nPo np1 mo
  refine sb_set 12 l69.ok ev_lnew sc57.nd fun v12 H10 l10 hv => ?_
  obtain ⟨pA, rfl, hA0, nA, hA⟩ := hv
  have mA : pA ∈ (c.up pA).pa := List.mem_cons_self ..
  have nAp : pA ≠ pp := fun z => nA (z ▸ ZP.mp)
  have nAg : pA ≠ pg := fun z => nA (z ▸ ZP.mg)
  have nOA : od ≠ pA := ne_of_none eo hA0
  have nPA : pd ≠ pA := ne_of_none ep9 hA0
  have nO2 : od ∉ (c.up pA).pa := fun z => (List.mem_cons.mp z).elim nOA na
  have nP2 : pd ∉ (c.up pA).pa := fun z => (List.mem_cons.mp z).elim nPA np
  have h4 := h4.upAt hA0 l10
  have h5 := h5.upAt hA0 l10
  have h6 := h6.upAt hA0 l10
  have eo10 := l10.at eo (fun _ z => nomatch z) na
  have ep10 := l10.at ep9 (fun _ z => nomatch z) np
  have dm10 : DM K (c.up pA).pa H10 kvs m := by
    refine PySem.W.EachIs.mono (fun p q h => ⟨h.1, h.2.upAt hA0 l10⟩) dmc
  have dp10 : DM K (c.up pA).pa H10 pkv (prM bs ms) := by
    refine PySem.W.EachIs.mono (fun p q h => ⟨h.1, h.2.upAt hA0 l10⟩) dp9
  exact lawC T0 Z Y Tbb hmin hr hT ZP onl nA hA (l10.ok.up hA rfl) F hmo h4 h5 h6 nO2 eo10 dm10 nP2 ep10 dp10 q
theorem f57 (T0 : Tx K mg) (Z : Xc P K mg cTM cBA cFA cNN cNB cNI cRE) (Y : Xe K cTM cBA cFA cNN cNB cNI cRE) (Tbb : Tb K mg base tT tL) {f : Addr} {fd : FuncData} (F57 : Fun K "law" "law" (topS 57) f fd) (hmin : mg "min" = none) : FnOk P w K mg base CX0 11 f fd ["_law_script"] (spLaw K tT tL) :=
  F57.ok sc57 (fun vs H Q E ⟨_, _, h, _⟩ => by rw [h]; rfl) fun cdv A outer s H vs Q E hr h => ⟨_, pbS, by
    obtain ⟨sa, ns, rfl, tab, hd, q⟩ := h
    have hu : (bX P w K mg base N57 "law" (defScope (topS 57)) f cdv A outer s H E).A.units + 64 < cLine := by have := hr.un; show (A.deeper _).units + 64 < cLine; omega
    have hu1 : (bX P w K mg base N57 "law" (defScope (topS 57)) f cdv A outer s H E).A.units + 1 < cLine := by omega
    have ok0 : Ok ⟨kT tT tL, []⟩ ixT H := ⟨tab, fun _ z => (nomatch z), trivial⟩
    refine sb_set (c := ⟨kT tT tL, []⟩) (J := ixT) (P := fun v H' => ∃ pp pg ps, v = .ref pp ∧ pp ≠ pg ∧ pp ≠ ps ∧ pg ≠ ps ∧ potP pp pg ps H') 1 ok0 (ev_call ((f42 T0).mono (by decide)) hr (av_cons (ev_var 0 rfl) (fun _ _ _ _ h => h) av_nil) fun vs H1 l w Q' q' => ?_) sc57.nd fun v1 H1 l1 h1 => ?_
    · obtain ⟨x, r, rfl, rfl, rfl⟩ := w
      exact ⟨⟨kT tT tL, []⟩, ixT, sa, ns, rfl, l.ok, rdi_mono l (by simp) hd, by simp, fun pp pg ps H2 l2 _ _ _ n1 n2 n3 h => q' _ H2 l2 ⟨pp, pg, ps, rfl, n1, n2, n3, h⟩⟩
    obtain ⟨pp, pg, ps, rfl, n1, n2, n3, hpot⟩ := h1
    have ok : Ok ⟨kT tT tL, [pp, pg, ps]⟩ (ixPot pp pg ps) H1 := ⟨l1.ok.tab, fun p hp => by
      obtain ⟨gs, ss, t, u, e1, e2, e3, _⟩ := hpot
      simp only [List.mem_cons, List.not_mem_nil, or_false] at hp
      rcases hp with rfl | rfl | rfl
      · exact ⟨_, e1, rfl⟩
      · exact ⟨_, e2, rfl⟩
      · exact ⟨_, e3, rfl⟩, hpot⟩
    exact lawB T0 Z Y Tbb hmin hr rfl ok (potX n1 n2 n3) (fun p hp => by simpa using hp) q⟩
end
end K93
set_option maxHeartbeats 0
/-! K93HD: the head. -/
namespace K93
open PySem PySem.Spec PyProof.Rows L2
abbrev RR : PySem.W.OpenRow := PySem.W.OpenLaw.row PySem.Challenge.rw_flatrounds_k93_whole_strangers_learned
def dd (i : Nat) (x : Str) : He.DefD := ⟨(x, none), x, x, defArgs (topS i), defBody (topS i), defScope (topS i), [], []⟩
def dm (x m q : Str) (k i : Nat) : He.DefD := ⟨(x, some m), m, q, defArgs (methS k i), defBody (methS k i), defScope (methS k i), [], []⟩
def fn1 : List He.DefD := [dd 10 "is_integer", dd 11 "is_within", dd 12 "is_number", dd 13 "are_numbers", dd 14 "check_number", dd 19 "are_bounds", dd 20 "are_measures", dd 21 "many_cells", dd 22 "cells_of", dd 23 "is_great", dd 24 "is_form", dd 25 "is_row", dd 28 "many_results", dd 29 "raw_cell", dd 30 "place_of", dd 31 "raw_row", dd 32 "form_value", dd 33 "raw_value", dd 34 "raised", dd 35 "row_by"]
def fn2 : List He.DefD := [dd 36 "made_by", dd 38 "raised_cells", dd 39 "learned", dd 40 "refuted", dd 42 "_law_pot", dd 43 "_law_draw", dd 44 "_law_any", dd 45 "_law_input", dd 46 "_law_cells", dd 47 "_law_table", dd 48 "_law_value", dd 49 "_law_deep", dd 50 "_law_probes", dd 51 "_law_learned", dd 52 "_law_teller", dd 53 "_law_is_answer", dd 54 "_law_due", dd 55 "_law_refuted", dd 56 "_law_refused", dd 57 "law"]
def fn3 : List He.DefD := [dm "Table" "__init__" "Table.__init__" 26 0, dm "Table" "keep" "Table.keep" 26 1, dm "RawTable" "__init__" "RawTable.__init__" 27 0, dm "RawTable" "keep" "Table.keep" 26 1]
def fnA : List He.DefD := fn1 ++ (fn2 ++ fn3)
def fa1 : List He.Fa := [.glo "is_integer", .glo "is_within", .glo "is_number", .glo "are_numbers", .glo "check_number", .glo "are_bounds", .glo "are_measures", .glo "many_cells", .glo "cells_of", .glo "is_great", .glo "is_form", .glo "is_row", .glo "many_results", .glo "raw_cell", .glo "place_of", .glo "raw_row", .glo "form_value", .glo "raw_value", .glo "raised", .glo "row_by"]
def fa2 : List He.Fa := [.glo "made_by", .glo "raised_cells", .glo "learned", .glo "refuted", .glo "_law_pot", .glo "_law_draw", .glo "_law_any", .glo "_law_input", .glo "_law_cells", .glo "_law_table", .glo "_law_value", .glo "_law_deep", .glo "_law_probes", .glo "_law_learned", .glo "_law_teller", .glo "_law_is_answer", .glo "_law_due", .glo "_law_refuted", .glo "_law_refused", .glo "law"]
def fa3 : List He.Fa := [.free "len", .free "range", .free "isinstance", .free "int", .free "bool", .free "tuple", .free "list", .free "all", .free "any", .free "zip", .free "sorted", .free "sum", .free "abs", .free "min", .free "enumerate", .free "super", .int "MOST_CELLS" 1000, .int "MOST_FORMS" 12, .int "MOST_NUMBERS" 2]
def fa4 : List He.Fa := [.glo "RoundError", .glo "TooMany", .glo "BadAnswer", .glo "Falling", .glo "NoNumber", .glo "NoBounds", .glo "NoInputs", .glo "Table", .glo "RawTable", .cls "Table", .noat "Table" "bounds", .noat "Table" "measures", .noat "Table" "rows", .meth "Table" "keep", .mkr "Table", .cls "RawTable", .noat "RawTable" "bounds", .noat "RawTable" "measures", .noat "RawTable" "rows", .meth "RawTable" "keep", .mkr "RawTable"]
def fa5 : List He.Fa := [.exc "NoNumber", .exc "NoBounds", .exc "NoInputs", .exm "BadAnswer" "BadAnswer" true, .exm "Falling" "BadAnswer" false, .exm "Falling" "Falling" true, .exm "NoInputs" "NoInputs" true, .exm "NoBounds" "BadAnswer" false, .exm "NoBounds" "Falling" false, .exm "NoBounds" "RoundError" true, .exm "NoNumber" "BadAnswer" false, .exm "NoNumber" "Falling" false, .exm "NoNumber" "RoundError" true, .exm "TooMany" "BadAnswer" false, .exm "TooMany" "Falling" false, .exm "TooMany" "RoundError" true]
def faA : List He.Fa := fa1 ++ (fa2 ++ (fa3 ++ (fa4 ++ fa5)))
def loose1 : List Str := ["__name__", "RoundError", "TooMany", "BadAnswer", "Falling", "BadTable", "NoNumber", "NoBounds", "NoInputs", "Table", "RawTable", "MOST_CELLS", "MOST_FORMS", "MOST_NUMBERS", "is_integer", "is_within", "is_number", "are_numbers", "check_number", "are_bounds", "are_measures", "many_cells", "cells_of", "is_great", "is_form", "is_row", "many_results", "raw_cell", "place_of", "raw_row"]
def loose2 : List Str := ["form_value", "raw_value", "raised", "row_by", "made_by", "raised_cells", "learned", "refuted", "_law_pot", "_law_draw", "_law_any", "_law_input", "_law_cells", "_law_table", "_law_value", "_law_deep", "_law_probes", "_law_learned", "_law_teller", "_law_is_answer", "_law_due", "_law_refuted", "_law_refused"]
def looseA : List Str := loose1 ++ loose2

end K93
set_option maxHeartbeats 4000000
/-! K93HE: what the top leaves, by looks at the heap. -/
namespace K93
open PySem PySem.Spec PyProof.Rows L2
/-! ### looks -/
def insB (K : PySem.W.Frag) (C : Addr) : Bool := He.eqO (PySem.W.findIn K (.ref C) "__class__") (some (some (.builtin "object.__class__"))) && (He.eqO (PySem.W.specialIn K (.builtin "object.__class__") "__get__") (some (some (.builtin "getset_descriptor.__get__"))) &&
  (decide (PySem.W.takesIn K (.builtin "object.__class__") = some true) && (decide (PySem.W.mroIn K C (.type "object") = some true) && (decide (PySem.W.kitOne K (.ref C) (.type "tuple") = some false) && decide (PySem.W.kitOne K (.ref C) (.type "list") = some false)))))
theorem insB_ok {K : PySem.W.Frag} {C : Addr} (c : Cls K C) (h : insB K C = true) : InsK K C := by
  obtain ⟨h1, h⟩ := He.ba h
  obtain ⟨h2, h⟩ := He.ba h
  obtain ⟨h3, h⟩ := He.ba h
  obtain ⟨h4, h⟩ := He.ba h
  obtain ⟨h5, h6⟩ := He.ba h
  exact ⟨c, He.eqO_ok h1, He.eqO_ok h2, of_decide_eq_true h3, of_decide_eq_true h4, of_decide_eq_true h5, of_decide_eq_true h6⟩
def excB (K : PySem.W.Frag) (C : Addr) : Bool := xfB K C && (He.eqO (PySem.W.findIn K (.ref C) "__class__") (some (some (.builtin "object.__class__"))) && (He.eqO (PySem.W.specialIn K (.builtin "object.__class__") "__get__") (some (some (.builtin "getset_descriptor.__get__"))) &&
  (decide (PySem.W.takesIn K (.builtin "object.__class__") = some true) && decide (PySem.W.mroIn K C (.type "object") = some true))))
theorem excB_ok {K : PySem.W.Frag} {C : Addr} (h : excB K C = true) : L2.ExcC K C := by
  obtain ⟨h0, h⟩ := He.ba h
  obtain ⟨h1, h⟩ := He.ba h
  obtain ⟨h2, h⟩ := He.ba h
  obtain ⟨h3, h4⟩ := He.ba h
  have x := xfB_ok h0
  exact ⟨x.ga, x.gg, x.exC, x.hdC, He.eqO_ok h1, He.eqO_ok h2, of_decide_eq_true h3, of_decide_eq_true h4⟩
/-- the class's object -/
def ocB (K : PySem.W.Frag) (C : Addr) : Bool := match K.lookup C with
  | some ⟨.type t, _, .cls cd, sl⟩ => (match cd.mro, sl.toList with
    | .ref D :: bm, [_, _, _, _, some (.builtin n), _] => t == "type" && (D == C && (n == "ValueError.__new__" && (!cd.hasDel && (cd.hasDict && PySem.HandSPX.refsVE bm))))
    | _, _ => false)
  | _ => false
theorem ocB_ok {K : PySem.W.Frag} {C : Addr} (h : ocB K C = true) : ∃ nm q N bs bm sn sub ab col dd k0 k1 k2 k3 k5, K.lookup C = some (excClassObj nm q C N bs bm true sn sub ab col dd k0 k1 k2 k3 k5 "ValueError.__new__") ∧ PySem.HandSPX.refsVE bm = true := by
  unfold ocB at h
  split at h
  · rename_i t dd cd sl ho
    split at h
    · rename_i D bm k0 k1 k2 k3 n k5 hm hs
      simp only [Bool.and_eq_true, beq_iff_eq, Bool.not_eq_true'] at h
      obtain ⟨rfl, rfl, rfl, hdel, hdct, hv⟩ := h
      obtain ⟨nm, bs, mro, ns, qn, hd, sn, sub, ab, col, del⟩ := cd
      dsimp only at hm hdel hdct
      subst hm hdel hdct
      have hsl : sl = #[k0, k1, k2, k3, some (.builtin "ValueError.__new__"), k5] := by
        obtain ⟨l⟩ := sl
        simp only at hs
        rw [hs]
      subst hsl
      exact ⟨nm, qn, ns, bs, bm, sn, sub, ab, col, dd, k0, k1, k2, k3, k5, ho, hv⟩
    · cases h
  · cases h
def oexB (K : PySem.W.Frag) (C : Addr) : Bool := ocB K C && (He.eqO (PySem.W.findIn K (.ref C) "__setattr__") (some (some (.builtin "object.__setattr__"))) && (decide (PySem.W.subIn K (.ref C) (.type "BaseException") = some true) && (decide (PySem.W.typeIn K (.ref C) = some (.type "type")) && PySem.W.keepIn K (.ref C))))
theorem oexB_ok {K : PySem.W.Frag} {C : Addr} (h : oexB K C = true) : OexC K C := by
  obtain ⟨h1, h⟩ := He.ba h
  obtain ⟨h2, h⟩ := He.ba h
  obtain ⟨h3, h⟩ := He.ba h
  obtain ⟨h4, h5⟩ := He.ba h
  exact ⟨ocB_ok h1, He.eqO_ok h2, of_decide_eq_true h3, of_decide_eq_true h4, h5⟩
/-! ### an exception's own __init__ -/
structure XD where
  x : Str
  qual : Str
  k : Nat
  f : Str
abbrev XW : Type := Option (Str × Str × Arguments × FuncBody × Scope × Addr × Value × Addr)
def xAd (K : PySem.W.Frag) (x : Str) : Addr := He.ma K (He.ga K x) "__init__"
def xW (K : PySem.W.Frag) (d : XD) : XW := match K.lookup (xAd K d.x) with
  | some ⟨_, _, .func fd, _⟩ => some (fd.name, fd.qualname, fd.params, fd.body, fd.scope, fd.globals, fd.defaults, fd.builtins)
  | _ => none
def XD.val (d : XD) : XW := some ("__init__", d.qual, defArgs (methS d.k 0), .stmts (defBody (methS d.k 0)), defScope (methS d.k 0), mainGlobals, .none, builtinsNs)
def fileB (K : PySem.W.Frag) (file : Str) (v : Value) : Bool := match v with
  | .ref a => (match K.lookup a with
    | some ⟨_, _, .fields vs, _⟩ => (match (vs[2]? : Option Value) with
      | some (.str nm _) => file == nm
      | _ => false)
    | _ => false)
  | _ => false
theorem fileB_ok {K : PySem.W.Frag} {file : Str} {v : Value} (h : fileB K file v = true) : ∃ a, v = .ref a ∧ ∃ ccl cdd vs ccs nm tk, K.lookup a = some ⟨ccl, cdd, .fields vs, ccs⟩ ∧ vs[2]? = some (.str nm tk) ∧ (file == nm) = true := by
  unfold fileB at h
  split at h
  · rename_i a
    split at h
    · rename_i ccl cdd vs ccs ho
      split at h
      · rename_i nm tk hv
        exact ⟨a, rfl, _, _, vs, _, nm, tk, ho, hv, h⟩
      · cases h
    · cases h
  · cases h
def cloB (K : PySem.W.Frag) (C : Addr) (cl : List (Str × Addr)) : Bool := match cl with
  | [(y, cc)] => (match K.lookup cc with
    | some ⟨_, _, .cell (some (.ref D)), _⟩ => D == C && decide (y = "__class__")
    | _ => false)
  | _ => false
theorem cloB_ok {K : PySem.W.Frag} {C : Addr} {cl : List (Str × Addr)} (h : cloB K C cl = true) : ∃ cc : Addr, cl = [(("__class__" : Str), cc)] ∧ ∃ c1 c2 c3, K.lookup cc = some ⟨c1, c2, .cell (some (.ref C)), c3⟩ := by
  unfold cloB at h
  split at h
  · rename_i y cc
    split at h
    · rename_i c1 c2 D c3 ho
      obtain ⟨h1, h2⟩ := He.ba h
      obtain rfl := beq_iff_eq.mp h1
      obtain rfl := of_decide_eq_true h2
      exact ⟨cc, rfl, _, _, _, ho⟩
    · cases h
  · cases h
def xfnB (K : PySem.W.Frag) (file : Str) (d : XD) : Bool := match K.lookup (xAd K d.x) with
  | some ⟨_, _, .func fd, _⟩ => PySem.W.codeIn K fd.code d.qual && (fileB K file fd.code && cloB K (He.ga K d.x) fd.closure)
  | _ => false
def xdB (K : PySem.W.Frag) (file : Str) (d : XD) : Bool := oexB K (He.ga K d.x) && (He.eqO (PySem.W.findIn K (.ref (He.ga K d.x)) "__init__") (some (some (.ref (xAd K d.x)))) && (decide (PySem.W.typeIn K (.ref (xAd K d.x)) = some (.type "function")) &&
  (He.eqO (PySem.W.ks_superIn K (He.ga K d.x) (He.ga K d.x) "__init__") (some (some (.builtin "ValueError.__init__"))) && (decide (PySem.W.subIn K (.ref (He.ga K d.x)) (.type "ValueError") = some true) && (decide (PySem.W.mroIn K (He.ga K d.x) (.ref (He.ga K d.x)) = some true) &&
  (He.eqO (PySem.W.findIn K (.ref (He.ga K d.x)) d.f) (some none) && (xfnB K file d && He.eqO (PySem.W.nsIn K cStatics "thirdparty.any") (some none))))))))
theorem xd_ok {P : Program} {K : PySem.W.Frag} {mg : Str → Option Value} {d : XD} (e : xW K d = d.val) (b : xdB K P.main.file d = true) (hm : mg d.x = some (.ref (He.ga K d.x))) (hs : mg "super" = none) (ht : (P.main.scope.names.lookup ("super" : Str)).isSome = false)
    (hb : ∀ (cc : Addr) (kV doc pm : Value) (an : Option Addr) (cdv ct : Value) (us : List Value), us.length = 2 → bindArgs (PySem.W.fnX "__init__" d.qual (defArgs (methS d.k 0)) (defBody (methS d.k 0)) (defScope (methS d.k 0)) [("__class__", cc)] .none kV doc pm an cdv ct) ⟨us, []⟩ = pure ((["self", d.f] : List Str).zip us)) :
    ∃ fI fd, ExS P K mg d.x (He.ga K d.x) fI fd d.qual (methS d.k 0) d.f := by
  obtain ⟨b1, b⟩ := He.ba b
  obtain ⟨b2, b⟩ := He.ba b
  obtain ⟨b3, b⟩ := He.ba b
  obtain ⟨b4, b⟩ := He.ba b
  obtain ⟨b5, b⟩ := He.ba b
  obtain ⟨b6, b⟩ := He.ba b
  obtain ⟨b7, b⟩ := He.ba b
  obtain ⟨b8, b9⟩ := He.ba b
  unfold xfnB at b8
  unfold xW at e
  cases q : K.lookup (xAd K d.x) with
  | none =>
    rw [q] at b8
    cases b8
  | some o =>
    obtain ⟨oc, od, dt, osl⟩ := o
    rw [q] at b8 e
    cases dt with
    | func fd =>
      obtain ⟨n1, n2, n3, n4, n5, n6, n7, n8, n9, n10, n11, n12, n13, n14, n15⟩ := fd
      have e2 : (some (n1, n2, n3, n4, n5, n6, n8, n15) : XW) = (some (("__init__" : Str), d.qual, defArgs (methS d.k 0), FuncBody.stmts (defBody (methS d.k 0)), defScope (methS d.k 0), mainGlobals, Value.none, builtinsNs) : XW) := e
      simp only [Option.some.injEq, Prod.mk.injEq] at e2
      obtain ⟨h1, h2, h3, h4, h5, h6, h7, h8⟩ := e2
      subst h1 h2 h3 h4 h5 h6 h7 h8
      have b10 : (PySem.W.codeIn K n13 d.qual && (fileB K P.main.file n13 && cloB K (He.ga K d.x) n7)) = true := b8
      obtain ⟨k1, k2⟩ := He.ba b10
      obtain ⟨k3, k4⟩ := He.ba k2
      obtain ⟨cda, rfl, k5⟩ := fileB_ok k3
      obtain ⟨cc, rfl, k6⟩ := cloB_ok k4
      exact ⟨_, _, oexB_ok b1, hm, ⟨oc, od, n9, n10, n11, n12, n14, osl, cda, cc, rfl, q, k1, k5, k6⟩, .all fun us hl => hb cc n9 n10 n11 n12 _ n14 us hl, He.eqO_ok b2, of_decide_eq_true b3, He.eqO_ok b4, of_decide_eq_true b5, of_decide_eq_true b6, He.eqO_ok b7, He.eqO_ok b9, hs, ht⟩
    | _ => cases b8
/-! ### all that is looked at -/
def xdL : List XD := [⟨"TooMany", "TooMany.__init__", 2, "most"⟩, ⟨"BadAnswer", "BadAnswer.__init__", 3, "at"⟩, ⟨"Falling", "Falling.__init__", 4, "at"⟩]
def tfL : List He.Defn := [("_law_teller", none), ("learned", none)]
def kitB (K : PySem.W.Frag) (x y : Str) (b : Bool) : Bool := decide (PySem.W.kitOne K (.ref (He.ga K x)) (.ref (He.ga K y)) = some b)
def exK (file : Str) (K : PySem.W.Frag) : Bool := (insB K (He.ga K "Table") && insB K (He.ga K "RawTable")) && ((excB K (He.ga K "NoBounds") && (excB K (He.ga K "NoNumber") && excB K (He.ga K "TooMany"))) && ((xfB K (He.ga K "BadAnswer") && xfB K (He.ga K "Falling")) &&
  ((xdL.all fun d => xdB K file d) && (!decide ((He.cT K ("_law_teller", none)).2 = (He.cT K ("learned", none)).2) &&
  ((kitB K "NoBounds" "NoBounds" true && (kitB K "NoBounds" "NoNumber" false && kitB K "NoBounds" "TooMany" false)) && ((kitB K "NoNumber" "NoBounds" false && (kitB K "NoNumber" "NoNumber" true && kitB K "NoNumber" "TooMany" false)) && (kitB K "TooMany" "NoBounds" false && (kitB K "TooMany" "NoNumber" false && kitB K "TooMany" "TooMany" true))))))))
def asK (g : Addr → Option Obj) : List Addr := cStatics :: He.asD g 6
def kG (g : Addr → Option Obj) : PySem.W.Frag := He.frT g (asK g)
abbrev AlK : Type := He.AlD × List XW × Bool
def obsL (g : Addr → Option Obj) (K : PySem.W.Frag) : AlK := (He.obsD faA fnA K, xdL.map (xW K), exK RR.prog.main.file K && He.tabsB g tfL K)
def obsK (g : Addr → Option Obj) : AlK := obsL g (kG g)
def valK : AlK := (He.valD fnA, xdL.map XD.val, true)
structure SaysK (h : Heap) (K : PySem.W.Frag) : Prop where
  d : He.SaysD faA fnA K
  x : xdL.map (xW K) = xdL.map XD.val
  ex : exK RR.prog.main.file K = true
  hd : ∀ p ∈ tfL, PySem.W.codeHdIn K (He.cT K p).1 (He.cT K p).2 = true
  out : ∀ p ∈ tfL, K.lookup (He.cT K p).2 = none
  empty : ∀ p ∈ tfL, h.get? (He.cT K p).2 = some { cls := .none, data := .fields #[] }
theorem says_of {h : Heap} (e : obsK h.get? = valK) : SaysK h (kG h.get?) := by
  have e1 : He.obsD faA fnA (kG h.get?) = He.valD fnA := congrArg (fun z : AlK => z.1) e
  have e2 : xdL.map (xW (kG h.get?)) = xdL.map XD.val := congrArg (fun z : AlK => z.2.1) e
  have e3 : (exK RR.prog.main.file (kG h.get?) && He.tabsB h.get? tfL (kG h.get?)) = true := congrArg (fun z : AlK => z.2.2) e
  obtain ⟨h1, h2⟩ := He.ba e3
  have key : ∀ p ∈ tfL, PySem.W.codeHdIn (kG h.get?) (He.cT (kG h.get?) p).1 (He.cT (kG h.get?) p).2 = true ∧ ∃ o, h.get? (He.cT (kG h.get?) p).2 = some o ∧ He.emptyTab o = true := fun p hp => by
    obtain ⟨h3, h4⟩ := He.ba (List.all_eq_true.mp h2 p hp)
    refine ⟨h3, ?_⟩
    cases q : h.get? (He.cT (kG h.get?) p).2 with
    | none =>
      rw [q] at h4
      cases h4
    | some o =>
      rw [q] at h4
      exact ⟨o, rfl, h4⟩
  exact ⟨e1, e2, h1, fun p hp => (key p hp).1, fun p hp => by
    obtain ⟨_, o, q, z⟩ := key p hp
    exact He.frT_none q z, fun p hp => by
    obtain ⟨_, o, q, z⟩ := key p hp
    rw [q, He.emptyTab_eq z]⟩
def hookK : PySem.W.Hook where
  α := AlK
  obs := fun s => obsK s.heap.get?
  val := fun _ => valK
  says := fun _ h => ∃ K : PySem.W.Frag, K.In h ∧ SaysK h K
  of := fun _ _ e => ⟨_, He.frT_in, says_of e⟩
  keeps := fun _ _ _ ⟨K, hK, c⟩ k => ⟨K, PySem.W.Frag.In.keeps hK k, ⟨c.d, c.x, c.ex, c.hd, c.out, fun p hp => k _ _ (c.empty p hp)⟩⟩
def obK (s : PySem.W.SharedT) : AlK := obsK (HandSHeadRun.getT s)
theorem obK_eq (s : PySem.W.SharedT) : obK s = hookK.obs s.abs := by
  have e : HandSHeadRun.getT s = s.abs.heap.get? := funext (HandSHeadRun.getT_eq s)
  unfold obK
  rw [e]
  rfl
abbrev qq : Program := PySem.W.view RR.prog [57]
end K93
set_option maxHeartbeats 0
/-! K93HF: the run of the top. -/
namespace K93
open PySem PySem.Spec PySem.W PyProof.Rows L2 HandSHeadRun
theorem runK (w : World) : RunEq RR qq hookK obK 20000 looseA w := by
  intro os
  kernel_rfl
end K93
set_option maxHeartbeats 4000000
/-! K93HG: the facts that the walk leans on, from the looks. -/
namespace K93
open PySem PySem.Spec PyProof.Rows L2
section
variable {P : Program} {w : World} {K : PySem.W.Frag} {mg : Str → Option Value} {base h : Heap}
theorem df_of {x : Str} {i : Nat} {ps : List Str} {fd : FuncData} (F : FunD K x x (defArgs (topS i)) (defBody (topS i)) (defScope (topS i)) [] [] (He.ga K x) fd) (hm : mg x = some (.ref (He.ga K x)))
    (hb : ∀ (kV doc pm : Value) (an : Option Addr) (cdv ct : Value) (us : List Value), us.length = ps.length → bindArgs (PySem.W.fnOf x x (defArgs (topS i)) (defBody (topS i)) (defScope (topS i)) .none kV doc pm an cdv ct) ⟨us, []⟩ = pure (ps.zip us)) : Df K mg x (topS i) ps :=
  ⟨_, fd, He5.fun_of F, hm, F.bindsN hb⟩

theorem t10 (X : K.In h) (G : h.Ns mainGlobals mg) (c : He.SaysD faA fnA K) : Df K mg "is_integer" (topS 10) ["thing"] := by
  obtain ⟨fd, F⟩ := c.def_ 0 (d := dd 10 "is_integer") rfl
  exact df_of F (He.glo_ok X G (c.fact 0 (f := .glo "is_integer") rfl)) fun _ _ _ _ _ _ us hl => match us, hl with | [_], _ => rfl

theorem t11 (X : K.In h) (G : h.Ns mainGlobals mg) (c : He.SaysD faA fnA K) : Df K mg "is_within" (topS 11) ["thing", "least", "most"] := by
  obtain ⟨fd, F⟩ := c.def_ 1 (d := dd 11 "is_within") rfl
  exact df_of F (He.glo_ok X G (c.fact 1 (f := .glo "is_within") rfl)) fun _ _ _ _ _ _ us hl => match us, hl with | [_, _, _], _ => rfl

theorem t12 (X : K.In h) (G : h.Ns mainGlobals mg) (c : He.SaysD faA fnA K) : Df K mg "is_number" (topS 12) ["thing"] := by
  obtain ⟨fd, F⟩ := c.def_ 2 (d := dd 12 "is_number") rfl
  exact df_of F (He.glo_ok X G (c.fact 2 (f := .glo "is_number") rfl)) fun _ _ _ _ _ _ us hl => match us, hl with | [_], _ => rfl

theorem t13 (X : K.In h) (G : h.Ns mainGlobals mg) (c : He.SaysD faA fnA K) : Df K mg "are_numbers" (topS 13) ["thing", "many"] := by
  obtain ⟨fd, F⟩ := c.def_ 3 (d := dd 13 "are_numbers") rfl
  exact df_of F (He.glo_ok X G (c.fact 3 (f := .glo "are_numbers") rfl)) fun _ _ _ _ _ _ us hl => match us, hl with | [_, _], _ => rfl

theorem t19 (X : K.In h) (G : h.Ns mainGlobals mg) (c : He.SaysD faA fnA K) : Df K mg "are_bounds" (topS 19) ["thing"] := by
  obtain ⟨fd, F⟩ := c.def_ 5 (d := dd 19 "are_bounds") rfl
  exact df_of F (He.glo_ok X G (c.fact 5 (f := .glo "are_bounds") rfl)) fun _ _ _ _ _ _ us hl => match us, hl with | [_], _ => rfl

theorem t20 (X : K.In h) (G : h.Ns mainGlobals mg) (c : He.SaysD faA fnA K) : Df K mg "are_measures" (topS 20) ["thing", "many"] := by
  obtain ⟨fd, F⟩ := c.def_ 6 (d := dd 20 "are_measures") rfl
  exact df_of F (He.glo_ok X G (c.fact 6 (f := .glo "are_measures") rfl)) fun _ _ _ _ _ _ us hl => match us, hl with | [_, _], _ => rfl

theorem t21 (X : K.In h) (G : h.Ns mainGlobals mg) (c : He.SaysD faA fnA K) : Df K mg "many_cells" (topS 21) ["bounds", "measures"] := by
  obtain ⟨fd, F⟩ := c.def_ 7 (d := dd 21 "many_cells") rfl
  exact df_of F (He.glo_ok X G (c.fact 7 (f := .glo "many_cells") rfl)) fun _ _ _ _ _ _ us hl => match us, hl with | [_, _], _ => rfl

theorem t22 (X : K.In h) (G : h.Ns mainGlobals mg) (c : He.SaysD faA fnA K) : Df K mg "cells_of" (topS 22) ["bounds", "measures"] := by
  obtain ⟨fd, F⟩ := c.def_ 8 (d := dd 22 "cells_of") rfl
  exact df_of F (He.glo_ok X G (c.fact 8 (f := .glo "cells_of") rfl)) fun _ _ _ _ _ _ us hl => match us, hl with | [_, _], _ => rfl

theorem t23 (X : K.In h) (G : h.Ns mainGlobals mg) (c : He.SaysD faA fnA K) : Df K mg "is_great" (topS 23) ["bounds", "cell", "k"] := by
  obtain ⟨fd, F⟩ := c.def_ 9 (d := dd 23 "is_great") rfl
  exact df_of F (He.glo_ok X G (c.fact 9 (f := .glo "is_great") rfl)) fun _ _ _ _ _ _ us hl => match us, hl with | [_, _, _], _ => rfl

theorem t14 (X : K.In h) (G : h.Ns mainGlobals mg) (c : He.SaysD faA fnA K) : Df K mg "check_number" (topS 14) ["thing", "least", "most"] := by
  obtain ⟨fd, F⟩ := c.def_ 4 (d := dd 14 "check_number") rfl
  exact df_of F (He.glo_ok X G (c.fact 4 (f := .glo "check_number") rfl)) fun _ _ _ _ _ _ us hl => match us, hl with | [_, _, _], _ => rfl

theorem t24 (X : K.In h) (G : h.Ns mainGlobals mg) (c : He.SaysD faA fnA K) : Df K mg "is_form" (topS 24) ["thing", "bounds", "cell"] := by
  obtain ⟨fd, F⟩ := c.def_ 10 (d := dd 24 "is_form") rfl
  exact df_of F (He.glo_ok X G (c.fact 10 (f := .glo "is_form") rfl)) fun _ _ _ _ _ _ us hl => match us, hl with | [_, _, _], _ => rfl

theorem t25 (X : K.In h) (G : h.Ns mainGlobals mg) (c : He.SaysD faA fnA K) : Df K mg "is_row" (topS 25) ["thing", "bounds", "cell"] := by
  obtain ⟨fd, F⟩ := c.def_ 11 (d := dd 25 "is_row") rfl
  exact df_of F (He.glo_ok X G (c.fact 11 (f := .glo "is_row") rfl)) fun _ _ _ _ _ _ us hl => match us, hl with | [_, _, _], _ => rfl

theorem t28 (X : K.In h) (G : h.Ns mainGlobals mg) (c : He.SaysD faA fnA K) : Df K mg "many_results" (topS 28) ["table"] := by
  obtain ⟨fd, F⟩ := c.def_ 12 (d := dd 28 "many_results") rfl
  exact df_of F (He.glo_ok X G (c.fact 12 (f := .glo "many_results") rfl)) fun _ _ _ _ _ _ us hl => match us, hl with | [_], _ => rfl

theorem t29 (X : K.In h) (G : h.Ns mainGlobals mg) (c : He.SaysD faA fnA K) : Df K mg "raw_cell" (topS 29) ["bounds", "measures", "given"] := by
  obtain ⟨fd, F⟩ := c.def_ 13 (d := dd 29 "raw_cell") rfl
  exact df_of F (He.glo_ok X G (c.fact 13 (f := .glo "raw_cell") rfl)) fun _ _ _ _ _ _ us hl => match us, hl with | [_, _, _], _ => rfl

theorem t30 (X : K.In h) (G : h.Ns mainGlobals mg) (c : He.SaysD faA fnA K) : Df K mg "place_of" (topS 30) ["bounds", "measures", "cell"] := by
  obtain ⟨fd, F⟩ := c.def_ 14 (d := dd 30 "place_of") rfl
  exact df_of F (He.glo_ok X G (c.fact 14 (f := .glo "place_of") rfl)) fun _ _ _ _ _ _ us hl => match us, hl with | [_, _, _], _ => rfl

theorem t31 (X : K.In h) (G : h.Ns mainGlobals mg) (c : He.SaysD faA fnA K) : Df K mg "raw_row" (topS 31) ["table", "cell"] := by
  obtain ⟨fd, F⟩ := c.def_ 15 (d := dd 31 "raw_row") rfl
  exact df_of F (He.glo_ok X G (c.fact 15 (f := .glo "raw_row") rfl)) fun _ _ _ _ _ _ us hl => match us, hl with | [_, _], _ => rfl

theorem t32 (X : K.In h) (G : h.Ns mainGlobals mg) (c : He.SaysD faA fnA K) : Df K mg "form_value" (topS 32) ["form", "times"] := by
  obtain ⟨fd, F⟩ := c.def_ 16 (d := dd 32 "form_value") rfl
  exact df_of F (He.glo_ok X G (c.fact 16 (f := .glo "form_value") rfl)) fun _ _ _ _ _ _ us hl => match us, hl with | [_, _], _ => rfl

theorem t33 (X : K.In h) (G : h.Ns mainGlobals mg) (c : He.SaysD faA fnA K) : Df K mg "raw_value" (topS 33) ["table", "given"] := by
  obtain ⟨fd, F⟩ := c.def_ 17 (d := dd 33 "raw_value") rfl
  exact df_of F (He.glo_ok X G (c.fact 17 (f := .glo "raw_value") rfl)) fun _ _ _ _ _ _ us hl => match us, hl with | [_, _], _ => rfl

theorem t34 (X : K.In h) (G : h.Ns mainGlobals mg) (c : He.SaysD faA fnA K) : Df K mg "raised" (topS 34) ["given", "k", "measure"] := by
  obtain ⟨fd, F⟩ := c.def_ 18 (d := dd 34 "raised") rfl
  exact df_of F (He.glo_ok X G (c.fact 18 (f := .glo "raised") rfl)) fun _ _ _ _ _ _ us hl => match us, hl with | [_, _, _], _ => rfl

theorem t35 (X : K.In h) (G : h.Ns mainGlobals mg) (c : He.SaysD faA fnA K) : Df K mg "row_by" (topS 35) ["function", "bounds", "measures", "cell"] := by
  obtain ⟨fd, F⟩ := c.def_ 19 (d := dd 35 "row_by") rfl
  exact df_of F (He.glo_ok X G (c.fact 19 (f := .glo "row_by") rfl)) fun _ _ _ _ _ _ us hl => match us, hl with | [_, _, _, _], _ => rfl

theorem t36 (X : K.In h) (G : h.Ns mainGlobals mg) (c : He.SaysD faA fnA K) : Df K mg "made_by" (topS 36) ["function", "bounds", "measures"] := by
  obtain ⟨fd, F⟩ := c.def_ 20 (d := dd 36 "made_by") rfl
  exact df_of F (He.glo_ok X G (c.fact 20 (f := .glo "made_by") rfl)) fun _ _ _ _ _ _ us hl => match us, hl with | [_, _, _], _ => rfl

theorem t38 (X : K.In h) (G : h.Ns mainGlobals mg) (c : He.SaysD faA fnA K) : Df K mg "raised_cells" (topS 38) ["bounds", "measures"] := by
  obtain ⟨fd, F⟩ := c.def_ 21 (d := dd 38 "raised_cells") rfl
  exact df_of F (He.glo_ok X G (c.fact 21 (f := .glo "raised_cells") rfl)) fun _ _ _ _ _ _ us hl => match us, hl with | [_, _], _ => rfl

theorem t39 (X : K.In h) (G : h.Ns mainGlobals mg) (c : He.SaysD faA fnA K) : Df K mg "learned" (topS 39) ["function", "bounds", "measures", "many"] := by
  obtain ⟨fd, F⟩ := c.def_ 22 (d := dd 39 "learned") rfl
  exact df_of F (He.glo_ok X G (c.fact 22 (f := .glo "learned") rfl)) fun _ _ _ _ _ _ us hl => match us, hl with | [_, _, _, _], _ => rfl

theorem t40 (X : K.In h) (G : h.Ns mainGlobals mg) (c : He.SaysD faA fnA K) : Df K mg "refuted" (topS 40) ["table", "function", "inputs"] := by
  obtain ⟨fd, F⟩ := c.def_ 23 (d := dd 40 "refuted") rfl
  exact df_of F (He.glo_ok X G (c.fact 23 (f := .glo "refuted") rfl)) fun _ _ _ _ _ _ us hl => match us, hl with | [_, _, _], _ => rfl

theorem t42 (X : K.In h) (G : h.Ns mainGlobals mg) (c : He.SaysD faA fnA K) : Df K mg "_law_pot" (topS 42) ["_law_script"] := by
  obtain ⟨fd, F⟩ := c.def_ 24 (d := dd 42 "_law_pot") rfl
  exact df_of F (He.glo_ok X G (c.fact 24 (f := .glo "_law_pot") rfl)) fun _ _ _ _ _ _ us hl => match us, hl with | [_], _ => rfl

theorem t43 (X : K.In h) (G : h.Ns mainGlobals mg) (c : He.SaysD faA fnA K) : Df K mg "_law_draw" (topS 43) ["_law_pot_here", "_law_many"] := by
  obtain ⟨fd, F⟩ := c.def_ 25 (d := dd 43 "_law_draw") rfl
  exact df_of F (He.glo_ok X G (c.fact 25 (f := .glo "_law_draw") rfl)) fun _ _ _ _ _ _ us hl => match us, hl with | [_, _], _ => rfl

theorem t44 (X : K.In h) (G : h.Ns mainGlobals mg) (c : He.SaysD faA fnA K) : Df K mg "_law_any" (topS 44) ["_law_pot_here", "_law_items"] := by
  obtain ⟨fd, F⟩ := c.def_ 26 (d := dd 44 "_law_any") rfl
  exact df_of F (He.glo_ok X G (c.fact 26 (f := .glo "_law_any") rfl)) fun _ _ _ _ _ _ us hl => match us, hl with | [_, _], _ => rfl

theorem t45 (X : K.In h) (G : h.Ns mainGlobals mg) (c : He.SaysD faA fnA K) : Df K mg "_law_input" (topS 45) ["_law_pot_here", "_law_many", "_law_most"] := by
  obtain ⟨fd, F⟩ := c.def_ 27 (d := dd 45 "_law_input") rfl
  exact df_of F (He.glo_ok X G (c.fact 27 (f := .glo "_law_input") rfl)) fun _ _ _ _ _ _ us hl => match us, hl with | [_, _, _], _ => rfl

theorem t46 (X : K.In h) (G : h.Ns mainGlobals mg) (c : He.SaysD faA fnA K) : Df K mg "_law_cells" (topS 46) ["_law_bounds", "_law_measures"] := by
  obtain ⟨fd, F⟩ := c.def_ 28 (d := dd 46 "_law_cells") rfl
  exact df_of F (He.glo_ok X G (c.fact 28 (f := .glo "_law_cells") rfl)) fun _ _ _ _ _ _ us hl => match us, hl with | [_, _], _ => rfl

theorem t47 (X : K.In h) (G : h.Ns mainGlobals mg) (c : He.SaysD faA fnA K) : Df K mg "_law_table" (topS 47) ["_law_pot_here", "_law_many", "_law_forms", "_law_most", "_law_steps"] := by
  obtain ⟨fd, F⟩ := c.def_ 29 (d := dd 47 "_law_table") rfl
  exact df_of F (He.glo_ok X G (c.fact 29 (f := .glo "_law_table") rfl)) fun _ _ _ _ _ _ us hl => match us, hl with | [_, _, _, _, _], _ => rfl

theorem t48 (X : K.In h) (G : h.Ns mainGlobals mg) (c : He.SaysD faA fnA K) : Df K mg "_law_value" (topS 48) ["_law_table_here", "_law_given"] := by
  obtain ⟨fd, F⟩ := c.def_ 30 (d := dd 48 "_law_value") rfl
  exact df_of F (He.glo_ok X G (c.fact 30 (f := .glo "_law_value") rfl)) fun _ _ _ _ _ _ us hl => match us, hl with | [_, _], _ => rfl

theorem t49 (X : K.In h) (G : h.Ns mainGlobals mg) (c : He.SaysD faA fnA K) : Df K mg "_law_deep" (topS 49) [] := by
  obtain ⟨fd, F⟩ := c.def_ 31 (d := dd 49 "_law_deep") rfl
  exact df_of F (He.glo_ok X G (c.fact 31 (f := .glo "_law_deep") rfl)) fun _ _ _ _ _ _ us hl => match us, hl with | [], _ => rfl

theorem t50 (X : K.In h) (G : h.Ns mainGlobals mg) (c : He.SaysD faA fnA K) : Df K mg "_law_probes" (topS 50) ["_law_bounds", "_law_measures"] := by
  obtain ⟨fd, F⟩ := c.def_ 32 (d := dd 50 "_law_probes") rfl
  exact df_of F (He.glo_ok X G (c.fact 32 (f := .glo "_law_probes") rfl)) fun _ _ _ _ _ _ us hl => match us, hl with | [_, _], _ => rfl

theorem t51 (X : K.In h) (G : h.Ns mainGlobals mg) (c : He.SaysD faA fnA K) : Df K mg "_law_learned" (topS 51) ["_law_function", "_law_bounds", "_law_measures", "_law_many"] := by
  obtain ⟨fd, F⟩ := c.def_ 33 (d := dd 51 "_law_learned") rfl
  exact df_of F (He.glo_ok X G (c.fact 33 (f := .glo "_law_learned") rfl)) fun _ _ _ _ _ _ us hl => match us, hl with | [_, _, _, _], _ => rfl

theorem t52 (X : K.In h) (G : h.Ns mainGlobals mg) (c : He.SaysD faA fnA K) : Df K mg "_law_teller" (topS 52) ["_law_table_here", "_law_asked", "_law_odd"] := by
  obtain ⟨fd, F⟩ := c.def_ 34 (d := dd 52 "_law_teller") rfl
  exact df_of F (He.glo_ok X G (c.fact 34 (f := .glo "_law_teller") rfl)) fun _ _ _ _ _ _ us hl => match us, hl with | [_, _, _], _ => rfl

theorem t53 (X : K.In h) (G : h.Ns mainGlobals mg) (c : He.SaysD faA fnA K) : Df K mg "_law_is_answer" (topS 53) ["_law_thing", "_law_many"] := by
  obtain ⟨fd, F⟩ := c.def_ 35 (d := dd 53 "_law_is_answer") rfl
  exact df_of F (He.glo_ok X G (c.fact 35 (f := .glo "_law_is_answer") rfl)) fun _ _ _ _ _ _ us hl => match us, hl with | [_, _], _ => rfl

theorem t54 (X : K.In h) (G : h.Ns mainGlobals mg) (c : He.SaysD faA fnA K) : Df K mg "_law_due" (topS 54) ["_law_made", "_law_odd", "_law_many"] := by
  obtain ⟨fd, F⟩ := c.def_ 36 (d := dd 54 "_law_due") rfl
  exact df_of F (He.glo_ok X G (c.fact 36 (f := .glo "_law_due") rfl)) fun _ _ _ _ _ _ us hl => match us, hl with | [_, _, _], _ => rfl

theorem t55 (X : K.In h) (G : h.Ns mainGlobals mg) (c : He.SaysD faA fnA K) : Df K mg "_law_refuted" (topS 55) ["_law_table_here", "_law_function", "_law_inputs"] := by
  obtain ⟨fd, F⟩ := c.def_ 37 (d := dd 55 "_law_refuted") rfl
  exact df_of F (He.glo_ok X G (c.fact 37 (f := .glo "_law_refuted") rfl)) fun _ _ _ _ _ _ us hl => match us, hl with | [_, _, _], _ => rfl

theorem t56 (X : K.In h) (G : h.Ns mainGlobals mg) (c : He.SaysD faA fnA K) : Df K mg "_law_refused" (topS 56) ["_law_pot_here", "_law_function"] := by
  obtain ⟨fd, F⟩ := c.def_ 38 (d := dd 56 "_law_refused") rfl
  exact df_of F (He.glo_ok X G (c.fact 38 (f := .glo "_law_refused") rfl)) fun _ _ _ _ _ _ us hl => match us, hl with | [_, _], _ => rfl

theorem tTab (X : K.In h) (G : h.Ns mainGlobals mg) (c : He.SaysD faA fnA K) (hi : insB K (He.ga K "Table") = true) : ∃ C fi fk fdi fdk, ClsT K mg "Table" C fi fk ∧ Fun K "__init__" "Table.__init__" (methS 26 0) fi fdi ∧ Binds K fdi ["self", "bounds", "measures", "rows"] [] ∧ Fun K "keep" "Table.keep" (methS 26 1) fk fdk ∧ Binds K fdk ["self", "bounds", "measures", "rows"] [] := by
  obtain ⟨fdi, Fi⟩ := c.def_ 40 (d := dm "Table" "__init__" "Table.__init__" 26 0) rfl
  obtain ⟨fdk, Fk⟩ := c.def_ 41 (d := dm "Table" "keep" "Table.keep" 26 1) rfl
  have cl : Cls K (He.ga K "Table") := He.cls_ok (c.fact 68 (f := .cls "Table") rfl)
  exact ⟨He.ga K "Table", He.ma K (He.ga K "Table") "__init__", He.ma K (He.ga K "Table") "keep", fdi, fdk, ⟨He.glo_ok X G (c.fact 66 (f := .glo "Table") rfl), cl, He.noat_ok (c.fact 69 (f := .noat "Table" "bounds") rfl), He.noat_ok (c.fact 70 (f := .noat "Table" "measures") rfl), He.noat_ok (c.fact 71 (f := .noat "Table" "rows") rfl), He.meth_ok (c.fact 72 (f := .meth "Table" "keep") rfl), He.mkr_ok (c.fact 73 (f := .mkr "Table") rfl), insB_ok cl hi⟩,
    He5.fun_of Fi, Fi.bindsN fun _ _ _ _ _ _ us hl => match us, hl with | [_, _, _, _], _ => rfl, He5.fun_of Fk, Fk.bindsN fun _ _ _ _ _ _ us hl => match us, hl with | [_, _, _, _], _ => rfl⟩

theorem tRaw (X : K.In h) (G : h.Ns mainGlobals mg) (c : He.SaysD faA fnA K) (hi : insB K (He.ga K "RawTable") = true) : ∃ C fi fk fdi fdk, ClsT K mg "RawTable" C fi fk ∧ Fun K "__init__" "RawTable.__init__" (methS 27 0) fi fdi ∧ Binds K fdi ["self", "bounds", "measures", "rows"] [] ∧ Fun K "keep" "Table.keep" (methS 26 1) fk fdk ∧ Binds K fdk ["self", "bounds", "measures", "rows"] [] := by
  obtain ⟨fdi, Fi⟩ := c.def_ 42 (d := dm "RawTable" "__init__" "RawTable.__init__" 27 0) rfl
  obtain ⟨fdk, Fk⟩ := c.def_ 43 (d := dm "RawTable" "keep" "Table.keep" 26 1) rfl
  have cl : Cls K (He.ga K "RawTable") := He.cls_ok (c.fact 74 (f := .cls "RawTable") rfl)
  exact ⟨He.ga K "RawTable", He.ma K (He.ga K "RawTable") "__init__", He.ma K (He.ga K "RawTable") "keep", fdi, fdk, ⟨He.glo_ok X G (c.fact 67 (f := .glo "RawTable") rfl), cl, He.noat_ok (c.fact 75 (f := .noat "RawTable" "bounds") rfl), He.noat_ok (c.fact 76 (f := .noat "RawTable" "measures") rfl), He.noat_ok (c.fact 77 (f := .noat "RawTable" "rows") rfl), He.meth_ok (c.fact 78 (f := .meth "RawTable" "keep") rfl), He.mkr_ok (c.fact 79 (f := .mkr "RawTable") rfl), insB_ok cl hi⟩,
    He5.fun_of Fi, Fi.bindsN fun _ _ _ _ _ _ us hl => match us, hl with | [_, _, _, _], _ => rfl, He5.fun_of Fk, Fk.bindsN fun _ _ _ _ _ _ us hl => match us, hl with | [_, _, _, _], _ => rfl⟩

theorem tBn (X : K.In h) (G : h.Ns mainGlobals mg) (c : He.SaysD faA fnA K) : Bn mg :=
  ⟨He.free_ok X G (c.fact 40 (f := .free "len") rfl), He.free_ok X G (c.fact 41 (f := .free "range") rfl), He.free_ok X G (c.fact 42 (f := .free "isinstance") rfl), He.free_ok X G (c.fact 43 (f := .free "int") rfl), He.free_ok X G (c.fact 44 (f := .free "bool") rfl), He.free_ok X G (c.fact 45 (f := .free "tuple") rfl), He.free_ok X G (c.fact 46 (f := .free "list") rfl), He.free_ok X G (c.fact 47 (f := .free "all") rfl), He.free_ok X G (c.fact 48 (f := .free "any") rfl), He.free_ok X G (c.fact 49 (f := .free "zip") rfl), He.free_ok X G (c.fact 50 (f := .free "sorted") rfl), He.free_ok X G (c.fact 51 (f := .free "sum") rfl), He.free_ok X G (c.fact 52 (f := .free "abs") rfl), He.free_ok X G (c.fact 53 (f := .free "min") rfl), He.free_ok X G (c.fact 54 (f := .free "enumerate") rfl)⟩

theorem tx_of (X : K.In h) (G : h.Ns mainGlobals mg) (c : He.SaysD faA fnA K) (i1 : insB K (He.ga K "Table") = true) (i2 : insB K (He.ga K "RawTable") = true) : Tx K mg where
  B := tBn X G c
  mc := He.int_ok X G (c.fact 56 (f := .int "MOST_CELLS" 1000) rfl)
  mf := He.int_ok X G (c.fact 57 (f := .int "MOST_FORMS" 12) rfl)
  mn := He.int_ok X G (c.fact 58 (f := .int "MOST_NUMBERS" 2) rfl)
  d10 := t10 X G c
  d11 := t11 X G c
  d12 := t12 X G c
  d13 := t13 X G c
  d19 := t19 X G c
  d20 := t20 X G c
  d21 := t21 X G c
  d22 := t22 X G c
  d23 := t23 X G c
  tb := tTab X G c i1
  rt := tRaw X G c i2
  d14 := t14 X G c
  d24 := t24 X G c
  d25 := t25 X G c
  d28 := t28 X G c
  d29 := t29 X G c
  d30 := t30 X G c
  d31 := t31 X G c
  d32 := t32 X G c
  d33 := t33 X G c
  d34 := t34 X G c
  d35 := t35 X G c
  d36 := t36 X G c
  d38 := t38 X G c
  d39 := t39 X G c
  d40 := t40 X G c
  d42 := t42 X G c
  d43 := t43 X G c
  d44 := t44 X G c
  d45 := t45 X G c
  d46 := t46 X G c
  d47 := t47 X G c
  d48 := t48 X G c
  d49 := t49 X G c
  d50 := t50 X G c
  d51 := t51 X G c
  d52 := t52 X G c
  d53 := t53 X G c
  d54 := t54 X G c
  d55 := t55 X G c
  d56 := t56 X G c

abbrev PP : Program := RR.prog
theorem supTop : (PP.main.scope.names.lookup ("super" : Str)).isSome = false := by decide +kernel
theorem xc_of (X : K.In h) (G : h.Ns mainGlobals mg) (c : He.SaysD faA fnA K) (cx : xdL.map (xW K) = xdL.map XD.val) (cb : (xdL.all fun d => xdB K PP.main.file d) = true) : Xc PP K mg (He.ga K "TooMany") (He.ga K "BadAnswer") (He.ga K "Falling") (He.ga K "NoNumber") (He.ga K "NoBounds") (He.ga K "NoInputs") (He.ga K "RoundError") := by
  have hs : mg "super" = none := He.free_ok X G (c.fact 55 (f := .free "super") rfl)
  have ex : ∀ (i : Nat) (d : XD), xdL[i]? = some d → xW K d = d.val ∧ xdB K PP.main.file d = true := fun i d e => by
    have e2 : (xdL.map (xW K))[i]? = (xdL.map XD.val)[i]? := by rw [cx]
    rw [List.getElem?_map, List.getElem?_map, e] at e2
    exact ⟨Option.some.inj e2, List.all_eq_true.mp cb d (List.mem_of_getElem? e)⟩
  obtain ⟨a1, a2⟩ := ex 0 _ rfl
  obtain ⟨b1, b2⟩ := ex 1 _ rfl
  obtain ⟨c1, c2⟩ := ex 2 _ rfl
  exact ⟨xd_ok a1 a2 (He.glo_ok X G (c.fact 60 (f := .glo "TooMany") rfl)) hs supTop fun _ _ _ _ _ _ _ us hl => match us, hl with | [_, _], _ => rfl, xd_ok b1 b2 (He.glo_ok X G (c.fact 61 (f := .glo "BadAnswer") rfl)) hs supTop fun _ _ _ _ _ _ _ us hl => match us, hl with | [_, _], _ => rfl, xd_ok c1 c2 (He.glo_ok X G (c.fact 62 (f := .glo "Falling") rfl)) hs supTop fun _ _ _ _ _ _ _ us hl => match us, hl with | [_, _], _ => rfl,
    (by obtain ⟨h1, h2, h3, h4⟩ := He.exc_ok (c.fact 80 (f := .exc "NoNumber") rfl); exact ⟨He.glo_ok X G (c.fact 63 (f := .glo "NoNumber") rfl), h1, h2, h3, h4⟩), (by obtain ⟨h1, h2, h3, h4⟩ := He.exc_ok (c.fact 81 (f := .exc "NoBounds") rfl); exact ⟨He.glo_ok X G (c.fact 64 (f := .glo "NoBounds") rfl), h1, h2, h3, h4⟩), (by obtain ⟨h1, h2, h3, h4⟩ := He.exc_ok (c.fact 82 (f := .exc "NoInputs") rfl); exact ⟨He.glo_ok X G (c.fact 65 (f := .glo "NoInputs") rfl), h1, h2, h3, h4⟩), He.glo_ok X G (c.fact 59 (f := .glo "RoundError") rfl)⟩

theorem xe_of (c : He.SaysD faA fnA K) (cb : exK PP.main.file K = true) : Xe K (He.ga K "TooMany") (He.ga K "BadAnswer") (He.ga K "Falling") (He.ga K "NoNumber") (He.ga K "NoBounds") (He.ga K "NoInputs") (He.ga K "RoundError") := by
  obtain ⟨_, cb⟩ := He.ba cb
  obtain ⟨e, cb⟩ := He.ba cb
  obtain ⟨e1, e⟩ := He.ba e
  obtain ⟨e2, e3⟩ := He.ba e
  obtain ⟨f, cb⟩ := He.ba cb
  obtain ⟨f1, f2⟩ := He.ba f
  obtain ⟨_, cb⟩ := He.ba cb
  obtain ⟨_, cb⟩ := He.ba cb
  obtain ⟨g, cb⟩ := He.ba cb
  obtain ⟨g1, g⟩ := He.ba g
  obtain ⟨g2, g3⟩ := He.ba g
  obtain ⟨k, m⟩ := He.ba cb
  obtain ⟨k1, k⟩ := He.ba k
  obtain ⟨k2, k3⟩ := He.ba k
  obtain ⟨m1, m⟩ := He.ba m
  obtain ⟨m2, m3⟩ := He.ba m
  refine ⟨He.exm_ok (c.fact 83 (f := .exm "BadAnswer" "BadAnswer" true) rfl), He.exm_ok (c.fact 84 (f := .exm "Falling" "BadAnswer" false) rfl), He.exm_ok (c.fact 85 (f := .exm "Falling" "Falling" true) rfl), fun D hD => ?_, ⟨of_decide_eq_true g1, of_decide_eq_true g2, of_decide_eq_true g3⟩, ⟨of_decide_eq_true k1, of_decide_eq_true k2, of_decide_eq_true k3⟩, ⟨of_decide_eq_true m1, of_decide_eq_true m2, of_decide_eq_true m3⟩, xfB_ok f1, xfB_ok f2, He.exm_ok (c.fact 86 (f := .exm "NoInputs" "NoInputs" true) rfl)⟩
  simp only [List.mem_cons, List.not_mem_nil, or_false] at hD
  rcases hD with rfl | rfl | rfl
  · exact ⟨He.exm_ok (c.fact 87 (f := .exm "NoBounds" "BadAnswer" false) rfl), He.exm_ok (c.fact 88 (f := .exm "NoBounds" "Falling" false) rfl), He.exm_ok (c.fact 89 (f := .exm "NoBounds" "RoundError" true) rfl), excB_ok e1⟩
  · exact ⟨He.exm_ok (c.fact 90 (f := .exm "NoNumber" "BadAnswer" false) rfl), He.exm_ok (c.fact 91 (f := .exm "NoNumber" "Falling" false) rfl), He.exm_ok (c.fact 92 (f := .exm "NoNumber" "RoundError" true) rfl), excB_ok e2⟩
  · exact ⟨He.exm_ok (c.fact 93 (f := .exm "TooMany" "BadAnswer" false) rfl), He.exm_ok (c.fact 94 (f := .exm "TooMany" "Falling" false) rfl), He.exm_ok (c.fact 95 (f := .exm "TooMany" "RoundError" true) rfl), excB_ok e3⟩

theorem tb_of (X : K.In h) (G : h.Ns mainGlobals mg) (c : He.SaysD faA fnA K) (ne : (He.cT K ("_law_teller", none)).2 ≠ (He.cT K ("learned", none)).2) (T : ∀ p ∈ tfL, LamX.TabB base mg (He.cT K p).1 (He.cT K p).2) : Tb K mg base (He.cT K ("_law_teller", none)).2 (He.cT K ("learned", none)).2 := by
  refine ⟨ne, ?_, ?_⟩
  · skip
    obtain ⟨fd, F⟩ := c.def_ 34 (d := dd 52 "_law_teller") rfl
    obtain ⟨oc, od, dV, kV, doc, pm, an, cdv, ct, osl, e, l, hcd, _, _⟩ := F.ex
    obtain ⟨cc, ec⟩ := He.codeIn_ref hcd
    have eq : fd.code = .ref cc := by rw [e]; exact ec
    have l2 : K.lookup (He.fAd K ("_law_teller", none)) = some ⟨oc, od, .func fd, osl⟩ := l
    have e3 : He.codeOf K ("_law_teller", none) = cc := He.codeOf_eq l2 eq
    refine ⟨_, fd, cc, He5.fun_of F, He.glo_ok X G (c.fact 34 (f := .glo "_law_teller") rfl), F.bindsN fun _ _ _ _ _ _ us hl => match us, hl with | [_, _, _], _ => rfl, eq, ?_⟩
    rw [← e3]
    exact T _ (by simp [tfL])
  · skip
    obtain ⟨fd, F⟩ := c.def_ 22 (d := dd 39 "learned") rfl
    obtain ⟨oc, od, dV, kV, doc, pm, an, cdv, ct, osl, e, l, hcd, _, _⟩ := F.ex
    obtain ⟨cc, ec⟩ := He.codeIn_ref hcd
    have eq : fd.code = .ref cc := by rw [e]; exact ec
    have l2 : K.lookup (He.fAd K ("learned", none)) = some ⟨oc, od, .func fd, osl⟩ := l
    have e3 : He.codeOf K ("learned", none) = cc := He.codeOf_eq l2 eq
    refine ⟨_, fd, cc, He5.fun_of F, He.glo_ok X G (c.fact 22 (f := .glo "learned") rfl), F.bindsN fun _ _ _ _ _ _ us hl => match us, hl with | [_, _, _, _], _ => rfl, eq, ?_⟩
    rw [← e3]
    exact T _ (by simp [tfL])

end
end K93
set_option maxHeartbeats 4000000
/-! K93HH: the law's promise at the head's heap. -/
namespace K93
open PySem PySem.Spec PyProof.Rows L2
theorem lawAt {w : World} {mg : Str → Option Value} {fa : Addr} {h : Heap} (Y : hookK.says w h) (G : h.Ns mainGlobals mg) (hm : mg "law" = some (.ref fa)) : ∃ K : PySem.W.Frag, K.In h ∧ LamX.LawAtS PySem.Challenge.rw_flatrounds_k93_whole_strangers_learned w K CX0 11 63 "_law_script" mg fa h := by
  obtain ⟨K, X, S⟩ := Y
  refine ⟨K, X, ?_⟩
  obtain ⟨fd, F⟩ := S.d.def_ 39 (d := dd 57 "law") rfl
  have e := hm.symm.trans (He.glo_ok X G (S.d.fact 39 (f := .glo "law") rfl))
  cases e
  have b := FunD.bindsA (ps := ["_law_script"]) F fun _ _ _ _ _ _ us hl => match us, hl with | [_], _ => rfl
  obtain ⟨i12, z⟩ := He.ba S.ex
  obtain ⟨i1, i2⟩ := He.ba i12
  obtain ⟨_, z⟩ := He.ba z
  obtain ⟨_, z⟩ := He.ba z
  obtain ⟨zx, z⟩ := He.ba z
  obtain ⟨zn, _⟩ := He.ba z
  have ne : (He.cT K ("_law_teller", none)).2 ≠ (He.cT K ("learned", none)).2 := fun q => by
    rw [Bool.not_eq_true', decide_eq_false_iff_not] at zn
    exact zn q
  have tx := tx_of X G S.d i1 i2
  have mem : ∀ p ∈ tfL.map (He.cT K), ∃ q ∈ tfL, He.cT K q = p := fun p hp => List.mem_map.mp hp
  refine ⟨fd, tfL.map (He.cT K), spLaw K (He.cT K ("_law_teller", none)).2 (He.cT K ("learned", none)).2, fun p hp => ?_, fun p hp => ?_, fun p hp => ?_, fun s u => b s [u] rfl, fun H a ns _ _ hH hS => ⟨a, ns, rfl, fun p hp => ?_, hS, fun _ => rfl⟩, fun base X' G' T => ?_⟩
  · obtain ⟨q, hq, rfl⟩ := mem p hp
    exact S.empty q hq
  · obtain ⟨q, hq, rfl⟩ := mem p hp
    exact S.out q hq
  · obtain ⟨q, hq, rfl⟩ := mem p hp
    exact PySem.W.codeHd_of_K X (S.hd q hq)
  · simp only [kT, List.mem_cons, List.not_mem_nil, or_false] at hp
    rcases hp with rfl | rfl
    · exact NdefX.TabN.nil (hH (He.cT K ("_law_teller", none)) (by simp [tfL]))
    · exact NdefX.TabN.nil (hH (He.cT K ("learned", none)) (by simp [tfL]))
  · exact f57 tx (xc_of X G S.d S.x zx) (xe_of S.d S.ex) (tb_of X G S.d ne fun p hp => T _ (List.mem_map_of_mem hp)) (He5.fun_of F) (He.free_ok X G (S.d.fact 53 (f := .free "min") rfl))
end K93
open PySem PySem.W PySem.Calls PyProof.Rows
set_option maxRecDepth 100000 in
set_option maxHeartbeats 0 in
theorem PySem.Challenge.cw_flatrounds_k93_whole_strangers_learned_holds : PySem.Challenge.rw_flatrounds_k93_whole_strangers_learned.Holds := by
  w_on; o_law
  refine HandSHeadRun.head_any (r := OpenLaw.row PySem.Challenge.rw_flatrounds_k93_whole_strangers_learned) (q := view (OpenLaw.row PySem.Challenge.rw_flatrounds_k93_whole_strangers_learned).prog [57]) (H := K93.hookK) (ob := K93.obK) (M := 20000) (loose := K93.looseA) (d := HandSHeadRun.topDef (OpenLaw.row PySem.Challenge.rw_flatrounds_k93_whole_strangers_learned).prog 57) (kwd := []) K93.obK_eq
    (by kernel_rfl) (fun s => by kernel_rfl) K93.runK (by kernel_rfl) (by kernel_rfl) (by kernel_rfl) (by rfl) (by first | assumption | decide +kernel) (by decide +kernel) ⟨rfl, rfl, rfl, rfl, rfl, by decide +kernel⟩ ?hw ?hc
  case hw => w_witness2
  case hc =>
    refine LamX.walk_ofTsE (l := PySem.Challenge.rw_flatrounds_k93_whole_strangers_learned) (n := 63) (k := 11) (x := "_law_script") (CX := fun _ => L2.CX0) rfl (by decide) (by kernel_rfl) ⟨rfl, by decide, by decide⟩ ?F (fun _ _ _ _ _ z => z)
    intro w mg fa h Y G hmg0
    have e : (HandSHeadRun.topDef (OpenLaw.row PySem.Challenge.rw_flatrounds_k93_whole_strangers_learned).prog 57).name = ("law" : PySem.Str) := by kernel_rfl
    rw [e] at hmg0
    exact K93.lawAt Y G hmg0
