import PyProof.Rows.All
import Wide.All
import OpenK.AllK
import Wide.FinOn
import HandS.ForMost
import HandS.ForExc
import HandS.IsInst
import HandS.TupAny
import HandS.TupMul
import HandS.Style
import HandS.Deep
import HandS.Conv
import HandS.Walk
import HandS.Zip
import HandS.SortInts
import KE.DatumMore
import HandS.Strs
import HandS.SetFor
import PyProof.ListRange
import HandS.ExcValue
import HandS.MapObj
import KE.KDictZip
import KE.SortData
import KE.DatumOrd
import PySem.Challenge.RW_hiddenrows_k18_whole_scripts_on_all_stat
set_option Elab.async false
set_option linter.all false
set_option maxRecDepth 100000
set_option maxHeartbeats 4000000
namespace HR
open PySem PySem.Spec L2
open PyProof.Rows hiding St
/-! ### data as such, and how a heap bears it -/
abbrev D := PyData
mutual
inductive Enc (K : PySem.W.Frag) (M : Addr → Prop) (H : Hp) : V → D → Prop
  | non : Enc K M H .non .none
  | bl (b : Bool) : Enc K M H (.bl b) (.bool b)
  | int (i : Int) : Enc K M H (.int i) (.int i)
  | str (x : Str) : Enc K M H (.str x) (.str x)
  | lst {a : Addr} {xs : List V} {ds : List D} : H a = some (.lst xs) → ¬ M a → EncS K M H xs ds → Enc K M H (.ref a) (.list ds)
  | tup {a : Addr} {xs : List V} {ds : List D} : SqT K H a xs → EncS K M H xs ds → Enc K M H (.ref a) (.tuple ds)
inductive EncS (K : PySem.W.Frag) (M : Addr → Prop) (H : Hp) : List V → List D → Prop
  | nil : EncS K M H [] []
  | cons {v : V} {vs : List V} {d : D} {ds : List D} : Enc K M H v d → EncS K M H vs ds → EncS K M H (v :: vs) (d :: ds)
end
/-- from one state of the heap to another, what is read stays -/
structure Stay (M M' : Addr → Prop) (H H' : Hp) : Prop where
  frz : ∀ a o u, H a = some (.frz o u) → H' a = some (.frz o u)
  tup : ∀ a xs, Rd H a (.tup xs) → Rd H' a (.tup xs)
  lst : ∀ a xs, H a = some (.lst xs) → ¬ M a → H' a = some (.lst xs) ∧ ¬ M' a
section
variable {K : PySem.W.Frag} {M M' : Addr → Prop} {H H' : Hp}
mutual
theorem Enc.stay (S : Stay M M' H H') : ∀ {v : V} {d : D}, Enc K M H v d → Enc K M' H' v d
  | _, _, .non => .non
  | _, _, .bl b => .bl b
  | _, _, .int i => .int i
  | _, _, .str x => .str x
  | _, _, .lst h n r => .lst (S.lst _ _ h n).1 (S.lst _ _ h n).2 (EncS.stay S r)
  | _, _, .tup h r => .tup (by
      rcases h with h | h
      · exact .inl (S.tup _ _ h)
      · exact .inr h) (EncS.stay S r)
theorem EncS.stay (S : Stay M M' H H') : ∀ {vs : List V} {ds : List D}, EncS K M H vs ds → EncS K M' H' vs ds
  | _, _, .nil => .nil
  | _, _, .cons h r => .cons (Enc.stay S h) (EncS.stay S r)
end
mutual
theorem Enc.dp : ∀ {v : V} {d : D}, Enc K M H v d → Dp K H v d
  | _, _, .non => .non
  | _, _, .bl b => .bl b
  | _, _, .int i => .int i
  | _, _, .str x => .str x
  | _, _, .lst h _ r => .lst (SqL.of h) (EncS.dp r)
  | _, _, .tup h r => .tup h (EncS.dp r)
theorem EncS.dp : ∀ {vs : List V} {ds : List D}, EncS K M H vs ds → DpAll K H vs ds
  | _, _, .nil => .nil
  | _, _, .cons h r => .cons (Enc.dp h) (EncS.dp r)
end
theorem EncS.length : ∀ {vs : List V} {ds : List D}, EncS K M H vs ds → vs.length = ds.length
  | _, _, .nil => rfl
  | _, _, .cons _ r => by simp [EncS.length r]
theorem EncS.append : ∀ {vs us : List V} {ds es : List D}, EncS K M H vs ds → EncS K M H us es → EncS K M H (vs ++ us) (ds ++ es)
  | _, _, _, _, .nil, h => h
  | _, _, _, _, .cons h r, q => .cons h (EncS.append r q)
theorem EncS.get : ∀ {vs : List V} {ds : List D} {i : Nat} {d : D}, EncS K M H vs ds → ds[i]? = some d → ∃ v, vs[i]? = some v ∧ Enc K M H v d
  | _, _, _, _, .nil, h => by simp at h
  | _, _, 0, _, .cons h _, e => by simp at e; subst e; exact ⟨_, rfl, h⟩
  | _, _, i + 1, d, .cons _ r, e => by
    obtain ⟨v, h1, h2⟩ := EncS.get (i := i) (d := d) r (by simpa using e)
    exact ⟨v, by simpa using h1, h2⟩
theorem EncS.at_ : ∀ {vs : List V} {ds : List D} {i : Nat} {v : V}, EncS K M H vs ds → vs[i]? = some v → ∃ d, ds[i]? = some d ∧ Enc K M H v d
  | _, _, _, _, .nil, h => by simp at h
  | _, _, 0, _, .cons h _, e => by simp at e; subst e; exact ⟨_, rfl, h⟩
  | _, _, i + 1, v, .cons _ r, e => by
    obtain ⟨d, h1, h2⟩ := EncS.at_ (i := i) (v := v) r (by simpa using e)
    exact ⟨d, by simpa using h1, h2⟩
theorem EncS.set {v : V} {d : D} (h : Enc K M H v d) : ∀ {vs : List V} {ds : List D} (i : Nat), EncS K M H vs ds → EncS K M H (vs.set i v) (ds.set i d)
  | _, _, _, .nil => .nil
  | _, _, 0, .cons _ r => .cons h r
  | _, _, i + 1, .cons q r => .cons q (EncS.set h i r)
theorem EncS.take : ∀ {vs : List V} {ds : List D} (n : Nat), EncS K M H vs ds → EncS K M H (vs.take n) (ds.take n)
  | _, _, 0, _ => .nil
  | _, _, _ + 1, .nil => .nil
  | _, _, n + 1, .cons h r => .cons h (EncS.take n r)
theorem EncS.drop : ∀ {vs : List V} {ds : List D} (n : Nat), EncS K M H vs ds → EncS K M H (vs.drop n) (ds.drop n)
  | _, _, 0, h => h
  | _, _, _ + 1, .nil => .nil
  | _, _, n + 1, .cons _ r => EncS.drop n r
theorem EncS.reverse {vs : List V} {ds : List D} (h : EncS K M H vs ds) : EncS K M H vs.reverse ds.reverse := by
  induction vs generalizing ds with
  | nil => cases h; exact .nil
  | cons v vs ih =>
    cases h with
    | cons a r =>
      rw [List.reverse_cons, List.reverse_cons]
      exact (ih r).append (.cons a .nil)
theorem EncS.dropLast {vs : List V} {ds : List D} (h : EncS K M H vs ds) : EncS K M H vs.dropLast ds.dropLast := by
  rw [List.dropLast_eq_take, List.dropLast_eq_take, h.length]
  exact h.take _
theorem EncS.ints : ∀ {vs : List V} {ns : List Int}, EncS K M H vs (ns.map .int) → vs = ns.map V.int
  | _, [], .nil => rfl
  | _, n :: ns, .cons h r => by
    cases h
    rw [EncS.ints r]
    rfl
theorem EncS.bls : ∀ {vs : List V} {ns : List Bool}, EncS K M H vs (ns.map .bool) → vs = ns.map V.bl
  | _, [], .nil => rfl
  | _, n :: ns, .cons h r => by
    cases h
    rw [EncS.bls r]
    rfl
theorem EncS.strs : ∀ {vs : List V} {ns : List Str}, EncS K M H vs (ns.map .str) → vs = ns.map V.str
  | _, [], .nil => rfl
  | _, n :: ns, .cons h r => by
    cases h
    rw [EncS.strs r]
    rfl
theorem EncS.of_ints : ∀ (ns : List Int), EncS K M H (ns.map V.int) (ns.map .int)
  | [] => .nil
  | n :: ns => .cons (.int n) (EncS.of_ints ns)
theorem EncS.of_strs : ∀ (ns : List Str), EncS K M H (ns.map V.str) (ns.map .str)
  | [] => .nil
  | n :: ns => .cons (.str n) (EncS.of_strs ns)
end
/-! ### the world: G bags, M all that may be changed -/
structure Good (G M : Addr → Prop) (H : Hp) : Prop where
  gm : ∀ a, G a → M a
  bag : ∀ a, G a → ∃ x y : Int, H a = some (.lst [.int x, .int y]) ∧ 0 ≤ x ∧ 0 ≤ y ∧ y < 2147483647
  m : ∀ a, M a → ∃ o, H a = some o
structure Ext (G M : Addr → Prop) (H : Hp) (G' M' : Addr → Prop) (H' : Hp) : Prop where
  keep : ∀ a o, H a = some o → ¬ G a → H' a = some o
  gs : ∀ a, G a → G' a
  gn : ∀ a, G' a → G a ∨ H a = none
  ms : ∀ a, M a → M' a
  mn : ∀ a, M' a → M a ∨ H a = none
section
variable {G M G' M' G2 M2 : Addr → Prop} {H H' H2 : Hp}
theorem Ext.refl : Ext G M H G M H := ⟨fun _ _ h _ => h, fun _ h => h, fun _ h => .inl h, fun _ h => h, fun _ h => .inl h⟩
theorem Ext.back (E : Ext G M H G' M' H') (g' : Good G' M' H') {a : Addr} (h : H' a = none) : H a = none := by
  cases q : H a with
  | none => rfl
  | some o =>
    by_cases hg : G a
    · obtain ⟨x, y, e, _⟩ := g'.bag a (E.gs a hg)
      rw [e] at h; cases h
    · rw [E.keep a o q hg] at h; cases h
theorem Ext.trans (E : Ext G M H G' M' H') (F : Ext G' M' H' G2 M2 H2) (g' : Good G' M' H') : Ext G M H G2 M2 H2 where
  keep := fun a o h n => F.keep a o (E.keep a o h n) fun z => by
    rcases E.gn a z with z | z
    · exact n z
    · rw [z] at h; cases h
  gs := fun a h => F.gs a (E.gs a h)
  gn := fun a h => by
    rcases F.gn a h with h | h
    · exact E.gn a h
    · exact .inr (E.back g' h)
  ms := fun a h => F.ms a (E.ms a h)
  mn := fun a h => by
    rcases F.mn a h with h | h
    · exact E.mn a h
    · exact .inr (E.back g' h)
theorem Good.ng (g : Good G M H) {a : Addr} {o : HO} (h : H a = some o) (n : ∀ x y : Int, o ≠ .lst [.int x, .int y]) : ¬ G a := fun z => by
  obtain ⟨x, y, e, _⟩ := g.bag a z
  rw [e] at h
  cases h
  exact n x y rfl
theorem Ext.stay (E : Ext G M H G' M' H') (g : Good G M H) : Stay M M' H H' where
  frz := fun a o u h => E.keep _ _ h (g.ng h fun x y z => nomatch z)
  tup := fun a xs h => by
    rcases h with h | ⟨o, h⟩
    · exact .inl (E.keep _ _ h (g.ng h fun x y z => nomatch z))
    · exact .inr ⟨o, E.keep _ _ h (g.ng h fun x y z => nomatch z)⟩
  lst := fun a xs h n => by
    refine ⟨E.keep _ _ h fun z => n (g.gm _ z), fun z => ?_⟩
    rcases E.mn a z with z | z
    · exact n z
    · rw [z] at h; cases h
end
/-- the entry of a def -/
structure Ent where
  G : Addr → Prop
  M : Addr → Prop
  H : Hp
/-- what a slot or a value in hand is: data; a list of the def's own that is still made (at p); what stands in slot i (at p), borrowed; a bag; a pair of own lists; an own dict; the script -/
inductive SV where
  | none
  | val (d : D)
  | own (p : Addr) (ds : List D)
  | bor (i : Nat) (p : Addr)
  | bag
  | two (t p q : Addr) (ds es : List D)
  | dic (p : Addr) (kvs : List (D × D))
  | scr (ns : List Int)
def owned : SV → List Addr
  | .own p _ => [p]
  | .two _ p q _ _ => [p, q]
  | .dic p _ => [p]
  | _ => []
def Mine (E : Ent) (G M : Addr → Prop) (p : Addr) : Prop := M p ∧ ¬ G p ∧ E.H p = Option.none
def keyD : Key → D
  | .inl i => .int i
  | .inr x => .str x
/-- a list at p -/
def LstO (K : PySem.W.Frag) (M : Addr → Prop) (H : Hp) (p : Addr) (ds : List D) : Prop := ∃ vs, H p = some (.lst vs) ∧ EncS K M H vs ds
/-- a dict at p -/
def DicO (K : PySem.W.Frag) (M : Addr → Prop) (H : Hp) (p : Addr) (kvs : List (D × D)) : Prop :=
  (∃ ks : List (Key × V), H p = some (.dK ks) ∧ Paired (fun (a : Key × V) (b : D × D) => keyD a.1 = b.1 ∧ Enc K M H a.2 b.2) ks kvs) ∨
    ∃ ks : List (List Key × V), H p = some (.dT ks) ∧ Paired (fun (a : List Key × V) (b : D × D) => PyData.tuple (a.1.map keyD) = b.1 ∧ Enc K M H a.2 b.2) ks kvs
/-- the script's list -/
def SqS (K : PySem.W.Frag) (M : Addr → Prop) (H : Hp) (a : Addr) (xs : List V) : Prop :=
  (H a = some (.lst xs) ∧ ¬ M a) ∨ (∃ o, H a = some (.frz o (.lst xs))) ∨ ∃ (o : Obj) (its : Array Value) (n : Nat), K.lookup a = some o ∧ o.cls = .type "list" ∧ o.dict = Option.none ∧ o.data = .seq its n ∧ its.size ≤ sizeLine ∧ Vals xs its.toList
theorem SqS.sq {K : PySem.W.Frag} {M : Addr → Prop} {H : Hp} {a : Addr} {xs : List V} (h : SqS K M H a xs) : SqL K H a xs := by
  rcases h with ⟨h, _⟩ | ⟨o, h⟩ | h
  · exact .inl (.inl h)
  · exact .inl (.inr ⟨o, h⟩)
  · exact .inr h
def RT (K : PySem.W.Frag) (E : Ent) (G M : Addr → Prop) (H : Hp) (v : V) : SV → Prop
  | .none => True
  | .val d => Enc K M H v d
  | .own p ds => v = .ref p ∧ Mine E G M p ∧ LstO K M H p ds
  | .bor _ p => v = .ref p
  | .bag => ∃ b, v = .ref b ∧ G b
  | .two t p q ds es => v = .ref t ∧ Rd H t (.tup [.ref p, .ref q]) ∧ Mine E G M p ∧ Mine E G M q ∧ LstO K M H p ds ∧ LstO K M H q es
  | .dic p kvs => v = .ref p ∧ Mine E G M p ∧ DicO K M H p kvs
  | .scr ns => ∃ a, v = .ref a ∧ SqS K M H a (ns.map V.int)
abbrev Env := List SV
abbrev Tmp := List (V × SV)
/-- the state at a point of a def's body: slots σ, heap H; δ says what the slots are, π what is in hand -/
structure RepG (K : PySem.W.Frag) (E : Ent) (G M : Addr → Prop) (σ : St) (H : Hp) (δ : Env) (π : Tmp) : Prop where
  g0 : Good E.G E.M E.H
  ext : Ext E.G E.M E.H G M H
  good : Good G M H
  len : σ.length = δ.length
  slot : ∀ (i : Nat) (s : SV), δ[i]? = some s → s ≠ .none → ∃ v, σ[i]? = some (some v) ∧ RT K E G M H v s
  tmp : ∀ x ∈ π, RT K E G M H x.1 x.2
  nd : (δ.flatMap owned ++ π.flatMap fun x => owned x.2).Nodup
def Rep (K : PySem.W.Frag) (E : Ent) (σ : St) (H : Hp) (δ : Env) (π : Tmp) : Prop := ∃ G M, RepG K E G M σ H δ π
section
variable {K : PySem.W.Frag} {E : Ent} {G M G' M' : Addr → Prop} {σ : St} {H H' : Hp} {δ : Env} {π π' : Tmp} {v : V} {s : SV}
theorem LstO.stay {p : Addr} {ds : List D} (S : Stay M M' H H') (e : H' p = H p) (h : LstO K M H p ds) : LstO K M' H' p ds := by
  obtain ⟨vs, h1, h2⟩ := h
  exact ⟨vs, e ▸ h1, EncS.stay S h2⟩
theorem DicO.stay {p : Addr} {kvs : List (D × D)} (S : Stay M M' H H') (e : H' p = H p) (h : DicO K M H p kvs) : DicO K M' H' p kvs := by
  rcases h with ⟨ks, h1, h2⟩ | ⟨ks, h1, h2⟩
  · exact .inl ⟨ks, e ▸ h1, Paired.mapP h2 fun a b h => ⟨h.1, Enc.stay S h.2⟩⟩
  · exact .inr ⟨ks, e ▸ h1, Paired.mapP h2 fun a b h => ⟨h.1, Enc.stay S h.2⟩⟩
theorem LstO.mut {p : Addr} {ds : List D} (h : LstO K M H p ds) : Mut (H p) := by
  obtain ⟨vs, h1, _⟩ := h
  rw [h1]; trivial
theorem DicO.mut {p : Addr} {kvs : List (D × D)} (h : DicO K M H p kvs) : Mut (H p) := by
  rcases h with ⟨ks, h1, _⟩ | ⟨ks, h1, _⟩ <;> (rw [h1]; trivial)
theorem RT.stay (S : Stay M M' H H') (hg : ∀ a, G a → G' a) (hm : ∀ a ∈ owned s, Mine E G M a → Mine E G' M' a ∧ H' a = H a) (h : RT K E G M H v s) : RT K E G' M' H' v s := by
  cases s with
  | none => trivial
  | val d => exact Enc.stay S h
  | own p ds =>
    obtain ⟨e, m, h⟩ := h
    obtain ⟨a1, a2⟩ := hm p (by simp [owned]) m
    exact ⟨e, a1, h.stay S a2⟩
  | bor i p => exact h
  | bag =>
    obtain ⟨b, e, g⟩ := h
    exact ⟨b, e, hg b g⟩
  | two t p q ds es =>
    obtain ⟨e, et, m, n, h, k⟩ := h
    obtain ⟨a1, a2⟩ := hm p (by simp [owned]) m
    obtain ⟨b1, b2⟩ := hm q (by simp [owned]) n
    exact ⟨e, S.tup _ _ et, a1, b1, h.stay S a2, k.stay S b2⟩
  | dic p kvs =>
    obtain ⟨e, m, h⟩ := h
    obtain ⟨a1, a2⟩ := hm p (by simp [owned]) m
    exact ⟨e, a1, h.stay S a2⟩
  | scr ns =>
    obtain ⟨a, e, h⟩ := h
    refine ⟨a, e, ?_⟩
    rcases h with ⟨h, n⟩ | ⟨o, h⟩ | h
    · exact .inl (S.lst _ _ h n)
    · exact .inr (.inl ⟨o, S.frz _ _ _ h⟩)
    · exact .inr (.inr h)
theorem RepG.ext_to (R : RepG K E G M σ H δ π) (X : Ext G M H G' M' H') (g : Good G' M' H') : RepG K E G' M' σ H' δ π := by
  have S := X.stay R.good
  have hm : ∀ a, Mine E G M a → Mine E G' M' a ∧ H' a = H a := fun a ⟨m, n, z⟩ => by
    obtain ⟨o, e⟩ := R.good.m a m
    refine ⟨⟨X.ms a m, fun q => ?_, z⟩, ?_⟩
    · rcases X.gn a q with q | q
      · exact n q
      · rw [q] at e; cases e
    · rw [e, X.keep a o e n]
  exact ⟨R.g0, R.ext.trans X R.good, g, R.len, fun i s h n => let ⟨v, e, r⟩ := R.slot i s h n; ⟨v, e, r.stay S X.gs fun a _ => hm a⟩, fun x hx => (R.tmp x hx).stay S X.gs fun a _ => hm a, R.nd⟩
theorem RepG.perm (R : RepG K E G M σ H δ π) (h : π.Perm π') : RepG K E G M σ H δ π' :=
  ⟨R.g0, R.ext, R.good, R.len, R.slot, fun x hx => R.tmp x (h.mem_iff.mpr hx), (List.Perm.append_left _ (h.flatMap_right _)).nodup_iff.mp R.nd⟩
theorem RepG.drop (R : RepG K E G M σ H δ ((v, s) :: π)) : RepG K E G M σ H δ π := by
  refine ⟨R.g0, R.ext, R.good, R.len, R.slot, fun x hx => R.tmp x (List.mem_cons_of_mem _ hx), ?_⟩
  refine R.nd.sublist (List.Sublist.append_left ?_ _)
  rw [List.flatMap_cons]
  exact List.sublist_append_right _ _
theorem RepG.sub (R : RepG K E G M σ H δ (π' ++ π)) : RepG K E G M σ H δ π := by
  induction π' with
  | nil => exact R
  | cons x r ih => exact ih R.drop
theorem RepG.top (R : RepG K E G M σ H δ ((v, s) :: π)) : RT K E G M H v s := R.tmp _ List.mem_cons_self
/-- a value without an own list comes into hand -/
theorem RepG.push (R : RepG K E G M σ H δ π) (h : RT K E G M H v s) (n : owned s = []) : RepG K E G M σ H δ ((v, s) :: π) := by
  refine ⟨R.g0, R.ext, R.good, R.len, R.slot, fun x hx => ?_, ?_⟩
  · rcases List.mem_cons.mp hx with rfl | hx
    · exact h
    · exact R.tmp x hx
  · rw [List.flatMap_cons]
    show (List.flatMap owned δ ++ (owned s ++ List.flatMap (fun x => owned x.2) π)).Nodup
    rw [n]
    exact R.nd
/-- a new object that is never written -/
theorem RepG.laid (R : RepG K E G M σ H δ π) {p : Addr} {o : HO} (n : H p = Option.none) : RepG K E G M σ (upd H p o) δ π := by
  refine R.ext_to (M' := M) ⟨fun a u h _ => ?_, fun _ h => h, fun _ h => .inl h, fun _ h => h, fun _ h => .inl h⟩ ⟨R.good.gm, fun a h => ?_, fun a h => ?_⟩
  · rw [upd_ne (ne_of_none h n)]; exact h
  · obtain ⟨x, y, e, q⟩ := R.good.bag a h
    exact ⟨x, y, by rw [upd_ne (ne_of_none e n)]; exact e, q⟩
  · obtain ⟨u, e⟩ := R.good.m a h
    exact ⟨u, by rw [upd_ne (ne_of_none e n)]; exact e⟩
/-- every owned address is mine -/
theorem RepG.mine (R : RepG K E G M σ H δ π) {p : Addr} (h : p ∈ δ.flatMap owned ++ π.flatMap fun x => owned x.2) : Mine E G M p ∧ Mut (H p) := by
  have key : ∀ (v : V) (s : SV), RT K E G M H v s → p ∈ owned s → Mine E G M p ∧ Mut (H p) := fun v s r hp => by
    cases s with
    | own q ds =>
      have e : p = q := by simpa [owned] using hp
      subst e
      exact ⟨r.2.1, r.2.2.mut⟩
    | two t q q' ds es =>
      have e : p = q ∨ p = q' := by simpa [owned] using hp
      obtain ⟨_, _, m, m', h1, h2⟩ := r
      rcases e with rfl | rfl
      · exact ⟨m, h1.mut⟩
      · exact ⟨m', h2.mut⟩
    | dic q kvs =>
      have e : p = q := by simpa [owned] using hp
      subst e
      exact ⟨r.2.1, r.2.2.mut⟩
    | _ => simp [owned] at hp
  rcases List.mem_append.mp h with h | h
  · obtain ⟨s, hs, hp⟩ := List.mem_flatMap.mp h
    obtain ⟨i, hi⟩ := List.mem_iff_getElem?.mp hs
    obtain ⟨v, _, r⟩ := R.slot i s hi (fun z => by subst z; simp [owned] at hp)
    exact key v s r hp
  · obtain ⟨x, hx, hp⟩ := List.mem_flatMap.mp h
    exact key x.1 x.2 (R.tmp x hx) hp
/-- an object of one's own is laid at p -/
theorem RepG.freshO (R : RepG K E G M σ H δ π) {p : Addr} {o : HO} (n : H p = Option.none) :
    Ext G M H G (fun a => M a ∨ a = p) (upd H p o) ∧ Good G (fun a => M a ∨ a = p) (upd H p o) ∧ Mine E G (fun a => M a ∨ a = p) p ∧ p ∉ List.flatMap owned δ ++ List.flatMap (fun x => owned x.2) π := by
  have np : ¬ G p := fun z => by
    obtain ⟨x, y, e, _⟩ := R.good.bag p z
    rw [n] at e; cases e
  refine ⟨?_, ?_, ⟨.inr rfl, np, R.ext.back R.good n⟩, fun z => ?_⟩
  · refine ⟨fun a u h _ => by rw [upd_ne (ne_of_none h n)]; exact h, fun _ h => h, fun _ h => .inl h, fun _ h => .inl h, fun a h => ?_⟩
    rcases h with h | h
    · exact .inl h
    · subst h; exact .inr n
  · refine ⟨fun a h => .inl (R.good.gm a h), fun a h => ?_, fun a h => ?_⟩
    · obtain ⟨x, y, e, q⟩ := R.good.bag a h
      exact ⟨x, y, by rw [upd_ne (ne_of_none e n)]; exact e, q⟩
    · rcases h with h | h
      · obtain ⟨u, e⟩ := R.good.m a h
        exact ⟨u, by rw [upd_ne (ne_of_none e n)]; exact e⟩
      · subst h; exact ⟨_, upd_same⟩
  · obtain ⟨_, m⟩ := R.mine z
    rw [n] at m; exact m
theorem nd_push {a b c : List Addr} {p : Addr} (h : (a ++ b).Nodup) (n : p ∉ a ++ b) : (a ++ ([p] ++ b)).Nodup := by
  have : (a ++ ([p] ++ b)).Perm (p :: (a ++ b)) := by simpa using List.perm_middle
  exact this.nodup_iff.mpr (List.nodup_cons.mpr ⟨n, h⟩)
/-- a new list of one's own -/
theorem RepG.fresh (R : RepG K E G M σ H δ π) {p : Addr} {vs : List V} {ds : List D} (n : H p = Option.none) (h : EncS K M H vs ds) :
    RepG K E G (fun a => M a ∨ a = p) σ (upd H p (.lst vs)) δ ((.ref p, .own p ds) :: π) := by
  obtain ⟨X, g, m, hp⟩ := R.freshO (o := .lst vs) n
  have R' := R.ext_to X g
  refine ⟨R'.g0, R'.ext, R'.good, R'.len, R'.slot, fun x hx => ?_, ?_⟩
  · rcases List.mem_cons.mp hx with rfl | hx
    · exact ⟨rfl, m, vs, upd_same, EncS.stay (X.stay R.good) h⟩
    · exact R'.tmp x hx
  · rw [List.flatMap_cons]
    exact nd_push (c := []) R.nd hp
theorem RepG.freshD (R : RepG K E G M σ H δ π) {p : Addr} (n : H p = Option.none) (b : Bool) :
    RepG K E G (fun a => M a ∨ a = p) σ (upd H p (if b then .dK [] else .dT [])) δ ((.ref p, .dic p []) :: π) := by
  obtain ⟨X, g, m, hp⟩ := R.freshO (o := if b then .dK [] else .dT []) n
  have R' := R.ext_to X g
  refine ⟨R'.g0, R'.ext, R'.good, R'.len, R'.slot, fun x hx => ?_, ?_⟩
  · rcases List.mem_cons.mp hx with rfl | hx
    · refine ⟨rfl, m, ?_⟩
      cases b with
      | true => exact .inl ⟨[], upd_same, .nil⟩
      | false => exact .inr ⟨[], upd_same, .nil⟩
    · exact R'.tmp x hx
  · rw [List.flatMap_cons]
    exact nd_push (c := []) R.nd hp
/-! #### slots and what they own -/
theorem flat_set : ∀ {δ : Env} {i : Nat} {s : SV}, i < δ.length → ((δ.set i s).flatMap owned).Perm (owned s ++ (δ.set i .none).flatMap owned)
  | [], _, _, h => absurd h (Nat.not_lt_zero _)
  | x :: r, 0, s, _ => by
    show (owned s ++ r.flatMap owned).Perm (owned s ++ ([] ++ r.flatMap owned))
    exact List.Perm.refl _
  | x :: r, i + 1, s, h => by
    have ih := flat_set (δ := r) (i := i) (s := s) (Nat.lt_of_succ_lt_succ h)
    show (owned x ++ (r.set i s).flatMap owned).Perm (owned s ++ (owned x ++ (r.set i .none).flatMap owned))
    refine (List.Perm.append_left _ ih).trans ?_
    rw [← List.append_assoc, ← List.append_assoc]
    exact List.Perm.append_right _ List.perm_append_comm
theorem flat_sub : ∀ (δ : Env) (i : Nat), ((δ.set i .none).flatMap owned).Sublist (δ.flatMap owned)
  | [], _ => List.Sublist.refl _
  | x :: r, 0 => by
    show ([] ++ r.flatMap owned).Sublist (owned x ++ r.flatMap owned)
    exact List.Sublist.append_right (List.nil_sublist _) _
  | x :: r, i + 1 => by
    show (owned x ++ (r.set i .none).flatMap owned).Sublist (owned x ++ r.flatMap owned)
    exact List.Sublist.append_left (flat_sub r i) _
theorem set_self {δ : Env} {i : Nat} {s : SV} (h : δ[i]? = some s) : δ.set i s = δ := by
  apply List.ext_getElem?
  intro j
  rw [List.getElem?_set]
  split
  · rename_i e
    subst e
    obtain ⟨h1, h2⟩ := List.getElem?_eq_some_iff.mp h
    rw [if_pos h1, h]
  · rfl
theorem lt_of_get {δ : Env} {i : Nat} {s : SV} (h : δ[i]? = some s) : i < δ.length := (List.getElem?_eq_some_iff.mp h).1
/-- what is in hand goes into a slot -/
theorem RepG.store (R : RepG K E G M σ H δ ((v, s) :: π)) {i : Nat} (hi : i < δ.length) : RepG K E G M (σ.set i (some v)) H (δ.set i s) π := by
  refine ⟨R.g0, R.ext, R.good, by simp [R.len], fun j t h n => ?_, fun x hx => R.tmp x (List.mem_cons_of_mem _ hx), ?_⟩
  · rw [List.getElem?_set] at h ⊢
    by_cases e : i = j
    · subst e
      rw [if_pos rfl, if_pos hi] at h
      rw [if_pos rfl, if_pos (by rw [R.len]; exact hi)]
      cases h
      exact ⟨v, rfl, R.top⟩
    · rw [if_neg e] at h ⊢
      exact R.slot j t h n
  · have q := R.nd
    rw [List.flatMap_cons] at q
    have p1 : ((δ.set i s).flatMap owned ++ π.flatMap fun x => owned x.2).Perm ((δ.set i .none).flatMap owned ++ (owned s ++ π.flatMap fun x => owned x.2)) := by
      refine (List.Perm.append_right _ (flat_set hi)).trans ?_
      rw [← List.append_assoc]
      exact List.Perm.append_right _ List.perm_append_comm
    exact p1.nodup_iff.mpr (q.sublist (List.Sublist.append_right (flat_sub δ i) _))
/-- forget a slot -/
theorem RepG.forget (R : RepG K E G M σ H δ π) (i : Nat) : RepG K E G M σ H (δ.set i .none) π := by
  refine ⟨R.g0, R.ext, R.good, by simp [R.len], fun j t h n => ?_, R.tmp, R.nd.sublist (List.Sublist.append_right (flat_sub δ i) _)⟩
  rw [List.getElem?_set] at h
  split at h
  · split at h
    · cases h; exact absurd rfl n
    · cases h
  · exact R.slot j t h n
/-- the slot's address stands in no other place -/
theorem RepG.apart (R : RepG K E G M σ H δ π) {i : Nat} {p : Addr} (h : δ[i]? = some s) (hp : p ∈ owned s) : p ∉ ((δ.set i .none).flatMap owned ++ π.flatMap fun x => owned x.2) := by
  have hi := lt_of_get h
  have p1 : (δ.flatMap owned ++ π.flatMap fun x => owned x.2).Perm (owned s ++ ((δ.set i .none).flatMap owned ++ π.flatMap fun x => owned x.2)) := by
    have q := flat_set (s := s) hi
    rw [set_self h] at q
    rw [← List.append_assoc]
    exact List.Perm.append_right _ q
  have nd := p1.nodup_iff.mp R.nd
  intro z
  exact (List.nodup_append.mp nd).2.2 p hp p z rfl
theorem RepG.apartT (R : RepG K E G M σ H δ ((v, s) :: π)) {p : Addr} (hp : p ∈ owned s) : p ∉ (δ.flatMap owned ++ π.flatMap fun x => owned x.2) := by
  have nd := R.nd
  rw [List.flatMap_cons] at nd
  have p1 : (δ.flatMap owned ++ (owned s ++ π.flatMap fun x => owned x.2)).Perm (owned s ++ (δ.flatMap owned ++ π.flatMap fun x => owned x.2)) := by
    rw [← List.append_assoc, ← List.append_assoc]
    exact List.Perm.append_right _ List.perm_append_comm
  have nd := p1.nodup_iff.mp nd
  intro z
  exact (List.nodup_append.mp nd).2.2 p hp p z rfl
theorem mem_flat_slot {δ : Env} {i j : Nat} {s : SV} {p : Addr} (hj : δ[j]? = some s) (e : j ≠ i) (hp : p ∈ owned s) : p ∈ (δ.set i .none).flatMap owned := by
  refine List.mem_flatMap.mpr ⟨s, ?_, hp⟩
  refine List.mem_of_getElem? (i := j) ?_
  rw [List.getElem?_set_ne (Ne.symm e)]
  exact hj
theorem stay_upd {p : Addr} {o : HO} (m : M p) (h : Mut (H p)) : Stay M M H (upd H p o) where
  frz := fun a u w q => by rw [upd_ne (by rintro rfl; rw [q] at h; exact h)]; exact q
  tup := fun a xs q => by
    rcases q with q | ⟨u, q⟩
    · exact .inl (by rw [upd_ne (by rintro rfl; rw [q] at h; exact h)]; exact q)
    · exact .inr ⟨u, by rw [upd_ne (by rintro rfl; rw [q] at h; exact h)]; exact q⟩
  lst := fun a xs q n => by
    have e : a ≠ p := fun z => n (z ▸ m)
    exact ⟨by rw [upd_ne e]; exact q, n⟩
theorem good_upd {p : Addr} {o : HO} (g : Good G M H) (n : ¬ G p) : Good G M (upd H p o) := by
  refine ⟨g.gm, fun a h => ?_, fun a h => ?_⟩
  · obtain ⟨x, y, e, q⟩ := g.bag a h
    exact ⟨x, y, by rw [upd_ne (by rintro rfl; exact n h)]; exact e, q⟩
  · obtain ⟨u, e⟩ := g.m a h
    by_cases q : a = p
    · subst q; exact ⟨_, upd_same⟩
    · exact ⟨u, by rw [upd_ne q]; exact e⟩
theorem ext_upd {p : Addr} {o : HO} (X : Ext E.G E.M E.H G M H) (m : E.H p = Option.none) : Ext E.G E.M E.H G M (upd H p o) :=
  ⟨fun a u h n => by rw [upd_ne (ne_of_none h m)]; exact X.keep a u h n, X.gs, X.gn, X.ms, X.mn⟩
/-- what stands in a slot is changed at p, its own -/
theorem RepG.writeO (R : RepG K E G M σ H δ π) {i : Nat} {p : Addr} {o : HO} {t : SV} (h : δ[i]? = some s) (hp : p ∈ owned s) (ho : owned t = owned s) (hn : s ≠ .none) (ht : ∀ v, RT K E G M H v s → Mine E G M p → Stay M M H (upd H p o) → RT K E G M (upd H p o) v t) :
    RepG K E G M σ (upd H p o) (δ.set i t) π := by
  obtain ⟨v, e, r⟩ := R.slot i _ h hn
  have hi := lt_of_get h
  obtain ⟨m, mu⟩ := R.mine (List.mem_append_left _ (List.mem_flatMap.mpr ⟨s, List.mem_of_getElem? h, hp⟩))
  have S : Stay M M H (upd H p o) := stay_upd m.1 mu
  have ap := R.apart h hp
  refine ⟨R.g0, ext_upd R.ext m.2.2, good_upd R.good m.2.1, by simp [R.len], fun j t' hj n => ?_, fun x hx => ?_, ?_⟩
  · by_cases q : j = i
    · subst q
      rw [List.getElem?_set_self hi] at hj
      cases hj
      exact ⟨_, e, ht v r m S⟩
    · rw [List.getElem?_set_ne (Ne.symm q)] at hj
      obtain ⟨w, e', r⟩ := R.slot j t' hj n
      refine ⟨w, e', r.stay S (fun _ z => z) fun a ha m => ⟨m, ?_⟩⟩
      exact upd_ne fun z => ap (List.mem_append_left _ (mem_flat_slot hj q (z ▸ ha)))
  · refine (R.tmp x hx).stay S (fun _ z => z) fun a ha m => ⟨m, ?_⟩
    exact upd_ne fun z => ap (List.mem_append_right _ (List.mem_flatMap.mpr ⟨x, hx, z ▸ ha⟩))
  · have p1 := flat_set (s := t) hi
    have p2 := flat_set (s := s) hi
    rw [set_self h] at p2
    rw [ho] at p1
    exact (List.Perm.append_right _ (p1.trans p2.symm)).nodup_iff.mpr R.nd
/-- the own list of a slot is written -/
theorem RepG.write (R : RepG K E G M σ H δ π) {i : Nat} {p : Addr} {ds es : List D} {us : List V} (h : δ[i]? = some (.own p ds)) (hu : EncS K M H us es) : RepG K E G M σ (upd H p (.lst us)) (δ.set i (.own p es)) π :=
  R.writeO h (by simp [owned]) rfl (fun z => nomatch z) fun v r m S => ⟨r.1, m, us, upd_same, EncS.stay S hu⟩
/-- an own list in hand is written -/
theorem RepG.writeT {p : Addr} {ds es : List D} {us : List V} (R : RepG K E G M σ H δ ((v, .own p ds) :: π)) (hu : EncS K M H us es) : RepG K E G M σ (upd H p (.lst us)) δ ((v, .own p es) :: π) := by
  obtain ⟨rfl, m, l⟩ := R.top
  have S : Stay M M H (upd H p (.lst us)) := stay_upd m.1 l.mut
  have ap := R.apartT (p := p) (by simp [owned])
  refine ⟨R.g0, ext_upd R.ext m.2.2, good_upd R.good m.2.1, R.len, fun j t hj n => ?_, fun x hx => ?_, R.nd⟩
  · obtain ⟨w, e', r⟩ := R.slot j t hj n
    refine ⟨w, e', r.stay S (fun _ z => z) fun a ha m => ⟨m, ?_⟩⟩
    exact upd_ne fun z => ap (List.mem_append_left _ (List.mem_flatMap.mpr ⟨t, List.mem_of_getElem? hj, z ▸ ha⟩))
  · rcases List.mem_cons.mp hx with rfl | hx
    · exact ⟨rfl, m, us, upd_same, EncS.stay S hu⟩
    · refine (R.tmp x (List.mem_cons_of_mem _ hx)).stay S (fun _ z => z) fun a ha m => ⟨m, ?_⟩
      exact upd_ne fun z => ap (List.mem_append_right _ (List.mem_flatMap.mpr ⟨x, hx, z ▸ ha⟩))
/-- without p -/
def but (M : Addr → Prop) (p : Addr) : Addr → Prop := fun a => M a ∧ a ≠ p
theorem stay_but {p : Addr} : Stay M (but M p) H H := ⟨fun _ _ _ h => h, fun _ _ h => h, fun _ _ h n => ⟨h, fun z => n z.1⟩⟩
theorem RepG.butWorld (R : RepG K E G M σ H δ π) {p : Addr} (m : Mine E G M p) : Ext E.G E.M E.H G (but M p) H ∧ Good G (but M p) H := by
  obtain ⟨m1, m2, m3⟩ := m
  refine ⟨⟨R.ext.keep, R.ext.gs, R.ext.gn, fun a h => ⟨R.ext.ms a h, fun z => ?_⟩, fun a h => R.ext.mn a h.1⟩, ⟨fun a h => ⟨R.good.gm a h, fun z => m2 (z ▸ h)⟩, R.good.bag, fun a h => R.good.m a h.1⟩⟩
  obtain ⟨o, e⟩ := R.g0.m a h
  rw [z, m3] at e; cases e
/-- the own list of a slot is done: it is data from now on -/
theorem RepG.freeze (R : RepG K E G M σ H δ π) {i : Nat} {p : Addr} {ds : List D} (h : δ[i]? = some (.own p ds)) : RepG K E G (but M p) σ H (δ.set i (.val (.list ds))) π := by
  obtain ⟨v, e, rfl, m, vs, h1, h2⟩ := R.slot i _ h (fun z => nomatch z)
  obtain ⟨w1, w2⟩ := R.butWorld m
  have ap := R.apart h (p := p) (by simp [owned])
  have hi := lt_of_get h
  have S : Stay M (but M p) H H := stay_but
  refine ⟨R.g0, w1, w2, by simp [R.len], fun j t hj n => ?_, fun x hx => ?_, ?_⟩
  · by_cases q : j = i
    · subst q
      rw [List.getElem?_set_self hi] at hj
      cases hj
      exact ⟨_, e, .lst h1 (fun z => z.2 rfl) (EncS.stay S h2)⟩
    · rw [List.getElem?_set_ne (Ne.symm q)] at hj
      obtain ⟨w, e', r⟩ := R.slot j t hj n
      refine ⟨w, e', r.stay S (fun _ z => z) fun a ha m => ⟨⟨⟨m.1, ?_⟩, m.2⟩, rfl⟩⟩
      exact fun z => ap (List.mem_append_left _ (mem_flat_slot hj q (z ▸ ha)))
  · refine (R.tmp x hx).stay S (fun _ z => z) fun a ha m => ⟨⟨⟨m.1, ?_⟩, m.2⟩, rfl⟩
    exact fun z => ap (List.mem_append_right _ (List.mem_flatMap.mpr ⟨x, hx, z ▸ ha⟩))
  · have p1 := flat_set (s := .val (.list ds)) hi
    exact (List.Perm.append_right _ p1).nodup_iff.mpr (R.nd.sublist (List.Sublist.append_right (flat_sub δ i) _))
theorem RepG.freezeT {p : Addr} {ds : List D} (R : RepG K E G M σ H δ ((v, .own p ds) :: π)) : RepG K E G (but M p) σ H δ ((v, .val (.list ds)) :: π) := by
  obtain ⟨rfl, m, vs, h1, h2⟩ := R.top
  obtain ⟨w1, w2⟩ := R.butWorld m
  have ap := R.apartT (p := p) (by simp [owned])
  have S : Stay M (but M p) H H := stay_but
  refine ⟨R.g0, w1, w2, R.len, fun j t hj n => ?_, fun x hx => ?_, ?_⟩
  · obtain ⟨w, e', r⟩ := R.slot j t hj n
    refine ⟨w, e', r.stay S (fun _ z => z) fun a ha m => ⟨⟨⟨m.1, ?_⟩, m.2⟩, rfl⟩⟩
    exact fun z => ap (List.mem_append_left _ (List.mem_flatMap.mpr ⟨t, List.mem_of_getElem? hj, z ▸ ha⟩))
  · rcases List.mem_cons.mp hx with rfl | hx
    · exact .lst h1 (fun z => z.2 rfl) (EncS.stay S h2)
    · refine (R.tmp x (List.mem_cons_of_mem _ hx)).stay S (fun _ z => z) fun a ha m => ⟨⟨⟨m.1, ?_⟩, m.2⟩, rfl⟩
      exact fun z => ap (List.mem_append_right _ (List.mem_flatMap.mpr ⟨x, hx, z ▸ ha⟩))
  · refine R.nd.sublist (List.Sublist.append_left ?_ _)
    rw [List.flatMap_cons, List.flatMap_cons]
    exact List.Sublist.append_right (List.nil_sublist _) _
/-- a slot that owns something is emptied: it comes into hand -/
theorem RepG.take (R : RepG K E G M σ H δ π) {i : Nat} (h : δ[i]? = some s) (hn : s ≠ .none) : ∃ v, σ[i]? = some (some v) ∧ RepG K E G M σ H (δ.set i .none) ((v, s) :: π) := by
  obtain ⟨v, e, r⟩ := R.slot i s h hn
  have hi := lt_of_get h
  refine ⟨v, e, R.g0, R.ext, R.good, by simp [R.len], (R.forget i).slot, fun x hx => ?_, ?_⟩
  · rcases List.mem_cons.mp hx with rfl | hx
    · exact r
    · exact R.tmp x hx
  · have q := flat_set (s := s) hi
    rw [set_self h] at q
    rw [List.flatMap_cons, ← List.append_assoc]
    refine (List.Perm.append_right _ (q.trans List.perm_append_comm)).nodup_iff.mp R.nd
/-- an own list of two numbers becomes a bag -/
theorem RepG.bagT {p : Addr} {x y : Int} (R : RepG K E G M σ H δ ((v, .own p [.int x, .int y]) :: π)) (hx : 0 ≤ x) (hy : 0 ≤ y) (hy2 : y < 2147483647) : RepG K E (fun a => G a ∨ a = p) M σ H δ ((v, .bag) :: π) := by
  obtain ⟨rfl, ⟨m1, m2, m3⟩, vs, h1, h2⟩ := R.top
  have ap := R.apartT (p := p) (by simp [owned])
  have hv : vs = [.int x, .int y] := by
    cases h2 with
    | cons a r => cases r with
      | cons b r => cases r; cases a; cases b; rfl
  subst hv
  have S : Stay M M H H := ⟨fun _ _ _ h => h, fun _ _ h => h, fun _ _ h n => ⟨h, n⟩⟩
  refine ⟨R.g0, ⟨fun a o h n => R.ext.keep a o h n, fun a h => .inl (R.ext.gs a h), fun a h => ?_, R.ext.ms, R.ext.mn⟩, ⟨fun a h => ?_, fun a h => ?_, R.good.m⟩, R.len, fun j t hj n => ?_, fun z hz => ?_, ?_⟩
  · rcases h with h | h
    · exact R.ext.gn a h
    · subst h; exact .inr m3
  · rcases h with h | h
    · exact R.good.gm a h
    · subst h; exact m1
  · rcases h with h | h
    · exact R.good.bag a h
    · subst h; exact ⟨x, y, h1, hx, hy, hy2⟩
  · obtain ⟨w, e', r⟩ := R.slot j t hj n
    refine ⟨w, e', r.stay S (fun _ z => .inl z) fun a ha m => ⟨⟨m.1, fun z => z.elim m.2.1 fun z => ?_, m.2.2⟩, rfl⟩⟩
    exact ap (List.mem_append_left _ (List.mem_flatMap.mpr ⟨t, List.mem_of_getElem? hj, z ▸ ha⟩))
  · rcases List.mem_cons.mp hz with rfl | hz
    · exact ⟨p, rfl, .inr rfl⟩
    · refine (R.tmp z (List.mem_cons_of_mem _ hz)).stay S (fun _ z => .inl z) fun a ha m => ⟨⟨m.1, fun q => q.elim m.2.1 fun q => ?_, m.2.2⟩, rfl⟩
      exact ap (List.mem_append_right _ (List.mem_flatMap.mpr ⟨z, hz, q ▸ ha⟩))
  · refine R.nd.sublist (List.Sublist.append_left ?_ _)
    rw [List.flatMap_cons, List.flatMap_cons]
    exact List.Sublist.append_right (List.nil_sublist _) _
/-- a bag is written -/
theorem RepG.bagW (R : RepG K E G M σ H δ π) {b : Addr} (hb : G b) {x y : Int} (hx : 0 ≤ x) (hy : 0 ≤ y) (hy2 : y < 2147483647) : RepG K E G M σ (upd H b (.lst [.int x, .int y])) δ π := by
  obtain ⟨x0, y0, e0, _⟩ := R.good.bag b hb
  have X : Ext G M H G M (upd H b (.lst [.int x, .int y])) := ⟨fun a o h n => by rw [upd_ne (by rintro rfl; exact n hb)]; exact h, fun _ h => h, fun _ h => .inl h, fun _ h => h, fun _ h => .inl h⟩
  refine R.ext_to X ⟨R.good.gm, fun a h => ?_, fun a h => ?_⟩
  · by_cases q : a = b
    · subst q; exact ⟨x, y, upd_same, hx, hy, hy2⟩
    · obtain ⟨x', y', e, z⟩ := R.good.bag a h
      exact ⟨x', y', by rw [upd_ne q]; exact e, z⟩
  · by_cases q : a = b
    · subst q; exact ⟨_, upd_same⟩
    · obtain ⟨o, e⟩ := R.good.m a h
      exact ⟨o, by rw [upd_ne q]; exact e⟩
end
end HR
namespace HR
open PySem PySem.Spec L2
open PyProof.Rows hiding St
/-! ### readings over data -/
abbrev VD := SV → Env → Prop
abbrev TD := Env → VD → Prop
abbrev TDT := Env → (Bool → Env → Prop) → Prop
abbrev TDA := Env → (List SV → Env → Prop) → Prop
def lE (K : PySem.W.Frag) (E : Ent) (T : TD) : TE := fun σ H Q => ∃ δ π Q', Rep K E σ H δ π ∧ T δ Q' ∧ ∀ v H' r δ', Rep K E σ H' δ' ((v, r) :: π) → Q' r δ' → Q v H'
def lT (K : PySem.W.Frag) (E : Ent) (T : TDT) : TT := fun σ H Q => ∃ δ π Q', Rep K E σ H δ π ∧ T δ Q' ∧ ∀ b H' δ', Rep K E σ H' δ' π → Q' b δ' → Q b H'
def lA (K : PySem.W.Frag) (E : Ent) (T : TDA) : TA := fun σ H Q => ∃ δ π Q', Rep K E σ H δ π ∧ T δ Q' ∧ ∀ vs H' rs δ', vs.length = rs.length → Rep K E σ H' δ' (vs.zip rs ++ π) → Q' rs δ' → Q vs H'
abbrev DE (X : Cx) (E : Ent) (e : Expr) (T : TD) : Prop := PE X e (lE X.K E T)
abbrev DT (X : Cx) (E : Ent) (e : Expr) (T : TDT) : Prop := PT X e (lT X.K E T)
abbrev DW (X : Cx) (E : Ent) (e : Expr) (T : TDT) : Prop := PW X e (lT X.K E T)
abbrev DA (X : Cx) (E : Ent) (es : List Expr) (T : TDA) : Prop := PA X es (lA X.K E T)
section
variable {X : Cx} {E : Ent} {e : Expr} {es : List Expr}
theorem PE.imp {t t' : TE} (h : PE X e t) (i : ∀ σ H Q, t' σ H Q → t σ H Q) : PE X e t' := ⟨fun pins s σ H Q I q => h.run pins s σ H Q I (i _ _ _ q)⟩
theorem PT.imp {t t' : TT} (h : PT X e t) (i : ∀ σ H Q, t' σ H Q → t σ H Q) : PT X e t' := ⟨fun pins s σ H Q I q => h.run pins s σ H Q I (i _ _ _ q)⟩
theorem PW.imp {t t' : TT} (h : PW X e t) (i : ∀ σ H Q, t' σ H Q → t σ H Q) : PW X e t' := ⟨fun wh pins s σ H Q I q => h.run wh pins s σ H Q I (i _ _ _ q)⟩
theorem PA.imp {t t' : TA} (h : PA X es t) (i : ∀ σ H Q, t' σ H Q → t σ H Q) : PA X es t' := ⟨fun pos pins s σ H Q I q => h.run pos pins s σ H Q I (i _ _ _ q)⟩
end
section
variable {K : PySem.W.Frag} {E : Ent} {σ : L2.St} {H H' : Hp} {δ δ' : Env} {π π' : Tmp} {v : V} {s r : SV}
theorem Rep.perm (R : Rep K E σ H δ π) (h : π.Perm π') : Rep K E σ H δ π' := let ⟨G, M, R⟩ := R; ⟨G, M, R.perm h⟩
theorem Rep.drop {x : V × SV} (R : Rep K E σ H δ (x :: π)) : Rep K E σ H δ π := let ⟨G, M, R⟩ := R; ⟨G, M, RepG.drop (v := x.1) (s := x.2) R⟩
theorem Rep.sub (R : Rep K E σ H δ (π' ++ π)) : Rep K E σ H δ π := let ⟨G, M, R⟩ := R; ⟨G, M, R.sub⟩
/-- data at hand -/
theorem Rep.scal (R : Rep K E σ H δ π) {d : D} (h : ∀ M, Enc K M H v d) : Rep K E σ H δ ((v, .val d) :: π) := let ⟨G, M, R⟩ := R; ⟨G, M, R.push (s := .val d) (h M) rfl⟩
theorem Rep.int (R : Rep K E σ H δ π) (i : Int) : Rep K E σ H δ ((.int i, .val (.int i)) :: π) := R.scal fun _ => .int i
theorem Rep.bl (R : Rep K E σ H δ π) (i : Bool) : Rep K E σ H δ ((.bl i, .val (.bool i)) :: π) := R.scal fun _ => .bl i
theorem Rep.str (R : Rep K E σ H δ π) (i : Str) : Rep K E σ H δ ((.str i, .val (.str i)) :: π) := R.scal fun _ => .str i
theorem Rep.non (R : Rep K E σ H δ π) : Rep K E σ H δ ((.non, .val .none) :: π) := R.scal fun _ => .non
/-- the two at the top give way to one -/
theorem Rep.under1 {x : V × SV} {y : V × SV} (R : Rep K E σ H δ (x :: y :: π)) : Rep K E σ H δ (x :: π) := (R.perm (List.Perm.swap y x π)).drop
theorem Rep.under2 {x y z : V × SV} (R : Rep K E σ H δ (x :: y :: z :: π)) : Rep K E σ H δ (x :: π) := R.under1.under1
theorem Rep.underN {x : V × SV} (R : Rep K E σ H δ (x :: (π' ++ π))) : Rep K E σ H δ (x :: π) :=
  (R.perm (show (x :: (π' ++ π)).Perm (π' ++ (x :: π)) from List.perm_middle.symm)).sub
end
/-! ### what is in hand, as a list, as data -/
def tagOf : SV → Addr
  | .bor _ p => p
  | _ => 0
def viewA (s : SV) (δ : Env) : Option (Addr × List D) := match s with
  | .val (.list ds) => some (0, ds)
  | .own _ ds => some (0, ds)
  | .bor i _ => (match δ[i]? with
    | some (.own q ds) => some (q, ds)
    | _ => none)
  | _ => none
/-- a list -/
def View (s : SV) (δ : Env) (ds : List D) : Prop := viewA s δ = some (tagOf s, ds)
/-- as data, only looked at -/
def DataR (s : SV) (δ : Env) (d : D) : Prop := match s with
  | .val e => e = d
  | s => (viewA s δ).map (fun x => (x.1, PyData.list x.2)) = some (tagOf s, d)
/-- a list or a tuple -/
def SeqR (s : SV) (δ : Env) (ds : List D) : Prop := match s with
  | .val (.tuple es) => es = ds
  | s => View s δ ds
/-- as data, kept: an own list is done with that -/
def asD (s : SV) (δ : Env) (Q : D → Env → Prop) : Prop := match s with
  | .val d => Q d δ
  | .own _ ds => Q (.list ds) δ
  | .bor i p => ∃ ds, δ[i]? = some (.own p ds) ∧ Q (.list ds) (δ.set i (.val (.list ds)))
  | _ => False
section
variable {K : PySem.W.Frag} {E : Ent} {σ : L2.St} {H H' : Hp} {δ δ' : Env} {π π' : Tmp} {v : V} {s r : SV} {G M : Addr → Prop}
theorem RepG.view (R : RepG K E G M σ H δ π) (h : (v, s) ∈ π) {ds : List D} (e : View s δ ds) : ∃ a vs, v = .ref a ∧ H a = some (.lst vs) ∧ EncS K M H vs ds := by
  have r := R.tmp _ h
  cases s with
  | val d =>
    cases d with
    | list es =>
      cases e
      cases r with
      | lst h1 h2 h3 => exact ⟨_, _, rfl, h1, h3⟩
    | _ => cases e
  | own p es =>
    cases e
    obtain ⟨e1, _, vs, h1, h2⟩ := r
    exact ⟨p, vs, e1, h1, h2⟩
  | bor i p =>
    unfold View viewA at e
    simp only [tagOf] at e
    split at e
    · rename_i q es hq
      cases e
      obtain ⟨w, _, _, _, vs, h1, h2⟩ := R.slot i _ hq (fun z => nomatch z)
      exact ⟨p, vs, r, h1, h2⟩
    · cases e
  | _ => cases e
theorem RepG.data (R : RepG K E G M σ H δ π) (h : (v, s) ∈ π) {d : D} (e : DataR s δ d) : Dp K H v d := by
  have key : ∀ {s : SV}, (v, s) ∈ π → (viewA s δ).map (fun x => (x.1, PyData.list x.2)) = some (tagOf s, d) → Dp K H v d := fun {s} h e => by
    cases q : viewA s δ with
    | none => rw [q] at e; cases e
    | some x =>
      obtain ⟨t, ds⟩ := x
      rw [q] at e
      simp only [Option.map_some, Option.some.injEq, Prod.mk.injEq] at e
      obtain ⟨rfl, rfl⟩ := e
      obtain ⟨a, vs, rfl, h1, h2⟩ := R.view h q
      exact .lst (SqL.of h1) h2.dp
  cases s with
  | val d' =>
    cases e
    exact Enc.dp (R.tmp _ h)
  | _ => exact key h e
theorem asD_ok (R : Rep K E σ H δ ((v, s) :: π)) {Q : D → Env → Prop} (h : asD s δ Q) : ∃ d δ', Rep K E σ H δ' ((v, .val d) :: π) ∧ Q d δ' := by
  obtain ⟨G, M, R⟩ := R
  cases s with
  | val d => exact ⟨d, δ, ⟨G, M, R⟩, h⟩
  | own p ds => exact ⟨_, δ, ⟨_, _, R.freezeT⟩, h⟩
  | bor i p =>
    obtain ⟨ds, e, h⟩ := h
    have e1 : v = .ref p := R.top
    subst e1
    have F := R.freeze e
    obtain ⟨w, e2, rfl, m, l⟩ := R.slot i _ e (fun z => nomatch z)
    obtain ⟨w', e3, r⟩ := F.slot i (.val (.list ds)) (by rw [List.getElem?_set_self (lt_of_get e)]) (fun z => nomatch z)
    rw [e2] at e3
    cases e3
    exact ⟨_, _, ⟨_, _, (F.drop).push (s := .val (.list ds)) r rfl⟩, h⟩
  | _ => exact h.elim
end
/-! ### names and constants -/
def tdC (d : D) : TD := fun δ Q => Q (.val d) δ
def tdVar (i : Nat) : TD := fun δ Q => match δ[i]? with
  | some (.val d) => Q (.val d) δ
  | some (.own p _) => Q (.bor i p) δ
  | some (.dic p _) => Q (.bor i p) δ
  | some (.two t _ _ _ _) => Q (.bor i t) δ
  | some .bag => Q .bag δ
  | some (.scr ns) => Q (.scr ns) δ
  | _ => False
section
variable {X : Cx} {E : Ent} {a b c : Expr} {Ta Tb Tc : TD} {pos : Pos}
theorem de_var {i : Nat} {x : Str} (hN : X.N[i]? = some x := by rfl) (hv : Vis X.env.scope x := by first | exact Or.inl rfl | exact Or.inr (Or.inl rfl) | exact Or.inr (Or.inr rfl)) (hd : (x == ("__debug__" : Str)) = false := by decide)
    (hcd : (x == ("__classdict__" : Str)) = false := by decide) : DE X E (.Name x pos) (tdVar i) := by
  refine PE.imp (pe_var hN hv hd hcd) ?_
  rintro σ H Q ⟨δ, π, Q', ⟨G, M, R⟩, t, k⟩
  unfold tdVar at t
  have key : ∀ s r : SV, δ[i]? = some s → s ≠ .none → owned r = [] → (∀ v, RT X.K E G M H v s → RT X.K E G M H v r) → Q' r δ → tVar i σ H Q := fun s r e n ho hr q => by
    obtain ⟨v, e2, r2⟩ := R.slot i s e n
    exact ⟨v, e2, k v H r δ ⟨G, M, R.push (hr v r2) ho⟩ q⟩
  split at t
  · rename_i d e; exact key _ _ e (fun z => nomatch z) rfl (fun _ r => r) t
  · rename_i p ds e; exact key _ (.bor i p) e (fun z => nomatch z) rfl (fun _ r => r.1) t
  · rename_i p ds e; exact key _ (.bor i p) e (fun z => nomatch z) rfl (fun _ r => r.1) t
  · rename_i p _ _ _ _ e; exact key _ (.bor i p) e (fun z => nomatch z) rfl (fun _ r => r.1) t
  · rename_i e; exact key _ _ e (fun z => nomatch z) rfl (fun _ r => r) t
  · rename_i ns e; exact key _ _ e (fun z => nomatch z) rfl (fun _ r => r) t
  · exact t.elim
theorem de_C {e : Expr} {v : V} {d : D} (h : PE X e (tC v)) (he : ∀ M H, Enc X.K M H v d) : DE X E e (tdC d) :=
  PE.imp h fun σ H Q ⟨δ, π, Q', R, t, k⟩ => k v H (.val d) δ (R.scal fun M => he M H) t
theorem de_int {i : Int} {j} : DE X E (.Constant (.int i) j pos) (tdC (.int i)) := de_C pe_int fun _ _ => .int i
theorem de_bl {i : Bool} {j} : DE X E (.Constant (.bool i) j pos) (tdC (.bool i)) := de_C pe_bl fun _ _ => .bl i
theorem de_non {j} : DE X E (.Constant .none j pos) (tdC .none) := de_C pe_non fun _ _ => .non
theorem de_str {i : Str} {j} : DE X E (.Constant (.str i) j pos) (tdC (.str i)) := de_C pe_str fun _ _ => .str i
theorem de_glob {x : Str} {u : Value} {v : V} {d : D} (hm : X.mg x = some u) (r : RelV v u) (he : ∀ M H, Enc X.K M H v d) (hg : Gl X x := by rfl) (hd : (x == ("__debug__" : Str)) = false := by decide) : DE X E (.Name x pos) (tdC d) := de_C (pe_glob hg hm r hd) he
/-! ### two-place operators by values -/
abbrev R2D := SV → SV → Env → VD → Prop
/-- what R asks is enough for r -/
def Snd (K : PySem.W.Frag) (E : Ent) (r : R2) (R : R2D) : Prop := ∀ (σ : L2.St) (H : Hp) (x y : V) (s t : SV) (δ : Env) (π : Tmp) (Q : VK) (Q' : VD), Rep K E σ H δ ((y, t) :: (x, s) :: π) → R s t δ Q' →
  (∀ v H' u δ', Rep K E σ H' δ' ((v, u) :: π) → Q' u δ' → Q v H') → r x y H Q
def tdOp (R : R2D) (Ta Tb : TD) : TD := fun δ Q => Ta δ fun s δ1 => Tb δ1 fun t δ2 => R s t δ2 Q
theorem op_ok {K : PySem.W.Frag} {r : R2} {R : R2D} (h : Snd K E r R) : ∀ σ H Q, lE K E (tdOp R Ta Tb) σ H Q → tOp r (lE K E Ta) (lE K E Tb) σ H Q := fun σ H Q ⟨δ, π, Q', R1, t, k⟩ =>
  ⟨δ, π, _, R1, t, fun x H1 s δ1 R2 q => ⟨δ1, _, _, R2, q, fun y H2 u δ2 R3 q2 => h σ H2 x y s u δ2 π Q Q' R3 q2 k⟩⟩
theorem de_bin {op : Operator} {r : R2} {R : R2D} (ho : OpR X (binaryOp op) r) (h : Snd X.K E r R) (ha : DE X E a Ta) (hb : DE X E b Tb) : DE X E (.BinOp a op b pos) (tdOp R Ta Tb) := PE.imp (pe_op ho ha hb) (op_ok h)
theorem de_cmp {op : CmpOp} {r : R2} {R : R2D} (ho : OpR X (compareOp op) r) (h : Snd X.K E r R) (ha : DE X E a Ta) (hb : DE X E b Tb) (hm : behindInMarks op b = false) : DE X E (.Compare a [op] [b] pos) (tdOp R Ta Tb) := PE.imp (pe_cmpR ho ha hb hm) (op_ok h)
/-- a truth value as a test -/
def tdTest (T : TD) : TDT := fun δ Q => T δ fun s δ1 => ∃ k, s = .val (.bool k) ∧ Q k δ1
theorem test_ok {K : PySem.W.Frag} {t : TE} {T : TD} (h : ∀ σ H Q, lE K E T σ H Q → t σ H Q) : ∀ σ H Q, lT K E (tdTest T) σ H Q → tTest t σ H Q := fun σ H Q ⟨δ, π, Q', R, t1, k⟩ => by
  refine h σ H _ ⟨δ, π, _, R, t1, fun v H' r δ' R' q => ?_⟩
  obtain ⟨c, rfl, q⟩ := q
  have e : v = .bl c := by
    obtain ⟨G, M, R'⟩ := R'
    have z : Enc K M H' v (.bool c) := R'.top
    cases z; rfl
  exact ⟨c, e, k c H' δ' R'.drop q⟩
theorem dt_cmp {op : CmpOp} {r : R2} {R : R2D} (ho : OpR X (compareOp op) r) (h : Snd X.K E r R) (ha : DE X E a Ta) (hb : DE X E b Tb) (hm : behindInMarks op b = false) : DT X E (.Compare a [op] [b] pos) (tdTest (tdOp R Ta Tb)) :=
  PT.imp (pt_cmpR ho ha hb hm) (test_ok (op_ok h))
/-- a < b < c -/
def tdChain (R R' : R2D) (Ta Tb Tc : TD) : TD := fun δ Q => Ta δ fun s δ1 => Tb δ1 fun t δ2 => R s t δ2 fun z δ3 => ∃ k, z = .val (.bool k) ∧ (if k = true then Tc δ3 fun u δ4 => R' t u δ4 Q else Q (.val (.bool false)) δ3)
/-- a comparison of scalars leaves the heap and what is known -/
def SndP (K : PySem.W.Frag) (E : Ent) (r : R2) (R : R2D) : Prop := ∀ (σ : L2.St) (H : Hp) (x y : V) (s t : SV) (δ : Env) (π : Tmp) (Q : VK) (Q' : VD), Rep K E σ H δ ((y, t) :: (x, s) :: π) → R s t δ Q' →
  (∀ v u, Rep K E σ H δ ((v, u) :: (y, t) :: (x, s) :: π) → Q' u δ → Q v H) → r x y H Q
theorem SndP.snd {K : PySem.W.Frag} {r : R2} {R : R2D} (h : SndP K E r R) : Snd K E r R := fun σ H x y s t δ π Q Q' R1 q k => h σ H x y s t δ π Q Q' R1 q fun v u R2 q2 => k v H u δ R2.under2 q2
theorem chain_ok {K : PySem.W.Frag} {r r' : R2} {R R' : R2D} (h : SndP K E r R) (h' : Snd K E r' R') : ∀ σ H Q, lE K E (tdChain R R' Ta Tb Tc) σ H Q → tChain r r' (lE K E Ta) (lE K E Tb) (lE K E Tc) σ H Q := fun σ H Q ⟨δ, π, Q', R1, t, k⟩ =>
  ⟨δ, π, _, R1, t, fun x H1 s δ1 R2 q => ⟨δ1, _, _, R2, q, fun y H2 u δ2 R3 q2 => h σ H2 x y s u δ2 π _ _ R3 q2 fun v w R4 q4 => by
    obtain ⟨c, rfl, q4⟩ := q4
    have e : v = .bl c := by
      obtain ⟨G, M, R'⟩ := R4
      have z : Enc K M H2 v (.bool c) := R'.top
      cases z; rfl
    subst e
    refine ⟨c, rfl, ?_⟩
    cases c with
    | false => exact k _ H2 _ δ2 R4.under2 q4
    | true => exact ⟨δ2, _, _, R4.drop.under1, q4, fun z H3 w' δ3 R5 q5 => h' σ H3 y z u w' δ3 π Q Q' R5 q5 k⟩⟩⟩
theorem de_chain {op op' : CmpOp} {r r' : R2} {R R' : R2D} (ho : OpR X (compareOp op) r) (ho' : OpR X (compareOp op') r') (h : SndP X.K E r R) (h' : Snd X.K E r' R') (ha : DE X E a Ta) (hb : DE X E b Tb) (hc : DE X E c Tc)
    (hm : lastMarks [op, op'] [b, c] = false := by with_unfolding_all rfl) : DE X E (.Compare a [op, op'] [b, c] pos) (tdChain R R' Ta Tb Tc) := PE.imp (pe_chain ho ho' ha hb hc hm) (chain_ok h h')
theorem dt_chain {op op' : CmpOp} {r r' : R2} {R R' : R2D} (ho : OpR X (compareOp op) r) (ho' : OpR X (compareOp op') r') (h : SndP X.K E r R) (h' : Snd X.K E r' R') (ha : DE X E a Ta) (hb : DE X E b Tb) (hc : DE X E c Tc)
    (hm : lastMarks [op, op'] [b, c] = false := by with_unfolding_all rfl) : DT X E (.Compare a [op, op'] [b, c] pos) (tdTest (tdChain R R' Ta Tb Tc)) := PT.imp (pt_chain ho ho' ha hb hc hm) (test_ok (chain_ok h h'))
end
end HR
namespace HR
open PySem PySem.Spec L2
open PyProof.Rows hiding St
section
variable {K : PySem.W.Frag} {E : Ent} {G M : Addr → Prop} {σ : L2.St} {H : Hp} {δ : Env} {π : Tmp} {v : V}
theorem Rep.isInt {i : Int} {π' : Tmp} (R : Rep K E σ H δ π) (h : (v, .val (.int i)) ∈ π) : v = .int i := by
  obtain ⟨G, M, R⟩ := R
  have z : Enc K M H v (.int i) := R.tmp _ h
  cases z; rfl
theorem Rep.isBl {i : Bool} (R : Rep K E σ H δ π) (h : (v, .val (.bool i)) ∈ π) : v = .bl i := by
  obtain ⟨G, M, R⟩ := R
  have z : Enc K M H v (.bool i) := R.tmp _ h
  cases z; rfl
theorem Rep.isStr {i : Str} (R : Rep K E σ H δ π) (h : (v, .val (.str i)) ∈ π) : v = .str i := by
  obtain ⟨G, M, R⟩ := R
  have z : Enc K M H v (.str i) := R.tmp _ h
  cases z; rfl
theorem Rep.isNon (R : Rep K E σ H δ π) (h : (v, .val .none) ∈ π) : v = .non := by
  obtain ⟨G, M, R⟩ := R
  have z : Enc K M H v .none := R.tmp _ h
  cases z; rfl
theorem Rep.laid {p : Addr} {o : HO} (R : Rep K E σ H δ π) (n : H p = none) : Rep K E σ (upd H p o) δ π := let ⟨G, M, R⟩ := R; ⟨G, M, R.laid n⟩
/-- a new tuple of things at hand -/
theorem RepG.newTup {p : Addr} {vs : List V} {ds : List D} (R : RepG K E G M σ H δ π) (n : H p = none) (h : EncS K M H vs ds) : RepG K E G M σ (upd H p (.tup vs)) δ ((.ref p, .val (.tuple ds)) :: π) := by
  have X : Ext G M H G M (upd H p (.tup vs)) := ⟨fun a u q _ => by rw [upd_ne (ne_of_none q n)]; exact q, fun _ h => h, fun _ h => .inl h, fun _ h => h, fun _ h => .inl h⟩
  refine (R.laid (o := .tup vs) n).push (s := .val (.tuple ds)) ?_ rfl
  exact .tup (.inl (.inl upd_same)) (EncS.stay (X.stay R.good) h)
end
/-! ### int operators -/
def intR (g : Int → Int → D) (C : Int → Int → Prop) : R2D := fun s t δ Q => match s, t with
  | .val (.int i), .val (.int j) => C i j ∧ Q (.val (g i j)) δ
  | _, _ => False
def int0R (g : Int → Int → D) : R2D := fun s t δ Q => match s, t with
  | .val (.int i), .val (.int j) => Q (.val (g i j)) δ
  | _, _ => False
def vD : D → V
  | .int i => .int i
  | .bool b => .bl b
  | .str x => .str x
  | _ => .non
section
variable {K : PySem.W.Frag} {E : Ent}
theorem snd_int {C : Int → Int → Prop} {g : Int → Int → Int} : SndP K E (rI C fun i j => .int (g i j)) (intR (fun i j => .int (g i j)) C) := by
  intro σ H x y s t δ π Q Q' R h k
  unfold intR at h
  split at h
  · rename_i i j
    have e1 := R.isInt (π' := π) (List.mem_cons_of_mem _ List.mem_cons_self)
    have e2 := R.isInt (π' := π) List.mem_cons_self
    exact ⟨i, j, e1, e2, h.1, k _ _ (R.int _) h.2⟩
  · exact h.elim
theorem snd_int0 {g : Int → Int → Int} : SndP K E (rI0 fun i j => .int (g i j)) (int0R (fun i j => .int (g i j))) := by
  intro σ H x y s t δ π Q Q' R h k
  unfold int0R at h
  split at h
  · rename_i i j
    have e1 := R.isInt (π' := π) (List.mem_cons_of_mem _ List.mem_cons_self)
    have e2 := R.isInt (π' := π) List.mem_cons_self
    exact ⟨i, j, e1, e2, k _ _ (R.int _) h⟩
  · exact h.elim
theorem snd_bl0 {g : Int → Int → Bool} : SndP K E (rI0 fun i j => .bl (g i j)) (int0R (fun i j => .bool (g i j))) := by
  intro σ H x y s t δ π Q Q' R h k
  unfold int0R at h
  split at h
  · rename_i i j
    have e1 := R.isInt (π' := π) (List.mem_cons_of_mem _ List.mem_cons_self)
    have e2 := R.isInt (π' := π) List.mem_cons_self
    exact ⟨i, j, e1, e2, k _ _ (R.bl _) h⟩
  · exact h.elim
end
abbrev subD : R2D := int0R (fun i j => .int (i - j))
abbrev modD : R2D := intR (fun i j => .int (i % j)) fun _ j => 0 < j
abbrev fdivD : R2D := intR (fun i j => .int (i / j)) CDiv
abbrev powD : R2D := intR (fun i j => .int (i ^ j.toNat)) CPow
abbrev ltD : R2D := int0R (fun i j => .bool (decide (i < j)))
abbrev leD : R2D := int0R (fun i j => .bool (decide (i ≤ j)))
abbrev gtD : R2D := int0R (fun i j => .bool (decide (j < i)))
abbrev geD : R2D := int0R (fun i j => .bool (decide (j ≤ i)))
/-- + -/
def addD : R2D := fun s t δ Q => match s, t with
  | .val (.int i), .val (.int j) => Q (.val (.int (i + j))) δ
  | .val (.str a), .val (.str b) => a.length + b.length ≤ sizeLine ∧ Q (.val (.str (a ++ b))) δ
  | .val (.tuple xs), .val (.tuple ys) => xs.length + ys.length ≤ sizeLine ∧ Q (.val (.tuple (xs ++ ys))) δ
  | s, t => ∃ xs ys, View s δ xs ∧ View t δ ys ∧ xs.length + ys.length ≤ sizeLine ∧ ∀ p, Q (.own p (xs ++ ys)) δ
def rAdd (K : PySem.W.Frag) : R2 := fun x y H Q => (∃ i j, x = .int i ∧ y = .int j ∧ Q (.int (i + j)) H) ∨ (∃ i j, x = .str i ∧ y = .str j ∧ i.length + j.length ≤ sizeLine ∧ Q (.str (i ++ j)) H) ∨ rCatA K x y H Q ∨ rCat x y H Q
theorem or_add {X : Cx} : OpR X (binaryOp .Add) (rAdd X.K) := OpR.or op_add (OpR.or op_add_str (OpR.or op_catA op_cat))
/-- * -/
def mulD : R2D := fun s t δ Q => match s, t with
  | .val (.int i), .val (.int j) => CMul i j ∧ Q (.val (.int (i * j))) δ
  | .val (.tuple xs), .val (.int k) => xs ≠ [] ∧ 2 ≤ k ∧ k ≤ 1000 ∧ xs.length ≤ 1000 ∧ Q (.val (.tuple (List.replicate k.toNat xs).flatten)) δ
  | s, .val (.int k) => ∃ xs, View s δ xs ∧ -(2 ^ 63) ≤ k ∧ k < 2 ^ 63 ∧ xs.length * k.toNat ≤ sizeLine ∧ ∀ p, Q (.own p (List.replicate k.toNat xs).flatten) δ
  | _, _ => False
def rMulA (K : PySem.W.Frag) : R2 := fun x y H Q => rI CMul (fun i j => .int (i * j)) x y H Q ∨ rRepT K x y H Q ∨ rRep x y H Q
theorem or_mul {X : Cx} : OpR X (binaryOp .Mult) (rMulA X.K) := OpR.or op_mul (OpR.or op_repT op_rep)
/-- ==, != -/
def eqD : R2D := fun s t δ Q => ∃ d e, DataR s δ d ∧ DataR t δ e ∧ SeqAt.shaped d = true ∧ SeqAt.shaped e = true ∧ Q (.val (.bool (PyData.eqv d e))) δ
def neD : R2D := fun s t δ Q => ∃ d e, DataR s δ d ∧ DataR t δ e ∧ SeqAt.shaped d = true ∧ SeqAt.shaped e = true ∧ Q (.val (.bool (!PyData.eqv d e))) δ
def noneD : D → Bool
  | .none => true
  | _ => false
/-- is, is not: None, truth values -/
def isD (neg : Bool) : R2D := fun s t δ Q => match s, t with
  | .val d, .val .none => Q (.val (.bool (noneD d != neg))) δ
  | .val (.bool a), .val (.bool b) => Q (.val (.bool (decide (a = b) != neg))) δ
  | _, _ => False
/-- in, not in of a list or a tuple -/
def flatD : D → Bool
  | .none => true
  | .bool _ => true
  | .int _ => true
  | .str _ => true
  | _ => false
def inD (neg : Bool) : R2D := fun s t δ Q => ∃ d, DataR s δ d ∧ match t with
  | .val (.tuple ds) => flatD d = true ∧ ds.all flatD = true ∧ Q (.val (.bool ((ds.any fun e => PyData.eqv e d) != neg))) δ
  | t => ∃ ds, View t δ ds ∧ SeqAt.shaped d = true ∧ SeqAt.shaped (.list ds) = true ∧ Q (.val (.bool ((ds.any fun e => PyData.eqv e d) != neg))) δ
def rInA (K : PySem.W.Frag) (neg : Bool) : R2 := fun x y H Q => rIn K neg x y H Q ∨ (if neg then rNotInD K x y H Q else rInD K x y H Q)
theorem or_in {X : Cx} (hu : X.A.units + 65 < cLine) : OpR X (compareOp .In) (rInA X.K false) := OpR.or op_in_seq (op_inD hu)
theorem or_notin {X : Cx} (hu : X.A.units + 65 < cLine) : OpR X (compareOp .NotIn) (rInA X.K true) := OpR.or op_notIn_seq (op_notInD hu)
def rIsA (neg : Bool) : R2 := fun x y H Q => (y = .non ∧ Q (.bl (decide (x = .non) != neg)) H) ∨ ∃ a b : Bool, x = .bl a ∧ y = .bl b ∧ Q (.bl (decide (a = b) != neg)) H
theorem or_is {X : Cx} : OpR X (compareOp .Is) (rIsA false) := by
  refine fun pins s σ H x y v u Q I rx ry h => ?_
  rcases h with ⟨h1, h⟩ | ⟨a, b, h1, h2, h⟩
  · exact op_isN pins s σ H x y v u Q I rx ry ⟨h1, by simpa using h⟩
  · exact op_isBl pins s σ H x y v u Q I rx ry ⟨a, b, h1, h2, by simpa using h⟩
theorem or_isnot {X : Cx} : OpR X (compareOp .IsNot) (rIsA true) := by
  refine fun pins s σ H x y v u Q I rx ry h => ?_
  rcases h with ⟨h1, h⟩ | ⟨a, b, h1, h2, h⟩
  · exact op_notN pins s σ H x y v u Q I rx ry ⟨h1, by simpa using h⟩
  · exact op_notBl pins s σ H x y v u Q I rx ry ⟨a, b, h1, h2, by simpa using h⟩
section
variable {K : PySem.W.Frag} {E : Ent}
theorem rep2 {σ : L2.St} {H : Hp} {x y v : V} {s t : SV} {δ : Env} {π : Tmp} {u : SV} (R : Rep K E σ H δ ((y, t) :: (x, s) :: π)) (h : Rep K E σ H δ ((v, u) :: (y, t) :: (x, s) :: π)) : Rep K E σ H δ ((v, u) :: π) := h.under2
theorem snd_add : Snd K E (rAdd K) addD := by
  intro σ H x y s t δ π Q Q' R h k
  have R0 := R.drop.drop
  have lists : (∃ xs ys, View s δ xs ∧ View t δ ys ∧ xs.length + ys.length ≤ sizeLine ∧ ∀ p, Q' (.own p (xs ++ ys)) δ) → rAdd K x y H Q := by
    rintro ⟨xs, ys, h1, h2, hz, q⟩
    obtain ⟨G, M, R⟩ := R
    obtain ⟨a, vs, rfl, a1, a2⟩ := R.view (List.mem_cons_of_mem _ List.mem_cons_self) h1
    obtain ⟨b, us, rfl, b1, b2⟩ := R.view List.mem_cons_self h2
    refine .inr (.inr (.inr ⟨a, b, vs, us, rfl, rfl, a1, b1, by rw [a2.length, b2.length]; exact hz, fun p n => ?_⟩))
    exact k _ _ _ _ ⟨_, _, R.drop.drop.fresh n (a2.append b2)⟩ (q p)
  unfold addD at h
  split at h
  · rename_i i j
    have e1 := R.isInt (π' := π) (List.mem_cons_of_mem _ List.mem_cons_self)
    have e2 := R.isInt (π' := π) List.mem_cons_self
    exact .inl ⟨i, j, e1, e2, k _ _ _ _ (R0.int _) h⟩
  · rename_i i j
    have e1 := R.isStr (List.mem_cons_of_mem _ List.mem_cons_self)
    have e2 := R.isStr List.mem_cons_self
    exact .inr (.inl ⟨i, j, e1, e2, h.1, k _ _ _ _ (R0.str _) h.2⟩)
  · rename_i xs ys
    obtain ⟨hz, q⟩ := h
    obtain ⟨G, M, R⟩ := R
    have r1 : Enc K M H x (.tuple xs) := R.tmp _ (List.mem_cons_of_mem _ List.mem_cons_self)
    have r2 : Enc K M H y (.tuple ys) := R.tmp _ List.mem_cons_self
    cases r1 with
    | tup a1 a2 =>
      cases r2 with
      | tup b1 b2 =>
        rename_i a vs b us
        refine .inr (.inr (.inl ⟨a, b, vs, us, rfl, rfl, a1, b1, by rw [a2.length, b2.length]; exact hz, fun e => ?_, fun _ e => ?_, fun _ _ p n => ?_⟩))
        · subst e
          cases a2
          exact k _ _ _ _ ⟨_, _, R.drop.drop.push (s := .val (.tuple ys)) (.tup b1 b2) rfl⟩ q
        · subst e
          cases b2
          exact k _ _ _ _ ⟨_, _, R.drop.drop.push (s := .val (.tuple xs)) (.tup a1 a2) rfl⟩ (by simpa using q)
        · exact k _ _ _ _ ⟨_, _, R.drop.drop.newTup n (a2.append b2)⟩ q
  · exact lists h
theorem encs_rep {M : Addr → Prop} {H : Hp} {vs : List V} {ds : List D} (h : EncS K M H vs ds) : ∀ n : Nat, EncS K M H (List.replicate n vs).flatten (List.replicate n ds).flatten
  | 0 => .nil
  | n + 1 => by
    rw [List.replicate_succ, List.replicate_succ, List.flatten_cons, List.flatten_cons]
    exact h.append (encs_rep h n)
theorem snd_mul : Snd K E (rMulA K) mulD := by
  intro σ H x y s t δ π Q Q' R h k
  have R0 := R.drop.drop
  have lists : ∀ (c : Int), t = .val (.int c) → (∃ xs, View s δ xs ∧ -(2 ^ 63) ≤ c ∧ c < 2 ^ 63 ∧ xs.length * c.toNat ≤ sizeLine ∧ ∀ p, Q' (.own p (List.replicate c.toNat xs).flatten) δ) → rMulA K x y H Q := by
    rintro c rfl ⟨xs, h1, k1, k2, hz, q⟩
    have e2 := R.isInt (π' := π) List.mem_cons_self
    obtain ⟨G, M, R⟩ := R
    obtain ⟨a, vs, rfl, a1, a2⟩ := R.view (List.mem_cons_of_mem _ List.mem_cons_self) h1
    refine .inr (.inr ⟨a, c, vs, rfl, e2, a1, k1, k2, by rw [a2.length]; exact hz, fun p n => ?_⟩)
    exact k _ _ _ _ ⟨_, _, R.drop.drop.fresh n (encs_rep a2 _)⟩ (q p)
  unfold mulD at h
  split at h
  · rename_i i j
    have e1 := R.isInt (π' := π) (List.mem_cons_of_mem _ List.mem_cons_self)
    have e2 := R.isInt (π' := π) List.mem_cons_self
    exact .inl ⟨i, j, e1, e2, h.1, k _ _ _ _ (R0.int _) h.2⟩
  · rename_i xs c
    obtain ⟨z1, z2, z3, z4, q⟩ := h
    have e2 := R.isInt (π' := π) List.mem_cons_self
    obtain ⟨G, M, R⟩ := R
    have r1 : Enc K M H x (.tuple xs) := R.tmp _ (List.mem_cons_of_mem _ List.mem_cons_self)
    cases r1 with
    | tup a1 a2 =>
      rename_i a vs
      refine .inr (.inl ⟨a, c, vs, rfl, e2, a1, ?_, z2, z3, by rw [a2.length]; exact z4, fun p n => ?_⟩)
      · rintro rfl
        cases a2
        exact z1 rfl
      · exact k _ _ _ _ ⟨_, _, R.drop.drop.newTup n (encs_rep a2 _)⟩ q
  · exact lists _ rfl h
  · exact h.elim
theorem snd_eq : SndP K E (rEqD K) eqD := by
  intro σ H x y s t δ π Q Q' R h k
  obtain ⟨d, e, h1, h2, h3, h4, q⟩ := h
  have R0 := R
  obtain ⟨G, M, R⟩ := R
  exact ⟨d, e, R.data (List.mem_cons_of_mem _ List.mem_cons_self) h1, R.data List.mem_cons_self h2, h3, h4, k _ _ (R0.bl _) q⟩
theorem snd_ne : SndP K E (rNeD K) neD := by
  intro σ H x y s t δ π Q Q' R h k
  obtain ⟨d, e, h1, h2, h3, h4, q⟩ := h
  have R0 := R
  obtain ⟨G, M, R⟩ := R
  exact ⟨d, e, R.data (List.mem_cons_of_mem _ List.mem_cons_self) h1, R.data List.mem_cons_self h2, h3, h4, k _ _ (R0.bl _) q⟩
theorem enc_non {M : Addr → Prop} {H : Hp} {v : V} {d : D} (h : Enc K M H v d) : decide (v = .non) = noneD d := by
  cases h <;> simp [noneD]
theorem snd_is {neg : Bool} : SndP K E (rIsA neg) (isD neg) := by
  intro σ H x y s t δ π Q Q' R h k
  have R0 := R
  unfold isD at h
  split at h
  · rename_i d
    have e2 := R.isNon List.mem_cons_self
    obtain ⟨G, M, R⟩ := R
    have r1 : Enc K M H x d := R.tmp _ (List.mem_cons_of_mem _ List.mem_cons_self)
    exact .inl ⟨e2, k _ _ (R0.bl _) (by rw [enc_non r1]; exact h)⟩
  · rename_i a b
    exact .inr ⟨a, b, R.isBl (List.mem_cons_of_mem _ List.mem_cons_self), R.isBl List.mem_cons_self, k _ _ (R0.bl _) h⟩
  · exact h.elim
theorem flat_enc {M : Addr → Prop} {H : Hp} {v : V} {d : D} (h : Enc K M H v d) (f : flatD d = true) : flatV v = true := by
  cases h <;> first | rfl | cases f
theorem flat_eqv {M : Addr → Prop} {H : Hp} {v w : V} {d e : D} (h : Enc K M H v d) (h' : Enc K M H w e) (f : flatD d = true) (f' : flatD e = true) : eqV w v = PyData.eqv e d := by
  cases h <;> cases h' <;> first | rfl | exact absurd f Bool.false_ne_true | exact absurd f' Bool.false_ne_true
theorem flat_all {M : Addr → Prop} {H : Hp} : ∀ {vs : List V} {ds : List D}, EncS K M H vs ds → ds.all flatD = true → vs.all flatV = true
  | _, _, .nil, _ => rfl
  | _, _, .cons h r, f => by
    simp only [List.all_cons, Bool.and_eq_true] at f ⊢
    exact ⟨flat_enc h f.1, flat_all r f.2⟩
theorem flat_in {M : Addr → Prop} {H : Hp} {v : V} {d : D} (h : Enc K M H v d) (f : flatD d = true) : ∀ {vs : List V} {ds : List D}, EncS K M H vs ds → ds.all flatD = true → inV v vs = ds.any fun e => PyData.eqv e d
  | _, _, .nil, _ => rfl
  | _, _, .cons a r, g => by
    simp only [List.all_cons, Bool.and_eq_true] at g
    have ih := flat_in h f r g.2
    unfold inV at ih ⊢
    rw [List.any_cons, List.any_cons, ih, flat_eqv h a f g.1]
theorem neg_ite (b neg : Bool) : (if neg = true then !b else b) = (b != neg) := by cases b <;> cases neg <;> rfl
theorem snd_in {neg : Bool} : SndP K E (rInA K neg) (inD neg) := by
  intro σ H x y s t δ π Q Q' R h k
  have R0 := R
  obtain ⟨d, h1, h⟩ := h
  obtain ⟨G, M, R⟩ := R
  have dp := R.data (List.mem_cons_of_mem _ List.mem_cons_self) h1
  have lists : (∃ ds, View t δ ds ∧ SeqAt.shaped d = true ∧ SeqAt.shaped (.list ds) = true ∧ Q' (.val (.bool ((ds.any fun e => PyData.eqv e d) != neg))) δ) → rInA K neg x y H Q := by
    rintro ⟨ds, h2, h3, h4, q⟩
    obtain ⟨b, us, rfl, b1, b2⟩ := R.view List.mem_cons_self h2
    refine .inr ?_
    have q' := k _ _ (R0.bl _) q
    cases neg with
    | true => exact ⟨d, ds, dp, .lst (SqL.of b1) b2.dp, h3, h4, by simpa using q'⟩
    | false => exact ⟨d, ds, dp, .lst (SqL.of b1) b2.dp, h3, h4, by simpa using q'⟩
  split at h
  · rename_i ds
    obtain ⟨f, g, q⟩ := h
    have r2 : Enc K M H y (.tuple ds) := R.tmp _ List.mem_cons_self
    have r1 : Enc K M H x d := by
      cases dp with
      | non => exact .non
      | bl b => exact .bl b
      | int b => exact .int b
      | str b => exact .str b
      | lst _ _ => cases f
      | tup _ _ => cases f
    cases r2 with
    | tup b1 b2 =>
      rename_i b us
      refine .inl ⟨b, us, rfl, .inr b1, flat_enc r1 f, flat_all b2 g, ?_⟩
      rw [flat_in r1 f b2 g, neg_ite]
      exact k _ _ (R0.bl _) q
  · exact lists h
end
/-! ### the operators as rules -/
section
variable {X : Cx} {E : Ent} {a b c : Expr} {Ta Tb Tc : TD} {pos : Pos}
theorem de_add (ha : DE X E a Ta) (hb : DE X E b Tb) : DE X E (.BinOp a .Add b pos) (tdOp addD Ta Tb) := de_bin or_add snd_add ha hb
theorem de_sub (ha : DE X E a Ta) (hb : DE X E b Tb) : DE X E (.BinOp a .Sub b pos) (tdOp subD Ta Tb) := de_bin op_sub snd_int0.snd ha hb
theorem de_mul (ha : DE X E a Ta) (hb : DE X E b Tb) : DE X E (.BinOp a .Mult b pos) (tdOp mulD Ta Tb) := de_bin or_mul snd_mul ha hb
theorem de_mod (ha : DE X E a Ta) (hb : DE X E b Tb) : DE X E (.BinOp a .Mod b pos) (tdOp modD Ta Tb) := de_bin op_mod snd_int.snd ha hb
theorem de_fdiv (ha : DE X E a Ta) (hb : DE X E b Tb) : DE X E (.BinOp a .FloorDiv b pos) (tdOp fdivD Ta Tb) := de_bin op_fdiv snd_int.snd ha hb
theorem de_pow (ha : DE X E a Ta) (hb : DE X E b Tb) : DE X E (.BinOp a .Pow b pos) (tdOp powD Ta Tb) := de_bin op_pow snd_int.snd ha hb
/-- a comparison's rule: what the operator asks of the values, sound -/
structure CR2 (X : Cx) (E : Ent) (op : CmpOp) (R : R2D) : Prop where
  ok : ∃ r, OpR X (compareOp op) r ∧ SndP X.K E r R
theorem c_lt : CR2 X E .Lt ltD := ⟨_, op_lt, snd_bl0⟩
theorem c_le : CR2 X E .LtE leD := ⟨_, op_le, snd_bl0⟩
theorem c_gt : CR2 X E .Gt gtD := ⟨_, op_gt, snd_bl0⟩
theorem c_ge : CR2 X E .GtE geD := ⟨_, op_ge, snd_bl0⟩
theorem c_eq (hu : X.A.units + 64 < cLine) : CR2 X E .Eq eqD := ⟨_, op_eqD hu, snd_eq⟩
theorem c_ne (hu : X.A.units + 64 < cLine) : CR2 X E .NotEq neD := ⟨_, op_neD hu, snd_ne⟩
theorem c_is : CR2 X E .Is (isD false) := ⟨_, or_is, snd_is⟩
theorem c_isnot : CR2 X E .IsNot (isD true) := ⟨_, or_isnot, snd_is⟩
theorem c_in (hu : X.A.units + 65 < cLine) : CR2 X E .In (inD false) := ⟨_, or_in hu, snd_in⟩
theorem c_notin (hu : X.A.units + 65 < cLine) : CR2 X E .NotIn (inD true) := ⟨_, or_notin hu, snd_in⟩
theorem de_cp {op : CmpOp} {R : R2D} (o : CR2 X E op R) (ha : DE X E a Ta) (hb : DE X E b Tb) (hm : behindInMarks op b = false := by with_unfolding_all rfl) : DE X E (.Compare a [op] [b] pos) (tdOp R Ta Tb) :=
  let ⟨_, h1, h2⟩ := o.ok; de_cmp h1 h2.snd ha hb hm
theorem dt_cp {op : CmpOp} {R : R2D} (o : CR2 X E op R) (ha : DE X E a Ta) (hb : DE X E b Tb) (hm : behindInMarks op b = false := by with_unfolding_all rfl) : DT X E (.Compare a [op] [b] pos) (tdTest (tdOp R Ta Tb)) :=
  let ⟨_, h1, h2⟩ := o.ok; dt_cmp h1 h2.snd ha hb hm
theorem de_cp2 {op op' : CmpOp} {R R' : R2D} (o : CR2 X E op R) (o' : CR2 X E op' R') (ha : DE X E a Ta) (hb : DE X E b Tb) (hc : DE X E c Tc) (hm : lastMarks [op, op'] [b, c] = false := by with_unfolding_all rfl) :
    DE X E (.Compare a [op, op'] [b, c] pos) (tdChain R R' Ta Tb Tc) := let ⟨_, h1, h2⟩ := o.ok; let ⟨_, h3, h4⟩ := o'.ok; de_chain h1 h3 h2 h4.snd ha hb hc hm
theorem dt_cp2 {op op' : CmpOp} {R R' : R2D} (o : CR2 X E op R) (o' : CR2 X E op' R') (ha : DE X E a Ta) (hb : DE X E b Tb) (hc : DE X E c Tc) (hm : lastMarks [op, op'] [b, c] = false := by with_unfolding_all rfl) :
    DT X E (.Compare a [op, op'] [b, c] pos) (tdTest (tdChain R R' Ta Tb Tc)) := let ⟨_, h1, h2⟩ := o.ok; let ⟨_, h3, h4⟩ := o'.ok; dt_chain h1 h3 h2 h4.snd ha hb hc hm
end
end HR
namespace HR
open PySem PySem.Spec L2
open PyProof.Rows hiding St
/-! ### argument lists, displays -/
def tdNil : TDA := fun δ Q => Q [] δ
def tdCons (Ta : TD) (Tr : TDA) : TDA := fun δ Q => Ta δ fun s δ1 => Tr δ1 fun ss δ2 => Q (s :: ss) δ2
def asDs : List SV → Env → (List D → Env → Prop) → Prop
  | [], δ, Q => Q [] δ
  | s :: ss, δ, Q => asD s δ fun d δ1 => asDs ss δ1 fun ds δ2 => Q (d :: ds) δ2
section
variable {K : PySem.W.Frag} {E : Ent} {σ : L2.St} {H : Hp} {δ : Env} {π : Tmp} {v : V} {G M : Addr → Prop}
theorem asDs_ok : ∀ {vs : List V} {ss : List SV} {δ : Env} {π : Tmp} {Q : List D → Env → Prop}, vs.length = ss.length → Rep K E σ H δ (vs.zip ss ++ π) → asDs ss δ Q → ∃ ds δ', vs.length = ds.length ∧ Rep K E σ H δ' (vs.zip (ds.map SV.val) ++ π) ∧ Q ds δ'
  | [], [], δ, π, Q, _, R, h => ⟨[], δ, rfl, R, h⟩
  | [], _ :: _, _, _, _, e, _, _ => by simp at e
  | _ :: _, [], _, _, _, e, _, _ => by simp at e
  | v :: vs, s :: ss, δ, π, Q, e, R, h => by
    obtain ⟨d, δ1, R1, h1⟩ := asD_ok (π := vs.zip ss ++ π) R h
    have R2 := R1.perm (show ((v, SV.val d) :: (vs.zip ss ++ π)).Perm (vs.zip ss ++ ((v, SV.val d) :: π)) from List.perm_middle.symm)
    obtain ⟨ds, δ2, e2, R3, h2⟩ := asDs_ok (by simpa using e) R2 h1
    exact ⟨d :: ds, δ2, by simp [e2], R3.perm List.perm_middle, h2⟩
theorem RepG.encs : ∀ {vs : List V} {ds : List D}, vs.length = ds.length → RepG K E G M σ H δ (vs.zip (ds.map SV.val) ++ π) → EncS K M H vs ds
  | [], [], _, _ => .nil
  | [], _ :: _, e, _ => by simp at e
  | _ :: _, [], e, _ => by simp at e
  | v :: vs, d :: ds, e, R => .cons (show RT K E G M H v (.val d) from R.top) (RepG.encs (by simpa using e) R.drop)
end
section
variable {X : Cx} {E : Ent} {e : Expr} {es : List Expr} {T Ta : TD} {Ts Tr : TDA} {pos : Pos}
theorem da_nil : DA X E [] tdNil := PA.imp pa_nil fun σ H Q ⟨δ, π, Q', R, t, k⟩ => k [] H [] δ rfl R t
theorem da_cons (ha : DE X E e Ta) (hr : DA X E es Tr) (hs : starEach (e :: es) X.env = (false, eval e X.env) :: starEach es X.env := by rfl) : DA X E (e :: es) (tdCons Ta Tr) :=
  PA.imp (pa_cons ha hr hs) fun σ H Q ⟨δ, π, Q', R, t, k⟩ =>
    ⟨δ, π, _, R, t, fun v H1 s δ1 R1 q => ⟨δ1, _, _, R1, q, fun vs H2 rs δ2 el R2 q2 => k (v :: vs) H2 (s :: rs) δ2 (by simp [el]) (R2.perm List.perm_middle) q2⟩⟩
def tdTup (Ts : TDA) : TD := fun δ Q => Ts δ fun ss δ1 => ss.length ≤ 1000 ∧ asDs ss δ1 fun ds δ2 => Q (.val (.tuple ds)) δ2
def tdLst (Ts : TDA) : TD := fun δ Q => Ts δ fun ss δ1 => ss.length ≤ 1000 ∧ asDs ss δ1 fun ds δ2 => ∀ p, Q (.own p ds) δ2
theorem small_line {n : Nat} (h : n ≤ 1000) : n ≤ sizeLine := Nat.le_trans h (by rw [sizeLine_eq]; decide)
theorem de_tup {x1} (h : DA X E es Ts) : DE X E (.Tuple es x1 pos) (tdTup Ts) := PE.imp (pe_tup h) fun σ H Q ⟨δ, π, Q', R, t, k⟩ =>
  ⟨δ, π, _, R, t, fun vs H1 ss δ1 el R1 ⟨hz, q⟩ => ⟨small_line (by rw [el]; exact hz), fun p n => by
    obtain ⟨ds, δ2, e2, ⟨G, M, R2⟩, q2⟩ := asDs_ok el R1 q
    exact k _ _ _ _ ⟨G, M, R2.sub.newTup n (R2.encs e2)⟩ q2⟩⟩
theorem de_lst (h : DA X E es Ts) : DE X E (.List es pos) (tdLst Ts) := PE.imp (pe_lst h) fun σ H Q ⟨δ, π, Q', R, t, k⟩ =>
  ⟨δ, π, _, R, t, fun vs H1 ss δ1 el R1 ⟨hz, q⟩ => ⟨small_line (by rw [el]; exact hz), fun p n => by
    obtain ⟨ds, δ2, e2, ⟨G, M, R2⟩, q2⟩ := asDs_ok el R1 q
    exact k _ _ _ _ ⟨_, _, R2.sub.fresh n (R2.encs e2)⟩ (q2 p)⟩⟩
end
/-! ### subscripts -/
def getI {α : Type} (xs : List α) (k : Int) : Option α := if 0 ≤ k then xs[k.toNat]? else if (-k).toNat ≤ xs.length then xs[xs.length - (-k).toNat]? else none
theorem getI_at {α : Type} {xs : List α} {k : Int} {d : α} (h : getI xs k = some d) : atI xs k = some d := by
  unfold getI at h
  unfold atI ixN
  split at h
  · rename_i h0
    rw [if_pos h0]
    have hl := (List.getElem?_eq_some_iff.mp h).1
    rw [if_pos (by omega)]
    exact h
  · rename_i h0
    rw [if_neg h0]
    split at h
    · rename_i h1
      rw [if_pos (by omega)]
      show xs[(k + xs.length).toNat]? = some d
      rw [show (k + xs.length).toNat = xs.length - (-k).toNat by omega]
      exact h
    · cases h
theorem ixN_get {n : Nat} {k : Int} : ixN n k = if 0 ≤ k then (if k < n then some k.toNat else none) else if (-k).toNat ≤ n then some (n - (-k).toNat) else none := by
  unfold ixN
  split
  · rfl
  · split
    · rw [if_pos (by omega)]; congr 1; omega
    · rw [if_neg (by omega)]
theorem atI_getI {α : Type} {xs : List α} {k : Int} : atI xs k = getI xs k := by
  unfold atI getI
  rw [ixN_get]
  split
  · split
    · rfl
    · rename_i h
      rw [List.getElem?_eq_none (by omega)]
      rfl
  · split <;> rfl
theorem EncS.getI {K : PySem.W.Frag} {M : Addr → Prop} {H : Hp} {vs : List V} {ds : List D} {k : Int} {d : D} (h : EncS K M H vs ds) (e : HR.getI ds k = some d) : ∃ v, HR.getI vs k = some v ∧ Enc K M H v d := by
  unfold HR.getI at e ⊢
  rw [h.length]
  split at e
  · rename_i h0
    rw [if_pos h0]
    exact h.get e
  · rename_i h0
    rw [if_neg h0]
    split at e
    · rename_i h1
      rw [if_pos h1]
      exact h.get e
    · cases e
theorem getI_map {α β : Type} (f : α → β) (xs : List α) (k : Int) : HR.getI (xs.map f) k = (HR.getI xs k).map f := by
  unfold HR.getI
  rw [List.length_map, List.getElem?_map, List.getElem?_map]
  split
  · rfl
  · split <;> rfl
def ixD : R2D := fun s t δ Q => match t with
  | .val (.int k) => (match s with
    | .val (.tuple ds) => ∃ d, getI ds k = some d ∧ Q (.val d) δ
    | .scr ns => ∃ n, getI ns k = some n ∧ Q (.val (.int n)) δ
    | .bag => (k = 0 ∧ ∀ x, 0 ≤ x → Q (.val (.int x)) δ) ∨ (k = 1 ∧ ∀ y, 0 ≤ y → y < 2147483647 → Q (.val (.int y)) δ)
    | s => ∃ ds d, View s δ ds ∧ getI ds k = some d ∧ Q (.val d) δ)
  | _ => False
def rIxA (K : PySem.W.Frag) : R2 := fun x y H Q => rIxL K x y H Q ∨ rIxT K x y H Q
theorem ix_any {X : Cx} : IxR X (rIxA X.K) := IxR.or ix_list ix_tup
theorem snd_ix {K : PySem.W.Frag} {E : Ent} : Snd K E (rIxA K) ixD := by
  intro σ H x y s t δ π Q Q' R h k
  have R0 := R.drop.drop
  unfold ixD at h
  split at h
  · rename_i c
    have e2 := R.isInt (π' := π) List.mem_cons_self
    have RR := R
    obtain ⟨G, M, R⟩ := R
    split at h
    · rename_i ds
      obtain ⟨d, e, q⟩ := h
      have r1 : Enc K M H x (.tuple ds) := R.tmp _ (List.mem_cons_of_mem _ List.mem_cons_self)
      cases r1 with
      | tup a1 a2 =>
        obtain ⟨w, e3, r⟩ := a2.getI e
        exact .inr ⟨_, _, c, w, rfl, e2, a1, by rw [atI_getI]; exact e3, k _ _ _ _ ⟨_, _, R.drop.drop.push (s := .val d) r rfl⟩ q⟩
    · rename_i ns
      obtain ⟨n, e, q⟩ := h
      obtain ⟨a, rfl, hs⟩ : ∃ a, x = .ref a ∧ SqS K M H a (ns.map V.int) := R.tmp (x, .scr ns) (List.mem_cons_of_mem _ List.mem_cons_self)
      refine .inl ⟨a, _, c, .int n, rfl, e2, hs.sq, ?_, k _ _ _ _ (R0.int n) q⟩
      rw [atI_getI, getI_map, e]
      rfl
    · obtain ⟨b, rfl, g⟩ : ∃ b, x = .ref b ∧ G b := R.tmp (x, .bag) (List.mem_cons_of_mem _ List.mem_cons_self)
      obtain ⟨x0, y0, eb, b1, b2, b3⟩ := R.good.bag b g
      rcases h with ⟨rfl, q⟩ | ⟨rfl, q⟩
      · exact .inl ⟨b, _, 0, .int x0, rfl, e2, SqL.of eb, rfl, k _ _ _ _ (R0.int _) (q x0 b1)⟩
      · exact .inl ⟨b, _, 1, .int y0, rfl, e2, SqL.of eb, rfl, k _ _ _ _ (R0.int _) (q y0 b2 b3)⟩
    · obtain ⟨ds, d, e, e', q⟩ := h
      obtain ⟨a, vs, rfl, a1, a2⟩ := R.view (List.mem_cons_of_mem _ List.mem_cons_self) e
      obtain ⟨w, e3, r⟩ := a2.getI e'
      exact .inl ⟨a, vs, c, w, rfl, e2, SqL.of a1, by rw [atI_getI]; exact e3, k _ _ _ _ ⟨_, _, R.drop.drop.push (s := .val d) r rfl⟩ q⟩
  · exact h.elim
section
variable {X : Cx} {E : Ent} {a b c : Expr} {Ta Tb Tc : TD} {pos p2 : Pos}
theorem de_ix (ha : DE X E a Ta) (hb : DE X E b Tb) (hs : PlainIx b := by exact fun _ _ => rfl) : DE X E (.Subscript a b pos) (tdOp ixD Ta Tb) := PE.imp (pe_ix ix_any ha hb hs) (op_ok snd_ix)
/-! ### slices -/
abbrev TDO := Env → (Option Int → Env → Prop) → Prop
def lO (K : PySem.W.Frag) (E : Ent) (T : TDO) : TO := fun σ H Q => ∃ δ π Q', Rep K E σ H δ π ∧ T δ Q' ∧ ∀ i H' δ', Rep K E σ H' δ' π → Q' i δ' → Q i H'
abbrev DO (X : Cx) (E : Ent) (e : Option Expr) (T : TDO) : Prop := PO X e (lO X.K E T)
theorem PO.imp {e : Option Expr} {t t' : TO} (h : PO X e t) (i : ∀ σ H Q, t' σ H Q → t σ H Q) : PO X e t' := ⟨fun pins s σ H Q I q => h.run pins s σ H Q I (i _ _ _ q)⟩
def tdO0 : TDO := fun δ Q => Q none δ
def tdO1 (T : TD) : TDO := fun δ Q => T δ fun s δ1 => ∃ i, s = .val (.int i) ∧ Q (some i) δ1
theorem do_none : DO X E none tdO0 := PO.imp po_none fun σ H Q ⟨δ, π, Q', R, t, k⟩ => k none H δ R t
theorem do_some (h : DE X E a Ta) : DO X E (some a) (tdO1 Ta) := PO.imp (po_some h) fun σ H Q ⟨δ, π, Q', R, t, k⟩ =>
  ⟨δ, π, _, R, t, fun v H1 s δ1 R1 ⟨i, e, q⟩ => by
    subst e
    exact ⟨i, R1.isInt (π' := π) List.mem_cons_self, k (some i) H1 δ1 R1.drop q⟩⟩
def cutD {α : Type} (xs : List α) (lo hi : Option Int) : List α := (xs.drop (HT.sIx xs.length 0 lo)).take (HT.sIx xs.length xs.length hi - HT.sIx xs.length 0 lo)
theorem EncS.cut {K : PySem.W.Frag} {M : Addr → Prop} {H : Hp} {vs : List V} {ds : List D} (h : EncS K M H vs ds) (lo hi : Option Int) : EncS K M H (cutV vs lo hi) (cutD ds lo hi) := by
  unfold cutV cutD
  rw [h.length]
  exact (h.drop _).take _
def slD (s : SV) (lo hi : Option Int) (δ : Env) (Q : VD) : Prop := match s with
  | .val (.tuple ds) => Q (.val (.tuple (cutD ds lo hi))) δ
  | s => ∃ ds, View s δ ds ∧ ∀ p, Q (.own p (cutD ds lo hi)) δ
def tdSl (Ta : TD) (Tl Th : TDO) : TD := fun δ Q => Ta δ fun s δ1 => Tl δ1 fun lo δ2 => Th δ2 fun hi δ3 => slD s lo hi δ3 Q
theorem sl_any : SlR X (fun x lo hi H Q => rSlA X.K x lo hi H Q ∨ rSlL X.K x lo hi H Q) := SlR.or sl_tupA sl_list
theorem cut_whole {α : Type} {xs : List α} {lo hi : Option Int} (h : HT.sIx xs.length 0 lo = 0 ∧ HT.sIx xs.length xs.length hi = xs.length) : cutD xs lo hi = xs := by
  unfold cutD
  rw [h.1, h.2]
  simp
theorem de_slice {lo hi : Option Expr} {Tl Th : TDO} (ha : DE X E a Ta) (hl : DO X E lo Tl) (hh : DO X E hi Th) : DE X E (.Subscript a (.Slice lo hi none p2) pos) (tdSl Ta Tl Th) :=
  PE.imp (pe_slice sl_any ha hl hh) fun σ H Q ⟨δ, π, Q', R, t, k⟩ =>
    ⟨δ, π, _, R, t, fun v H1 s δ1 R1 q1 => ⟨δ1, _, _, R1, q1, fun lo H2 δ2 R2 q2 => ⟨δ2, _, _, R2, q2, fun hi H3 δ3 R3 q3 => by
      unfold slD at q3
      split at q3
      · rename_i ds
        obtain ⟨G, M, R3⟩ := R3
        have r1 : Enc X.K M H3 v (.tuple ds) := R3.top
        cases r1 with
        | tup a1 a2 =>
          rename_i ad vs
          refine .inl ⟨ad, vs, rfl, a1, fun e => ?_, fun _ p n => k _ _ _ _ ⟨_, _, R3.drop.newTup n (a2.cut lo hi)⟩ q3⟩
          rw [a2.length] at e
          rw [cut_whole e] at q3
          exact k _ _ _ _ ⟨_, _, R3.drop.push (s := .val (.tuple ds)) (.tup a1 a2) rfl⟩ q3
      · obtain ⟨ds, e, q⟩ := q3
        obtain ⟨G, M, R3⟩ := R3
        obtain ⟨ad, vs, rfl, a1, a2⟩ := R3.view List.mem_cons_self e
        exact .inr ⟨ad, vs, rfl, SqL.of a1, fun p n => k _ _ _ _ ⟨_, _, R3.drop.fresh n (a2.cut lo hi)⟩ (q p)⟩⟩⟩⟩
end
/-! ### tests -/
def truthD (s : SV) (δ : Env) (Q : Bool → Prop) : Prop := match s with
  | .val .none => Q false
  | .val (.bool b) => Q b
  | .val (.int i) => Q (i != 0)
  | .val (.tuple ds) => Q (!ds.isEmpty)
  | s => ∃ ds, View s δ ds ∧ Q (!ds.isEmpty)
section
variable {X : Cx} {E : Ent} {a b c : Expr} {Ta Tb Tc : TD} {TA TB : TDT} {rest : List Expr} {pos p2 : Pos}
def tdTruth (T : TD) : TDT := fun δ Q => T δ fun s δ1 => truthD s δ1 fun k => Q k δ1
theorem empty_eq {K : PySem.W.Frag} {M : Addr → Prop} {H : Hp} {vs : List V} {ds : List D} (h : EncS K M H vs ds) : vs.isEmpty = ds.isEmpty := by cases h <;> rfl
theorem truth_ok {K : PySem.W.Frag} {E : Ent} {G M : Addr → Prop} {σ : L2.St} {H : Hp} {δ : Env} {π : Tmp} {v : V} {s : SV} {Q : Bool → Prop} (R : RepG K E G M σ H δ ((v, s) :: π)) (e : truthD s δ Q) : ∃ c, TruV K v H c ∧ Q c := by
  have lists : (∃ ds, View s δ ds ∧ Q (!ds.isEmpty)) → ∃ c, TruV K v H c ∧ Q c := fun ⟨ds, z, q⟩ => by
    obtain ⟨ad, vs, rfl, a1, a2⟩ := R.view List.mem_cons_self z
    exact ⟨_, .inl ⟨vs, SqL.of a1, rfl⟩, by rw [empty_eq a2]; exact q⟩
  unfold truthD at e
  split at e
  · have z : Enc K M H v .none := R.top
    cases z; exact ⟨_, rfl, e⟩
  · rename_i b
    have z : Enc K M H v (.bool b) := R.top
    cases z; exact ⟨_, rfl, e⟩
  · rename_i i
    have z : Enc K M H v (.int i) := R.top
    cases z; exact ⟨_, rfl, e⟩
  · rename_i ds
    have z : Enc K M H v (.tuple ds) := R.top
    cases z with
    | tup a1 a2 => exact ⟨_, .inr (.inl ⟨_, a1, rfl⟩), by rw [empty_eq a2]; exact e⟩
  · exact lists e
theorem dt_truth (ha : DE X E a Ta) (he : ∀ whole, isTrue a X.env whole = (do let v ← whole; standAt a.pos; holding [v] (truthy v)) := by intro _; rfl) : DT X E a (tdTruth Ta) :=
  PT.imp (pt_truth ha he) fun σ H Q ⟨δ, π, Q', R, t, k⟩ => ⟨δ, π, _, R, t, fun v H1 s δ1 R1 e => by
    obtain ⟨G, M, R1⟩ := R1
    obtain ⟨c, h, q⟩ := truth_ok R1 e
    exact ⟨c, h, k c H1 δ1 ⟨G, M, R1.drop⟩ q⟩⟩
def tdNot (T : TDT) : TDT := fun δ Q => T δ fun b δ1 => Q (!b) δ1
def tdAnd (T U : TDT) : TDT := fun δ Q => T δ fun b δ1 => if b = true then U δ1 Q else Q false δ1
def tdOr (T U : TDT) : TDT := fun δ Q => T δ fun b δ1 => if b = true then Q true δ1 else U δ1 Q
theorem dt_not (ha : DT X E a TA) : DT X E (.UnaryOp .Not a pos) (tdNot TA) := PT.imp (pt_not ha) fun σ H Q ⟨δ, π, Q', R, t, k⟩ => ⟨δ, π, _, R, t, fun b H1 δ1 R1 q => k (!b) H1 δ1 R1 q⟩
theorem dw_and1 (ha : DT X E a TA) : DW X E (.BoolOp .And [a] pos) TA := pw_and1 ha
theorem dw_or1 (ha : DT X E a TA) : DW X E (.BoolOp .Or [a] pos) TA := pw_or1 ha
theorem dw_and (ha : DT X E a TA) (hb : DW X E (.BoolOp .And (b :: rest) pos) TB) : DW X E (.BoolOp .And (a :: b :: rest) pos) (tdAnd TA TB) := PW.imp (pw_and ha hb) fun σ H Q ⟨δ, π, Q', R, t, k⟩ =>
  ⟨δ, π, _, R, t, fun c H1 δ1 R1 q => by
    cases c with
    | true => exact iteT ⟨δ1, π, Q', R1, q, k⟩
    | false => exact iteF (k false H1 δ1 R1 q)⟩
theorem dw_or (ha : DT X E a TA) (hb : DW X E (.BoolOp .Or (b :: rest) pos) TB) : DW X E (.BoolOp .Or (a :: b :: rest) pos) (tdOr TA TB) := PW.imp (pw_or ha hb) fun σ H Q ⟨δ, π, Q', R, t, k⟩ =>
  ⟨δ, π, _, R, t, fun c H1 δ1 R1 q => by
    cases c with
    | false => exact iteF ⟨δ1, π, Q', R1, q, k⟩
    | true => exact iteT (k true H1 δ1 R1 q)⟩
theorem DW.dt (h : DW X E a TA) : DT X E a TA := PW.pt h
/-- as values: all but the last truth values -/
def tdAndV (T U : TD) : TD := fun δ Q => T δ fun s δ1 => ∃ c, s = .val (.bool c) ∧ if c = true then U δ1 Q else Q (.val (.bool false)) δ1
def tdOrV (T U : TD) : TD := fun δ Q => T δ fun s δ1 => ∃ c, s = .val (.bool c) ∧ if c = true then Q (.val (.bool true)) δ1 else U δ1 Q
def tdNotV (T : TD) : TD := fun δ Q => T δ fun s δ1 => ∃ c, s = .val (.bool c) ∧ Q (.val (.bool (!c))) δ1
theorem de_one {op} (h : DE X E a Ta) : DE X E (.BoolOp op [a] pos) Ta := pe_one h
theorem de_and (ha : DE X E a Ta) (hb : DE X E (.BoolOp .And (b :: rest) pos) Tb) : DE X E (.BoolOp .And (a :: b :: rest) pos) (tdAndV Ta Tb) := PE.imp (pe_and ha hb) fun σ H Q ⟨δ, π, Q', R, t, k⟩ =>
  ⟨δ, π, _, R, t, fun v H1 s δ1 R1 ⟨c, e, q⟩ => by
    subst e
    refine ⟨c, R1.isBl List.mem_cons_self, ?_⟩
    cases c with
    | true => exact iteT ⟨δ1, π, Q', R1.drop, q, k⟩
    | false => exact iteF (k _ H1 _ δ1 (R1.drop.bl false) q)⟩
theorem de_or (ha : DE X E a Ta) (hb : DE X E (.BoolOp .Or (b :: rest) pos) Tb) : DE X E (.BoolOp .Or (a :: b :: rest) pos) (tdOrV Ta Tb) := PE.imp (pe_or ha hb) fun σ H Q ⟨δ, π, Q', R, t, k⟩ =>
  ⟨δ, π, _, R, t, fun v H1 s δ1 R1 ⟨c, e, q⟩ => by
    subst e
    refine ⟨c, R1.isBl List.mem_cons_self, ?_⟩
    cases c with
    | true => exact iteT (k _ H1 _ δ1 (R1.drop.bl true) q)
    | false => exact iteF ⟨δ1, π, Q', R1.drop, q, k⟩⟩
theorem de_not (ha : DE X E a Ta) : DE X E (.UnaryOp .Not a pos) (tdNotV Ta) := PE.imp (pe_not ha) fun σ H Q ⟨δ, π, Q', R, t, k⟩ =>
  ⟨δ, π, _, R, t, fun v H1 s δ1 R1 ⟨c, e, q⟩ => by
    subst e
    exact ⟨c, R1.isBl List.mem_cons_self, k _ H1 _ δ1 (R1.drop.bl _) q⟩⟩
def tdIf (T : TDT) (Ta Tb : TD) : TD := fun δ Q => T δ fun c δ1 => if c = true then Ta δ1 Q else Tb δ1 Q
theorem de_if (hc : DT X E c TA) (ha : DE X E a Ta) (hb : DE X E b Tb) : DE X E (.IfExp c a b pos) (tdIf TA Ta Tb) := PE.imp (pe_ifExp hc ha hb) fun σ H Q ⟨δ, π, Q', R, t, k⟩ =>
  ⟨δ, π, _, R, t, fun d H1 δ1 R1 q => by
    cases d with
    | true => exact iteT ⟨δ1, π, Q', R1, q, k⟩
    | false => exact iteF ⟨δ1, π, Q', R1, q, k⟩⟩
/-- -a -/
def tdNeg (T : TD) : TD := fun δ Q => T δ fun s δ1 => ∃ i, s = .val (.int i) ∧ Q (.val (.int (-i))) δ1
theorem de_neg (ha : DE X E a Ta) : DE X E (.UnaryOp .USub a pos) (tdNeg Ta) := PE.imp (pe_un un_neg ha) fun σ H Q ⟨δ, π, Q', R, t, k⟩ =>
  ⟨δ, π, _, R, t, fun v H1 s δ1 R1 ⟨c, e, q⟩ => by
    subst e
    exact ⟨c, R1.isInt (π' := π) List.mem_cons_self, k _ H1 _ δ1 (R1.drop.int _) q⟩⟩
end
end HR
namespace HR
open PySem PySem.Spec L2
open PyProof.Rows hiding St
/-! ### what is walked -/
abbrev TDI := Env → (List D → (Env → Prop) → Env → Prop) → Prop
structure Wk (K : PySem.W.Frag) (E : Ent) (J : It) (π1 : Tmp) (chk : Env → Prop) (ds : List D) : Prop where
  go : ∀ (σ : L2.St) (H : Hp) (δ : Env) (π : Tmp) (i : Nat), i < ds.length → Rep K E σ H δ (π1 ++ π) → chk δ → J.go i H
  stop : ∀ (σ : L2.St) (H : Hp) (δ : Env) (π : Tmp), Rep K E σ H δ (π1 ++ π) → chk δ → J.stop ds.length H
  yld : ∀ (σ : L2.St) (H : Hp) (δ : Env) (π : Tmp) (i : Nat) (x : V) (H' : Hp), i < ds.length → Rep K E σ H δ (π1 ++ π) → chk δ → J.yld i H x H' → ∃ d, ds[i]? = some d ∧ Rep K E σ H' δ ((x, .val d) :: (π1 ++ π))
  len : ds.length ≤ sizeLine
def lI (K : PySem.W.Frag) (E : Ent) (T : TDI) : TI := fun σ H R => ∃ δ π Q', Rep K E σ H δ π ∧ T δ Q' ∧ ∀ J H1 δ1 π1 chk ds, Rep K E σ H1 δ1 (π1 ++ π) → Wk K E J π1 chk ds → Q' ds chk δ1 → R J H1
abbrev DI (X : Cx) (E : Ent) (tg e : Expr) (T : TDI) : Prop := PI X tg e (lI X.K E T)
theorem PI.imp {X : Cx} {tg e : Expr} {t t' : TI} (h : PI X tg e t) (i : ∀ σ H Q, t' σ H Q → t σ H Q) : PI X tg e t' := ⟨fun pins s σ H Q I q => h.run pins s σ H Q I (i _ _ _ q)⟩
/-- lists and tuples are never longer than the line -/
def LenOk (K : PySem.W.Frag) (H : Hp) : Prop := ∀ a xs, SqL K H a xs ∨ SqT K H a xs → xs.length ≤ sizeLine
theorem lenOk_of {X : Cx} {pins : List (Addr × Obj)} {σ : L2.St} {H : Hp} {s : Shared} (I : Inv X pins σ H s) : LenOk X.K H := fun a xs h => by
  rcases h with h | h
  · exact (I.list h).elim fun _ z => z.2.2
  · exact (I.tuple h).elim fun _ z => z.2.2
theorem PI.bound {X : Cx} {tg e : Expr} {t : TI} (h : PI X tg e t) : PI X tg e (fun σ H R => t σ H fun J H1 => LenOk X.K H1 → R J H1) := ⟨fun pins s σ H R I q => thn (h.run pins s σ H _ I q) fun v s1 h1 => thn h1 fun itv s2 ⟨it, fp, tn, J, H', e, I2, T, st, f, r⟩ => ⟨it, fp, tn, J, H', e, I2, T, st, f, r (lenOk_of I2)⟩⟩
/-- a list or a tuple -/
def iSeq (K : PySem.W.Frag) (tl : TE) : TI := fun σ H R => tl σ H fun x H1 => ∃ a, x = .ref a ∧ (((∃ xs, SqL K H1 a xs) ∧ R (Itl K a) H1) ∨ ((∃ xs, SqT K H1 a xs) ∧ R (Itt K a) H1))
theorem pi_seq {X : Cx} {tg l : Expr} {tl : TE} (hl : PE X l tl) : PI X tg l (iSeq X.K tl) := by
  refine ⟨fun pn s σ H R I h => ?_⟩
  refine thn (hl.run pn s σ H _ I h) fun v sb ⟨x, Hb, Ib, r1, q1⟩ => ?_
  obtain ⟨a, e, q⟩ := q1
  subst e
  cases r1
  rcases q with ⟨⟨xs, hq⟩, q⟩ | ⟨⟨xs, hq⟩, q⟩
  · obtain ⟨us, rs, p, _hz⟩ := Ib.list hq
    refine wpAny_pyIter_list p.isList ?_
    refine ⟨sb.heap.objs.size, [sb.heap.objs.size], _, _, Hb, rfl, Ib.kept (t' := sb.toks) fun b o e => Heap.get?_push_of_some _ e, turn_list a _, ⟨_, Heap.get?_push_size _ rfl, rfl, rfl⟩, fun b inF => ?_, q⟩
    have e : b = sb.heap.objs.size := by simpa using inF
    subst e
    exact Ib.fpOk (Nat.le_refl _) (Ib.hok.fresh (Nat.le_refl _))
  · obtain ⟨us, rs, p, _hz⟩ := Ib.tuple hq
    refine wpAny_pyIter_tuple (show sb.heap.IsTuple a us.toArray from p) ?_
    refine ⟨sb.heap.objs.size, [sb.heap.objs.size], _, _, Hb, rfl, Ib.kept (t' := sb.toks) fun b o e => Heap.get?_push_of_some _ e, turn_tuple a _, ⟨_, Heap.get?_push_size _ rfl, rfl, rfl⟩, fun b inF => ?_, q⟩
    have e : b = sb.heap.objs.size := by simpa using inF
    subst e
    exact Ib.fpOk (Nat.le_refl _) (Ib.hok.fresh (Nat.le_refl _))
/-- what a walked thing shows, and what must stay so -/
def chkOf (s : SV) (ds : List D) (δ : Env) : Prop := match s with
  | .bor i p => View (.bor i p) δ ds
  | _ => True
theorem seqD_chk {s : SV} {δ δ' : Env} {ds : List D} (h : SeqR s δ ds) (c : chkOf s ds δ') : SeqR s δ' ds := by
  cases s with
  | val d => cases d <;> exact h
  | own p es => exact h
  | bor i p => exact c
  | _ => exact h
def tdIt (T : TD) : TDI := fun δ Q => T δ fun s δ1 => ∃ ds, SeqR s δ1 ds ∧ Q ds (chkOf s ds) δ1
section
variable {K : PySem.W.Frag} {E : Ent} {G M : Addr → Prop} {σ : L2.St} {H H' : Hp} {δ : Env} {π : Tmp} {v : V} {s : SV} {ds : List D}
theorem RepG.seq (R : RepG K E G M σ H δ π) (h : (v, s) ∈ π) (e : SeqR s δ ds) : ∃ a xs, v = .ref a ∧ EncS K M H xs ds ∧ ((SqL K H a xs ∧ ∀ d es, s = .val d → d ≠ .tuple es) ∨ (SqT K H a xs ∧ s = .val (.tuple ds))) := by
  have lists : View s δ ds → (∀ d es, s = .val d → d ≠ .tuple es) → ∃ a xs, v = .ref a ∧ EncS K M H xs ds ∧ ((SqL K H a xs ∧ ∀ d es, s = .val d → d ≠ .tuple es) ∨ (SqT K H a xs ∧ s = .val (.tuple ds))) := fun e hn => by
    obtain ⟨a, xs, rfl, a1, a2⟩ := R.view h e
    exact ⟨a, xs, rfl, a2, .inl ⟨SqL.of a1, hn⟩⟩
  cases s with
  | val d =>
    cases d with
    | tuple es =>
      cases e
      have r : Enc K M H v (.tuple ds) := R.tmp _ h
      cases r with
      | tup a1 a2 => exact ⟨_, _, rfl, a2, .inr ⟨a1, rfl⟩⟩
    | list es => exact lists e fun d fs z => by cases z; exact fun z => nomatch z
    | _ => cases e
  | own p es => exact lists e fun d fs z => nomatch z
  | bor i p => exact lists e fun d fs z => nomatch z
  | _ => cases e
theorem wk_seqL {a : Addr} (hs : ∀ d es, s = .val d → d ≠ .tuple es) (hl : ds.length ≤ sizeLine) (he : ∀ δ, chkOf s ds δ → SeqR s δ ds) : Wk K E (Itl K a) [(.ref a, s)] (chkOf s ds) ds := by
  have key : ∀ {σ : L2.St} {H : Hp} {δ : Env} {π : Tmp}, Rep K E σ H δ ([(.ref a, s)] ++ π) → chkOf s ds δ → ∃ G M xs, RepG K E G M σ H δ ([(.ref a, s)] ++ π) ∧ EncS K M H xs ds ∧ SqL K H a xs := fun {σ H δ π} ⟨G, M, R⟩ c => by
    obtain ⟨b, xs, e, e2, q⟩ := R.seq (v := .ref a) (s := s) (by simp) (he _ c)
    cases e
    rcases q with ⟨q, _⟩ | ⟨_, z⟩
    · exact ⟨G, M, xs, R, e2, q⟩
    · exact absurd rfl (hs _ _ z)
  refine ⟨fun σ H δ π i hi R c => ?_, fun σ H δ π R c => ?_, fun σ H δ π i x H' hi R c y => ?_, hl⟩
  · obtain ⟨G, M, xs, _, e2, q⟩ := key R c
    exact ⟨xs, xs[i]'(by rw [e2.length]; exact hi), q, by simp⟩
  · obtain ⟨G, M, xs, _, e2, q⟩ := key R c
    exact ⟨xs, q, by rw [e2.length]; exact Nat.le_refl _⟩
  · obtain ⟨G, M, xs, R, e2, q⟩ := key R c
    obtain ⟨rfl, y⟩ := y
    obtain ⟨d, hd, r⟩ := e2.at_ (y xs q)
    exact ⟨d, hd, G, M, R.push (s := .val d) r rfl⟩
theorem wk_seqT {a : Addr} (hl : ds.length ≤ sizeLine) : Wk K E (Itt K a) [(.ref a, .val (.tuple ds))] (fun _ => True) ds := by
  have key : ∀ {σ : L2.St} {H : Hp} {δ : Env} {π : Tmp}, Rep K E σ H δ ([(.ref a, .val (.tuple ds))] ++ π) → ∃ G M xs, RepG K E G M σ H δ ([(.ref a, .val (.tuple ds))] ++ π) ∧ EncS K M H xs ds ∧ SqT K H a xs := fun {σ H δ π} ⟨G, M, R⟩ => by
    have r : Enc K M H (.ref a) (.tuple ds) := R.tmp (.ref a, .val (.tuple ds)) (by simp)
    cases r with
    | tup a1 a2 => exact ⟨G, M, _, R, a2, a1⟩
  refine ⟨fun σ H δ π i hi R c => ?_, fun σ H δ π R c => ?_, fun σ H δ π i x H' hi R c y => ?_, hl⟩
  · obtain ⟨G, M, xs, _, e2, q⟩ := key R
    exact ⟨xs, xs[i]'(by rw [e2.length]; exact hi), q, by simp⟩
  · obtain ⟨G, M, xs, _, e2, q⟩ := key R
    exact ⟨xs, q, by rw [e2.length]; exact Nat.le_refl _⟩
  · obtain ⟨G, M, xs, R, e2, q⟩ := key R
    obtain ⟨rfl, y⟩ := y
    obtain ⟨d, hd, r⟩ := e2.at_ (y xs q)
    exact ⟨d, hd, G, M, R.push (s := .val d) r rfl⟩
end
section
variable {X : Cx} {E : Ent} {tg a b c : Expr} {Ta Tb Tc : TD} {Ts : TDA} {pos p : Pos}
theorem di_seq (ha : DE X E a Ta) : DI X E tg a (tdIt Ta) := PI.imp (PI.bound (pi_seq ha)) fun σ H R ⟨δ, π, Q', R0, t, k⟩ =>
  ⟨δ, π, _, R0, t, fun v H1 s δ1 R1 ⟨ds, e, q⟩ => by
    obtain ⟨G, M, R1⟩ := R1
    obtain ⟨ad, xs, rfl, e2, z⟩ := R1.seq List.mem_cons_self e
    refine ⟨ad, rfl, ?_⟩
    rcases z with ⟨z, hn⟩ | ⟨z, rfl⟩
    · refine .inl ⟨⟨xs, z⟩, fun lo => k _ _ δ1 [(.ref ad, s)] _ ds ⟨G, M, R1⟩ (wk_seqL hn (by rw [← e2.length]; exact lo ad xs (.inl z)) fun δ' c => seqD_chk e c) q⟩
    · exact .inr ⟨⟨xs, z⟩, fun lo => k _ _ δ1 [(.ref ad, .val (.tuple ds))] _ ds ⟨G, M, R1⟩ (wk_seqT (by rw [← e2.length]; exact lo ad xs (.inr z))) q⟩⟩
/-! ranges -/
def rangeD (lo : Int) (n : Nat) : List D := (List.range n).map fun i => .int (lo + (i : Nat))
theorem rangeD_len (lo : Int) (n : Nat) : (rangeD lo n).length = n := by simp [rangeD]
theorem rangeD_get {lo : Int} {n i : Nat} (h : i < n) : (rangeD lo n)[i]? = some (.int (lo + (i : Nat))) := by simp [rangeD, h]
theorem wk_range {K : PySem.W.Frag} {E : Ent} {lo : Int} {n : Nat} (h : n ≤ sizeLine) : Wk K E (Itr lo n) [] (fun _ => True) (rangeD lo n) := by
  refine ⟨fun σ H δ π i hi R c => (show i < n by simpa [rangeD_len] using hi), fun σ H δ π R c => by simp [rangeD_len, Itr], fun σ H δ π i x H' hi R c y => ?_, by simpa [rangeD_len] using h⟩
  obtain ⟨rfl, rfl⟩ := y
  exact ⟨_, rangeD_get (by simpa [rangeD_len] using hi), R.int _⟩
def on1 (Q : SV → Env → Prop) : List SV → Env → Prop
  | [s], δ => Q s δ
  | _, _ => False
def on2 (Q : SV → SV → Env → Prop) : List SV → Env → Prop
  | [s, t], δ => Q s t δ
  | _, _ => False
def on3 (Q : SV → SV → SV → Env → Prop) : List SV → Env → Prop
  | [s, t, u], δ => Q s t u δ
  | _, _ => False
theorem on1_iff {Q : SV → Env → Prop} {ss : List SV} {vs : List V} {δ : Env} (h : on1 Q ss δ) (e : vs.length = ss.length) : ∃ s v, ss = [s] ∧ vs = [v] ∧ Q s δ := by
  match ss, vs, h, e with
  | [s], [v], h, _ => exact ⟨s, v, rfl, rfl, h⟩
theorem on2_iff {Q : SV → SV → Env → Prop} {ss : List SV} {vs : List V} {δ : Env} (h : on2 Q ss δ) (e : vs.length = ss.length) : ∃ s t v w, ss = [s, t] ∧ vs = [v, w] ∧ Q s t δ := by
  match ss, vs, h, e with
  | [s, t], [v, w], h, _ => exact ⟨s, t, v, w, rfl, rfl, h⟩
theorem on3_iff {Q : SV → SV → SV → Env → Prop} {ss : List SV} {vs : List V} {δ : Env} (h : on3 Q ss δ) (e : vs.length = ss.length) : ∃ s t u v w z, ss = [s, t, u] ∧ vs = [v, w, z] ∧ Q s t u δ := by
  match ss, vs, h, e with
  | [s, t, u], [v, w, z], h, _ => exact ⟨s, t, u, v, w, z, rfl, rfl, h⟩
def tdR1 (Ts : TDA) : TDI := fun δ Q => Ts δ (on1 fun s δ1 => ∃ n, s = .val (.int n) ∧ 0 ≤ n ∧ n ≤ 16777216 ∧ Q (rangeD 0 n.toNat) (fun _ => True) δ1)
def tdR2 (Ts : TDA) : TDI := fun δ Q => Ts δ (on2 fun s t δ2 => ∃ lo hi, s = .val (.int lo) ∧ t = .val (.int hi) ∧ -(2 ^ 62) ≤ lo ∧ lo < 2 ^ 62 ∧ -(2 ^ 62) ≤ hi ∧ hi < 2 ^ 62 ∧ (hi - lo) ≤ 16777216 ∧ Q (rangeD lo (hi - lo).toNat) (fun _ => True) δ2)
theorem di_r1 (hm : X.mg "range" = none) (ha : DA X E [a] Ts) (hg : Gl X "range" := by rfl) (hs : starEach [a] X.env = [(false, eval a X.env)] := by rfl) : DI X E tg (.Call (.Name "range" p) [a] [] pos) (tdR1 Ts) :=
  PI.imp (pi_range1 hg hm ha hs) fun σ H R ⟨δ, π, Q', R0, t, k⟩ =>
    ⟨δ, π, _, R0, t, fun vs H1 ss δ1 el R1 q => by
      obtain ⟨s, v, rfl, rfl, n, rfl, h0, h1, q⟩ := on1_iff q el
      have e1 := R1.isInt (π' := π) (v := v) (i := n) (by simp)
      subst e1
      exact ⟨n, rfl, by omega, by omega, k _ H1 δ1 [] _ _ R1.drop (wk_range (by rw [sizeLine_eq]; omega)) q⟩⟩
theorem di_r2 (hm : X.mg "range" = none) (ha : DA X E [a, b] Ts) (hg : Gl X "range" := by rfl) (hs : starEach [a, b] X.env = [(false, eval a X.env), (false, eval b X.env)] := by rfl) (hs2 : starEach [b] X.env = [(false, eval b X.env)] := by rfl) :
    DI X E tg (.Call (.Name "range" p) [a, b] [] pos) (tdR2 Ts) :=
  PI.imp (pi_range2 hg hm ha hs hs2) fun σ H R ⟨δ, π, Q', R0, t, k⟩ =>
    ⟨δ, π, _, R0, t, fun vs H1 ss δ1 el R1 q => by
      obtain ⟨s, t, v, w, rfl, rfl, lo, hi, rfl, rfl, h1, h2, h3, h4, h5, q⟩ := on2_iff q el
      have e1 := R1.isInt (π' := π) (v := v) (i := lo) (by simp)
      have e2 := R1.isInt (π' := π) (v := w) (i := hi) (by simp)
      subst e1 e2
      exact ⟨lo, hi, rfl, ⟨h1, h2, h3, h4⟩, k _ H1 δ1 [] _ _ R1.drop.drop (wk_range (by rw [sizeLine_eq]; omega)) q⟩⟩
/-! zip and enumerate -/
def zipD (xs ys : List D) : List D := (xs.zip ys).map fun z => .tuple [z.1, z.2]
theorem zipD_len (xs ys : List D) : (zipD xs ys).length = min xs.length ys.length := by simp [zipD]
theorem zipD_get {xs ys : List D} {i : Nat} {x y : D} (h1 : xs[i]? = some x) (h2 : ys[i]? = some y) : (zipD xs ys)[i]? = some (.tuple [x, y]) := by
  have e : (xs.zip ys)[i]? = some (x, y) := List.getElem?_zip_eq_some.mpr ⟨h1, h2⟩
  simp [zipD, List.getElem?_map, e]
def enumD (xs : List D) : List D := xs.zipIdx.map fun z => .tuple [.int (z.2 : Nat), z.1]
theorem enumD_len (xs : List D) : (enumD xs).length = xs.length := by simp [enumD]
theorem enumD_get {xs : List D} {i : Nat} {x : D} (h1 : xs[i]? = some x) : (enumD xs)[i]? = some (.tuple [.int (i : Nat), x]) := by
  simp [enumD, List.getElem?_map, h1]
def tdZip (Ts : TDA) : TDI := fun δ Q => Ts δ (on2 fun s t δ2 => ∃ xs ys, SeqR s δ2 xs ∧ SeqR t δ2 ys ∧ ((∀ zs, s ≠ .val (.tuple zs)) ↔ ∀ zs, t ≠ .val (.tuple zs)) ∧ Q (zipD xs ys) (fun δ => chkOf s xs δ ∧ chkOf t ys δ) δ2)
def tdEnum (Ts : TDA) : TDI := fun δ Q => Ts δ (on1 fun s δ2 => ∃ xs, View s δ2 xs ∧ Q (enumD xs) (chkOf s xs) δ2)
section
variable {K : PySem.W.Frag} {s t : SV} {xs ys : List D}
theorem RepG.pair {G M : Addr → Prop} {σ : L2.St} {H : Hp} {δ : Env} {π : Tmp} {T : Addr} {v w : V} {d e : D} (R : RepG K E G M σ H δ π) (n : H T = none) (h1 : Enc K M H v d) (h2 : Enc K M H w e) : RepG K E G M σ (upd H T (.tup [v, w])) δ ((.ref T, .val (.tuple [d, e])) :: π) :=
  R.newTup n (.cons h1 (.cons h2 .nil))
theorem seq_key {a : Addr} (he : ∀ δ, chkOf s xs δ → SeqR s δ xs) {G M : Addr → Prop} {σ : L2.St} {H : Hp} {δ : Env} {π : Tmp} (R : RepG K E G M σ H δ π) (h : (.ref a, s) ∈ π) (c : chkOf s xs δ) :
    ∃ vs, EncS K M H vs xs ∧ ((SqL K H a vs ∧ ∀ zs, s ≠ .val (.tuple zs)) ∨ (SqT K H a vs ∧ s = .val (.tuple xs))) := by
  obtain ⟨b, vs, e, e2, q⟩ := R.seq h (he _ c)
  cases e
  refine ⟨vs, e2, ?_⟩
  rcases q with ⟨q, hn⟩ | q
  · exact .inl ⟨q, fun zs z => hn _ zs z rfl⟩
  · exact .inr q
theorem wk_zip {a b : Addr} (J : It) (hl : min xs.length ys.length ≤ sizeLine) (he : ∀ δ, chkOf s xs δ → SeqR s δ xs) (hf : ∀ δ, chkOf t ys δ → SeqR t δ ys)
    (hJ : ∀ (σ : L2.St) (H : Hp) (δ : Env) (π : Tmp) (G M : Addr → Prop), RepG K E G M σ H δ ([(.ref a, s), (.ref b, t)] ++ π) → chkOf s xs δ → chkOf t ys δ → ∃ vs ws, EncS K M H vs xs ∧ EncS K M H ws ys ∧
      (∀ i, i < min vs.length ws.length → J.go i H) ∧ J.stop (min vs.length ws.length) H ∧ ∀ i x H', J.yld i H x H' → ∃ T v w, x = .ref T ∧ H T = none ∧ H' = upd H T (.tup [v, w]) ∧ vs[i]? = some v ∧ ws[i]? = some w) :
    Wk K E J [(.ref a, s), (.ref b, t)] (fun δ => chkOf s xs δ ∧ chkOf t ys δ) (zipD xs ys) := by
  refine ⟨fun σ H δ π i hi ⟨G, M, R⟩ c => ?_, fun σ H δ π ⟨G, M, R⟩ c => ?_, fun σ H δ π i x H' hi ⟨G, M, R⟩ c y => ?_, by rw [zipD_len]; exact hl⟩
  · obtain ⟨vs, ws, e1, e2, q, _⟩ := hJ _ _ _ _ _ _ R c.1 c.2
    rw [zipD_len] at hi
    exact q i (by rw [e1.length, e2.length]; exact hi)
  · obtain ⟨vs, ws, e1, e2, _, q, _⟩ := hJ _ _ _ _ _ _ R c.1 c.2
    rw [zipD_len, ← e1.length, ← e2.length]
    exact q
  · obtain ⟨vs, ws, e1, e2, _, _, q⟩ := hJ _ _ _ _ _ _ R c.1 c.2
    obtain ⟨T, v, w, rfl, n, rfl, h1, h2⟩ := q i x H' y
    obtain ⟨d, hd, r⟩ := e1.at_ h1
    obtain ⟨d', hd', r'⟩ := e2.at_ h2
    exact ⟨_, zipD_get hd hd', G, M, R.pair n r r'⟩
end
theorem di_zip {elts : List Expr} {kk : Nat} {tpos : Pos} (hm : X.mg "zip" = none) (ha : DA X E [a, b] Ts) (hg : Gl X "zip" := by rfl) (hs : starEach [a, b] X.env = (false, eval a X.env) :: starEach [b] X.env := by rfl) (hpl : (backTo pos (starEach [b] X.env)).any (·.1) = false := by rfl) :
    DI X E (.Tuple elts kk tpos) (.Call (.Name "zip" p) [a, b] [] pos) (tdZip Ts) :=
  PI.imp (PI.bound (RZ.pi_zipA hg hm ha hs hpl)) fun σ H R ⟨δ, π, Q', R0, t, k⟩ =>
    ⟨δ, π, _, R0, t, fun vs H1 ss δ1 el R1 q => by
      obtain ⟨s, t, v, w, rfl, rfl, xs, ys, e1, e2, hst, q⟩ := on2_iff q el
      have RR : Rep X.K E σ H1 δ1 ([(v, s), (w, t)] ++ π) := R1
      obtain ⟨G, M, R1⟩ := R1
      obtain ⟨ad, us, rfl, f1, z1⟩ := R1.seq (v := v) (s := s) (by simp) e1
      obtain ⟨bd, zs, rfl, f2, z2⟩ := R1.seq (v := w) (s := t) (by simp) e2
      have c1 : ∀ δ, chkOf s xs δ → SeqR s δ xs := fun δ' c => seqD_chk e1 c
      have c2 : ∀ δ, chkOf t ys δ → SeqR t δ ys := fun δ' c => seqD_chk e2 c
      refine ⟨ad, bd, us, zs, rfl, ?_⟩
      rcases z1 with ⟨z1, n1⟩ | ⟨z1, rfl⟩
      · have n2 : ∀ zs, t ≠ .val (.tuple zs) := hst.mp fun zs z => n1 _ zs z rfl
        rcases z2 with ⟨z2, _⟩ | ⟨_, z⟩
        · refine .inl ⟨z1, z2, fun lo => k _ H1 δ1 _ _ _ RR (wk_zip (a := ad) (b := bd) _ (by rw [← f1.length]; exact Nat.le_trans (Nat.min_le_left _ _) (lo ad us (.inl z1))) c1 c2 fun σ' H' δ' π' G' M' R' d1 d2 => ?_) q⟩
          obtain ⟨vs, g1, h1⟩ := seq_key c1 R' (a := ad) (by simp) d1
          obtain ⟨ws, g2, h2⟩ := seq_key c2 R' (a := bd) (by simp) d2
          rcases h1 with ⟨h1, _⟩ | ⟨_, h1⟩
          · rcases h2 with ⟨h2, _⟩ | ⟨_, h2⟩
            · have W := walk_zip (K := X.K) (a := ad) (b := bd) (xs := vs) (ys := ws) rfl
              refine ⟨vs, ws, g1, g2, fun i hi => W.goes i H' hi ⟨h1, h2⟩, W.stops H' ⟨h1, h2⟩, fun i x H'' y => ?_⟩
              obtain ⟨T, x, z, h3, h4, h5, h6, h7⟩ := y
              exact ⟨T, x, z, h3, h4, h5, h6 vs h1, h7 ws h2⟩
            · exact absurd h2 (n2 _)
          · exact absurd h1 (fun z => n1 _ _ z rfl)
        · exact absurd z (n2 _)
      · rcases z2 with ⟨_, n2⟩ | ⟨z2, rfl⟩
        · exact absurd rfl (hst.mpr (fun zs z => n2 _ zs z rfl) _)
        · refine .inr ⟨z1, z2, fun lo => k _ H1 δ1 _ _ _ RR (wk_zip (a := ad) (b := bd) _ (by rw [← f1.length]; exact Nat.le_trans (Nat.min_le_left _ _) (lo ad us (.inr z1))) c1 c2 fun σ' H' δ' π' G' M' R' d1 d2 => ?_) q⟩
          obtain ⟨vs, g1, h1⟩ := seq_key c1 R' (a := ad) (by simp) d1
          obtain ⟨ws, g2, h2⟩ := seq_key c2 R' (a := bd) (by simp) d2
          rcases h1 with ⟨_, h1⟩ | ⟨h1, _⟩
          · exact absurd rfl (h1 _)
          · rcases h2 with ⟨_, h2⟩ | ⟨h2, _⟩
            · exact absurd rfl (h2 _)
            · refine ⟨vs, ws, g1, g2, fun i hi => ?_, ?_, fun i x H'' y => ?_⟩
              · exact ⟨vs, ws, vs[i]'(by omega), ws[i]'(by omega), h1, h2, by simp, by simp⟩
              · exact ⟨vs, ws, h1, h2, by omega⟩
              · obtain ⟨T, x, z, h3, h4, h5, h6, h7⟩ := y
                exact ⟨T, x, z, h3, h4, h5, h6 vs h1, h7 ws h2⟩⟩
theorem di_enum {elts : List Expr} {kk : Nat} {tpos : Pos} (hm : X.mg "enumerate" = none) (ha : DA X E [a] Ts) (hg : Gl X "enumerate" := by rfl) (hs : starEach [a] X.env = [(false, eval a X.env)] := by rfl) :
    DI X E (.Tuple elts kk tpos) (.Call (.Name "enumerate" p) [a] [] pos) (tdEnum Ts) :=
  PI.imp (PI.bound (pi_enum hg hm ha hs)) fun σ H R ⟨δ, π, Q', R0, t, k⟩ =>
    ⟨δ, π, _, R0, t, fun vs H1 ss δ1 el R1 q => by
      obtain ⟨s, v, rfl, rfl, xs, e1, q⟩ := on1_iff q el
      have RR : Rep X.K E σ H1 δ1 ([(v, s)] ++ π) := R1
      obtain ⟨G, M, R1⟩ := R1
      obtain ⟨ad, us, rfl, f0, f1⟩ := R1.view (v := v) (s := s) (by simp) e1
      have e3 : SeqR s δ1 xs ∧ ∀ zs, s ≠ .val (.tuple zs) := by
        cases s with
        | val d => cases d <;> first | exact ⟨e1, fun zs z => nomatch z⟩ | exact absurd e1 (fun z => nomatch z)
        | own p es => exact ⟨e1, fun zs z => nomatch z⟩
        | bor i p => exact ⟨e1, fun zs z => nomatch z⟩
        | _ => cases e1
      have c1 : ∀ δ, chkOf s xs δ → SeqR s δ xs := fun δ' c => seqD_chk e3.1 c
      refine ⟨ad, us, rfl, SqL.of f0, fun lo => k _ H1 δ1 _ _ _ RR ?_ q⟩
      have key : ∀ {σ : L2.St} {H : Hp} {δ : Env} {π : Tmp}, Rep X.K E σ H δ ([(.ref ad, s)] ++ π) → chkOf s xs δ → ∃ G M vs, RepG X.K E G M σ H δ ([(.ref ad, s)] ++ π) ∧ EncS X.K M H vs xs ∧ SqL X.K H ad vs := fun {σ H δ π} ⟨G, M, R⟩ c => by
        obtain ⟨vs, g1, h1⟩ := seq_key c1 R (a := ad) (by simp) c
        rcases h1 with ⟨h1, _⟩ | ⟨_, h1⟩
        · exact ⟨G, M, vs, R, g1, h1⟩
        · exact absurd h1 (e3.2 _)
      refine ⟨fun σ H δ π i hi R c => ?_, fun σ H δ π R c => ?_, fun σ H δ π i x H' hi R c y => ?_, by rw [enumD_len, ← f1.length]; exact lo ad us (.inl (SqL.of f0))⟩
      · obtain ⟨G, M, vs, _, g, h1⟩ := key R c
        rw [enumD_len, ← g.length] at hi
        exact walk_enum.goes i H hi h1
      · obtain ⟨G, M, vs, _, g, h1⟩ := key R c
        rw [enumD_len, ← g.length]
        exact walk_enum.stops H h1
      · obtain ⟨G, M, vs, R, g, h1⟩ := key R c
        rw [enumD_len, ← g.length] at hi
        obtain ⟨T, x, z, h3, h4, h5, h6, h7⟩ := walk_enum.yields i H x H' hi h1 y
        cases h6
        obtain ⟨d, hd, r⟩ := g.at_ h7
        subst h3 h5
        exact ⟨_, enumD_get hd, G, M, R.pair h4 (.int _) r⟩⟩
end
end HR
namespace HR
open PySem PySem.Spec L2
open PyProof.Rows hiding St
/-! ### statements over data -/
structure En where
  nx : Env → Prop
  rt : SV → Env → Prop
  bk : Env → Prop := fun _ => False
  ct : Env → Prop := fun _ => False
abbrev TDS := En → Env → Prop
def lS (K : PySem.W.Frag) (E : Ent) (T : TDS) : TS := fun D σ H => ∃ δ π D', Rep K E σ H δ π ∧ T D' δ ∧ (∀ σ' H' δ', Rep K E σ' H' δ' π → D'.nx δ' → D.nx σ' H') ∧
  (∀ σ' H' v r δ', Rep K E σ' H' δ' ((v, r) :: π) → D'.rt r δ' → D.rt v H') ∧ (∀ σ' H' δ', Rep K E σ' H' δ' π → D'.bk δ' → D.bk σ' H') ∧ (∀ σ' H' δ', Rep K E σ' H' δ' π → D'.ct δ' → D.ct σ' H')
abbrev DS (X : Cx) (E : Ent) (st : Stmt) (T : TDS) : Prop := PS X st (lS X.K E T)
abbrev DSs (X : Cx) (E : Ent) (st : List Stmt) (T : TDS) : Prop := PSs X st (lS X.K E T)
theorem PS.imp {X : Cx} {e : Stmt} {t t' : TS} (h : PS X e t) (i : ∀ D σ H, t' D σ H → t D σ H) : PS X e t' := ⟨fun pins s σ H D I q => h.run pins s σ H D I (i _ _ _ q)⟩
theorem PSs.imp {X : Cx} {e : List Stmt} {t t' : TS} (h : PSs X e t) (i : ∀ D σ H, t' D σ H → t D σ H) : PSs X e t' := ⟨fun pins s σ H D I q => h.run pins s σ H D I (i _ _ _ q)⟩
def tsSkip : TDS := fun D δ => D.nx δ
def tsSeq (T U : TDS) : TDS := fun D δ => T { D with nx := U D } δ
def tsNever : TDS := fun _ _ => False
def tsExpr (T : TD) : TDS := fun D δ => T δ fun _ δ1 => D.nx δ1
/-- what a return hands back -/
def retD (s : SV) (δ : Env) (Q : SV → Env → Prop) : Prop := match s with
  | .val d => Q (.val d) δ
  | .own p ds => Q (.own p ds) δ
  | .bag => Q .bag δ
  | .bor i p => match δ[i]? with
    | some (.own q ds) => q = p ∧ Q (.own p ds) (δ.set i .none)
    | _ => False
  | _ => False
def tsRet (T : TD) : TDS := fun D δ => T δ fun s δ1 => retD s δ1 D.rt
def tsRetN : TDS := fun D δ => D.rt (.val .none) δ
def tsIf (T : TDT) (U W : TDS) : TDS := fun D δ => T δ fun b δ1 => if b = true then U D δ1 else W D δ1
def tsBrk : TDS := fun D δ => D.bk δ
def tsCnt : TDS := fun D δ => D.ct δ
section
variable {K : PySem.W.Frag} {E : Ent} {σ : L2.St} {H : Hp} {δ : Env} {π : Tmp} {v : V} {s : SV}
theorem retD_ok {Q : SV → Env → Prop} (R : Rep K E σ H δ ((v, s) :: π)) (h : retD s δ Q) : ∃ r δ', Rep K E σ H δ' ((v, r) :: π) ∧ Q r δ' := by
  cases s with
  | val d => exact ⟨_, _, R, h⟩
  | own p ds => exact ⟨_, _, R, h⟩
  | bag => exact ⟨_, _, R, h⟩
  | bor i p =>
    obtain ⟨G, M, R⟩ := R
    have e : v = .ref p := R.top
    subst e
    simp only [retD] at h
    split at h
    · rename_i q ds hq
      obtain ⟨rfl, h⟩ := h
      obtain ⟨w, e2, R2⟩ := R.drop.take hq (fun z => nomatch z)
      have : w = .ref q := (R2.top : RT K E G M H w (.own q ds)).1
      subst this
      exact ⟨_, _, ⟨G, M, R2⟩, h⟩
    · exact h.elim
  | _ => exact h.elim
end
section
variable {X : Cx} {E : Ent} {st : Stmt} {rest : List Stmt} {e : Expr} {es : List Expr} {T : TD} {U W : TDS} {TA : TDT} {pos : Pos}
theorem dss_nil : DSs X E [] tsSkip := PSs.imp pss_nil fun D σ H ⟨δ, π, D', R, t, n, _⟩ => n σ H δ R t
theorem dss_cons (h1 : DS X E st U) (h2 : DSs X E rest W) : DSs X E (st :: rest) (tsSeq U W) := PSs.imp (pss_cons h1 h2) fun D σ H ⟨δ, π, D', R, t, n, r, b, c⟩ =>
  ⟨δ, π, _, R, t, fun σ' H' δ' R' q => ⟨δ', π, D', R', q, n, r, b, c⟩, r, b, c⟩
theorem dss_one (h1 : DS X E st U) : DSs X E [st] U := pss_one h1
theorem ds_pass : DS X E (.Pass pos) tsSkip := PS.imp ps_pass fun D σ H ⟨δ, π, D', R, t, n, _⟩ => n σ H δ R t
theorem ds_brk : DS X E (.Break pos) tsBrk := PS.imp ps_break fun D σ H ⟨δ, π, D', R, t, n, r, b, c⟩ => b σ H δ R t
theorem ds_cnt : DS X E (.Continue pos) tsCnt := PS.imp ps_continue fun D σ H ⟨δ, π, D', R, t, n, r, b, c⟩ => c σ H δ R t
theorem ds_never : DS X E st tsNever := PS.imp ps_never fun D σ H ⟨δ, π, D', R, t, _⟩ => t.elim
theorem dss_never : DSs X E rest tsNever := PSs.imp pss_never fun D σ H ⟨δ, π, D', R, t, _⟩ => t.elim
theorem ds_expr (he : DE X E e T) (hs : swapsWith e none pos.line X.env = pure false := by rfl) : DS X E (.Expr e pos) (tsExpr T) := PS.imp (ps_expr he hs) fun D σ H ⟨δ, π, D', R, t, n, _⟩ =>
  ⟨δ, π, _, R, t, fun v H' s δ' R' q => n σ H' δ' R'.drop q⟩
theorem ds_ret (he : DE X E e T) : DS X E (.Return (some e) pos) (tsRet T) := PS.imp (ps_ret he) fun D σ H ⟨δ, π, D', R, t, n, r, _⟩ =>
  ⟨δ, π, _, R, t, fun v H' s δ' R' q => by
    obtain ⟨u, δ2, R2, q2⟩ := retD_ok R' q
    exact r σ H' v u δ2 R2 q2⟩
theorem ds_retN : DS X E (.Return none pos) tsRetN := PS.imp ps_retN fun D σ H ⟨δ, π, D', R, t, n, r, _⟩ => r σ H .non (.val .none) δ R.non t
theorem ds_if {c : Expr} {a b : List Stmt} (hc : DT X E c TA) (ha : DSs X E a U) (hb : DSs X E b W) : DS X E (.If c a b pos) (tsIf TA U W) := PS.imp (ps_if hc ha hb) fun D σ H ⟨δ, π, D', R, t, n, r, b, c⟩ =>
  ⟨δ, π, _, R, t, fun d H1 δ1 R1 q => by
    cases d with
    | true => exact iteT ⟨δ1, π, D', R1, q, n, r, b, c⟩
    | false => exact iteF ⟨δ1, π, D', R1, q, n, r, b, c⟩⟩
/-! ### targets -/
abbrev TDG := SV → Env → (Env → Prop) → Prop
/-- what is stored: a value in hand goes to a target -/
def lG (K : PySem.W.Frag) (E : Ent) (T : TDG) : TG := fun v σ H Q => ∃ δ π s Q', Rep K E σ H δ ((v, s) :: π) ∧ T s δ Q' ∧ ∀ σ' H' δ', Rep K E σ' H' δ' π → Q' δ' → Q σ' H'
abbrev DG (X : Cx) (E : Ent) (tg : Expr) (T : TDG) : Prop := PG X tg (lG X.K E T)
theorem PG.imp {tg : Expr} {t t' : TG} (h : PG X tg t) (i : ∀ v σ H Q, t' v σ H Q → t v σ H Q) : PG X tg t' := ⟨fun pins s σ H v u Q I r q => h.run pins s σ H v u Q I r (i _ _ _ _ q)⟩
/-- a name: an own list stays its own, what is borrowed is done with -/
def stD (s : SV) (δ : Env) (Q : SV → Env → Prop) : Prop := match s with
  | .val d => Q (.val d) δ
  | .own p ds => Q (.own p ds) δ
  | .bag => Q .bag δ
  | .two t p q ds es => Q (.two t p q ds es) δ
  | .dic p kvs => Q (.dic p kvs) δ
  | .bor i p => ∃ ds, δ[i]? = some (.own p ds) ∧ Q (.val (.list ds)) (δ.set i (.val (.list ds)))
  | .scr ns => Q (.scr ns) δ
  | .none => False
theorem stD_ok {K : PySem.W.Frag} {E : Ent} {σ : L2.St} {H : Hp} {δ : Env} {π : Tmp} {v : V} {s : SV} {Q : SV → Env → Prop} (R : Rep K E σ H δ ((v, s) :: π)) (h : stD s δ Q) : ∃ r δ', δ'.length = δ.length ∧ Rep K E σ H δ' ((v, r) :: π) ∧ Q r δ' := by
  cases s with
  | bor i p =>
    obtain ⟨ds, e, h⟩ := h
    obtain ⟨d, δ', R', q⟩ := asD_ok (Q := fun d δ' => d = .list ds ∧ δ' = δ.set i (.val (.list ds))) R ⟨ds, e, rfl, rfl⟩
    obtain ⟨rfl, rfl⟩ := q
    exact ⟨_, _, by simp, R', h⟩
  | none => exact h.elim
  | _ => exact ⟨_, _, rfl, R, h⟩
/-- slot i is stored -/
def putD (i : Nat) (r : SV) (δ : Env) (Q : Env → Prop) : Prop := match δ[i]? with
  | some _ => Q (δ.set i r)
  | none => False
theorem putD_ok {i : Nat} {r : SV} {δ : Env} {Q : Env → Prop} (h : putD i r δ Q) : i < δ.length ∧ Q (δ.set i r) := by
  unfold putD at h
  split at h
  · rename_i e
    exact ⟨(List.getElem?_eq_some_iff.mp e).1, h⟩
  · exact h.elim
def gdName (i : Nat) : TDG := fun s δ Q => stD s δ fun r δ' => putD i r δ' Q
theorem dg_name {i : Nat} {x : Str} (hN : X.N.Nodup) (hi : X.N[i]? = some x := by rfl) (hx : Loc X.env.scope x := by first | exact Or.inl rfl | exact Or.inr rfl) (hf : X.fn x = true ∨ X.env.scope.names.lookup x = some .local := by first | exact .inl rfl | exact .inr rfl | assumption) : DG X E (.Name x pos) (gdName i) :=
  PG.imp (pg_name hN hi hx hf) fun v σ H Q ⟨δ, π, s, Q', R, t, k⟩ => by
    obtain ⟨r, δ', el, ⟨G, M, R'⟩, q⟩ := stD_ok R t
    obtain ⟨hi, q⟩ := putD_ok q
    exact k _ _ _ ⟨G, M, R'.store hi⟩ q
/-- a, b, .. = a tuple -/
abbrev TDGs := List D → Env → (Env → Prop) → Prop
def lGs (K : PySem.W.Frag) (E : Ent) (T : TDGs) : TGs := fun vs σ H Q => ∃ δ π ds Q', vs.length = ds.length ∧ Rep K E σ H δ (vs.zip (ds.map SV.val) ++ π) ∧ T ds δ Q' ∧ ∀ σ' H' δ', Rep K E σ' H' δ' π → Q' δ' → Q σ' H'
abbrev DGs (X : Cx) (E : Ent) (tgs : List Expr) (T : TDGs) : Prop := PGs X tgs (lGs X.K E T)
theorem PGs.imp {tg : List Expr} {t t' : TGs} (h : PGs X tg t) (i : ∀ v σ H Q, t' v σ H Q → t v σ H Q) : PGs X tg t' := ⟨fun pins s σ H v u Q I r q => h.run pins s σ H v u Q I r (i _ _ _ _ q)⟩
def gdNil : TDGs := fun ds δ Q => ds = [] ∧ Q δ
def gdCons (T : TDG) (U : TDGs) : TDGs := fun ds δ Q => match ds with
  | [] => False
  | d :: r => T (.val d) δ fun δ' => U r δ' Q
theorem dgs_nil : DGs X E [] gdNil := PGs.imp pgs_nil fun vs σ H Q ⟨δ, π, ds, Q', el, R, t, k⟩ => by
  obtain ⟨rfl, t⟩ := t
  have e : vs = [] := by simpa using el
  subst e
  exact ⟨rfl, k σ H δ R t⟩
theorem dgs_cons {g : Expr} {gs : List Expr} {T : TDG} {U : TDGs} (h1 : DG X E g T) (h2 : DGs X E gs U) (hs : (assignEach (g :: gs) X.env).map (·.2) = assign g X.env :: (assignEach gs X.env).map (·.2) := by rfl) : DGs X E (g :: gs) (gdCons T U) :=
  PGs.imp (pgs_cons h1 h2 hs) fun vs σ H Q ⟨δ, π, ds, Q', el, R, t, k⟩ => by
    match vs, ds, el, R, t with
    | v :: vs, d :: ds, el, R, t =>
      exact ⟨v, vs, rfl, δ, _, _, _, R, t, fun σ' H' δ' R' q => ⟨δ', π, ds, Q', by simpa using el, R', q, k⟩⟩
    | [], [], _, _, t => exact t.elim
def gdTup (n : Nat) (T : TDGs) : TDG := fun s δ Q => match s with
  | .val (.tuple ds) => ds.length = n ∧ T ds δ Q
  | _ => False
theorem RepG.spread {K : PySem.W.Frag} {E : Ent} {G M : Addr → Prop} {σ : L2.St} {H : Hp} {δ : Env} {π : Tmp} (R : RepG K E G M σ H δ π) : ∀ {vs : List V} {ds : List D}, EncS K M H vs ds → RepG K E G M σ H δ (vs.zip (ds.map SV.val) ++ π)
  | _, _, .nil => R
  | _, _, .cons h r => (R.spread r).push (s := .val _) h rfl
theorem dg_tup {gs : List Expr} {k : Nat} {U : TDGs} {n : Nat} (hc : X.calm = true) (h : DGs X E gs U) (hn : (assignEach gs X.env).length = n := by rfl) (hst : (assignEach gs X.env).findIdx? (·.1) = none := by rfl) : DG X E (.Tuple gs k pos) (gdTup n U) :=
  PG.imp (pg_tup hc h hn hst) fun v σ H Q ⟨δ, π, s, Q', ⟨G, M, R⟩, t, k⟩ => by
    unfold gdTup at t
    split at t
    · rename_i ds
      have r : Enc X.K M H v (.tuple ds) := R.top
      cases r with
      | tup a1 a2 => exact ⟨_, _, rfl, a1, by rw [a2.length]; exact t.1, δ, π, ds, Q', a2.length, ⟨G, M, R.drop.spread a2⟩, t.2, k⟩
    · exact t.elim
/-! ### assignments -/
def tsAsg (T : TD) (g : TDG) : TDS := fun D δ => T δ fun s δ1 => g s δ1 D.nx
theorem ds_set {i : Nat} {x : Str} {pos' : Pos} (hN : X.N.Nodup) (he : DE X E e T) (hi : X.N[i]? = some x := by rfl) (hx : Loc X.env.scope x := by first | exact Or.inl rfl | exact Or.inr rfl) (hs : swapsWith e (some (.Name x pos')) pos.line X.env = pure false := by rfl)
    (hf : X.fn x = true ∨ X.env.scope.names.lookup x = some .local := by first | exact .inl rfl | exact .inr rfl | assumption) : DS X E (.Assign [.Name x pos'] e pos) (tsAsg T (gdName i)) :=
  PS.imp (ps_set hN hi hx he hs hf) fun D σ H ⟨δ, π, D', R, t, n, r, b, c⟩ => ⟨δ, π, _, R, t, fun v H' s δ' R' q => by
    obtain ⟨w, δ2, el, ⟨G, M, R2⟩, q2⟩ := stD_ok R' q
    obtain ⟨hi, q2⟩ := putD_ok q2
    exact n _ _ _ ⟨G, M, R2.store hi⟩ q2⟩
theorem ds_asg {tg : Expr} {g : TDG} (he : DE X E e T) (hg : DG X E tg g) (hs : swapsWithSole [tg] e pos.line X.env = pure false := by rfl) (hw : swappedStores [tg] e X.env = pure none := by rfl)
    (h1 : (assignEach [tg] X.env).map (·.2) = [assign tg X.env] := by rfl) : DS X E (.Assign [tg] e pos) (tsAsg T g) :=
  PS.imp (ps_asg he hg hs hw h1) fun D σ H ⟨δ, π, D', R, t, n, r, b, c⟩ => ⟨δ, π, _, R, t, fun v H' s δ' R' q => ⟨δ', π, s, D'.nx, R', q, n⟩⟩
/-- a, b = x, y -/
def tsPar (i j : Nat) (Ts : TDA) : TDS := fun D δ => Ts δ (on2 fun s t δ1 => stD s δ1 fun s' δ2 => stD t δ2 fun t' δ3 => putD i s' δ3 fun δ4 => putD j t' δ4 D.nx)
theorem ds_par {i j : Nat} {x y : Str} {a b : Expr} {Ts : TDA} {px py pt : Pos} {kt k2 pt2} (hc : X.calm = true) (hN : X.N.Nodup) (ha : DA X E [a, b] Ts) (hi : X.N[i]? = some x := by rfl) (hj : X.N[j]? = some y := by rfl) (hij : i ≠ j := by decide)
    (hx : X.env.scope.names.lookup x = some .local := by rfl) (hy : X.env.scope.names.lookup y = some .local := by rfl)
    (hw : swappedStores [.Tuple [.Name x px, .Name y py] kt pt] (.Tuple [a, b] k2 pt2) X.env = pure (some [x, y]) := by rfl)
    (hs : swapsWithSole [.Tuple [.Name x px, .Name y py] kt pt] (.Tuple [a, b] k2 pt2) pos.line X.env = pure false := by rfl) :
    DS X E (.Assign [.Tuple [.Name x px, .Name y py] kt pt] (.Tuple [a, b] k2 pt2) pos) (tsPar i j Ts) :=
  PS.imp (ps_par hc hN hi hj hij hx hy ha hw hs) fun D σ H ⟨δ, π, D', R, t, n, r, b, c⟩ => ⟨δ, π, _, R, t, fun vs H' ss δ' el R' q => by
    obtain ⟨s, t, v, w, rfl, rfl, q⟩ := on2_iff q el
    have R1 : Rep X.K E σ H' δ' ((v, s) :: (w, t) :: π) := R'
    obtain ⟨s', δ2, _, R2, q2⟩ := stD_ok R1 q
    obtain ⟨t', δ3, _, R3, q3⟩ := stD_ok (R2.perm (List.Perm.swap _ _ _)) q2
    obtain ⟨l1, q3⟩ := putD_ok q3
    obtain ⟨l2, q3⟩ := putD_ok q3
    refine ⟨v, w, rfl, ?_⟩
    obtain ⟨G, M, R4⟩ := R3.perm (List.Perm.swap _ _ _)
    exact n _ _ _ ⟨G, M, (R4.store l1).store l2⟩ q3⟩
end
end HR
namespace HR
open PySem PySem.Spec L2
open PyProof.Rows hiding St
/-! ### for -/
/-- the turns -/
def forD (g : TDG) (body : TDS) (chk : Env → Prop) : List D → TDS
  | [], D, δ => chk δ ∧ D.nx δ
  | x :: xs, D, δ => chk δ ∧ g (.val x) δ fun δ1 => body { D with nx := fun δ2 => forD g body chk xs D δ2, ct := fun δ2 => forD g body chk xs D δ2, bk := D.nx } δ1
def tsFor (Ti : TDI) (g : TDG) (body : TDS) : TDS := fun D δ => Ti δ fun ds chk δ1 => forD g body chk ds D δ1
section
variable {X : Cx} {E : Ent} {st : Stmt} {rest body : List Stmt} {tg e iter : Expr} {es : List Expr} {T : TD} {U W : TDS} {TA : TDT} {Ti : TDI} {g : TDG} {pos : Pos}
theorem forD_chk {g : TDG} {body : TDS} {chk : Env → Prop} {ds : List D} {D : En} {δ : Env} (h : forD g body chk ds D δ) : chk δ := by
  cases ds with
  | nil => exact h.1
  | cons x xs => exact h.1
theorem ds_for (hp : PassesOwn (model X.prog X.w) X.A X.env X.xe) (hc : X.calm = true) (hi : DI X E tg iter Ti) (hg : DG X E tg g) (hb : DSs X E body U) (hs : ∀ x, foldedSetIterable iter X.env x = pure x := by intro _; rfl) :
    DS X E (.For tg iter body [] pos) (tsFor Ti g U) :=
  PS.imp (ps_for hp hc hi hg hb hs) fun D σ H ⟨δ, π, D', R, t, n, r, b, c⟩ => ⟨δ, π, _, R, t, fun J H1 δ1 π1 chk ds R1 W q => by
    refine ⟨fun i m σ H => m = ds.length - i ∧ i ≤ ds.length ∧ ∃ δ, Rep X.K E σ H δ (π1 ++ π) ∧ forD g U chk (ds.drop i) D' δ, ⟨ds.length, by simp, Nat.zero_le _, δ1, R1, q⟩, ?_⟩
    rintro i m σ H ⟨rfl, hi, δ, R, q⟩
    by_cases hlt : i < ds.length
    · obtain ⟨x, hx⟩ : ∃ x, ds[i]? = some x := ⟨ds[i], by simp [hlt]⟩
      have hd : ds.drop i = x :: ds.drop (i + 1) := by
        rw [List.drop_eq_getElem_cons hlt]
        congr 1
        rw [List.getElem?_eq_getElem hlt] at hx
        exact Option.some.inj hx
      have ck := forD_chk q
      rw [hd] at q
      refine .inr ⟨W.go σ H δ π i hlt R ck, fun σ' H' => ∃ δ', Rep X.K E σ' H' δ' (π1 ++ π) ∧ forD g U chk (ds.drop (i + 1)) D' δ', fun σ' H' ⟨δ', R', q'⟩ => ⟨ds.length - (i + 1), by omega, rfl, hlt, δ', R', q'⟩, fun v H' y => ?_⟩
      obtain ⟨d, e, R2⟩ := W.yld σ H δ π i v H' hlt R ck y
      rw [hx] at e
      cases e
      refine ⟨δ, π1 ++ π, .val x, _, R2, q.2, fun σ' H' δ' R' q' => ⟨δ', π1 ++ π, _, R', q', fun σ2 H2 δ2 R3 q3 => ⟨δ2, R3, q3⟩, fun σ2 H2 w s δ2 R3 q3 => r σ2 H2 w s δ2 ?_ q3, fun σ2 H2 δ2 R3 q3 => n σ2 H2 δ2 R3.sub q3, fun σ2 H2 δ2 R3 q3 => ⟨δ2, R3, q3⟩⟩⟩
      exact R3.underN
    · have e : i = ds.length := by omega
      subst e
      rw [List.drop_length] at q
      exact .inl ⟨W.stop σ H δ π R q.1, n σ H δ R.sub q.2⟩⟩
/-! ### while -/
def tsWhile (T : TDT) (U : TDS) : TDS := fun D δ => ∃ I : Nat → Env → Prop, (∃ m, I m δ) ∧ ∀ m δ, I m δ → T δ fun b δ1 => if b = true then U { D with nx := fun δ2 => ∃ m', m' < m ∧ I m' δ2, ct := fun δ2 => ∃ m', m' < m ∧ I m' δ2, bk := D.nx } δ1 else D.nx δ1
theorem ds_while {c : Expr} (hp : PassesOwn (model X.prog X.w) X.A X.env X.xe) (hc : DT X E c TA) (hb : DSs X E body U) : DS X E (.While c body [] pos) (tsWhile TA U) :=
  PS.imp (ps_while hp hc hb) fun D σ H ⟨δ, π, D', R, ⟨I, ⟨m0, i0⟩, t⟩, n, r, b, c⟩ => by
    refine ⟨fun m σ H => ∃ δ, Rep X.K E σ H δ π ∧ I m δ, ⟨m0, δ, R, i0⟩, ?_⟩
    rintro m σ H ⟨δ, R, i⟩
    refine ⟨δ, π, _, R, t m δ i, fun d H1 δ1 R1 q => ?_⟩
    cases d with
    | true =>
      rw [if_pos rfl] at q ⊢
      exact ⟨fun σ' H' => ∃ δ', Rep X.K E σ' H' δ' π ∧ ∃ m', m' < m ∧ I m' δ', fun σ' H' ⟨δ', R', m', hm, i'⟩ => ⟨m', hm, δ', R', i'⟩, δ1, π, _, R1, q, fun σ' H' δ' R' q' => ⟨δ', R', q'⟩, r, n, fun σ' H' δ' R' q' => ⟨δ', R', q'⟩⟩
    | false =>
      rw [if_neg Bool.false_ne_true] at q ⊢
      exact n σ H1 δ1 R1 q
/-! ### comprehensions -/
def wipeE (δ : Env) : List Nat → Env
  | [] => δ
  | v :: vs => (wipeE δ vs).set v .none
theorem wipeE_len (δ : Env) : ∀ vs : List Nat, (wipeE δ vs).length = δ.length
  | [] => rfl
  | v :: vs => by unfold wipeE; rw [List.length_set, wipeE_len δ vs]
def compD (g : TDG) (tt : TDT) (te : TD) (vs : List Nat) (chk : Env → Prop) : List D → List D → Env → (List D → Env → Prop) → Prop
  | [], acc, δ, Q => chk δ ∧ Q acc δ
  | x :: xs, acc, δ, Q => chk δ ∧ g (.val x) δ fun δ1 => tt δ1 fun b δ2 => if b = true then te δ2 fun s δ3 => asD s δ3 fun d δ4 => compD g tt te vs chk xs (acc ++ [d]) (wipeE δ4 vs) Q else compD g tt te vs chk xs acc (wipeE δ2 vs) Q
theorem compD_chk {g : TDG} {tt : TDT} {te : TD} {vs : List Nat} {chk : Env → Prop} {ds acc : List D} {δ : Env} {Q : List D → Env → Prop} (h : compD g tt te vs chk ds acc δ Q) : chk δ := by
  cases ds with
  | nil => exact h.1
  | cons x xs => exact h.1
def tdComp (Ti : TDI) (g : TDG) (tt : TDT) (te : TD) (vs : List Nat) : TD := fun δ Q => Ti δ fun ds chk δ1 => compD g tt te vs chk ds [] (wipeE δ1 vs) fun acc δ2 => ∀ p, Q (.own p acc) (wipeE δ2 vs)
section
variable {K : PySem.W.Frag} {E : Ent} {G M : Addr → Prop} {σ σ' : L2.St} {H : Hp} {δ : Env} {π : Tmp}
/-- a slot is forgotten on both sides -/
theorem RepG.wipe1 (R : RepG K E G M σ H δ π) (i : Nat) : RepG K E G M (σ.set i none) H (δ.set i .none) π := by
  have F := R.forget i
  refine ⟨F.g0, F.ext, F.good, by simp [R.len], fun j t h n => ?_, F.tmp, F.nd⟩
  obtain ⟨v, e, r⟩ := F.slot j t h n
  refine ⟨v, ?_, r⟩
  rw [List.getElem?_set] at h ⊢
  by_cases q : i = j
  · subst q
    rw [if_pos rfl] at h
    split at h
    · cases h; exact absurd rfl n
    · cases h
  · rw [if_neg q] at h ⊢
    exact e
theorem RepG.wiped (R : RepG K E G M σ H δ π) : ∀ vs : List Nat, RepG K E G M (wipe σ vs) H (wipeE δ vs) π
  | [] => R
  | v :: vs => (R.wiped vs).wipe1 v
theorem wipeE_get {δ : Env} {i : Nat} {s : SV} : ∀ {vs : List Nat}, (wipeE δ vs)[i]? = some s → s ≠ .none → i ∉ vs ∧ δ[i]? = some s
  | [], h, _ => ⟨by simp, h⟩
  | v :: vs, h, n => by
    unfold wipeE at h
    rw [List.getElem?_set] at h
    by_cases q : v = i
    · subst q
      rw [if_pos rfl] at h
      split at h
      · cases h; exact absurd rfl n
      · cases h
    · rw [if_neg q] at h
      obtain ⟨h1, h2⟩ := wipeE_get h n
      exact ⟨by simp only [List.mem_cons, not_or]; exact ⟨fun e => q e.symm, h1⟩, h2⟩
theorem wipe_get {σ : L2.St} {i : Nat} : ∀ {vs : List Nat}, i ∉ vs → (wipe σ vs)[i]? = σ[i]?
  | [], _ => rfl
  | v :: vs, h => by
    simp only [List.mem_cons, not_or] at h
    unfold wipe
    rw [List.getElem?_set_ne (fun e => h.1 e.symm)]
    exact wipe_get h.2
/-- behind the block: the slots as they were, the block's own names forgotten -/
theorem RepG.unwipe {vs : List Nat} (R : RepG K E G M (wipe σ vs) H δ π) : RepG K E G M σ H (wipeE δ vs) π := by
  have F : ∀ vs : List Nat, RepG K E G M (wipe σ vs) H δ π → ∀ us : List Nat, RepG K E G M (wipe σ vs) H (wipeE δ us) π := fun vs R us => by
    induction us with
    | nil => exact R
    | cons u us ih => exact ih.forget u
  have F := F vs R vs
  refine ⟨F.g0, F.ext, F.good, by rw [← F.len, wipe_length], fun j t h n => ?_, F.tmp, F.nd⟩
  obtain ⟨v, e, r⟩ := F.slot j t h n
  obtain ⟨h1, _⟩ := wipeE_get h n
  exact ⟨v, by rw [wipe_get h1] at e; exact e, r⟩
theorem Rep.unwipe {vs : List Nat} (R : Rep K E (wipe σ vs) H δ π) : Rep K E σ H (wipeE δ vs) π := let ⟨G, M, R⟩ := R; ⟨G, M, R.unwipe⟩
theorem Rep.wiped (R : Rep K E σ H δ π) (vs : List Nat) : Rep K E (wipe σ vs) H (wipeE δ vs) π := let ⟨G, M, R⟩ := R; ⟨G, M, R.wiped vs⟩
theorem wipe_wipe {σ : L2.St} : ∀ vs : List Nat, wipe (wipe σ vs) vs = wipe σ vs := fun vs => by
  apply List.ext_getElem?
  intro i
  by_cases h : i ∈ vs
  · have key : ∀ (σ : L2.St) (vs : List Nat), i ∈ vs → i < σ.length → (wipe σ vs)[i]? = some none := fun σ vs => by
      induction vs with
      | nil => intro h; cases h
      | cons v vs ih =>
        intro h hl
        unfold wipe
        by_cases q : v = i
        · subst q
          rw [List.getElem?_set_self (by rw [wipe_length]; exact hl)]
        · rw [List.getElem?_set_ne q]
          exact ih ((List.mem_cons.mp h).resolve_left fun e => q e.symm) hl
    by_cases hl : i < σ.length
    · rw [key _ _ h (by rw [wipe_length]; exact hl), key _ _ h hl]
    · rw [List.getElem?_eq_none (by rw [wipe_length, wipe_length]; omega), List.getElem?_eq_none (by rw [wipe_length]; omega)]
  · rw [wipe_get h]
end
theorem wipe_set {σ : L2.St} {i : Nat} {v : V} {vs : List Nat} (h : i ∈ vs) : wipe (σ.set i (some v)) vs = wipe σ vs := by
  have key : ∀ (vs : List Nat) (σ τ : L2.St), σ.length = τ.length → (∀ j, j ∉ vs → σ[j]? = τ[j]?) → wipe σ vs = wipe τ vs := fun vs σ τ hl hj => by
    apply List.ext_getElem?
    intro j
    by_cases hm : j ∈ vs
    · have k2 : ∀ (σ : L2.St) (vs : List Nat), j ∈ vs → j < σ.length → (wipe σ vs)[j]? = some none := fun σ vs => by
        induction vs with
        | nil => intro h; cases h
        | cons v vs ih =>
          intro h hl
          unfold wipe
          by_cases q : v = j
          · subst q
            rw [List.getElem?_set_self (by rw [wipe_length]; exact hl)]
          · rw [List.getElem?_set_ne q]
            exact ih ((List.mem_cons.mp h).resolve_left fun e => q e.symm) hl
      by_cases hl2 : j < σ.length
      · rw [k2 _ _ hm hl2, k2 _ _ hm (hl ▸ hl2)]
      · rw [List.getElem?_eq_none (by rw [wipe_length]; omega), List.getElem?_eq_none (by rw [wipe_length]; omega)]
    · rw [wipe_get hm, wipe_get hm]
      exact hj j hm
  refine key vs _ _ (by simp) fun j hj => ?_
  rw [List.getElem?_set_ne (by rintro rfl; exact hj h)]
/-- a target of a comprehension: its rule g, what it is over data, the slots that it stores -/
structure TgOk (K : PySem.W.Frag) (E : Ent) (vs : List Nat) (g : TG) (T : TDG) : Prop where
  mono : ∀ (v : V) (σ : L2.St) (H : Hp) (Q Q' : L2.St → Hp → Prop), (∀ σ H, Q σ H → Q' σ H) → g v σ H Q → g v σ H Q'
  snd : ∀ v σ H Q, lG K E T v σ H Q → g v σ H Q
  only : ∀ (v : V) (σ : L2.St) (H : Hp) (Q : L2.St → Hp → Prop), g v σ H Q → g v σ H fun σ2 H2 => wipe σ2 vs = wipe σ vs ∧ Q σ2 H2
structure TgsOk (K : PySem.W.Frag) (E : Ent) (vs : List Nat) (g : TGs) (T : TDGs) : Prop where
  mono : ∀ (v : List V) (σ : L2.St) (H : Hp) (Q Q' : L2.St → Hp → Prop), (∀ σ H, Q σ H → Q' σ H) → g v σ H Q → g v σ H Q'
  snd : ∀ v σ H Q, lGs K E T v σ H Q → g v σ H Q
  only : ∀ (v : List V) (σ : L2.St) (H : Hp) (Q : L2.St → Hp → Prop), g v σ H Q → g v σ H fun σ2 H2 => wipe σ2 vs = wipe σ vs ∧ Q σ2 H2
section
variable {K : PySem.W.Frag} {E : Ent} {vs : List Nat}
theorem tg_name (i : Nat) (h : i ∈ vs := by decide) : TgOk K E vs (L2.gName i) (gdName i) :=
  ⟨fun v σ H Q Q' m q => m _ _ q, fun v σ H Q ⟨δ, π, s, Q', R, t, k⟩ => by
    obtain ⟨r, δ', el, ⟨G, M, R'⟩, q⟩ := stD_ok R t
    obtain ⟨hi, q⟩ := putD_ok q
    exact k _ _ _ ⟨G, M, R'.store hi⟩ q, fun v σ H Q q => ⟨wipe_set h, q⟩⟩
theorem tgs_nil : TgsOk K E vs L2.gNil gdNil :=
  ⟨fun v σ H Q Q' m q => ⟨q.1, m _ _ q.2⟩, fun us σ H Q ⟨δ, π, ds, Q', el, R, t, k⟩ => by
    obtain ⟨rfl, t⟩ := t
    have e : us = [] := by simpa using el
    subst e
    exact ⟨rfl, k σ H δ R t⟩, fun v σ H Q ⟨e, q⟩ => ⟨e, rfl, q⟩⟩
theorem tgs_cons {g : TG} {T : TDG} {gs : TGs} {U : TDGs} (h1 : TgOk K E vs g T) (h2 : TgsOk K E vs gs U) : TgsOk K E vs (L2.gCons g gs) (gdCons T U) :=
  ⟨fun v σ H Q Q' m ⟨w, r, e, q⟩ => ⟨w, r, e, h1.mono _ _ _ _ _ (fun σ1 H1 q1 => h2.mono _ _ _ _ _ m q1) q⟩, fun us σ H Q ⟨δ, π, ds, Q', el, R, t, k⟩ => by
    match us, ds, el, R, t with
    | v :: us, d :: ds, el, R, t =>
      exact ⟨v, us, rfl, h1.snd _ _ _ _ ⟨δ, _, _, _, R, t, fun σ' H' δ' R' q => h2.snd _ _ _ _ ⟨δ', π, ds, Q', by simpa using el, R', q, k⟩⟩⟩
    | [], [], _, _, t => exact t.elim, fun v σ H Q ⟨w, r, e, q⟩ => ⟨w, r, e, h1.mono _ _ _ _ _ (fun σ1 H1 ⟨e1, q1⟩ => h2.mono _ _ _ _ _ (fun σ2 H2 ⟨e2, q2⟩ => ⟨e2.trans e1, q2⟩) (h2.only _ _ _ _ q1)) (h1.only _ _ _ _ q)⟩⟩
theorem tg_tup {gs : TGs} {U : TDGs} {n : Nat} (h : TgsOk K E vs gs U) : TgOk K E vs (L2.gTup K n gs) (gdTup n U) :=
  ⟨fun v σ H Q Q' m ⟨a, xs, e, h1, h2, q⟩ => ⟨a, xs, e, h1, h2, h.mono _ _ _ _ _ m q⟩, fun v σ H Q ⟨δ, π, s, Q', ⟨G, M, R⟩, t, k⟩ => by
    unfold gdTup at t
    split at t
    · rename_i ds
      have r : Enc K M H v (.tuple ds) := R.top
      cases r with
      | tup a1 a2 => exact ⟨_, _, rfl, a1, by rw [a2.length]; exact t.1, h.snd _ _ _ _ ⟨δ, π, ds, Q', a2.length, ⟨G, M, R.drop.spread a2⟩, t.2, k⟩⟩
    · exact t.elim, fun v σ H Q ⟨a, xs, e, h1, h2, q⟩ => ⟨a, xs, e, h1, h2, h.only _ _ _ _ q⟩⟩
end
/-- no test, one test -/
abbrev DTs (X : Cx) (E : Ent) (ifs : List Expr) (T : TDT) : Prop := PTs X ifs (lT X.K E T)
theorem PTs.imp {ifs : List Expr} {t t' : TT} (h : PTs X ifs t) (i : ∀ σ H Q, t' σ H Q → t σ H Q) : PTs X ifs t' := ⟨fun pins s σ H Q I q => h.run pins s σ H Q I (i _ _ _ q)⟩
def tdYes : TDT := fun δ Q => Q true δ
theorem dts_nil : DTs X E [] tdYes := PTs.imp pts_nil fun σ H Q ⟨δ, π, Q', R, t, k⟩ => k true H δ R t
theorem dts_one {c : Expr} (h : DT X E c TA) : DTs X E [c] TA := pts_one h
theorem comp_ok {K : PySem.W.Frag} {E : Ent} {Ti : TDI} {g : TDG} {vs : List Nat} {gH : TG} {tt : TDT} {te : TD} (gk : TgOk K E vs gH g) : ∀ σ H Q, lE K E (tdComp Ti g tt te vs) σ H Q → tLc (lI K E Ti) gH (lT K E tt) (lE K E te) vs σ H Q := fun σ H Q ⟨δ, π, Q', R, t, k⟩ => ⟨δ, π, _, R, t, fun J H1 δ1 π1 chk ds R1 W q D nD => by
  refine ⟨fun i m H => m = ds.length - i ∧ i ≤ ds.length ∧ ∃ δ acc, acc.length ≤ i ∧ Rep K E (wipe σ vs) H δ (π1 ++ ((.ref D, .own D acc) :: π)) ∧ compD g tt te vs chk (ds.drop i) acc δ (fun acc δ2 => ∀ p, Q' (.own p acc) (wipeE δ2 vs)), ⟨ds.length, by simp, Nat.zero_le _, wipeE δ1 vs, [], Nat.le_refl _, ?_, q⟩, ?_⟩
  · obtain ⟨G, M, R1⟩ := R1
    exact ⟨_, _, ((R1.wiped vs).fresh nD .nil).perm List.perm_middle.symm⟩
  rintro i m H ⟨rfl, hi, δ, acc, ha, R, q⟩
  by_cases hlt : i < ds.length
  · obtain ⟨x, hx⟩ : ∃ x, ds[i]? = some x := ⟨ds[i], by simp [hlt]⟩
    have hd : ds.drop i = x :: ds.drop (i + 1) := by
      rw [List.drop_eq_getElem_cons hlt]
      congr 1
      rw [List.getElem?_eq_getElem hlt] at hx
      exact Option.some.inj hx
    have ck := compD_chk q
    rw [hd] at q
    refine .inr ⟨W.go _ H δ _ i hlt R ck, fun H' => ∃ δ' acc', acc'.length ≤ i + 1 ∧ Rep K E (wipe σ vs) H' δ' (π1 ++ ((.ref D, .own D acc') :: π)) ∧ compD g tt te vs chk (ds.drop (i + 1)) acc' δ' (fun acc δ2 => ∀ p, Q' (.own p acc) (wipeE δ2 vs)), fun H' ⟨δ', acc', h1, h2, h3⟩ => ⟨ds.length - (i + 1), by omega, rfl, hlt, δ', acc', h1, h2, h3⟩, fun v H' y => ?_⟩
    obtain ⟨d, e, R2⟩ := W.yld _ H δ _ i v H' hlt R ck y
    rw [hx] at e
    cases e
    refine gk.mono _ _ _ _ _ ?_ (gk.only _ _ _ _ (gk.snd _ _ _ (fun σ2 H2 => ∃ δ', Rep K E σ2 H2 δ' (π1 ++ ((.ref D, .own D acc) :: π)) ∧ tt δ' fun b δ2 => if b = true then te δ2 fun s δ3 => asD s δ3 fun d δ4 => compD g tt te vs chk (ds.drop (i + 1)) (acc ++ [d]) (wipeE δ4 vs) fun acc δ2 => ∀ p, Q' (.own p acc) (wipeE δ2 vs) else compD g tt te vs chk (ds.drop (i + 1)) acc (wipeE δ2 vs) fun acc δ2 => ∀ p, Q' (.own p acc) (wipeE δ2 vs)) ⟨δ, _, .val x, _, R2, q.2, fun σ' H' δ' R' q' => ⟨δ', R', q'⟩⟩))
    rintro σ2 H2 ⟨ew, δ2, R3, q3⟩
    have ew2 : wipe σ2 vs = wipe σ vs := ew.trans (wipe_wipe vs)
    refine ⟨ew2, δ2, _, _, R3, q3, fun b H3 δ3 R4 q4 => ?_⟩
    cases b with
    | true =>
      rw [if_pos rfl] at q4 ⊢
      refine ⟨δ3, _, _, R4, q4, fun w H4 s δ4 R5 q5 => ?_⟩
      obtain ⟨d, δ5, R6, q6⟩ := asD_ok R5 q5
      obtain ⟨G, M, R6⟩ := R6
      have R7 : RepG K E G M σ2 H4 δ5 ((.ref D, .own D acc) :: (w, .val d) :: (π1 ++ π)) := R6.perm (by
        refine (List.Perm.cons _ (List.perm_middle)).trans ?_
        exact List.Perm.swap _ _ _)
      obtain ⟨_, m, vs', h1, h2⟩ := R7.top
      have hw : Enc K M H4 w d := R6.top
      have R8 := R7.writeT (us := vs' ++ [w]) (h2.append (.cons hw .nil))
      refine ⟨vs', h1, ?_, wipeE δ5 vs, acc ++ [d], by simp; omega, ?_, q6⟩
      · rw [h2.length]
        exact Nat.lt_of_lt_of_le (Nat.lt_of_le_of_lt ha hlt) W.len
      · have R9 := R8.wiped vs
        rw [ew2] at R9
        refine ⟨G, M, (R9.perm ?_).drop (v := w) (s := .val d)⟩
        refine (List.Perm.swap _ _ _).trans (List.Perm.cons _ ?_)
        exact List.perm_middle.symm
    | false =>
      rw [if_neg Bool.false_ne_true] at q4 ⊢
      have R9 := R4.wiped vs
      rw [ew2] at R9
      exact ⟨wipeE δ3 vs, acc, by omega, R9, q4⟩
  · have e : i = ds.length := by omega
    subst e
    rw [List.drop_length] at q
    refine .inl ⟨W.stop _ H δ _ R q.1, k _ _ _ _ ?_ (q.2 D)⟩
    exact (R.perm List.perm_middle).underN.unwipe⟩
theorem de_comp {elt : Expr} {ifs : List Expr} {scope : Scope} {own : List (Str × Nat)} {vs : List Nat} {gH : TG} {tt : TDT} {te : TD} (ho : own.map (·.2) = vs) (hc : X.calm = true) (hN : X.N.Nodup) (hi : DI X E tg iter Ti) (ok : BlkOk X.N X.env.scope scope own)
    (gk : TgOk X.K E vs gH g)
    (hg : ∀ (s : Shared) (H : Hp) (C : Addr) (cl : List (Str × Addr)) (fp : List Addr), PG (X.blk s H scope (compEnvC scope cl C X.env) fp) tg gH)
    (ht : ∀ (s : Shared) (H : Hp) (C : Addr) (cl : List (Str × Addr)) (fp : List Addr), DTs (X.blk s H scope (compEnvC scope cl C X.env) fp) E ifs tt)
    (he : ∀ (s : Shared) (H : Hp) (C : Addr) (cl : List (Str × Addr)) (fp : List Addr), DE (X.blk s H scope (compEnvC scope cl C X.env) fp) E elt te) (hs : ∀ x, foldedSetIterable iter X.env x = pure x := by intro _; rfl) :
    DE X E (.ListComp elt [⟨tg, iter, ifs, 0⟩] scope pos) (tdComp Ti g tt te vs) := by
  subst ho
  have ht' : ∀ (s : Shared) (H : Hp) (C : Addr) (cl : List (Str × Addr)) (fp : List Addr), PTs (X.blk s H scope (compEnvC scope cl C X.env) fp) ifs (lT X.K E tt) := ht
  have he' : ∀ (s : Shared) (H : Hp) (C : Addr) (cl : List (Str × Addr)) (fp : List Addr), PE (X.blk s H scope (compEnvC scope cl C X.env) fp) elt (lE X.K E te) := he
  exact PE.imp (pe_lc hc hN hi ok hg ht' he' hs) (comp_ok gk)
end
end HR
namespace HR
open PySem PySem.Spec L2
open PyProof.Rows hiding St
/-! ### own lists changed -/
/-- x.append(e), x an own list in slot i -/
def tdApp (i : Nat) (T : TD) : TD := fun δ Q => (∃ p ds, δ[i]? = some (.own p ds)) ∧ T δ fun s δ1 => asD s δ1 fun d δ2 => ∃ p ds, δ2[i]? = some (.own p ds) ∧ ds.length < 16777216 ∧ Q (.val .none) (δ2.set i (.own p (ds ++ [d])))
/-- x.pop() -/
def tdPop (i : Nat) : TD := fun δ Q => ∃ p ds d, δ[i]? = some (.own p ds) ∧ ds.getLast? = some d ∧ Q (.val d) (δ.set i (.own p ds.dropLast))
/-- x[k] = e, x an own list or a bag in slot i -/
def tsSetIx (i : Nat) (T U : TD) : TDS := fun D δ => T δ fun s δ1 => asD s δ1 fun d δ2 => (∃ s, δ2[i]? = some s ∧ ((∃ p ds, s = .own p ds) ∨ s = .bag)) ∧ U δ2 fun t δ3 => ∃ k, t = .val (.int k) ∧ match δ3[i]? with
  | some (.own p ds) => ∃ j, ixN ds.length k = some j ∧ D.nx (δ3.set i (.own p (ds.set j d)))
  | some .bag => ∃ z, d = .int z ∧ 0 ≤ z ∧ ((k = 0) ∨ (k = 1 ∧ z < 2147483647)) ∧ D.nx δ3
  | _ => False
/-- x += e: ints, an own list -/
def tsAug (i : Nat) (T : TD) : TDS := fun D δ => (∃ s, δ[i]? = some s ∧ s ≠ .none) ∧ T δ fun s δ1 => match δ1[i]? with
  | some (.val (.int a)) => ∃ b, s = .val (.int b) ∧ D.nx (δ1.set i (.val (.int (a + b))))
  | some (.own p ds) => ∃ es, View s δ1 es ∧ ds.length + es.length ≤ 16777216 ∧ D.nx (δ1.set i (.own p (ds ++ es)))
  | _ => False
def tsAugSub (i : Nat) (T : TD) : TDS := fun D δ => (∃ s, δ[i]? = some s ∧ s ≠ .none) ∧ T δ fun s δ1 => match δ1[i]? with
  | some (.val (.int a)) => ∃ b, s = .val (.int b) ∧ D.nx (δ1.set i (.val (.int (a - b))))
  | _ => False
section
variable {K : PySem.W.Frag} {E : Ent} {G M : Addr → Prop} {σ : L2.St} {H : Hp} {δ : Env} {π : Tmp} {v : V} {s : SV}
/-- the value of a slot is told once -/
theorem RepG.slotv (R : RepG K E G M σ H δ π) {i : Nat} (h : δ[i]? = some s) (hn : s ≠ .none) : ∃ v, σ[i]? = some (some v) ∧ RT K E G M H v s := R.slot i s h hn
theorem line_eq : (16777216 : Nat) = sizeLine := by rw [sizeLine_eq]
end
section
variable {X : Cx} {E : Ent} {e k : Expr} {T U : TD} {pos p1 p2 p3 cpos : Pos} {x : Str} {i : Nat}
theorem de_append (he : DE X E e T) (hN : X.N[i]? = some x := by rfl) (hv : Vis X.env.scope x := by first | exact Or.inl rfl | exact Or.inr (Or.inl rfl) | exact Or.inr (Or.inr rfl)) (hd : (x == ("__debug__" : Str)) = false := by decide) (hcd : (x == ("__classdict__" : Str)) = false := by decide)
    (hs : starEach [e] X.env = (false, eval e X.env) :: starEach [] X.env := by rfl)
    (hx : ∀ {t : TE} {ta : TA}, PE X (.Name x p1) t → PA X [e] ta → PE X (.Call (.Attribute (.Name x p1) "append" p2) [e] [] cpos) (tBM X.K "list" rAppend t ta) := by intro t ta h1 h2; exact pe_bm PySem.F.plainAttrs_list PySem.F.slot_list_append PySem.F.type_list_append mt_append h1 h2) :
    DE X E (.Call (.Attribute (.Name x p1) "append" p2) [e] [] cpos) (tdApp i T) :=
  PE.imp (hx (pv i hN hv hd hcd) (pa_cons he pa_nil hs)) fun σ H Q ⟨δ, π, Q', R, ⟨⟨p, ds, h0⟩, t⟩, kk⟩ => by
    have RR := R
    obtain ⟨G, M, R⟩ := R
    obtain ⟨v, e1, rfl, m, vs, h1, h2⟩ := R.slotv h0 (fun z => nomatch z)
    refine ⟨.ref p, e1, .inl ⟨rfl, _, SqL.of h1⟩, δ, π, _, RR, t, fun w H1 s δ1 R1 q => ?_⟩
    obtain ⟨d, δ2, ⟨G2, M2, R2⟩, p', ds', h3, hz, q⟩ := asD_ok R1 q
    obtain ⟨v', e2, rfl, m', us, h4, h5⟩ := R2.slotv h3 (fun z => nomatch z)
    have hw : Enc X.K M2 H1 w d := R2.top
    rw [e1] at e2
    cases e2
    refine ⟨p, us, w, rfl, rfl, h4, by rw [h5.length, ← line_eq]; exact hz, ?_⟩
    exact kk _ _ _ _ (⟨G2, M2, (R2.drop.write h3 (h5.append (.cons hw .nil))).push (s := .val .none) .non rfl⟩) q
theorem de_pop (hN : X.N[i]? = some x := by rfl) (hv : Vis X.env.scope x := by first | exact Or.inl rfl | exact Or.inr (Or.inl rfl) | exact Or.inr (Or.inr rfl)) (hd : (x == ("__debug__" : Str)) = false := by decide) (hcd : (x == ("__classdict__" : Str)) = false := by decide)
    (hx : ∀ {t : TE}, PE X (.Name x p1) t → PE X (.Call (.Attribute (.Name x p1) "pop" p2) [] [] cpos) (tBM0 X.K "list" rPop t) := by intro t h1; exact pe_bm0 PySem.F.plainAttrs_list PySem.F.slot_list_pop PySem.F.type_list_pop mt_pop h1) :
    DE X E (.Call (.Attribute (.Name x p1) "pop" p2) [] [] cpos) (tdPop i) :=
  PE.imp (hx (pv i hN hv hd hcd)) fun σ H Q ⟨δ, π, Q', R, ⟨p, ds, d, h0, hl, t⟩, kk⟩ => by
    have RR := R
    obtain ⟨G, M, R⟩ := R
    obtain ⟨v, e1, rfl, m, vs, h1, h2⟩ := R.slotv h0 (fun z => nomatch z)
    rw [List.getLast?_eq_getElem?] at hl
    obtain ⟨w, h3, h4⟩ := h2.get hl
    refine ⟨.ref p, e1, .inl ⟨rfl, _, SqL.of h1⟩, p, vs, w, rfl, rfl, h1, by rw [h2.length]; exact h3, ?_⟩
    have R2 := R.push (s := .val d) h4 rfl
    have R3 := R2.write h0 h2.dropLast
    exact kk _ _ _ _ ⟨G, M, R3⟩ t
theorem ds_setIx (he : DE X E e T) (hk : DE X E k U) (hN : X.N[i]? = some x := by rfl) (hv : Vis X.env.scope x := by first | exact Or.inl rfl | exact Or.inr (Or.inl rfl) | exact Or.inr (Or.inr rfl)) (hd : (x == ("__debug__" : Str)) = false := by decide) (hcd : (x == ("__classdict__" : Str)) = false := by decide)
    (hs : swapsWithSole [.Subscript (.Name x p1) k p2] e pos.line X.env = pure false := by rfl) (hw : swappedStores [.Subscript (.Name x p1) k p2] e X.env = pure none := by rfl)
    (h1 : (assignEach [.Subscript (.Name x p1) k p2] X.env).map (·.2) = [assign (.Subscript (.Name x p1) k p2) X.env] := by rfl)
    (hx : ∀ {to ti : TE} {t : TSet}, PE X (.Name x p1) to → PE X k ti → PSet X t → PG X (.Subscript (.Name x p1) k p2) (gSub to ti t) := by intro _ _ _ a b c; exact pg_sub a b c) :
    DS X E (.Assign [.Subscript (.Name x p1) k p2] e pos) (tsSetIx i T U) :=
  PS.imp (ps_asg he (hx (pv i hN hv hd hcd) hk set_list) hs hw h1) fun D σ H ⟨δ, π, D', R, t, n, r, b, c⟩ => ⟨δ, π, _, R, t, fun w H1 s δ1 R1 q => by
    obtain ⟨d, δ2, ⟨G2, M2, R2⟩, ⟨⟨s0, g0, g1⟩, q⟩⟩ := asD_ok R1 q
    have n0 : s0 ≠ .none := by
      rcases g1 with ⟨p, ds, rfl⟩ | rfl <;> exact fun z => nomatch z
    obtain ⟨v0, e0, r0⟩ := R2.slotv g0 n0
    refine ⟨v0, e0, δ2, _, _, ⟨G2, M2, R2⟩, q, fun y H2 s2 δ3 R3 q3 => ?_⟩
    obtain ⟨kk, rfl, q3⟩ := q3
    have ek := R3.isInt (π' := π) (v := y) (i := kk) (by simp)
    subst ek
    obtain ⟨G3, M3, R3⟩ := R3
    have hw' : Enc X.K M3 H2 w d := R3.tmp (w, .val d) (by simp)
    split at q3
    · rename_i p ds hp
      obtain ⟨j, hj, q⟩ := q3
      obtain ⟨v1, e1, rfl, m, vs, a1, a2⟩ := R3.slotv hp (fun z => nomatch z)
      rw [e0] at e1
      cases e1
      refine ⟨p, vs, kk, j, rfl, rfl, a1, by rw [a2.length]; exact hj, ?_⟩
      exact n _ _ _ ⟨G3, M3, (R3.write hp (a2.set hw' j)).drop.drop⟩ q
    · rename_i hp
      obtain ⟨z, rfl, hz0, hz1, q⟩ := q3
      cases hw'
      obtain ⟨v1, e1, bb, rfl, gb⟩ := R3.slotv hp (fun z => nomatch z)
      rw [e0] at e1
      cases e1
      obtain ⟨x0, y0, eb, b1, b2, b3⟩ := R3.good.bag bb gb
      rcases hz1 with rfl | ⟨rfl, hz2⟩
      · exact ⟨bb, _, 0, 0, rfl, rfl, eb, rfl, n _ _ _ ⟨G3, M3, (R3.bagW gb hz0 b2 b3).drop.drop⟩ q⟩
      · exact ⟨bb, _, 1, 1, rfl, rfl, eb, rfl, n _ _ _ ⟨G3, M3, (R3.bagW gb b1 hz0 hz2).drop.drop⟩ q⟩
    · exact q3.elim⟩
def ipAdd : TIp := fun x y H Q => (∃ i j, x = .int i ∧ y = .int j ∧ Q (.int (i + j)) H) ∨ rExt2 x y H Q
theorem ip_addA : PIp X .Add ipAdd := by
  intro pins s σ H x y v u Q I r1 r2 h
  rcases h with h | h
  · exact ip_add pins s σ H x y v u Q I r1 r2 h
  · exact iop_ext pins s σ H x y v u Q I r1 r2 h
theorem ds_augAdd (hN : X.N.Nodup) (he : DE X E e T) (hi : X.N[i]? = some x := by rfl) (hx : Loc X.env.scope x := by first | exact Or.inl rfl | exact Or.inr rfl) (hf : X.fn x = true ∨ X.env.scope.names.lookup x = some .local := by first | exact .inl rfl | exact .inr rfl | assumption) :
    DS X E (.AugAssign (.Name x p1) .Add e pos) (tsAug i T) :=
  PS.imp (ps_aug hN hi hx he ip_addA hf) fun D σ H ⟨δ, π, D', R, ⟨⟨s0, g0, g1⟩, t⟩, n, r, b, c⟩ => by
    have RR := R
    obtain ⟨G, M, R⟩ := R
    obtain ⟨v0, e0, r0⟩ := R.slotv g0 g1
    refine ⟨v0, e0, δ, π, _, RR, t, fun w H1 s δ1 R1 q => ?_⟩
    obtain ⟨G1, M1, R1⟩ := R1
    split at q
    · rename_i a ha
      obtain ⟨bb, rfl, q⟩ := q
      obtain ⟨v1, e1, r1⟩ := R1.slotv ha (fun z => nomatch z)
      rw [e0] at e1
      cases e1
      have z1 : Enc X.K M1 H1 v0 (.int a) := r1
      have z2 : Enc X.K M1 H1 w (.int bb) := R1.top
      cases z1
      cases z2
      refine .inl ⟨a, bb, rfl, rfl, ?_⟩
      exact n _ _ _ ⟨G1, M1, (R1.drop.push (s := .val (.int (a + bb))) (.int _) rfl).store (lt_of_get ha)⟩ q
    · rename_i p ds hp
      obtain ⟨es, he, hz, q⟩ := q
      obtain ⟨v1, e1, rfl, m, vs, a1, a2⟩ := R1.slotv hp (fun z => nomatch z)
      rw [e0] at e1
      cases e1
      obtain ⟨bd, us, rfl, b1, b2⟩ := R1.view List.mem_cons_self he
      refine .inr ⟨p, bd, vs, us, rfl, rfl, a1, b1, by rw [a2.length, b2.length, ← line_eq]; exact hz, ?_⟩
      have R2 := (R1.write hp (a2.append b2)).drop
      have hi' := lt_of_get hp
      refine n _ _ _ ⟨G1, M1, ?_⟩ q
      have es : σ.set i (some (.ref p)) = σ := by
        apply List.ext_getElem?
        intro j
        rw [List.getElem?_set]
        split
        · rename_i hj
          subst hj
          rw [if_pos (by rw [R1.len]; exact hi'), e0]
        · rfl
      rw [es]
      exact R2
    · exact q.elim
theorem ds_augSub (hN : X.N.Nodup) (he : DE X E e T) (hi : X.N[i]? = some x := by rfl) (hx : Loc X.env.scope x := by first | exact Or.inl rfl | exact Or.inr rfl) (hf : X.fn x = true ∨ X.env.scope.names.lookup x = some .local := by first | exact .inl rfl | exact .inr rfl | assumption) :
    DS X E (.AugAssign (.Name x p1) .Sub e pos) (tsAugSub i T) :=
  PS.imp (ps_aug hN hi hx he ip_sub hf) fun D σ H ⟨δ, π, D', R, ⟨⟨s0, g0, g1⟩, t⟩, n, r, b, c⟩ => by
    have RR := R
    obtain ⟨G, M, R⟩ := R
    obtain ⟨v0, e0, r0⟩ := R.slotv g0 g1
    refine ⟨v0, e0, δ, π, _, RR, t, fun w H1 s δ1 R1 q => ?_⟩
    obtain ⟨G1, M1, R1⟩ := R1
    split at q
    · rename_i a ha
      obtain ⟨bb, rfl, q⟩ := q
      obtain ⟨v1, e1, r1⟩ := R1.slotv ha (fun z => nomatch z)
      rw [e0] at e1
      cases e1
      have z1 : Enc X.K M1 H1 v0 (.int a) := r1
      have z2 : Enc X.K M1 H1 w (.int bb) := R1.top
      cases z1
      cases z2
      refine ⟨a, bb, rfl, rfl, ?_⟩
      exact n _ _ _ ⟨G1, M1, (R1.drop.push (s := .val (.int (a - bb))) (.int _) rfl).store (lt_of_get ha)⟩ q
    · exact q.elim
end
end HR
namespace HR
open PySem PySem.Spec L2
open PyProof.Rows hiding St
section
variable {X : Cx} {E : Ent} {e tg iter : Expr} {T : TD} {Ti : TDI} {g : TDG} {pos : Pos}
/-- return of a list of two numbers: from now on a bag -/
def tsRetBag (T : TD) : TDS := fun D δ => T δ fun s δ1 => ∃ p x y, s = .own p [.int x, .int y] ∧ 0 ≤ x ∧ 0 ≤ y ∧ y < 2147483647 ∧ D.rt .bag δ1
theorem ds_retBag (he : DE X E e T) : DS X E (.Return (some e) pos) (tsRetBag T) := PS.imp (ps_ret he) fun D σ H ⟨δ, π, D', R, t, n, r, _⟩ =>
  ⟨δ, π, _, R, t, fun v H' s δ' ⟨G, M, R'⟩ ⟨p, x, y, e, h1, h2, h3, q⟩ => by
    subst e
    exact r σ H' v .bag δ' ⟨_, _, R'.bagT h1 h2 h3⟩ q⟩
/-- y = [..] on one line -/
theorem ds_setLc {i : Nat} {y : Str} {py : Pos} {elt : Expr} {ifs : List Expr} {scope : Scope} {own : List (Str × Nat)} {spos : Pos} {vs : List Nat} {gH : TG} {tt : TDT} {te : TD} (ho : own.map (·.2) = vs) (hc : X.calm = true) (hN : X.N.Nodup) (hy : X.N[i]? = some y) (hyl : X.env.scope.names.lookup y = some .local)
    (hsw : swapsWith (.ListComp elt [⟨tg, iter, ifs, 0⟩] scope pos) (some (.Name y py)) spos.line X.env = pure true) (hi : DI X E tg iter Ti) (ok : BlkOk X.N X.env.scope scope own) (gk : TgOk X.K E vs gH g)
    (hg : ∀ (s : Shared) (H : Hp) (C : Addr) (cl : List (Str × Addr)) (fp : List Addr), PG (X.blk s H scope (compEnvC scope cl C X.env) fp) tg gH)
    (ht : ∀ (s : Shared) (H : Hp) (C : Addr) (cl : List (Str × Addr)) (fp : List Addr), DTs (X.blk s H scope (compEnvC scope cl C X.env) fp) E ifs tt)
    (he : ∀ (s : Shared) (H : Hp) (C : Addr) (cl : List (Str × Addr)) (fp : List Addr), DE (X.blk s H scope (compEnvC scope cl C X.env) fp) E elt te) (hs : ∀ x, foldedSetIterable iter X.env x = pure x := by intro _; rfl) :
    DS X E (.Assign [.Name y py] (.ListComp elt [⟨tg, iter, ifs, 0⟩] scope pos) spos) (tsAsg (tdComp Ti g tt te vs) (gdName i)) := by
  subst ho
  have ht' : ∀ (s : Shared) (H : Hp) (C : Addr) (cl : List (Str × Addr)) (fp : List Addr), PTs (X.blk s H scope (compEnvC scope cl C X.env) fp) ifs (lT X.K E tt) := ht
  have he' : ∀ (s : Shared) (H : Hp) (C : Addr) (cl : List (Str × Addr)) (fp : List Addr), PE (X.blk s H scope (compEnvC scope cl C X.env) fp) elt (lE X.K E te) := he
  refine PS.imp (ps_setLc (i := i) hc hN hy hyl hsw hi ok hg ht' he' hs) fun D σ H ⟨δ, π, D', R, t, n, r, b, c⟩ => ?_
  exact comp_ok gk _ _ _ ⟨δ, π, _, R, t, fun v H' s δ' R' q => by
    obtain ⟨w, δ2, el, ⟨G, M, R2⟩, q2⟩ := stD_ok R' q
    obtain ⟨hi, q2⟩ := putD_ok q2
    exact n _ _ _ ⟨G, M, R2.store hi⟩ q2⟩
end
/-! ### calls of defs -/
/-- an argument: data, a bag, the script -/
def asA (s : SV) (δ : Env) (Q : SV → Env → Prop) : Prop := match s with
  | .bag => Q .bag δ
  | .scr ns => Q (.scr ns) δ
  | s => asD s δ fun d δ' => Q (.val d) δ'
def asAs : List SV → Env → (List SV → Env → Prop) → Prop
  | [], δ, Q => Q [] δ
  | s :: ss, δ, Q => asA s δ fun d δ1 => asAs ss δ1 fun ds δ2 => Q (d :: ds) δ2
def argOk : SV → Bool
  | .val _ => true
  | .bag => true
  | .scr _ => true
  | _ => false
section
variable {K : PySem.W.Frag} {E : Ent} {σ : L2.St} {H : Hp} {δ : Env} {π : Tmp} {v : V} {s : SV} {G M : Addr → Prop}
theorem asA_ok {Q : SV → Env → Prop} (R : Rep K E σ H δ ((v, s) :: π)) (h : asA s δ Q) : ∃ r δ', argOk r = true ∧ Rep K E σ H δ' ((v, r) :: π) ∧ Q r δ' := by
  cases s with
  | bag => exact ⟨_, _, rfl, R, h⟩
  | scr ns => exact ⟨_, _, rfl, R, h⟩
  | _ =>
    obtain ⟨d, δ', R', q⟩ := asD_ok (Q := fun d δ' => Q (.val d) δ') R h
    exact ⟨_, _, rfl, R', q⟩
theorem asAs_ok : ∀ {vs : List V} {ss : List SV} {δ : Env} {π : Tmp} {Q : List SV → Env → Prop}, vs.length = ss.length → Rep K E σ H δ (vs.zip ss ++ π) → asAs ss δ Q → ∃ rs δ', vs.length = rs.length ∧ rs.all argOk = true ∧ Rep K E σ H δ' (vs.zip rs ++ π) ∧ Q rs δ'
  | [], [], δ, π, Q, _, R, h => ⟨[], δ, rfl, rfl, R, h⟩
  | [], _ :: _, _, _, _, e, _, _ => by simp at e
  | _ :: _, [], _, _, _, e, _, _ => by simp at e
  | v :: vs, s :: ss, δ, π, Q, e, R, h => by
    obtain ⟨d, δ1, a1, R1, h1⟩ := asA_ok (π := vs.zip ss ++ π) R h
    have R2 := R1.perm (show ((v, d) :: (vs.zip ss ++ π)).Perm (vs.zip ss ++ ((v, d) :: π)) from List.perm_middle.symm)
    obtain ⟨ds, δ2, e2, a2, R3, h2⟩ := asAs_ok (by simpa using e) R2 h1
    exact ⟨d :: ds, δ2, by simp [e2], by simp [a1, a2], R3.perm List.perm_middle, h2⟩
theorem argOk_owned (h : argOk s = true) : owned s = [] := by cases s <;> first | rfl | cases h
theorem argOk_RT {E' : Ent} (h : argOk s = true) (r : RT K E G M H v s) : RT K E' G M H v s := by
  cases s <;> first | exact r | cases h
theorem zip_owned : ∀ {vs : List V} {ss : List SV}, ss.all argOk = true → (vs.zip ss).flatMap (fun x => owned x.2) = []
  | [], _, _ => rfl
  | _ :: _, [], _ => rfl
  | v :: vs, s :: ss, h => by
    simp only [List.all_cons, Bool.and_eq_true] at h
    rw [List.zip_cons_cons, List.flatMap_cons]
    show owned s ++ _ = []
    rw [argOk_owned h.1, zip_owned h.2]
    rfl
end
/-- what a def promises over data: from the arguments, the wish about the result, the wish about exceptions by their classes' names -/
abbrev Con := List SV → (SV → Prop) → (Str → Prop) → Prop
def resOk : SV → Bool
  | .val _ => true
  | .own _ _ => true
  | .bag => true
  | _ => false
def spD (K : PySem.W.Frag) (mg : Str → Option Value) (Γ : Con) : Sp := fun vs H Q X => ∃ (G M : Addr → Prop) (ss : List SV) (Q' : SV → Prop) (X' : Str → Prop), Good G M H ∧ vs.length = ss.length ∧ ss.all argOk = true ∧ (∀ x ∈ vs.zip ss, RT K ⟨G, M, H⟩ G M H x.1 x.2) ∧ Γ ss Q' X' ∧
  (∀ r, Q' r → resOk r = true → ∀ G' M' H' v, Ext G M H G' M' H' → Good G' M' H' → RT K ⟨G, M, H⟩ G' M' H' v r → Q v H') ∧
  (∀ c, X' c → ∀ G' M' H' C, Ext G M H G' M' H' → Good G' M' H' → mg c = some (.ref C) → X (.ref C) none H')
/-- a def of the text that keeps a promise -/
structure FnD (P : Program) (w : World) (K : PySem.W.Frag) (mg : Str → Option Value) (base : Heap) (k : Nat) (x : Str) (Γ : Con) : Prop where
  ex : ∃ (f : Addr) (fd : FuncData) (ps : List Str), FnOk P w K mg base (L2.CX P w) k f fd ps (spD K mg Γ) ∧ mg x = some (.ref f) ∧ PySem.W.keepIn K (.ref f) = true ∧ Binds K fd ps []
/-- what may leave the code: by class and the slots' data -/
structure XOk (X : Cx) (E : Ent) (Ex : Str → Env → Prop) : Prop where
  tk : ∃ W, Takes X W ∧ ∀ c C δ σ H, X.mg c = some (.ref C) → Rep X.K E σ H δ [] → Ex c δ → W (.ref C) none σ H
def tdCall (Γ : Con) (Ex : Str → Env → Prop) (Ts : TDA) : TD := fun δ Q => Ts δ fun ss δ1 => asAs ss δ1 fun rs δ2 => Γ rs (fun r => (match r with | .own _ ds => ∀ p, Q (.own p ds) δ2 | r => Q r δ2)) (fun c => Ex c δ2)
section
variable {X : Cx} {E : Ent} {e : Expr} {es : List Expr} {Ts : TDA} {pos p : Pos} {x : Str} {k : Nat} {Γ : Con} {Ex : Str → Env → Prop}
theorem call_ok {K : PySem.W.Frag} {mg : Str → Option Value} {W : WX} (hW : ∀ c C δ σ H, mg c = some (.ref C) → Rep K E σ H δ [] → Ex c δ → W (.ref C) none σ H) :
    ∀ σ H Q, lE K E (tdCall Γ Ex Ts) σ H Q → tCallS (spD K mg Γ) (WE W) (lA K E Ts) σ H Q := fun σ H Q ⟨δ, π, Q', R, t, kk⟩ =>
  ⟨δ, π, _, R, t, fun vs H1 ss δ1 el R1 q => by
    obtain ⟨rs, δ2, e2, ok, ⟨G, M, R2⟩, q2⟩ := asAs_ok el R1 q
    refine ⟨G, M, rs, _, _, R2.good, e2, ok, fun y hy => ?_, q2, fun r hr ro G' M' H' v X1 g1 rt => ?_, fun c hc G' M' H' C X1 g1 hm => ?_⟩
    · have a : argOk y.2 = true := List.all_eq_true.mp ok _ (List.of_mem_zip hy).2
      exact argOk_RT a (R2.tmp y (List.mem_append_left _ hy))
    · have R3 := (R2.sub).ext_to X1 g1
      cases r with
      | val d => exact kk _ _ _ _ ⟨_, _, R3.push (s := .val d) rt rfl⟩ hr
      | bag => exact kk _ _ _ _ ⟨_, _, R3.push (s := .bag) rt rfl⟩ hr
      | own a ds =>
        obtain ⟨rfl, ⟨m1, m2, m3⟩, l⟩ := rt
        refine kk _ _ (.own a ds) _ ⟨G', M', ?_⟩ (hr a)
        refine ⟨R3.g0, R3.ext, R3.good, R3.len, R3.slot, fun y hy => ?_, ?_⟩
        · rcases List.mem_cons.mp hy with rfl | hy
          · exact ⟨rfl, ⟨m1, m2, R2.ext.back R2.good m3⟩, l⟩
          · exact R3.tmp y hy
        · rw [List.flatMap_cons]
          refine nd_push (c := []) R3.nd fun z => ?_
          obtain ⟨_, mu⟩ := (R2.sub).mine z
          have m3' : H1 a = none := m3
          rw [m3'] at mu
          exact mu
      | _ => cases ro
    · have R3 := (R2.sub).ext_to X1 g1
      exact hW c C δ2 σ H' hm ⟨G', M', RepG.sub (π' := π) (π := []) (by simpa using R3)⟩ hc⟩
theorem de_call (F : FnD X.prog X.w X.K X.mg X.base k x Γ) (hr : Room k X.A) (xo : XOk X E Ex) (ha : DA X E (e :: es) Ts) (hg : Gl X x := by rfl) (hdb : (x == ("__debug__" : Str)) = false := by decide) (he : starEach (e :: es) X.env = (false, eval e X.env) :: starEach es X.env := by rfl)
    (hpl : (backTo pos (starEach es X.env)).any (·.1) = false := by rfl) : DE X E (.Call (.Name x p) (e :: es) [] pos) (tdCall Γ Ex Ts) := by
  obtain ⟨f, fd, ps, F, hm, hk, hb⟩ := F.ex
  obtain ⟨W, tk, hW⟩ := xo.tk
  exact PE.imp (pe_callS F hr hg hm hk hb (fun σ => passAt tk σ) ha hdb he hpl) (call_ok hW)
/-! ### raise -/
def tsRaise (c : Str) (Ex : Str → Env → Prop) : TDS := fun _ δ => Ex c δ
/-- an own exception class of the text -/
structure ClsX (K : PySem.W.Frag) (mg : Str → Option Value) (c : Str) : Prop where
  ex : ∃ C, mg c = some (.ref C) ∧ PySem.W.excIn K C [.type "ValueError", .type "Exception", .type "BaseException", .type "object"] "ValueError.__new__" = true ∧ PySem.W.keepIn K (.ref C) = true ∧
    PySem.W.subIn K (.ref C) (.type "BaseException") = some true ∧ PySem.W.typeIn K (.ref C) = some (.type "type")
theorem ds_raise {m : Str} {j : Nat} {p2 p3 : Pos} (cx : ClsX X.K X.mg x) (hc : X.calm = true) (xo : XOk X E Ex) (hg : Gl X x := by rfl) (hdb : (x == ("__debug__" : Str)) = false := by decide) : DS X E (.Raise (some (.Call (.Name x p) [.Constant (.str m) j p2] [] p3)) none pos) (tsRaise x Ex) := by
  obtain ⟨C, gP, xP, kP, bP, tP⟩ := cx.ex
  obtain ⟨W, tk, hW⟩ := xo.tk
  refine PS.imp (ps_raise hc tk (pmk_own PySem.F.excBase_ValueError xP gP kP (raises_own bP tP) hg hdb)) fun D σ H ⟨δ, π, D', R, t, _⟩ => ?_
  exact hW x C δ σ H gP (Rep.sub (π' := π) (π := []) (by simpa using R)) t
end
/-! ### a def -/
/-- a def of the text, known by its name -/
structure TxtFn (K : PySem.W.Frag) (mg : Str → Option Value) (x : Str) (st : Stmt) : Prop where
  ex : ∃ f fd, Fun K x x st f fd ∧ mg x = some (.ref f)
/-- the def's slots at its entry -/
def startD (n : Nat) (ss : List SV) : Env := ss ++ List.replicate (n - ss.length) .none
theorem start_get {N : List Str} {vs : List V} {i : Nat} {v : V} (h : vs[i]? = some v) : (L2.start N vs)[i]? = some (some v) := by
  unfold L2.start
  rw [List.getElem?_append_left (by simpa using (List.getElem?_eq_some_iff.mp h).1), List.getElem?_map, h]
  rfl
theorem start_rep {K : PySem.W.Frag} {G M : Addr → Prop} {H : Hp} {N : List Str} {vs : List V} {ss : List SV} (g : Good G M H) (el : vs.length = ss.length) (hl : vs.length ≤ N.length) (ok : ss.all argOk = true) (h : ∀ x ∈ vs.zip ss, RT K ⟨G, M, H⟩ G M H x.1 x.2) :
    RepG K ⟨G, M, H⟩ G M (L2.start N vs) H (startD N.length ss) [] := by
  refine ⟨g, .refl, g, ?_, fun i s hs hn => ?_, fun _ hx => absurd hx (by simp), ?_⟩
  · unfold L2.start startD
    simp [el]
  · unfold startD at hs
    by_cases hi : i < ss.length
    · rw [List.getElem?_append_left hi] at hs
      have hv : i < vs.length := by omega
      refine ⟨vs[i], start_get (by simp [hv]), h (vs[i], s) ?_⟩
      refine List.mem_of_getElem? (i := i) ?_
      rw [List.getElem?_zip_eq_some]
      exact ⟨by simp [hv], hs⟩
    · rw [List.getElem?_append_right (by omega), List.getElem?_replicate] at hs
      split at hs
      · cases hs; exact absurd rfl hn
      · cases hs
  · have e : (startD N.length ss).flatMap owned = [] := by
      unfold startD
      rw [List.flatMap_append]
      have e1 : ∀ ss : List SV, ss.all argOk = true → ss.flatMap owned = [] := fun ss => by
        induction ss with
        | nil => intro _; rfl
        | cons s ss ih =>
          intro h
          simp only [List.all_cons, Bool.and_eq_true] at h
          rw [List.flatMap_cons, argOk_owned h.1, ih h.2]
          rfl
      have e2 : ∀ n : Nat, (List.replicate n SV.none).flatMap owned = [] := fun n => by
        induction n with
        | zero => rfl
        | succ n ih => rw [List.replicate_succ, List.flatMap_cons, ih]; rfl
      rw [e1 ss ok, e2]
      rfl
    rw [e]
    simp
section
variable {P : Program} {w : World} {K : PySem.W.Frag} {mg : Str → Option Value} {base : Heap}
theorem fnX_ok {x : Str} {st : Stmt} {N ps : List Str} {k : Nat} {Γ : Con} {f : Addr} {fd : FuncData} (F : Fun K x x st f fd) (S : FnScope N ps (defScope st))
    (len : ∀ ss Q X', Γ ss Q X' → ss.length = ps.length)
    (hbody : ∀ (f : Addr) (cdv : Value) (A : Around) (outer : List PySem.Env) (s : Shared) (H : Hp) (Y : XK) (E : Ent) (ss : List SV) (Q' : SV → Prop) (X' : Str → Prop), Room k (A.deeper (envOfC x (defScope st) s.heap.objs.size f cdv)) →
      XOk (cxOf (L2.CX P w) P w K mg base N x (defScope st) f cdv A outer s H Y) E (fun c _ => X' c) → PassesOwn (model P w) (A.deeper (envOfC x (defScope st) s.heap.objs.size f cdv)) (envOfC x (defScope st) s.heap.objs.size f cdv) (cxOf (L2.CX P w) P w K mg base N x (defScope st) f cdv A outer s H Y).xe →
      Γ ss Q' X' → ∃ T : TDS, DSs (cxOf (L2.CX P w) P w K mg base N x (defScope st) f cdv A outer s H Y) E (defBody st) T ∧ T { nx := fun _ => Q' (.val .none), rt := fun r _ => resOk r = true ∧ Q' r } (startD N.length ss)) : FnOk P w K mg base (L2.CX P w) (k + 1) f fd ps (spD K mg Γ) := by
  refine F.okX S (fun vs H Q Y ⟨G, M, ss, Q', X', g, el, ok, hr, hΓ, _⟩ => el.trans (len ss Q' X' hΓ)) (fun cdv A outer s H vs Q Y hr h => ?_)
  obtain ⟨G, M, ss, Q', X', g, el, ok, hrt, hΓ, hQ, hX⟩ := h
  have hpl : ps.length ≤ N.length := by
    have e := congrArg List.length S.pre
    rw [List.length_take] at e
    omega
  obtain ⟨T, d, t⟩ := hbody f cdv A outer s H Y ⟨G, M, H⟩ ss Q' X' hr ⟨_, takes_of rfl rfl rfl rfl, fun c C δ σ H' hc ⟨G', M', R⟩ hx => hX c hx G' M' H' C R.ext R.good hc⟩ (passes_of rfl) hΓ
  refine ⟨_, d, ?_⟩
  refine ⟨_, [], _, ⟨G, M, start_rep g el (by rw [el, len ss Q' X' hΓ]; exact hpl) ok hrt⟩, t, fun σ' H' δ' ⟨G', M', R⟩ q => ?_, fun σ' H' v r δ' ⟨G', M', R⟩ q => ?_, fun _ _ _ _ q => q, fun _ _ _ _ q => q⟩
  · exact hQ _ q rfl G' M' H' .non R.ext R.good .non
  · exact hQ _ q.2 q.1 G' M' H' v R.ext R.good R.top
theorem fnD_ok {x : Str} {st : Stmt} {N ps : List Str} {k : Nat} {Γ : Con} (F : TxtFn K mg x st) (S : FnScope N ps (defScope st))
    (hb : ∀ (kV doc pm : Value) (an : Option Addr) (cdv ct : Value) (us : List Value), us.length = ps.length → bindArgs (PySem.W.fnOf x x (defArgs st) (defBody st) (defScope st) .none kV doc pm an cdv ct) ⟨us, []⟩ = pure (ps.zip us))
    (len : ∀ ss Q X', Γ ss Q X' → ss.length = ps.length)
    (hbody : ∀ (f : Addr) (cdv : Value) (A : Around) (outer : List PySem.Env) (s : Shared) (H : Hp) (Y : XK) (E : Ent) (ss : List SV) (Q' : SV → Prop) (X' : Str → Prop), Room k (A.deeper (envOfC x (defScope st) s.heap.objs.size f cdv)) →
      XOk (cxOf (L2.CX P w) P w K mg base N x (defScope st) f cdv A outer s H Y) E (fun c _ => X' c) → PassesOwn (model P w) (A.deeper (envOfC x (defScope st) s.heap.objs.size f cdv)) (envOfC x (defScope st) s.heap.objs.size f cdv) (cxOf (L2.CX P w) P w K mg base N x (defScope st) f cdv A outer s H Y).xe →
      Γ ss Q' X' → ∃ T : TDS, DSs (cxOf (L2.CX P w) P w K mg base N x (defScope st) f cdv A outer s H Y) E (defBody st) T ∧ T { nx := fun _ => Q' (.val .none), rt := fun r _ => resOk r = true ∧ Q' r } (startD N.length ss)) : FnD P w K mg base (k + 1) x Γ := by
  obtain ⟨f, fd, F, hm⟩ := F.ex
  exact ⟨f, fd, ps, fnX_ok F S len hbody, hm, F.kp, F.binds hb⟩
/-! ### the law -/
def spL (K : PySem.W.Frag) : Sp := fun vs H Q _ => ∃ (a : Addr) (ns : List Int), vs = [.ref a] ∧ SqL K H a (ns.map V.int) ∧ Only H ∧ ns.length ≤ 63 ∧ ∀ H', Q (.bl true) H'
theorem law_fn {Γ : Con} {k : Nat} {f : Addr} {fd : FuncData} {ps : List Str} (F : FnOk P w K mg base (L2.CX P w) k f fd ps (spD K mg Γ)) (h : ∀ ns Q X, ns.length ≤ 63 → Q (.val (.bool true)) → Γ [.scr ns] Q X) : FnOk P w K mg base (L2.CX P w) k f fd ps (spL K) :=
  F.imp fun vs H Q E ⟨a, ns, e, hS, hO, hl, q⟩ => by
    subst e
    refine ⟨fun _ => False, fun _ => False, [.scr ns], fun r => r = .val (.bool true), fun _ => False, ⟨fun a z => z.elim, fun a z => z.elim, fun a z => z.elim⟩, rfl, rfl, fun y hy => ?_, h ns _ _ hl rfl, fun r hr _ G' M' H' v _ _ rt => ?_, fun c hc => hc.elim⟩
    · have : y = (.ref a, .scr ns) := by simpa using hy
      subst this
      refine ⟨a, rfl, ?_⟩
      rcases hS with (hS | hS) | hS
      · exact .inl ⟨hS, fun z => z⟩
      · exact .inr (.inl hS)
      · exact .inr (.inr hS)
    · subst hr
      have rt : Enc K M' H' v (.bool true) := rt
      cases rt
      exact q H'
end
end HR
namespace HR
open PySem PySem.Spec L2
open PyProof.Rows hiding St
theorem xo_blk {X : Cx} {E : Ent} {s : Shared} {H : Hp} {scope : Scope} {cenv : PySem.Env} {fp : List Addr} : XOk (X.blk s H scope cenv fp) E (fun _ _ => False) := ⟨_, takes0, fun _ _ _ _ _ _ _ h => h⟩
/-! ### built-in calls by values -/
abbrev RCD := List SV → Env → VD → Prop
def SndC (K : PySem.W.Frag) (E : Ent) (r : List V → Hp → VK → Prop) (R : RCD) : Prop := ∀ (σ : L2.St) (H : Hp) (vs : List V) (ss : List SV) (δ : Env) (π : Tmp) (Q : VK) (Q' : VD), vs.length = ss.length → Rep K E σ H δ (vs.zip ss ++ π) → R ss δ Q' →
  (∀ v H' u δ', Rep K E σ H' δ' ((v, u) :: π) → Q' u δ' → Q v H') → r vs H Q
def tdCB (R : RCD) (Ts : TDA) : TD := fun δ Q => Ts δ fun ss δ1 => R ss δ1 Q
theorem cb_ok {K : PySem.W.Frag} {E : Ent} {r : List V → Hp → VK → Prop} {R : RCD} {Ts : TDA} (h : SndC K E r R) : ∀ σ H Q, lE K E (tdCB R Ts) σ H Q → tCB r (lA K E Ts) σ H Q := fun σ H Q ⟨δ, π, Q', R1, t, k⟩ =>
  ⟨δ, π, _, R1, t, fun vs H1 ss δ1 el R2 q => h σ H1 vs ss δ1 π Q Q' el R2 q k⟩
section
variable {X : Cx} {E : Ent} {e : Expr} {es : List Expr} {Ts : TDA} {pos p : Pos} {x : Str} {id T : String} {r : List V → Hp → VK → Prop} {R : RCD}
theorem de_callB (hc : CallR X (.builtin id) r) (h : SndC X.K E r R) (hv : bootBuiltins x = some (.builtin id)) (hm : X.mg x = none) (ha : DA X E (e :: es) Ts) (hg : Gl X x := by rfl) (hn : x ≠ "__name__" := by decide) (hdb : (x == ("__debug__" : Str)) = false := by decide)
    (he : starEach (e :: es) X.env = (false, eval e X.env) :: starEach es X.env := by rfl) (hpl : (backTo pos (starEach es X.env)).any (·.1) = false := by rfl) : DE X E (.Call (.Name x p) (e :: es) [] pos) (tdCB R Ts) :=
  PE.imp (pe_callB hc hg hm hv ha hn hdb he hpl) (cb_ok h)
theorem de_callTy (hc : CallR X (.type T) r) (h : SndC X.K E r R) (hv : bootBuiltins x = some (.type T)) (hm : X.mg x = none) (ha : DA X E (e :: es) Ts) (hg : Gl X x := by rfl) (hn : x ≠ "__name__" := by decide) (hdb : (x == ("__debug__" : Str)) = false := by decide)
    (he : starEach (e :: es) X.env = (false, eval e X.env) :: starEach es X.env := by rfl) (hpl : (backTo pos (starEach es X.env)).any (·.1) = false := by rfl) : DE X E (.Call (.Name x p) (e :: es) [] pos) (tdCB R Ts) :=
  PE.imp (pe_callTy hc hg hm hv ha hn hdb he hpl) (cb_ok h)
end
section
variable {K : PySem.W.Frag} {E : Ent}
theorem snd1 {r : List V → Hp → VK → Prop} {R : SV → Env → VD → Prop} (h : ∀ (σ : L2.St) (H : Hp) (v : V) (s : SV) (δ : Env) (π : Tmp) (Q : VK) (Q' : VD), Rep K E σ H δ ((v, s) :: π) → R s δ Q' → (∀ v H' u δ', Rep K E σ H' δ' ((v, u) :: π) → Q' u δ' → Q v H') → r [v] H Q) : SndC K E r (fun ss δ Q => on1 (fun s δ => R s δ Q) ss δ) := by
  intro σ H vs ss δ π Q Q' el R1 q k
  obtain ⟨s, v, rfl, rfl, q⟩ := on1_iff q el
  exact h σ H v s δ π Q Q' R1 q k
theorem snd2 {r : List V → Hp → VK → Prop} {R : SV → SV → Env → VD → Prop} (h : ∀ (σ : L2.St) (H : Hp) (v w : V) (s t : SV) (δ : Env) (π : Tmp) (Q : VK) (Q' : VD), Rep K E σ H δ ((v, s) :: (w, t) :: π) → R s t δ Q' → (∀ v H' u δ', Rep K E σ H' δ' ((v, u) :: π) → Q' u δ' → Q v H') → r [v, w] H Q) : SndC K E r (fun ss δ Q => on2 (fun s t δ => R s t δ Q) ss δ) := by
  intro σ H vs ss δ π Q Q' el R1 q k
  obtain ⟨s, t, v, w, rfl, rfl, q⟩ := on2_iff q el
  exact h σ H v w s t δ π Q Q' R1 q k
/-- len -/
def lenD (s : SV) (δ : Env) (Q : VD) : Prop := match s with
  | .val (.tuple ds) => Q (.val (.int ds.length)) δ
  | .scr ns => Q (.val (.int ns.length)) δ
  | s => ∃ ds, View s δ ds ∧ Q (.val (.int ds.length)) δ
theorem snd_len : SndC K E (fun xs H Q => ∃ p ys, xs = [.ref p] ∧ (SqL K H p ys ∨ SqT K H p ys) ∧ Q (.int ys.length) H) (fun ss δ Q => on1 (fun s δ => lenD s δ Q) ss δ) := snd1 fun σ H v s δ π Q Q' R q k => by
  have RR := R.drop
  obtain ⟨G, M, R⟩ := R
  unfold lenD at q
  split at q
  · rename_i ds
    have z : Enc K M H v (.tuple ds) := R.top
    cases z with
    | tup a1 a2 => exact ⟨_, _, rfl, .inr a1, by rw [a2.length]; exact k _ _ _ _ (RR.int _) q⟩
  · rename_i ns
    obtain ⟨a, rfl, hs⟩ : ∃ a, v = .ref a ∧ SqS K M H a (ns.map V.int) := R.top
    exact ⟨a, _, rfl, .inl hs.sq, by rw [List.length_map]; exact k _ _ _ _ (RR.int _) q⟩
  · obtain ⟨ds, e, q⟩ := q
    obtain ⟨a, vs, rfl, a1, a2⟩ := R.view List.mem_cons_self e
    exact ⟨a, vs, rfl, .inl (SqL.of a1), by rw [a2.length]; exact k _ _ _ _ (RR.int _) q⟩
/-- min, max of two, abs -/
def int2D (g : Int → Int → Int) (s t : SV) (δ : Env) (Q : VD) : Prop := match s, t with
  | .val (.int i), .val (.int j) => Q (.val (.int (g i j))) δ
  | _, _ => False
theorem snd_int2 {g : Int → Int → Int} : SndC K E (fun xs H Q => ∃ i j, xs = [.int i, .int j] ∧ Q (.int (g i j)) H) (fun ss δ Q => on2 (fun s t δ => int2D g s t δ Q) ss δ) := snd2 fun σ H v w s t δ π Q Q' R q k => by
  unfold int2D at q
  split at q
  · rename_i i j
    have e1 := R.isInt (π' := π) (v := v) (i := i) (by simp)
    have e2 := R.isInt (π' := π) (v := w) (i := j) (by simp)
    subst e1 e2
    exact ⟨i, j, rfl, k _ _ _ _ (R.drop.drop.int _) q⟩
  · exact q.elim
def absD (s : SV) (δ : Env) (Q : VD) : Prop := match s with
  | .val (.int i) => Q (.val (.int (if i < 0 then -i else i))) δ
  | _ => False
theorem snd_abs : SndC K E (fun xs H Q => ∃ i, xs = [.int i] ∧ Q (.int (if i < 0 then -i else i)) H) (fun ss δ Q => on1 (fun s δ => absD s δ Q) ss δ) := snd1 fun σ H v s δ π Q Q' R q k => by
  unfold absD at q
  split at q
  · rename_i i
    have e1 := R.isInt (π' := π) (v := v) (i := i) (by simp)
    subst e1
    exact ⟨i, rfl, k _ _ _ _ (R.drop.int _) q⟩
  · exact q.elim
/-- sum, all, any, max, min of a list -/
def sumD (s : SV) (δ : Env) (Q : VD) : Prop := ∃ ns : List Int, View s δ (ns.map .int) ∧ Q (.val (.int ns.sum)) δ
def allD (s : SV) (δ : Env) (Q : VD) : Prop := ∃ bs : List Bool, View s δ (bs.map .bool) ∧ Q (.val (.bool (bs.all id))) δ
def anyD (s : SV) (δ : Env) (Q : VD) : Prop := ∃ bs : List Bool, View s δ (bs.map .bool) ∧ Q (.val (.bool (bs.any id))) δ
def maxD (s : SV) (δ : Env) (Q : VD) : Prop := ∃ ns : List Int, View s δ (ns.map .int) ∧ 0 < ns.length ∧ ∀ m, m ∈ ns → (∀ y, y ∈ ns → y ≤ m) → Q (.val (.int m)) δ
def minD (s : SV) (δ : Env) (Q : VD) : Prop := ∃ ns : List Int, View s δ (ns.map .int) ∧ 0 < ns.length ∧ ∀ m, m ∈ ns → (∀ y, y ∈ ns → m ≤ y) → Q (.val (.int m)) δ
theorem snd_sum : SndC K E (rSum K) (fun ss δ Q => on1 (fun s δ => sumD s δ Q) ss δ) := snd1 fun σ H v s δ π Q Q' R ⟨ns, e, q⟩ k => by
  have RR := R.drop
  obtain ⟨G, M, R⟩ := R
  obtain ⟨a, vs, rfl, a1, a2⟩ := R.view List.mem_cons_self e
  exact ⟨a, ns, rfl, SqL.of (a2.ints ▸ a1), k _ _ _ _ (RR.int _) q⟩
theorem snd_all : SndC K E (rAll K) (fun ss δ Q => on1 (fun s δ => allD s δ Q) ss δ) := snd1 fun σ H v s δ π Q Q' R ⟨ns, e, q⟩ k => by
  have RR := R.drop
  obtain ⟨G, M, R⟩ := R
  obtain ⟨a, vs, rfl, a1, a2⟩ := R.view List.mem_cons_self e
  exact ⟨a, ns, rfl, SqL.of (a2.bls ▸ a1), k _ _ _ _ (RR.bl _) q⟩
theorem snd_any : SndC K E (rAny K) (fun ss δ Q => on1 (fun s δ => anyD s δ Q) ss δ) := snd1 fun σ H v s δ π Q Q' R ⟨ns, e, q⟩ k => by
  have RR := R.drop
  obtain ⟨G, M, R⟩ := R
  obtain ⟨a, vs, rfl, a1, a2⟩ := R.view List.mem_cons_self e
  exact ⟨a, ns, rfl, SqL.of (a2.bls ▸ a1), k _ _ _ _ (RR.bl _) q⟩
theorem snd_max : SndC K E (rMax K) (fun ss δ Q => on1 (fun s δ => maxD s δ Q) ss δ) := snd1 fun σ H v s δ π Q Q' R ⟨ns, e, hl, q⟩ k => by
  have RR := R.drop
  obtain ⟨G, M, R⟩ := R
  obtain ⟨a, vs, rfl, a1, a2⟩ := R.view List.mem_cons_self e
  exact ⟨a, ns, rfl, SqL.of (a2.ints ▸ a1), hl, fun m h1 h2 => k _ _ _ _ (RR.int _) (q m h1 h2)⟩
theorem snd_min : SndC K E (rMin K) (fun ss δ Q => on1 (fun s δ => minD s δ Q) ss δ) := snd1 fun σ H v s δ π Q Q' R ⟨ns, e, hl, q⟩ k => by
  have RR := R.drop
  obtain ⟨G, M, R⟩ := R
  obtain ⟨a, vs, rfl, a1, a2⟩ := R.view List.mem_cons_self e
  exact ⟨a, ns, rfl, SqL.of (a2.ints ▸ a1), hl, fun m h1 h2 => k _ _ _ _ (RR.int _) (q m h1 h2)⟩
/-- tuple(..), list(..) of a list or a tuple -/
def tupleD (s : SV) (δ : Env) (Q : VD) : Prop := ∃ ds, SeqR s δ ds ∧ Q (.val (.tuple ds)) δ
def listD (s : SV) (δ : Env) (Q : VD) : Prop := ∃ ds, SeqR s δ ds ∧ ∀ p, Q (.own p ds) δ
theorem snd_tuple : SndC K E (fun xs H Q => ∃ p ys, xs = [.ref p] ∧ ((SqL K H p ys ∧ ∀ l, H l = none → Q (.ref l) (upd H l (.tup ys))) ∨ (SqT K H p ys ∧ Q (.ref p) H))) (fun ss δ Q => on1 (fun s δ => tupleD s δ Q) ss δ) := snd1 fun σ H v s δ π Q Q' R ⟨ds, e, q⟩ k => by
  obtain ⟨G, M, R⟩ := R
  obtain ⟨a, vs, rfl, a2, z⟩ := R.seq List.mem_cons_self e
  refine ⟨a, vs, rfl, ?_⟩
  rcases z with ⟨z, _⟩ | ⟨z, rfl⟩
  · exact .inl ⟨z, fun l n => k _ _ _ _ ⟨_, _, R.drop.newTup n a2⟩ q⟩
  · exact .inr ⟨z, k _ _ _ _ ⟨_, _, R⟩ q⟩
theorem snd_list : SndC K E (fun xs H Q => ∃ p ys, xs = [.ref p] ∧ (SqL K H p ys ∨ SqT K H p ys) ∧ ∀ l, H l = none → Q (.ref l) (upd H l (.lst ys))) (fun ss δ Q => on1 (fun s δ => listD s δ Q) ss δ) := snd1 fun σ H v s δ π Q Q' R ⟨ds, e, q⟩ k => by
  obtain ⟨G, M, R⟩ := R
  obtain ⟨a, vs, rfl, a2, z⟩ := R.seq List.mem_cons_self e
  refine ⟨a, vs, rfl, ?_, fun l n => k _ _ _ _ ⟨_, _, R.drop.fresh n a2⟩ (q l)⟩
  rcases z with ⟨z, _⟩ | ⟨z, rfl⟩
  · exact .inl z
  · exact .inr z
/-- sorted of ints -/
def insI (x : Int) : List Int → List Int
  | [] => [x]
  | y :: ys => if x ≤ y then x :: y :: ys else y :: insI x ys
def sortI : List Int → List Int
  | [] => []
  | x :: xs => insI x (sortI xs)
theorem insI_perm (x : Int) : ∀ ys, (insI x ys).Perm (x :: ys)
  | [] => .refl _
  | y :: ys => by
    unfold insI
    split
    · exact .refl _
    · exact ((insI_perm x ys).cons y).trans (.swap _ _ _)
theorem sortI_perm : ∀ xs, (sortI xs).Perm xs
  | [] => .refl _
  | x :: xs => (insI_perm x (sortI xs)).trans ((sortI_perm xs).cons x)
theorem insI_sorted (x : Int) : ∀ ys : List Int, ys.Pairwise (· ≤ ·) → (insI x ys).Pairwise (· ≤ ·)
  | [], _ => by simp [insI]
  | y :: ys, h => by
    unfold insI
    obtain ⟨h1, h2⟩ := List.pairwise_cons.mp h
    split
    · rename_i hxy
      refine List.pairwise_cons.mpr ⟨fun z hz => ?_, h⟩
      rcases List.mem_cons.mp hz with rfl | hz
      · exact hxy
      · exact Int.le_trans hxy (h1 z hz)
    · rename_i hxy
      refine List.pairwise_cons.mpr ⟨fun z hz => ?_, insI_sorted x ys h2⟩
      rcases List.mem_cons.mp ((insI_perm x ys).mem_iff.mp hz) with rfl | hz
      · omega
      · exact h1 z hz
theorem sortI_sorted : ∀ xs, (sortI xs).Pairwise (· ≤ ·)
  | [] => .nil
  | x :: xs => insI_sorted x _ (sortI_sorted xs)
theorem sorted_unique {xs ys : List Int} (h : xs.Perm ys) (hx : xs.Pairwise (· ≤ ·)) (hy : ys.Pairwise (· ≤ ·)) : xs = ys :=
  h.eq_of_pairwise (fun a b _ _ h1 h2 => Int.le_antisymm h1 h2) hx hy
def sortedD (s : SV) (δ : Env) (Q : VD) : Prop := ∃ ns : List Int, View s δ (ns.map .int) ∧ ∀ p, Q (.own p ((sortI ns).map .int)) δ
theorem snd_sorted : SndC K E (rSortedI K) (fun ss δ Q => on1 (fun s δ => sortedD s δ Q) ss δ) := snd1 fun σ H v s δ π Q Q' R ⟨ns, e, q⟩ k => by
  obtain ⟨G, M, R⟩ := R
  obtain ⟨a, vs, rfl, a1, a2⟩ := R.view List.mem_cons_self e
  refine ⟨a, ns, rfl, SqL.of (a2.ints ▸ a1), fun ns' p h1 h2 n => ?_⟩
  have e' : ns' = sortI ns := sorted_unique (h1.trans (sortI_perm ns).symm) h2 (sortI_sorted ns)
  subst e'
  exact k _ _ _ _ ⟨_, _, R.drop.fresh n (EncS.of_ints _)⟩ (q p)
end
/-! ### isinstance with a built-in class -/
/-- the kinds of data, and isinstance with a class -/
inductive Ty where
  | none | bool | int | str | tuple | list
def Ty.name : Ty → String
  | .none => "NoneType"
  | .bool => "bool"
  | .int => "int"
  | .str => "str"
  | .tuple => "tuple"
  | .list => "list"
def isTy : Ty → Ty → Bool
  | .none, .none => true
  | .bool, .bool => true
  | .bool, .int => true
  | .int, .int => true
  | .str, .str => true
  | .tuple, .tuple => true
  | .list, .list => true
  | _, _ => false
def tyD (s : SV) (δ : Env) (Q : Ty → Prop) : Prop := match s with
  | .val .none => Q .none
  | .val (.bool _) => Q .bool
  | .val (.int _) => Q .int
  | .val (.str _) => Q .str
  | .val (.tuple _) => Q .tuple
  | s => ∃ ds, View s δ ds ∧ Q .list
def tdIsi (T : TD) (n : Ty) : TD := fun δ Q => T δ fun s δ1 => tyD s δ1 fun t => Q (.val (.bool (isTy t n))) δ1
theorem kit_all {K : PySem.W.Frag} (t n : Ty) (hn : n ≠ .none) : PySem.W.kitOne K (.type t.name) (.type n.name) = some (isTy t n) := by
  cases n with
  | none => exact absurd rfl hn
  | _ => cases t <;> exact kit_ty (by decide +kernel)
theorem ty_ok {K : PySem.W.Frag} {E : Ent} {G M : Addr → Prop} {σ : L2.St} {H1 : Hp} {δ1 : Env} {π : Tmp} {v : V} {s : SV} {Q : Ty → Prop} (R1 : RepG K E G M σ H1 δ1 ((v, s) :: π)) (ht : tyD s δ1 Q) : ∃ ty, TyX K H1 v (.type ty.name) ∧ Q ty := by
  have lists : (∃ ds, View s δ1 ds ∧ Q .list) → ∃ ty, TyX K H1 v (.type ty.name) ∧ Q ty := fun ⟨ds, z, q⟩ => by
    obtain ⟨a, vs, rfl, a1, a2⟩ := R1.view List.mem_cons_self z
    exact ⟨_, .base (.lst a1), q⟩
  unfold tyD at ht
  split at ht
  · have z : Enc K M H1 v .none := R1.top
    cases z
    exact ⟨.none, .base .non, ht⟩
  · rename_i b
    have z : Enc K M H1 v (.bool b) := R1.top
    cases z
    exact ⟨.bool, .base (.bl _), ht⟩
  · rename_i b
    have z : Enc K M H1 v (.int b) := R1.top
    cases z
    exact ⟨.int, .base (.int _), ht⟩
  · rename_i b
    have z : Enc K M H1 v (.str b) := R1.top
    cases z
    exact ⟨.str, .base (.str _), ht⟩
  · rename_i b
    have z : Enc K M H1 v (.tuple b) := R1.top
    cases z with
    | tup a1 a2 =>
      rcases a1 with (a1 | ⟨o, a1⟩) | ⟨o, its, nn, h1, h2, _⟩
      · exact ⟨.tuple, .base (.tup a1), ht⟩
      · exact ⟨.tuple, .fTuple a1, ht⟩
      · exact ⟨.tuple, .kTuple h1 h2, ht⟩
  · exact lists ht
section
variable {X : Cx} {E : Ent} {e : Expr} {T : TD} {pos p p2 : Pos} {x : Str} {n : Ty}
theorem de_isi {x : Str} (hn : n ≠ .none) (hv : bootBuiltins x = some (.type n.name)) (hm : X.mg x = none) (hm0 : X.mg "isinstance" = none) (ha : DE X E e T) (hg : Gl X x := by rfl) (hg0 : Gl X "isinstance" := by rfl) (hn2 : x ≠ "__name__" := by decide) (hdb : (x == ("__debug__" : Str)) = false := by decide)
    (he1 : starEach [.Name x p2] X.env = (false, eval (.Name x p2) X.env) :: starEach [] X.env := by rfl)
    (he : starEach [e, .Name x p2] X.env = (false, eval e X.env) :: starEach [.Name x p2] X.env := by rfl) (hpl : (backTo pos (starEach [.Name x p2] X.env)).any (·.1) = false := by rfl) :
    DE X E (.Call (.Name "isinstance" p) [e, .Name x p2] [] pos) (tdIsi T n) :=
  PE.imp (pe_callB call_isi hg0 hm0 PyProof.Rows.boot_isinstance (pa_cons ha (pa_cons (pe_bltn (v := .ty n.name) hg hm hv rfl hn2 hdb) pa_nil he1) he) (he := he) (hpl := hpl)) fun σ H Q ⟨δ, π, Q', R, t, k⟩ =>
    ⟨δ, π, _, R, t, fun v H1 s δ1 R1 ht => by
      have RR := R1.drop
      obtain ⟨G, M, R1⟩ := R1
      obtain ⟨ty, h1, q⟩ := ty_ok R1 ht
      exact ⟨v, .ty n.name, _, _, _, rfl, .ty n.name, h1, kit_all ty n hn, k _ _ _ _ (RR.bl _) q⟩⟩
end
section
variable {X : Cx} {E : Ent} {e : Expr} {es : List Expr} {Ts : TDA} {pos p : Pos}
theorem de_len (hm : X.mg "len" = none) (ha : DA X E [e] Ts) (hg : Gl X "len" := by rfl) (he : starEach [e] X.env = (false, eval e X.env) :: starEach [] X.env := by rfl) :
    DE X E (.Call (.Name "len" p) [e] [] pos) (tdCB (fun ss δ Q => on1 (fun s δ => lenD s δ Q) ss δ) Ts) := de_callB call_len_seq snd_len PySem.boot_len hm ha hg (he := he) (hpl := rfl)
theorem de_min2 {f : Expr} (hc : X.calm = true) (hm : X.mg "min" = none) (ha : DA X E [e, f] Ts) (hg : Gl X "min" := by rfl) (he : starEach [e, f] X.env = (false, eval e X.env) :: starEach [f] X.env := by rfl) (hpl : (backTo pos (starEach [f] X.env)).any (·.1) = false := by rfl) :
    DE X E (.Call (.Name "min" p) [e, f] [] pos) (tdCB (fun ss δ Q => on2 (fun s t δ => int2D (fun i j => if j < i then j else i) s t δ Q) ss δ) Ts) := de_callB (call_min2 hc) snd_int2 PyProof.Rows.boot_min hm ha hg (he := he) (hpl := hpl)
theorem de_max2 {f : Expr} (hc : X.calm = true) (hm : X.mg "max" = none) (ha : DA X E [e, f] Ts) (hg : Gl X "max" := by rfl) (he : starEach [e, f] X.env = (false, eval e X.env) :: starEach [f] X.env := by rfl) (hpl : (backTo pos (starEach [f] X.env)).any (·.1) = false := by rfl) :
    DE X E (.Call (.Name "max" p) [e, f] [] pos) (tdCB (fun ss δ Q => on2 (fun s t δ => int2D (fun i j => if j > i then j else i) s t δ Q) ss δ) Ts) := de_callB (call_max2 hc) snd_int2 (by decide +kernel) hm ha hg (he := he) (hpl := hpl)
theorem de_abs (hm : X.mg "abs" = none) (ha : DA X E [e] Ts) (hg : Gl X "abs" := by rfl) (he : starEach [e] X.env = (false, eval e X.env) :: starEach [] X.env := by rfl) :
    DE X E (.Call (.Name "abs" p) [e] [] pos) (tdCB (fun ss δ Q => on1 (fun s δ => absD s δ Q) ss δ) Ts) := de_callB call_abs snd_abs (by decide +kernel) hm ha hg (he := he) (hpl := rfl)
theorem de_sum (hc : X.calm = true) (hm : X.mg "sum" = none) (ha : DA X E [e] Ts) (hg : Gl X "sum" := by rfl) (he : starEach [e] X.env = (false, eval e X.env) :: starEach [] X.env := by rfl) :
    DE X E (.Call (.Name "sum" p) [e] [] pos) (tdCB (fun ss δ Q => on1 (fun s δ => sumD s δ Q) ss δ) Ts) := de_callB (cr_sum hc) snd_sum (by decide +kernel) hm ha hg (he := he) (hpl := rfl)
theorem de_all (hc : X.calm = true) (hm : X.mg "all" = none) (ha : DA X E [e] Ts) (hg : Gl X "all" := by rfl) (he : starEach [e] X.env = (false, eval e X.env) :: starEach [] X.env := by rfl) :
    DE X E (.Call (.Name "all" p) [e] [] pos) (tdCB (fun ss δ Q => on1 (fun s δ => allD s δ Q) ss δ) Ts) := de_callB (cr_all hc) snd_all PyProof.Rows.boot_all hm ha hg (he := he) (hpl := rfl)
theorem de_any (hc : X.calm = true) (hm : X.mg "any" = none) (ha : DA X E [e] Ts) (hg : Gl X "any" := by rfl) (he : starEach [e] X.env = (false, eval e X.env) :: starEach [] X.env := by rfl) :
    DE X E (.Call (.Name "any" p) [e] [] pos) (tdCB (fun ss δ Q => on1 (fun s δ => anyD s δ Q) ss δ) Ts) := de_callB (cr_any hc) snd_any PyProof.Rows.boot_any hm ha hg (he := he) (hpl := rfl)
theorem de_max (hc : X.calm = true) (hm : X.mg "max" = none) (ha : DA X E [e] Ts) (hg : Gl X "max" := by rfl) (he : starEach [e] X.env = (false, eval e X.env) :: starEach [] X.env := by rfl) :
    DE X E (.Call (.Name "max" p) [e] [] pos) (tdCB (fun ss δ Q => on1 (fun s δ => maxD s δ Q) ss δ) Ts) := de_callB (cr_max hc) snd_max (by decide +kernel) hm ha hg (he := he) (hpl := rfl)
theorem de_min (hc : X.calm = true) (hm : X.mg "min" = none) (ha : DA X E [e] Ts) (hg : Gl X "min" := by rfl) (he : starEach [e] X.env = (false, eval e X.env) :: starEach [] X.env := by rfl) :
    DE X E (.Call (.Name "min" p) [e] [] pos) (tdCB (fun ss δ Q => on1 (fun s δ => minD s δ Q) ss δ) Ts) := de_callB (cr_min hc) snd_min PyProof.Rows.boot_min hm ha hg (he := he) (hpl := rfl)
theorem de_tuple (hm : X.mg "tuple" = none) (ha : DA X E [e] Ts) (hg : Gl X "tuple" := by rfl) (he : starEach [e] X.env = (false, eval e X.env) :: starEach [] X.env := by rfl) :
    DE X E (.Call (.Name "tuple" p) [e] [] pos) (tdCB (fun ss δ Q => on1 (fun s δ => tupleD s δ Q) ss δ) Ts) := de_callTy call_tuple_of snd_tuple (by decide +kernel) hm ha hg (he := he) (hpl := rfl)
theorem de_list (hm : X.mg "list" = none) (ha : DA X E [e] Ts) (hg : Gl X "list" := by rfl) (he : starEach [e] X.env = (false, eval e X.env) :: starEach [] X.env := by rfl) :
    DE X E (.Call (.Name "list" p) [e] [] pos) (tdCB (fun ss δ Q => on1 (fun s δ => listD s δ Q) ss δ) Ts) := de_callTy call_list_of snd_list (by decide +kernel) hm ha hg (he := he) (hpl := rfl)
theorem de_sorted (hm : X.mg "sorted" = none) (ha : DA X E [e] Ts) (hc : CallR X (.builtin "sorted") (rSortedI X.K) := by exact cr_sortedI) (hg : Gl X "sorted" := by rfl) (he : starEach [e] X.env = (false, eval e X.env) :: starEach [] X.env := by rfl) :
    DE X E (.Call (.Name "sorted" p) [e] [] pos) (tdCB (fun ss δ Q => on1 (fun s δ => sortedD s δ Q) ss δ) Ts) := de_callB hc snd_sorted (by decide +kernel) hm ha hg (he := he) (hpl := rfl)
end
end HR
namespace HR
open PySem PySem.Spec L2
open PyProof.Rows hiding St
/-! ### constants of the module -/
structure CstD (K : PySem.W.Frag) (mg : Str → Option Value) (x : Str) (d : D) : Prop where
  ex : ∃ u v, mg x = some u ∧ RelV v u ∧ ∀ M H, Enc K M H v d
theorem de_const {X : Cx} {E : Ent} {x : Str} {pos : Pos} {d : D} (c : CstD X.K X.mg x d) (hg : Gl X x := by rfl) (hd : (x == ("__debug__" : Str)) = false := by decide) : DE X E (.Name x pos) (tdC d) :=
  let ⟨_, _, h1, h2, h3⟩ := c.ex; de_glob h1 h2 h3 hg hd
theorem cst_int {K : PySem.W.Frag} {mg : Str → Option Value} {x : Str} {i : Int} {t : Tok} (h : mg x = some (.int i t)) : CstD K mg x (.int i) := ⟨_, .int i, h, ⟨t, rfl⟩, fun _ _ => .int i⟩
/-! ### no dict within data -/
mutual
def noDict : D → Bool
  | .dict _ => false
  | .list xs => noDicts xs
  | .tuple xs => noDicts xs
  | _ => true
def noDicts : List D → Bool
  | [] => true
  | x :: xs => noDict x && noDicts xs
end
theorem noDicts_mem : ∀ {xs : List D} {x : D}, noDicts xs = true → x ∈ xs → noDict x = true
  | y :: ys, x, h, m => by
    unfold noDicts at h
    rw [Bool.and_eq_true] at h
    rcases List.mem_cons.mp m with rfl | m
    · exact h.1
    · exact noDicts_mem h.2 m
mutual
theorem Enc.noDict {K : PySem.W.Frag} {M : Addr → Prop} {H : Hp} : ∀ {v : V} {d : D}, Enc K M H v d → HR.noDict d = true
  | _, _, .non => rfl
  | _, _, .bl _ => rfl
  | _, _, .int _ => rfl
  | _, _, .str _ => rfl
  | _, _, .lst _ _ r => EncS.noDicts r
  | _, _, .tup _ r => EncS.noDicts r
theorem EncS.noDicts {K : PySem.W.Frag} {M : Addr → Prop} {H : Hp} : ∀ {v : List V} {d : List D}, EncS K M H v d → HR.noDicts d = true
  | _, _, .nil => rfl
  | _, _, .cons h r => by
    show (HR.noDict _ && HR.noDicts _) = true
    rw [Enc.noDict h, EncS.noDicts r]
    rfl
end
/-! ### loops and comprehensions over typed lists -/
theorem compD_typed {α : Type} {g : TDG} {tt : TDT} {te : TD} {vs : List Nat} {chk : Env → Prop} {δ : Env} {Q : List D → Env → Prop} (enc : α → D) (p : α → Bool) (f : α → D) (hc : chk δ) : ∀ (xs : List α) (acc : List D),
    (∀ x ∈ xs, ∀ (K : List D → Env → Prop) (acc : List D), (if p x = true then K (acc ++ [f x]) δ else K acc δ) → (g (.val (enc x)) δ fun δ1 => tt δ1 fun b δ2 => if b = true then te δ2 fun s δ3 => asD s δ3 fun d δ4 => K (acc ++ [d]) (wipeE δ4 vs) else K acc (wipeE δ2 vs))) →
    Q (acc ++ (xs.filter p).map f) δ → compD g tt te vs chk (xs.map enc) acc δ Q
  | [], acc, _, q => ⟨hc, by simpa using q⟩
  | x :: xs, acc, h, q => by
    refine ⟨hc, h x List.mem_cons_self (fun acc δ => compD g tt te vs chk (xs.map enc) acc δ Q) acc ?_⟩
    by_cases hp : p x = true
    · rw [if_pos hp]
      refine compD_typed enc p f hc xs _ (fun y hy => h y (List.mem_cons_of_mem _ hy)) ?_
      rw [List.filter_cons, if_pos hp] at q
      simpa using q
    · rw [if_neg hp]
      refine compD_typed enc p f hc xs _ (fun y hy => h y (List.mem_cons_of_mem _ hy)) ?_
      rw [List.filter_cons, if_neg hp] at q
      exact q
theorem compD_map {α : Type} {g : TDG} {tt : TDT} {te : TD} {vs : List Nat} {chk : Env → Prop} {δ : Env} {Q : List D → Env → Prop} (enc : α → D) (f : α → D) (xs : List α) (hc : chk δ)
    (h : ∀ x ∈ xs, ∀ (K : List D → Env → Prop) (acc : List D), K (acc ++ [f x]) δ → (g (.val (enc x)) δ fun δ1 => tt δ1 fun b δ2 => if b = true then te δ2 fun s δ3 => asD s δ3 fun d δ4 => K (acc ++ [d]) (wipeE δ4 vs) else K acc (wipeE δ2 vs)))
    (q : Q (xs.map f) δ) : compD g tt te vs chk (xs.map enc) [] δ Q :=
  compD_typed enc (fun _ => true) f hc xs [] (fun x hx K acc k => h x hx K acc (by simpa using k)) (by rw [List.filter_eq_self.mpr (fun _ _ => rfl)]; exact q)
theorem forD_inv {α : Type} {g : TDG} {body : TDS} {chk : Env → Prop} {D : En} {δ : Env} (enc : α → HR.D) (xs : List α) (I : List α → Env → Prop) (h0 : I [] δ) (hc : ∀ done δ, I done δ → chk δ)
    (step : ∀ done x rest δ, xs = done ++ x :: rest → I done δ → ∀ K : Env → Prop, (∀ δ', I (done ++ [x]) δ' → K δ') → g (.val (enc x)) δ fun δ1 => body { D with nx := K, ct := K, bk := D.nx } δ1)
    (hend : ∀ δ, I xs δ → D.nx δ) : forD g body chk (xs.map enc) D δ := by
  have key : ∀ (rest done : List α) (δ : Env), xs = done ++ rest → I done δ → forD g body chk (rest.map enc) D δ := by
    intro rest
    induction rest with
    | nil =>
      intro done δ e i
      have e' : done = xs := by rw [e, List.append_nil]
      subst e'
      exact ⟨hc _ _ i, hend δ i⟩
    | cons x rest ih =>
      intro done δ e i
      exact ⟨hc _ _ i, step done x rest δ e i _ fun δ' i' => ih (done ++ [x]) δ' (by rw [e, List.append_assoc]; rfl) i'⟩
  exact key xs [] δ rfl h0
/-- a loop over data as it stands -/
theorem map_id_D (xs : List D) : xs.map (fun x => x) = xs := by simp
theorem zipD_map {α β : Type} (f : α → D) (g : β → D) : ∀ (xs : List α) (ys : List β), zipD (xs.map f) (ys.map g) = (xs.zip ys).map fun p => .tuple [f p.1, g p.2]
  | [], _ => by simp [zipD]
  | _ :: _, [] => by simp [zipD]
  | x :: xs, y :: ys => by
    have ih := zipD_map f g xs ys
    unfold zipD at ih ⊢
    simp only [List.map_cons, List.zip_cons_cons, List.cons.injEq, true_and]
    exact ih
theorem cutD_map {α β : Type} (f : α → β) (xs : List α) (lo hi : Option Int) : cutD (xs.map f) lo hi = (cutD xs lo hi).map f := by
  unfold cutD
  rw [List.length_map, List.map_take, List.map_drop]
theorem cutD_from {α : Type} (xs : List α) (k : Nat) : cutD xs (some (k : Int)) none = xs.drop k := by
  unfold cutD
  rw [HT.sIx_nat, HT.sIx_none]
  by_cases h : k ≤ xs.length
  · rw [Nat.min_eq_left h]
    exact List.take_of_length_le (by simp)
  · rw [Nat.min_eq_right (by omega), List.drop_of_length_le (by omega), List.drop_of_length_le (by omega)]
    simp
theorem cutD_to {α : Type} (xs : List α) (k : Nat) : cutD xs none (some (k : Int)) = xs.take k := by
  unfold cutD
  rw [HT.sIx_nat, HT.sIx_none]
  simp only [List.drop_zero, Nat.sub_zero]
  by_cases h : k ≤ xs.length
  · rw [Nat.min_eq_left h]
  · rw [Nat.min_eq_right (by omega), List.take_of_length_le (by omega), List.take_of_length_le (by omega)]
theorem cut1 {α : Type} (xs : List α) : cutD xs (some 1) none = xs.drop 1 := cutD_from xs 1
end HR
namespace HR
open PySem PySem.Spec L2
theorem room65 {k : Nat} {A : Around} (r : Room k A) : A.units + 65 < cLine := by have := r.un; omega
end HR
namespace HR
open PySem PySem.Spec L2
open PyProof.Rows hiding St
open PySem.W (Datum Tup T3 T4 SomeDatum)
/-! ### data with a Lean type -/
class Shp (α : Type) [DecidableEq α] [Datum α] : Prop where
  lay : ∀ a : α, (Datum.toD a).canLay0 = true
instance : Shp Int := ⟨fun _ => rfl⟩
instance : Shp Bool := ⟨fun _ => rfl⟩
instance : Shp Unit := ⟨fun _ => rfl⟩
section
variable {α β γ : Type} [DecidableEq α] [Datum α] [Shp α] [DecidableEq β] [Datum β] [Shp β] [DecidableEq γ] [Datum γ] [Shp γ]
theorem lay_map : ∀ xs : List α, PyData.canLayAll0 (xs.map Datum.toD) = true
  | [] => rfl
  | x :: xs => by
    show (PyData.canLay0 (Datum.toD x) && PyData.canLayAll0 (xs.map Datum.toD)) = true
    rw [Shp.lay x, lay_map xs]
    rfl
instance : Shp (List α) := ⟨fun xs => lay_map xs⟩
instance : Shp (Tup α) := ⟨fun t => lay_map t.items⟩
instance : Shp (α × β) := ⟨fun p => by
  show (PyData.canLay0 (Datum.toD p.1) && (PyData.canLay0 (Datum.toD p.2) && true)) = true
  rw [Shp.lay, Shp.lay]; rfl⟩
instance : Shp (T3 α β γ) := ⟨fun p => by
  show (PyData.canLay0 (Datum.toD p.a) && (PyData.canLay0 (Datum.toD p.b) && (PyData.canLay0 (Datum.toD p.c) && true))) = true
  rw [Shp.lay, Shp.lay, Shp.lay]; rfl⟩
instance [SomeDatum α] : Shp (Option α) := ⟨fun o => match o with
  | none => rfl
  | some a => Shp.lay a⟩
theorem shaped_dat (a : α) (h : Datum.depth α ≤ 64) : SeqAt.shaped (Datum.toD a) = true := by
  unfold SeqAt.shaped
  rw [Shp.lay a, Bool.true_and, decide_eq_true_eq]
  exact Nat.le_trans (Datum.depth_le a) h
/-- a == b, data of one type -/
theorem eqD_dat {s t : SV} {δ : Env} {Q : VD} (a b : α) (h1 : DataR s δ (Datum.toD a)) (h2 : DataR t δ (Datum.toD b)) (q : Q (.val (.bool (decide (a = b)))) δ) (h : Datum.depth α ≤ 64 := by decide) : eqD s t δ Q :=
  ⟨_, _, h1, h2, shaped_dat a h, shaped_dat b h, by rw [Datum.eqv]; exact q⟩
theorem neD_dat {s t : SV} {δ : Env} {Q : VD} (a b : α) (h1 : DataR s δ (Datum.toD a)) (h2 : DataR t δ (Datum.toD b)) (q : Q (.val (.bool (!decide (a = b)))) δ) (h : Datum.depth α ≤ 64 := by decide) : neD s t δ Q :=
  ⟨_, _, h1, h2, shaped_dat a h, shaped_dat b h, by rw [Datum.eqv]; exact q⟩
/-- a in xs, xs a list -/
theorem inD_dat {neg : Bool} {s t : SV} {δ : Env} {Q : VD} (a : α) (xs : List α) (h1 : DataR s δ (Datum.toD a)) (h2 : View t δ (xs.map Datum.toD)) (q : Q (.val (.bool (decide (a ∈ xs) != neg))) δ) (h : Datum.depth α ≤ 63 := by decide) : inD neg s t δ Q := by
  refine ⟨_, h1, ?_⟩
  have key : ∃ ds, View t δ ds ∧ SeqAt.shaped (Datum.toD a) = true ∧ SeqAt.shaped (.list ds) = true ∧ Q (.val (.bool ((ds.any fun e => PyData.eqv e (Datum.toD a)) != neg))) δ :=
    ⟨_, h2, shaped_dat a (by omega), shaped_dat (α := List α) xs (Nat.succ_le_succ h), by rw [W.any_datum]; exact q⟩
  cases t with
  | val d => cases d <;> first | exact key | exact absurd h2 (fun z => nomatch z)
  | _ => exact key
end
/-- a in a tuple of ints -/
theorem inD_tup {neg : Bool} {s : SV} {δ : Env} {Q : VD} (a : Int) (xs : List Int) (h1 : DataR s δ (.int a)) (q : Q (.val (.bool (decide (a ∈ xs) != neg))) δ) : inD neg s (.val (.tuple (xs.map .int))) δ Q := by
  refine ⟨_, h1, rfl, ?_, ?_⟩
  · rw [List.all_map]
    exact List.all_eq_true.mpr fun _ _ => rfl
  · have := W.any_datum xs a
    rw [show (((xs.map PyData.int).any fun e => PyData.eqv e (.int a))) = decide (a ∈ xs) from this]
    exact q
theorem eqv_bool (a b : Bool) : PyData.eqv (.bool a) (.bool b) = decide (a = b) := Datum.eqv a b
theorem eqv_int (a b : Int) : PyData.eqv (.int a) (.int b) = decide (a = b) := Datum.eqv a b
/-! ### readings made short -/
theorem getI_nat {α : Type} (xs : List α) (k : Nat) : getI xs (k : Int) = xs[k]? := by
  unfold getI
  rw [if_pos (Int.natCast_nonneg k)]
  rfl
theorem getI_in {α : Type} {xs : List α} {k : Int} (h0 : 0 ≤ k) (h1 : k.toNat < xs.length) : getI xs k = some (xs[k.toNat]'h1) := by
  unfold getI
  rw [if_pos h0, List.getElem?_eq_getElem h1]
theorem all_flat (xs : List Int) : (xs.map PyData.int).all flatD = true := by
  rw [List.all_map]
  exact List.all_eq_true.mpr fun _ _ => rfl
theorem any_int (xs : List Int) (a : Int) : ((xs.map PyData.int).any fun e => PyData.eqv e (.int a)) = decide (a ∈ xs) := W.any_datum xs a
theorem md {j : Int} (h : 0 < j) : 0 < j := h
theorem mulR {i j : Int} (h : -1000000000 ≤ j := by decide) (h' : j ≤ 1000000000 := by decide) : CMul i j := .inr ⟨by omega, by omega⟩
theorem mulL {i j : Int} (h : -1000000000 ≤ i := by decide) (h' : i ≤ 1000000000 := by decide) : CMul i j := .inl ⟨by omega, by omega⟩
/-! ### loops over ranges -/
theorem range_split {n x : Nat} {done rest : List Nat} (h : List.range n = done ++ x :: rest) : done.length = x ∧ x < n := by
  have h1 : (List.range n)[done.length]? = some x := by rw [h]; simp
  have h2 : done.length < n := by
    have := congrArg List.length h
    simp at this
    omega
  rw [List.getElem?_range h2] at h1
  cases h1
  exact ⟨rfl, h2⟩
theorem forD_rng {g : TDG} {body : TDS} {chk : Env → Prop} {D : En} {δ : Env} {lo : Int} {n : Nat} (I : Nat → Env → Prop) (h0 : I 0 δ) (hc : ∀ i δ, I i δ → chk δ)
    (step : ∀ i δ, i < n → I i δ → ∀ K : Env → Prop, (∀ δ', I (i + 1) δ' → K δ') → g (.val (.int (lo + (i : Nat)))) δ fun δ1 => body { D with nx := K, ct := K, bk := D.nx } δ1)
    (hend : ∀ δ, I n δ → D.nx δ) : forD g body chk (rangeD lo n) D δ := by
  refine forD_inv (fun i : Nat => .int (lo + (i : Int))) (List.range n) (fun done δ => I done.length δ) h0 (fun _ _ i => hc _ _ i) (fun done x rest δ e i K k => ?_) (fun δ i => hend δ (by simpa using i))
  obtain ⟨h1, h2⟩ := range_split e
  rw [h1] at i
  exact step x δ h2 i K fun δ' i' => k δ' (by rw [List.length_append, h1]; exact i')
end HR
namespace HR
open PySem PySem.Spec L2
open PyProof.Rows hiding St
/-! ### tuple(range(..)), list(range(..)) -/
def tdRg1 (Ta : TD) (k : List D → Env → VD → Prop) : TD := fun δ Q => Ta δ fun s δ1 => ∃ n, s = .val (.int n) ∧ n ≤ 16777216 ∧ -(2 ^ 62) ≤ n ∧ k (rangeD 0 n.toNat) δ1 Q
def tdRg2 (Ta Tb : TD) (k : List D → Env → VD → Prop) : TD := fun δ Q => Ta δ fun s δ1 => Tb δ1 fun t δ2 => ∃ i j, s = .val (.int i) ∧ t = .val (.int j) ∧ -(2 ^ 62) ≤ i ∧ i < 2 ^ 62 ∧ -(2 ^ 62) ≤ j ∧ j < 2 ^ 62 ∧ j - i ≤ 16777216 ∧ k (rangeD i (j - i).toNat) δ2 Q
def kTupD (ds : List D) (δ : Env) (Q : VD) : Prop := Q (.val (.tuple ds)) δ
def kLstD (ds : List D) (δ : Env) (Q : VD) : Prop := ∀ p, Q (.own p ds) δ
theorem enc_rg {K : PySem.W.Frag} {M : Addr → Prop} {H : Hp} (a b : Int) : EncS K M H (rgV a b) (rangeD a (b - a).toNat) := by
  have e1 : rgV a b = ((List.range (b - a).toNat).map fun i : Nat => a + (i : Int)).map V.int := by unfold rgV; rw [List.map_map]; rfl
  have e2 : rangeD a (b - a).toNat = ((List.range (b - a).toNat).map fun i : Nat => a + (i : Int)).map PyData.int := by unfold rangeD; rw [List.map_map]; rfl
  rw [e1, e2]
  exact EncS.of_ints _
section
variable {X : Cx} {E : Ent} {a b : Expr} {Ta Tb : TD} {p p2 pos pos2 : Pos}
theorem rg1_ok {K : PySem.W.Frag} {k : List D → Env → VD → Prop} {f : Int → Int → Hp → (V → Hp → Prop) → Prop}
    (hf : ∀ (σ : L2.St) (H : Hp) (δ : Env) (π : Tmp) (i j : Int) (Q : VK) (Q' : VD), Rep K E σ H δ π → RgOk i j → k (rangeD i (j - i).toNat) δ Q' → (∀ v H' u δ', Rep K E σ H' δ' ((v, u) :: π) → Q' u δ' → Q v H') → f i j H Q) :
    ∀ σ H Q, lE K E (tdRg1 Ta k) σ H Q → tRg1 (lE K E Ta) σ H fun i j H1 => f i j H1 Q := fun σ H Q ⟨δ, π, Q', R, t, kk⟩ =>
  ⟨δ, π, _, R, t, fun v H1 s δ1 R1 ⟨n, e, h1, h2, q⟩ => by
    subst e
    have e1 := R1.isInt (π' := π) (v := v) (i := n) List.mem_cons_self
    subst e1
    refine ⟨n, rfl, hf _ _ _ _ _ _ _ _ R1.drop ⟨by omega, by omega, by omega, by omega, by omega⟩ ?_ kk⟩
    rw [show n - 0 = n by omega]
    exact q⟩
theorem rg2_ok {K : PySem.W.Frag} {k : List D → Env → VD → Prop} {f : Int → Int → Hp → (V → Hp → Prop) → Prop}
    (hf : ∀ (σ : L2.St) (H : Hp) (δ : Env) (π : Tmp) (i j : Int) (Q : VK) (Q' : VD), Rep K E σ H δ π → RgOk i j → k (rangeD i (j - i).toNat) δ Q' → (∀ v H' u δ', Rep K E σ H' δ' ((v, u) :: π) → Q' u δ' → Q v H') → f i j H Q) :
    ∀ σ H Q, lE K E (tdRg2 Ta Tb k) σ H Q → tRg2 (lE K E Ta) (lE K E Tb) σ H fun i j H1 => f i j H1 Q := fun σ H Q ⟨δ, π, Q', R, t, kk⟩ =>
  ⟨δ, π, _, R, t, fun v H1 s δ1 R1 t1 => ⟨δ1, (v, s) :: π, _, R1, t1, fun w H2 u δ2 R2 ⟨i, j, e1, e2, h1, h2, h3, h4, h5, q⟩ => by
    subst e1 e2
    have f2 := R2.isInt (π' := (v, .val (.int i)) :: π) (v := w) (i := j) List.mem_cons_self
    have f1 := R2.drop.isInt (π' := π) (v := v) (i := i) List.mem_cons_self
    subst f1 f2
    exact ⟨i, j, rfl, rfl, hf _ _ _ _ _ _ _ _ R2.drop.drop ⟨h1, h2, h3, h4, by omega⟩ q kk⟩⟩⟩
theorem ktup_ok {K : PySem.W.Frag} (σ : L2.St) (H : Hp) (δ : Env) (π : Tmp) (i j : Int) (Q : VK) (Q' : VD) (R : Rep K E σ H δ π) (o : RgOk i j) (q : kTupD (rangeD i (j - i).toNat) δ Q') (k : ∀ v H' u δ', Rep K E σ H' δ' ((v, u) :: π) → Q' u δ' → Q v H') :
    RgOk i j ∧ ∀ q, H q = none → Q (.ref q) (upd H q (.tup (rgV i j))) := ⟨o, fun z n => by
  obtain ⟨G, M, R⟩ := R
  exact k _ _ _ _ ⟨_, _, R.newTup n (enc_rg i j)⟩ q⟩
theorem klst_ok {K : PySem.W.Frag} (σ : L2.St) (H : Hp) (δ : Env) (π : Tmp) (i j : Int) (Q : VK) (Q' : VD) (R : Rep K E σ H δ π) (o : RgOk i j) (q : kLstD (rangeD i (j - i).toNat) δ Q') (k : ∀ v H' u δ', Rep K E σ H' δ' ((v, u) :: π) → Q' u δ' → Q v H') :
    RgOk i j ∧ ∀ q, H q = none → Q (.ref q) (upd H q (.lst (rgV i j))) := ⟨o, fun z n => by
  obtain ⟨G, M, R⟩ := R
  exact k _ _ _ _ ⟨_, _, R.fresh n (enc_rg i j)⟩ (q z)⟩
theorem de_tupRg1 (hc : X.calm = true) (ht : X.mg "tuple" = none) (hr : X.mg "range" = none) (ha : DE X E a Ta) (hg : Gl X "tuple" := by rfl) (hg2 : Gl X "range" := by rfl)
    (na : starEach [a] X.env = (false, eval a X.env) :: starEach [] X.env := by rfl) (nr : starEach [.Call (.Name "range" p2) [a] [] pos2] X.env = (false, eval (.Call (.Name "range" p2) [a] [] pos2) X.env) :: starEach [] X.env := by rfl) :
    DE X E (.Call (.Name "tuple" p) [.Call (.Name "range" p2) [a] [] pos2] [] pos) (tdRg1 Ta kTupD) :=
  PE.imp (pe_tupRg hc hg ht (prg_1 hg2 hr ha na) nr) (rg1_ok ktup_ok)
theorem de_tupRg2 (hc : X.calm = true) (ht : X.mg "tuple" = none) (hr : X.mg "range" = none) (ha : DE X E a Ta) (hb : DE X E b Tb) (hg : Gl X "tuple" := by rfl) (hg2 : Gl X "range" := by rfl)
    (na : starEach [a, b] X.env = (false, eval a X.env) :: starEach [b] X.env := by rfl) (nb : starEach [b] X.env = (false, eval b X.env) :: starEach [] X.env := by rfl)
    (hp : (backTo pos2 (starEach [b] X.env)).any (·.1) = false := by rfl) (nr : starEach [.Call (.Name "range" p2) [a, b] [] pos2] X.env = (false, eval (.Call (.Name "range" p2) [a, b] [] pos2) X.env) :: starEach [] X.env := by rfl) :
    DE X E (.Call (.Name "tuple" p) [.Call (.Name "range" p2) [a, b] [] pos2] [] pos) (tdRg2 Ta Tb kTupD) :=
  PE.imp (pe_tupRg hc hg ht (prg_2 hg2 hr ha hb na nb hp) nr) (rg2_ok ktup_ok)
theorem de_listRg1 (hc : X.calm = true) (ht : X.mg "list" = none) (hr : X.mg "range" = none) (ha : DE X E a Ta) (hg : Gl X "list" := by rfl) (hg2 : Gl X "range" := by rfl)
    (na : starEach [a] X.env = (false, eval a X.env) :: starEach [] X.env := by rfl) (nr : starEach [.Call (.Name "range" p2) [a] [] pos2] X.env = (false, eval (.Call (.Name "range" p2) [a] [] pos2) X.env) :: starEach [] X.env := by rfl) :
    DE X E (.Call (.Name "list" p) [.Call (.Name "range" p2) [a] [] pos2] [] pos) (tdRg1 Ta kLstD) :=
  PE.imp (pe_listRg hc hg ht (prg_1 hg2 hr ha na) nr) (rg1_ok klst_ok)
theorem de_listRg2 (hc : X.calm = true) (ht : X.mg "list" = none) (hr : X.mg "range" = none) (ha : DE X E a Ta) (hb : DE X E b Tb) (hg : Gl X "list" := by rfl) (hg2 : Gl X "range" := by rfl)
    (na : starEach [a, b] X.env = (false, eval a X.env) :: starEach [b] X.env := by rfl) (nb : starEach [b] X.env = (false, eval b X.env) :: starEach [] X.env := by rfl)
    (hp : (backTo pos2 (starEach [b] X.env)).any (·.1) = false := by rfl) (nr : starEach [.Call (.Name "range" p2) [a, b] [] pos2] X.env = (false, eval (.Call (.Name "range" p2) [a, b] [] pos2) X.env) :: starEach [] X.env := by rfl) :
    DE X E (.Call (.Name "list" p) [.Call (.Name "range" p2) [a, b] [] pos2] [] pos) (tdRg2 Ta Tb kLstD) :=
  PE.imp (pe_listRg hc hg ht (prg_2 hg2 hr ha hb na nb hp) nr) (rg2_ok klst_ok)
end
/-! ### sorted(set(t)), t a tuple or a list of ints -/
/-- the ints of ns in order, each once -/
def Normal (ns out : List Int) : Prop := out.Pairwise (· < ·) ∧ ∀ k, k ∈ out ↔ k ∈ ns
def rSetTI (K : PySem.W.Frag) (w : World) : List V → Hp → VK → Prop := fun xs H Q => ∃ (p : Addr) (ns : List Int), xs = [.ref p] ∧ SqT K H p (ns.map V.int) ∧ ns.length ≤ 1000 ∧
  ∀ (a : Addr) (n : Nat) (ks : List Int), ks.Nodup → (∀ k, k ∈ ks ↔ k ∈ ns) → ks.length = n → H a = none → Q (.ref a) (upd H a (SetO w a (fun j => decide (j ∈ ns)) n))
theorem cr_setTI {X : Cx} (hc : X.calm = true) : CallR X (.type "set") (rSetTI X.K X.w) := by
  intro pn s σ H vs us Q I r h
  obtain ⟨p, ns, rfl, hp, hl, q⟩ := h
  rw [Vals.ref1 r]
  obtain ⟨its, rv, pt, hz⟩ := I.tuple hp
  have iA : IntsAre its.toArray.toList ns := ints_of_vals rv
  refine call_set_tupI ns (I.ok.hd hc) (show s.heap.IsTuple p its.toArray from pt) iA (by unfold scanBound; omega) fun h' tk c R1 hcn k => ?_
  have R2 := R1
  obtain ⟨_, es, _, _, _, _, _, _, nd, hm2, _, _, hn, _, _⟩ := R1
  have hfresh : H s.heap.objs.size = none := I.hok.fresh (Nat.le_refl _)
  refine ⟨.ref s.heap.objs.size, upd H s.heap.objs.size (SetO X.w s.heap.objs.size _ c), I.laid (t' := tk) k (Nat.le_refl _) (setO_new R2), rfl, q _ c (es.toList.map keyOf) nd (fun j => ?_) (by rw [List.length_map, Array.length_toList]; exact hn) hfresh⟩
  rw [← hm2 j, decide_eq_true_eq]
theorem nodup_len {xs ys : List Int} (h : xs.Nodup) (s : ∀ k, k ∈ xs → k ∈ ys) : xs.length ≤ ys.length := h.length_le_of_subset s
def tdSortSet (T : TD) : TD := fun δ Q => T δ fun s δ1 => ∃ ns bnd : List Int, s = .val (.tuple (ns.map .int)) ∧ ns.length ≤ 1000 ∧ bnd.length < 64 ∧ (∀ k ∈ ns, k ∈ bnd) ∧ ∀ out, Normal ns out → ∀ p, Q (.own p (out.map .int)) δ1
theorem de_sortSet {X : Cx} {E : Ent} {a : Expr} {T : TD} {p p2 pos pos2 : Pos} (hc : X.calm = true) (hs : X.mg "sorted" = none) (ht : X.mg "set" = none) (ha : DE X E a T) (hg : Gl X "sorted" := by rfl) (hg2 : Gl X "set" := by rfl)
    (na : starEach [a] X.env = (false, eval a X.env) :: starEach [] X.env := by rfl) (nr : starEach [.Call (.Name "set" p2) [a] [] pos2] X.env = (false, eval (.Call (.Name "set" p2) [a] [] pos2) X.env) :: starEach [] X.env := by rfl) :
    DE X E (.Call (.Name "sorted" p) [.Call (.Name "set" p2) [a] [] pos2] [] pos) (tdSortSet T) := by
  refine PE.imp (pe_callB (cr_sortedSet hc) hg hs rfl (pa_cons (pe_callTy (cr_setTI hc) hg2 ht rfl (pa_cons ha pa_nil na) (by decide) (by decide) na rfl) pa_nil nr) (by decide) (by decide) nr rfl) fun σ H Q ⟨δ, π, Q', R, t, k⟩ => ?_
  refine ⟨δ, π, _, R, t, fun v H1 s δ1 R1 ⟨ns, bnd, e, hl, hb, hsub, q⟩ => ?_⟩
  subst e
  obtain ⟨G, M, R1⟩ := R1
  have z : Enc X.K M H1 v (.tuple (ns.map .int)) := R1.top
  cases z with
  | tup a1 a2 =>
    rename_i vs ad
    refine ⟨_, ns, rfl, by rw [← a2.ints]; exact a1, hl, fun a n ks nd mem len hn => ?_⟩
    refine ⟨a, _, n, rfl, upd_same, ?_, fun out z hp hm hz hn2 => ?_⟩
    · have := nodup_len nd (fun k hk => hsub k ((mem k).mp hk))
      omega
    · refine k _ _ _ _ ⟨_, _, ((R1.drop).laid hn).fresh hn2 (EncS.of_ints out)⟩ (q out ⟨hp, fun k => ?_⟩ z)
      rw [hm k, decide_eq_true_eq]
end HR
namespace HR
open PySem PySem.Spec L2
open PyProof.Rows hiding St
/-! ### list(zip(a, b)), a and b lists -/
/-- what stands behind i draws: the list made so far (at S), its tuples all there -/
structure LZ (h0 : Heap) (S z TI TO i1 i2 a b : Addr) (xs ys : Array Value) (i : Nat) (acc : Array Value) (h : Heap) : Prop where
  pr : IsPair h TI (.ref i1) (.ref i2)
  t1 : h.IsListIter i1 a i
  t2 : h.IsListIter i2 b i
  la : h.IsList a xs
  lb : h.IsList b ys
  zz : (IsZip h z TI TO .none ∧ ∃ u v, IsPair h TO u v) ∨ ∃ T f oT, IsZipHeld h z TI TO T f ∧ h.get? T = some oT ∧ T ≠ z ∧ T ≠ i1 ∧ T ≠ i2 ∧ T ≠ S
  to : ∃ o, h.get? TO = some o
  len : acc.size = i
  tup : ∀ (j : Nat) v, acc[j]? = some v → ∃ T x y, v = .ref T ∧ h0.objs.size ≤ T ∧ T ≠ z ∧ T ≠ TO ∧ T ≠ i1 ∧ T ≠ i2 ∧ T ≠ S ∧ IsPair h T x y ∧ xs[j]? = some x ∧ ys[j]? = some y
  nd : acc.toList.Nodup
  old : ∀ c o, h0.get? c = some o → h.get? c = some o
section
variable {h0 h h' : Heap} {S z TI TO i1 i2 a b : Addr} {xs ys acc : Array Value} {i : Nat}
/-- the list's own object may change -/
theorem LZ.frame (L : LZ h0 S z TI TO i1 i2 a b xs ys i acc h) (hs : h0.objs.size ≤ S) (n1 : TI ≠ S) (n2 : i1 ≠ S) (n3 : i2 ≠ S) (n4 : a ≠ S) (n5 : b ≠ S) (n6 : z ≠ S) (n7 : TO ≠ S) (k : ∀ c o, c ≠ S → h.get? c = some o → h'.get? c = some o) :
    LZ h0 S z TI TO i1 i2 a b xs ys i acc h' where
  pr := k _ _ n1 L.pr
  t1 := L.t1.at fun o e => k _ o n2 e
  t2 := L.t2.at fun o e => k _ o n3 e
  la := L.la.at fun o e => k _ o n4 e
  lb := L.lb.at fun o e => k _ o n5 e
  zz := by
    rcases L.zz with ⟨q, u, v, p⟩ | ⟨T, f, oT, q, e, m1, m2, m3, m4⟩
    · exact .inl ⟨k _ _ n6 q, u, v, k _ _ n7 p⟩
    · exact .inr ⟨T, f, oT, k _ _ n6 q, k _ _ m4 e, m1, m2, m3, m4⟩
  to := let ⟨o, e⟩ := L.to; ⟨o, k _ _ n7 e⟩
  len := L.len
  tup := fun j v e => by
    obtain ⟨T, x, y, e1, e2, m1, m2, m3, m4, m5, p, hx, hy⟩ := L.tup j v e
    exact ⟨T, x, y, e1, e2, m1, m2, m3, m4, m5, k _ _ m5 p, hx, hy⟩
  nd := L.nd
  old := fun c o e => k _ _ (fun z => by
    have := Heap.lt_size e
    rw [z] at this
    exact absurd this (Nat.not_lt.mpr hs)) (L.old c o e)
end
section
variable {prog : Program} {w : World} {A : Around} {R : Result → Shared → Prop} {h0 : Heap} {S z TI TO i1 i2 a b : Addr} {xs ys : Array Value}
theorem LZ.item {E : Value → Shared → Prop} {s : Shared} {i : Nat} {acc : Array Value} {Q : Option Value → Shared → Prop} (D : ZipApart z TI TO i1 i2 a b) (L : LZ h0 S z TI TO i1 i2 a b xs ys i acc s.heap) (hi : i < min xs.size ys.size)
    (h0s : h0.objs.size ≤ s.heap.objs.size) (hS : ∃ o, s.heap.get? S = some o) (hz0 : ∀ c o, h0.get? c = some o → c ≠ z ∧ c ≠ TO ∧ c ≠ i1 ∧ c ≠ i2) (hSz : S ≠ z ∧ S ≠ TO ∧ S ≠ i1 ∧ S ≠ i2)
    (h : ∀ h' v, (∀ acc', acc' = acc.push v → LZ h0 S z TI TO i1 i2 a b xs ys (i + 1) acc' h') → (∀ o, s.heap.get? S = some o → h'.get? S = some o) → s.heap.objs.size ≤ h'.objs.size → Q (some v) { s with heap := h' }) : wpAny (model prog w) A (pyNext (.ref z)) Q E s := by
  have hix : i < xs.size := Nat.lt_of_lt_of_le hi (Nat.min_le_left ..)
  have hiy : i < ys.size := Nat.lt_of_lt_of_le hi (Nat.min_le_right ..)
  have ex := Array.getElem?_eq_getElem hix
  have ey := Array.getElem?_eq_getElem hiy
  have lt : ∀ {c : Addr} {o}, s.heap.get? c = some o → s.heap.objs.size ≠ c := fun e => Nat.ne_of_gt (Heap.lt_size e)
  have m1 : s.heap.objs.size ≠ i1 := let ⟨_, e, _⟩ := L.t1; lt e
  have m2 : s.heap.objs.size ≠ i2 := let ⟨_, e, _⟩ := L.t2; lt e
  have mS : s.heap.objs.size ≠ S := let ⟨_, e⟩ := hS; lt e
  have fin : ∀ h' : Heap, h'.IsListIter i1 a (i + 1) → h'.IsListIter i2 b (i + 1) → IsPair h' s.heap.objs.size xs[i] ys[i] → h'.objs.size = s.heap.objs.size + 1 → s.heap.objs.size ≠ z → s.heap.objs.size ≠ TO →
      (∀ c o, c ≠ z → c ≠ TO → c ≠ i1 → c ≠ i2 → s.heap.get? c = some o → h'.get? c = some o) →
      ((IsZip h' z TI TO .none ∧ ∃ u v, IsPair h' TO u v) ∨ ∃ T f oT, IsZipHeld h' z TI TO T f ∧ h'.get? T = some oT ∧ T ≠ z ∧ T ≠ i1 ∧ T ≠ i2 ∧ T ≠ S) → (∃ o, h'.get? TO = some o) → Q (some (.ref s.heap.objs.size)) { s with heap := h' } := by
    intro h' a1 a2 a3 a4 a5 a6 hk hz hto
    refine h h' _ (fun acc' ea => ?_) (fun o e => hk _ o hSz.1 hSz.2.1 hSz.2.2.1 hSz.2.2.2 e) (by omega)
    subst ea
    refine ⟨hk _ _ D.TIz D.TITO D.TIi1 D.TIi2 L.pr, a1, a2, L.la.at fun o e => hk _ o D.l1z D.l1TO D.l1i1 D.l1i2 e, L.lb.at fun o e => hk _ o D.l2z D.l2TO D.l2i1 D.l2i2 e, hz, hto, by rw [Array.size_push, L.len], fun j v e => ?_, ?_, fun c o e => ?_⟩
    · by_cases hj : j < acc.size
      · rw [Array.getElem?_push_lt hj, ← Array.getElem?_eq_getElem hj] at e
        obtain ⟨T, x, y, e1, e2, m1, m2, m3, m4, m5, p, hx, hy⟩ := L.tup j v e
        exact ⟨T, x, y, e1, e2, m1, m2, m3, m4, m5, hk _ _ m1 m2 m3 m4 p, hx, hy⟩
      · have hj' : j = acc.size := by
          have := (Array.getElem?_eq_some_iff.mp e).1
          rw [Array.size_push] at this
          omega
        subst hj'
        rw [Array.getElem?_push_size] at e
        cases e
        refine ⟨s.heap.objs.size, xs[i], ys[i], rfl, h0s, a5, a6, m1, m2, mS, a3, ?_, ?_⟩
        · rw [L.len]; exact ex
        · rw [L.len]; exact ey
    · rw [Array.toList_push]
      refine List.nodup_append.mpr ⟨L.nd, (by simp), fun v hv u hu => ?_⟩
      rintro rfl
      have hv' := List.mem_singleton.mp hu
      obtain ⟨j, hj, ej⟩ := List.mem_iff_getElem.mp hv
      have e : acc[j]? = some v := by
        rw [← Array.getElem?_toList, List.getElem?_eq_getElem hj, ej]
      obtain ⟨T, x, y, e1, _, _, _, _, _, _, p, _⟩ := L.tup j v e
      rw [hv'] at e1
      cases e1
      exact lt p rfl
    · obtain ⟨c1, c2, c3, c4⟩ := hz0 c o e
      exact hk c o c1 c2 c3 c4 (L.old c o e)
  rcases L.zz with ⟨q, u, v, p⟩ | ⟨T, f, oT, q, e, r1, r2, r3, r4⟩
  · refine wpAny_pyNext_zip_item D q L.pr p L.t1 L.t2 L.la L.lb ex ey fun h' a1 a2 a3 a4 a5 a6 hk => ?_
    exact fin h' a3 a4 a5 a6 (lt q) (lt p) hk (.inr ⟨s.heap.objs.size, false, _, a1, a5, lt q, m1, m2, mS⟩) ⟨_, a2⟩
  · refine wpAny_pyNext_zip_item_held D q e L.pr L.t1 L.t2 L.la L.lb ex ey fun h' a1 a3 a4 a5 a6 hk => ?_
    obtain ⟨o, eo⟩ := L.to
    exact fin h' a3 a4 a5 a6 (lt q) (lt eo) (fun c o c1 _ c3 c4 e => hk c o c1 c3 c4 e) (.inr ⟨T, true, oT, a1, hk _ _ r1 r2 r3 e, r1, r2, r3, r4⟩) ⟨o, hk _ _ D.TOz D.TOi1 D.TOi2 eo⟩
theorem LZ.done {E : Value → Shared → Prop} {s : Shared} {acc : Array Value} {Q : Option Value → Shared → Prop} (hh : A.handled = none) (D : ZipApart z TI TO i1 i2 a b) (L : LZ h0 S z TI TO i1 i2 a b xs ys (min xs.size ys.size) acc s.heap)
    (hz0 : ∀ c o, h0.get? c = some o → c ≠ z ∧ c ≠ TO ∧ c ≠ i1 ∧ c ≠ i2) (hSz : S ≠ z ∧ S ≠ TO ∧ S ≠ i1 ∧ S ≠ i2)
    (h : ∀ h', (∀ c o, c ≠ z → c ≠ TO → c ≠ i1 → c ≠ i2 → s.heap.get? c = some o → h'.get? c = some o) → Q none { s with heap := h' }) : wpAny (model prog w) A (pyNext (.ref z)) Q E s := by
  have hend : xs[min xs.size ys.size]? = none ∨ ys[min xs.size ys.size]? = none := by
    rcases Nat.le_total xs.size ys.size with q | q
    · exact .inl (Array.getElem?_eq_none (by rw [Nat.min_eq_left q]; exact Nat.le_refl _))
    · exact .inr (Array.getElem?_eq_none (by rw [Nat.min_eq_right q]; exact Nat.le_refl _))
  rcases L.zz with ⟨q, u, v, p⟩ | ⟨T, f, oT, q, e, r1, r2, r3, r4⟩
  · exact wpAny_pyNext_zip_end hh D q L.pr p L.t1 L.t2 L.la L.lb hend fun h' hk => h h' fun c o c1 c2 c3 c4 e => hk c o c1 c2 c3 c4 e
  · exact wpAny_pyNext_zip_end_held hh D q e L.pr L.t1 L.t2 L.la L.lb hend fun h' hk => h h' fun c o c1 _ c3 c4 e => hk c o c1 c3 c4 e
theorem zip_loop (hh : A.handled = none) (D : ZipApart z TI TO i1 i2 a b) (hz0 : ∀ c o, h0.get? c = some o → c ≠ z ∧ c ≠ TO ∧ c ≠ i1 ∧ c ≠ i2) (hSz : S ≠ z ∧ S ≠ TO ∧ S ≠ i1 ∧ S ≠ i2) (hS0 : h0.objs.size ≤ S) (n1 : TI ≠ S) (n4 : a ≠ S) (n5 : b ≠ S)
    (hn : min xs.size ys.size ≤ sizeLine) (res : Value) : ∀ (k i : Nat) (s : Shared) (acc : Array Value) (c : Nat), min xs.size ys.size - i = k → i ≤ min xs.size ys.size → LZ h0 S z TI TO i1 i2 a b xs ys i acc s.heap → h0.objs.size ≤ s.heap.objs.size →
    s.heap.get? S = some { cls := .type "list", dict := none, data := .seq acc c, slots := #[] } →
    (∀ (h' : Heap) (acc' : Array Value) (c' : Nat), (∀ b' o, h0.get? b' = some o → h'.get? b' = some o) → (∀ (j : Nat) (v : Value), acc'[j]? = some v → ∃ T x y, v = .ref T ∧ h0.objs.size ≤ T ∧ T ≠ S ∧ IsPair h' T x y ∧ xs[j]? = some x ∧ ys[j]? = some y) → acc'.size = min xs.size ys.size → acc'.toList.Nodup →
      h'.get? S = some { cls := .type "list", dict := none, data := .seq acc' c', slots := #[] } → R (.ok (.ret res)) { s with heap := h' }) →
    codeAny (model prog w) A (.builtin "list.extend.loop" ⟨[.ref S, .ref z, res], []⟩) R s := by
  intro k
  induction k with
  | zero =>
    intro i s acc c hk hi L hs hS hR
    have hin : i = min xs.size ys.size := by omega
    subst hin
    refine codeAny_builtin F.entry_extend_loop ?_
    rw [Around.under_plainId F.plain_extend_loop _]
    show wpAny _ A.in1 (pyNext (.ref z) >>= _) _ _ s
    refine wpAny_bind (L.done (by first | exact hh | (show A.in1.handled = none; exact hh)) D hz0 hSz fun h' hk' => ?_)
    refine wpAny_pure (hR h' acc c (fun b' o e => let q := hz0 b' o e; hk' b' o q.1 q.2.1 q.2.2.1 q.2.2.2 (L.old b' o e)) (fun j v e => ?_) L.len L.nd (hk' S _ hSz.1 hSz.2.1 hSz.2.2.1 hSz.2.2.2 hS))
    obtain ⟨T, x, y, e1, e2, m1, m2, m3, m4, m5, p, hx, hy⟩ := L.tup j v e
    exact ⟨T, x, y, e1, e2, m5, hk' _ _ m1 m2 m3 m4 p, hx, hy⟩
  | succ k ih =>
    intro i s acc c hk hi L hs hS hR
    have hlt : i < min xs.size ys.size := by omega
    refine codeAny_builtin F.entry_extend_loop ?_
    rw [Around.under_plainId F.plain_extend_loop _]
    show wpAny _ A.in1 (pyNext (.ref z) >>= _) _ _ s
    refine wpAny_bind (L.item D hlt hs ⟨_, hS⟩ hz0 hSz fun h' v L' kS hs' => ?_)
    have hS' := kS _ hS
    have L' := L' _ rfl
    show wpAny _ A.in1 (updateSeq S (·.push v) >>= _) _ _ _
    refine wpAny_bind ?_
    refine wpAny_updateSeq hS' rfl (wpAny_pure ⟨plainId_quiet F.plain_extend_loop _, ih (i + 1) _ (acc.push v) _ (by omega) hlt (L'.frame hS0 n1 hSz.2.2.1.symm hSz.2.2.2.symm n4 n5 hSz.1.symm hSz.2.1.symm fun c o hc e => ?_) ?_ (Heap.get?_update_self _ hS' rfl) fun h'' acc' c' k1 k2 k3 k4 k5 => hR h'' acc' c' k1 k2 k3 k4 k5⟩)
      (by rw [L.len]; omega) (by show (acc.push v).size ≤ sizeLine + 1; rw [Array.size_push, L.len]; omega)
    · exact (Heap.get?_update_other _ _ (Ne.symm hc)).trans e
    · show h0.objs.size ≤ (h'.update S _).objs.size
      rw [Heap.size_update]
      omega
theorem nolen_zip : typeLookup (.type "zip") "__len__" = pure none := by rw [typeLookup_type, builtinLookup_eq_fast]; kernel_rfl
theorem nohint_zip : typeLookup (.type "zip") "__length_hint__" = pure none := by rw [typeLookup_type, builtinLookup_eq_fast]; kernel_rfl
/-- what the list's object is, behind it all -/
abbrev ZEnd (h0 : Heap) (S : Addr) (xs ys : Array Value) (h' : Heap) (acc' : Array Value) (c' : Nat) : Prop := (∀ b' o, h0.get? b' = some o → h'.get? b' = some o) ∧ (∀ (j : Nat) (v : Value), acc'[j]? = some v → ∃ T x y, v = .ref T ∧ h0.objs.size ≤ T ∧ T ≠ S ∧ IsPair h' T x y ∧ xs[j]? = some x ∧ ys[j]? = some y) ∧
  acc'.size = min xs.size ys.size ∧ acc'.toList.Nodup ∧ h'.get? S = some { cls := .type "list", dict := none, data := .seq acc' c', slots := #[] }
theorem zip_extend (hh : A.handled = none) (D : ZipApart z TI TO i1 i2 a b) (hz0 : ∀ c o, h0.get? c = some o → c ≠ z ∧ c ≠ TO ∧ c ≠ i1 ∧ c ≠ i2) (hSz : S ≠ z ∧ S ≠ TO ∧ S ≠ i1 ∧ S ≠ i2) (hS0 : h0.objs.size ≤ S) (n1 : TI ≠ S) (n4 : a ≠ S) (n5 : b ≠ S)
    (hn : min xs.size ys.size ≤ sizeLine) (res : Value) (s : Shared) (c₀ : Nat) (L : LZ h0 S z TI TO i1 i2 a b xs ys 0 #[] s.heap) (hfresh : IsZip s.heap z TI TO .none) (hs : h0.objs.size ≤ s.heap.objs.size) (hS : s.heap.get? S = some { cls := .type "list", data := .seq #[] c₀ })
    (hR : ∀ (h' : Heap) (acc' : Array Value) (c' : Nat), ZEnd h0 S xs ys h' acc' c' → R (.ok (.ret res)) { s with heap := h' }) :
    wpAny (model prog w) A.in1 (Builtin.List.listExtendWith (.ref S) (.ref z) res)
      (fun fin s' => match fin with | .done f => R (.ok f) s' | .again c' => c'.quiet = true ∧ codeAny (model prog w) A c' R s') (fun e s' => R (.error e) s') s := by
  unfold Builtin.List.listExtendWith
  refine wpAny_bind (wpAny_typeOf (T := "zip") ⟨_, hfresh, rfl⟩ ?_)
  have h1 : Builtin.List.listSameRef (.ref S) (.ref z) = false := by simp [Builtin.List.listSameRef, hSz.1]
  have h2 : (Value.type "zip" == Value.type "list") = false := by decide
  have h3 : (Value.type "zip" == Value.type "tuple") = false := by decide
  simp only [h1, h2, h3, Bool.or_false, Bool.false_eq_true, if_false]
  refine wpAny_bind (wpAny_pyIter_zip hfresh ?_)
  refine wpAny_bind (wpAny_holding ?_)
  unfold Builtin.List.listLengthHint
  refine wpAny_bind (wpAny_specialOf ⟨_, hfresh, rfl⟩ nolen_zip ?_)
  show wpAny _ A.in1 (specialOf (Value.ref z) (Str.ofString "__length_hint__") >>= _) _ _ _
  refine wpAny_bind (wpAny_specialOf ⟨_, hfresh, rfl⟩ nohint_zip ?_)
  refine wpAny_pure ?_
  show wpAny _ A.in1 (rule "list.extend.makes-room" >>= fun _ => Builtin.List.listTouch (.ref S) >>= fun _ => again (.builtin "list.extend.loop" ⟨[.ref S, .ref z, res], []⟩)) _ _ _
  refine wpAny_bind (wpAny_rule ?_)
  refine wpAny_bind ?_
  show wpAny _ A.in1 (updateSeq S (·.push .none) >>= fun _ => updateSeq S (·.pop)) _ _ _
  refine wpAny_bind (wpAny_updateSeq hS rfl ?_)
  have hS₂ := Heap.get?_update_self (Obj.mapSeq (·.push Value.none)) hS rfl
  refine wpAny_updateSeq (hz := by seq_fits) hS₂ rfl ?_
  have hS₃ := Heap.get?_update_self (Obj.mapSeq (·.pop)) hS₂ rfl
  have oth : ∀ c o, c ≠ S → s.heap.get? c = some o → ((s.heap.update S (Obj.mapSeq (·.push Value.none))).update S (Obj.mapSeq (·.pop))).get? c = some o :=
    fun c o hc e => (Heap.get?_update_other _ _ (Ne.symm hc)).trans ((Heap.get?_update_other _ _ (Ne.symm hc)).trans e)
  refine wpAny_pure ⟨plainId_quiet F.plain_extend_loop _, zip_loop hh D hz0 hSz hS0 n1 n4 n5 hn res _ 0 _ #[] _ rfl (Nat.zero_le _) (L.frame hS0 n1 hSz.2.2.1.symm hSz.2.2.2.symm n4 n5 hSz.1.symm hSz.2.1.symm oth) ?_ hS₃ fun h' acc' c' k1 k2 k3 k4 k5 => hR h' acc' c' ⟨k1, k2, k3, k4, k5⟩⟩
  show h0.objs.size ≤ ((s.heap.update S _).update S _).objs.size
  rw [Heap.size_update, Heap.size_update]
  exact hs
theorem zip_init (hh : A.handled = none) (D : ZipApart z TI TO i1 i2 a b) (hz0 : ∀ c o, h0.get? c = some o → c ≠ z ∧ c ≠ TO ∧ c ≠ i1 ∧ c ≠ i2) (hSz : S ≠ z ∧ S ≠ TO ∧ S ≠ i1 ∧ S ≠ i2) (hS0 : h0.objs.size ≤ S) (n1 : TI ≠ S) (n4 : a ≠ S) (n5 : b ≠ S)
    (hn : min xs.size ys.size ≤ sizeLine) (s : Shared) (L : LZ h0 S z TI TO i1 i2 a b xs ys 0 #[] s.heap) (hfresh : IsZip s.heap z TI TO .none) (hs : h0.objs.size ≤ s.heap.objs.size) (hS : s.heap.get? S = some { cls := .type "list", data := .seq #[] })
    (hR : ∀ (h' : Heap) (acc' : Array Value) (c' : Nat), ZEnd h0 S xs ys h' acc' c' → R (.ok (.ret .none)) { s with heap := h' }) :
    wpAny (model prog w) A.in1 (Builtin.«list.__init__» ⟨[.ref S, .ref z], []⟩)
      (fun fin s' => match fin with | .done f => R (.ok f) s' | .again c' => c'.quiet = true ∧ codeAny (model prog w) A c' R s') (fun e s' => R (.error e) s') s := by
  show wpAny _ _ (do let old ← Builtin.List.listItems (.ref S); Builtin.List.listUpdate (.ref S) (fun _ => #[]); letGo old.toList.reverse; Builtin.List.listExtendWith (.ref S) (.ref z) .none) _ _ s
  refine wpAny_bind ?_
  unfold Builtin.List.listItems
  refine wpAny_bind (wpAny_seqItems hS rfl (wpAny_pure ?_))
  show wpAny _ _ (updateSeq S (fun _ => #[]) >>= fun _ => letGo (#[] : Array Value).toList.reverse >>= fun _ => Builtin.List.listExtendWith (.ref S) (.ref z) .none) _ _ s
  refine wpAny_bind (wpAny_updateSeq hS rfl ?_)
  have hS₂ := Heap.get?_update_self (Obj.mapSeq (fun _ => (#[] : Array Value))) hS rfl
  have oth : ∀ c o, c ≠ S → s.heap.get? c = some o → (s.heap.update S (Obj.mapSeq (fun _ => (#[] : Array Value)))).get? c = some o :=
    fun c o hc e => (Heap.get?_update_other _ _ (Ne.symm hc)).trans e
  refine wpAny_bind (wpAny_letGo ?_)
  refine zip_extend hh D hz0 hSz hS0 n1 n4 n5 hn .none _ _ (L.frame hS0 n1 hSz.2.2.1.symm hSz.2.2.2.symm n4 n5 hSz.1.symm hSz.2.1.symm oth) (oth _ _ hSz.1.symm hfresh) ?_ hS₂ hR
  show h0.objs.size ≤ (s.heap.update S _).objs.size
  rw [Heap.size_update]
  exact hs
/-- list(zip(xs, ys)): the zip object is at hand -/
theorem call_list_zip {E : Value → Shared → Prop} {s : Shared} {Q : Value → Shared → Prop} (hh : A.handled = none) (D : ZipApart z TI TO i1 i2 a b) (hz0 : ∀ c o, h0.get? c = some o → c ≠ z ∧ c ≠ TO ∧ c ≠ i1 ∧ c ≠ i2) (h0s : h0.objs.size ≤ s.heap.objs.size) (hold : ∀ c o, h0.get? c = some o → s.heap.get? c = some o)
    (hn : min xs.size ys.size ≤ sizeLine) (hz : IsZip s.heap z TI TO .none) (hTI : IsPair s.heap TI (.ref i1) (.ref i2)) (hTO : ∃ u v, IsPair s.heap TO u v) (h1 : s.heap.IsListIter i1 a 0) (h2 : s.heap.IsListIter i2 b 0) (la : s.heap.IsList a xs) (lb : s.heap.IsList b ys)
    (hQ : ∀ (h' : Heap) (acc' : Array Value) (c' : Nat), ZEnd h0 s.heap.objs.size xs ys h' acc' c' → Q (.ref s.heap.objs.size) { s with heap := h' }) : wpAny (model prog w) A (call (.type "list") [.ref z]) Q E s := by
  have lt : ∀ {c : Addr} {o}, s.heap.get? c = some o → c ≠ s.heap.objs.size := fun e => Nat.ne_of_lt (Heap.lt_size e)
  obtain ⟨u, v, hTO⟩ := hTO
  have m1 : i1 ≠ s.heap.objs.size := let ⟨_, e, _⟩ := h1; lt e
  have m2 : i2 ≠ s.heap.objs.size := let ⟨_, e, _⟩ := h2; lt e
  have m3 : a ≠ s.heap.objs.size := let ⟨_, e, _⟩ := la; lt e
  have m4 : b ≠ s.heap.objs.size := let ⟨_, e, _⟩ := lb; lt e
  refine callType_codes (Q₁ := fun obj s₁ => obj = .ref s.heap.objs.size ∧ s₁ = { s with heap := s.heap.push { cls := .type "list", data := .seq #[] } }) F.called_list (F.typeCall_list_1 _) F.entry_list_init
    (code_list_new _ ⟨rfl, rfl⟩) fun obj s₁ hob => ?_
  obtain ⟨rfl, rfl⟩ := hob
  have hS : (s.heap.push { cls := .type "list", data := .seq #[] }).get? s.heap.objs.size = some { cls := .type "list", data := .seq #[] } := Heap.get?_push_size _ rfl
  have up : ∀ c o, s.heap.get? c = some o → (s.heap.push { cls := .type "list", data := .seq #[] }).get? c = some o := fun c o e => Heap.get?_push_of_some _ e
  refine ⟨⟨_, hS, rfl⟩, F.args_list_init_2 _ _, zip_init (A := A.in1) hh D hz0 ⟨(lt hz).symm, (lt hTO).symm, m1.symm, m2.symm⟩ h0s (lt hTI) m3 m4 hn _ ⟨up _ _ hTI, h1.at fun o e => up _ o e, h2.at fun o e => up _ o e, la.at fun o e => up _ o e, lb.at fun o e => up _ o e, .inl ⟨up _ _ hz, u, v, up _ _ hTO⟩, ⟨_, up _ _ hTO⟩, rfl, fun j v e => by simp at e, List.nodup_nil, fun c o e => up _ _ (hold c o e)⟩ (up _ _ hz) ?_ hS fun h' acc' c' ze => ?_⟩
  · show h0.objs.size ≤ (s.heap.push _).objs.size
    rw [Heap.size_push]
    omega
  · exact ⟨rfl, hQ h' acc' c' ze⟩
end
/-- tuples laid one behind the other -/
inductive Laid : Hp → List (V × V) → List Addr → Hp → Prop
  | nil {H : Hp} : Laid H [] [] H
  | cons {H H2 : Hp} {T : Addr} {x y : V} {r : List (V × V)} {ts : List Addr} : H T = none → Laid (upd H T (.tup [x, y])) r ts H2 → Laid H ((x, y) :: r) (T :: ts) H2
/-- the tuples that a walk left in the heap, brought into the abstract heap -/
theorem inv_pairs {X : Cx} {pins : List (Addr × Obj)} {σ : L2.St} {s : Shared} {h2 : Heap} : ∀ (ps : List (V × V)) (vs : List Value) (H : Hp) (G : Heap), Inv X pins σ H { s with heap := G } → (∀ b o, G.get? b = some o → h2.get? b = some o) → vs.length = ps.length →
    (∀ (j : Nat) (v : Value) (x y : V), vs[j]? = some v → ps[j]? = some (x, y) → ∃ T u u', v = .ref T ∧ G.get? T = none ∧ H T = none ∧ IsPair h2 T u u' ∧ RelV x u ∧ RelV y u') → vs.Nodup →
    ∃ ts H2 G2, vs = ts.map Value.ref ∧ Laid H ps ts H2 ∧ Inv X pins σ H2 { s with heap := G2 } ∧ (∀ b o, G2.get? b = some o → h2.get? b = some o) ∧ ∀ b, b ∉ ts → G2.get? b = G.get? b ∧ H2 b = H b
  | [], [], H, G, I, k, _, _, _ => ⟨[], H, G, rfl, .nil, I, k, fun _ _ => ⟨rfl, rfl⟩⟩
  | [], _ :: _, _, _, _, _, e, _, _ => by simp at e
  | _ :: _, [], _, _, _, _, e, _, _ => by simp at e
  | (x, y) :: ps, v :: vs, H, G, I, k, el, hp, nd => by
    obtain ⟨T, u, u', rfl, g0, hn, pr, r1, r2⟩ := hp 0 v x y rfl rfl
    obtain ⟨G1, g1, g2⟩ := restrict h2 fun b => (G.get? b).isSome || decide (b = T)
    have kG : ∀ b o, G.get? b = some o → G1.get? b = some o := fun b o e => by
      rw [g1 b (by rw [e]; rfl)]
      exact k b o e
    have kT : IsPair G1 T u u' := by
      show G1.get? T = _
      rw [g1 T (by simp)]
      exact pr
    have k2 : ∀ b o, G1.get? b = some o → h2.get? b = some o := fun b o e => by
      by_cases hb : ((G.get? b).isSome || decide (b = T)) = true
      · rw [← g1 b hb]; exact e
      · rw [g2 b (by simpa using hb)] at e; cases e
    have I1 : Inv X pins σ (upd H T (.tup [x, y])) { s with heap := G1 } := I.laidN (t' := s.toks) kG g0 hn ⟨by show 2 ≤ sizeLine; decide, [u, u'], .cons r1 (.cons r2 .nil), ⟨_, kT, rfl, _, rfl⟩⟩
    obtain ⟨nd1, nd2⟩ := List.nodup_cons.mp nd
    obtain ⟨ts, H2, G2, e1, L, I2, k3, fr⟩ := inv_pairs ps vs _ G1 I1 k2 (by simpa using el) (fun j v x y ev ep => by
      obtain ⟨T', w, w', rfl, a0, an, ap, b1, b2⟩ := hp (j + 1) v x y (by simpa using ev) (by simpa using ep)
      have ne : T' ≠ T := fun z => nd1 (by rw [← z]; exact List.mem_of_getElem? ev)
      refine ⟨T', w, w', rfl, ?_, by rw [upd_ne ne]; exact an, ap, b1, b2⟩
      exact g2 T' (by rw [a0]; simp [ne])) nd2
    refine ⟨T :: ts, H2, G2, by rw [e1]; rfl, .cons hn L, I2, k3, fun b hb => ?_⟩
    obtain ⟨n1, n2⟩ := not_or.mp (fun z => hb (List.mem_cons.mpr z))
    obtain ⟨q1, q2⟩ := fr b n2
    refine ⟨q1.trans ?_, q2.trans (upd_ne n1)⟩
    cases e : G.get? b with
    | none => exact g2 b (by rw [e]; simp [n1])
    | some o => exact kG b o e
def tLstZip (K : PySem.W.Frag) (ta : TA) : TE := fun σ H Q => ta σ H fun vs H1 => ∃ a b xs ys, vs = [.ref a, .ref b] ∧ SqL K H1 a xs ∧ SqL K H1 b ys ∧ ∀ (ts : List Addr) (H2 : Hp) (q : Addr), Laid H1 (xs.zip ys) ts H2 → H2 q = none → Q (.ref q) (upd H2 q (.lst (ts.map V.ref)))
theorem pe_listZip {X : Cx} {e e2 : Expr} {ta : TA} {p p2 pos pos2 : Pos} (hc : X.calm = true) (hm : X.mg "list" = none) (hm2 : X.mg "zip" = none) (ha : PA X [e, e2] ta) (hg : Gl X "list") (hg2 : Gl X "zip")
    (hs : starEach [e, e2] X.env = (false, eval e X.env) :: starEach [e2] X.env) (hpl : (backTo pos2 (starEach [e2] X.env)).any (·.1) = false) (nr : starEach [.Call (.Name "zip" p2) [e, e2] [] pos2] X.env = (false, eval (.Call (.Name "zip" p2) [e, e2] [] pos2) X.env) :: starEach [] X.env) :
    PE X (.Call (.Name "list" p) [.Call (.Name "zip" p2) [e, e2] [] pos2] [] pos) (tLstZip X.K ta) := by
  refine ⟨fun pn s σ H Q I h => ?_⟩
  refine Call_ (ld_blt I hg hm boot_list (PyProof.Rows.callWith_type1 (args_cons ?_ nr) nr))
  refine Call_ (ld_blt I hg2 hm2 PyProof.Rows.boot_zip (PyProof.Rows.callWith_type1 (thn (ha.run pos2 pn s σ H _ I h) fun us s1 ⟨vs, H1, I1, r1, q1⟩ => ?_) hs hpl))
  obtain ⟨a, b, xs, ys, ex, hqx, hqy, q⟩ := q1
  subst ex
  cases r1 with
  | cons r rr =>
    cases rr with
    | cons r' rr =>
      cases rr
      cases r
      cases r'
      obtain ⟨its, rv, p1, hz1⟩ := I1.list hqx
      obtain ⟨its2, rv2, p2', hz2⟩ := I1.list hqy
      refine call_zip_2 p1.isList p2'.isList fun h' hz hTI hTO h1 h2 hsz hk => args_nil ?_
      have oldlt : ∀ (c : Addr) (n : Nat) o, s1.heap.get? c = some o → c ≠ s1.heap.objs.size + n := fun c n o e => by
        have := Heap.lt_size e
        intro z
        rw [z] at this
        exact absurd this (Nat.not_lt.mpr (Nat.le_add_right _ _))
      refine call_list_zip (h0 := s1.heap) (I1.ok.hd hc) (PySem.W.ktu_apart s1.heap.objs.size a b p1.lt p2'.lt) (fun c o e => ⟨oldlt c 4 o e, oldlt c 3 o e, oldlt c 0 o e, oldlt c 1 o e⟩) (by show s1.heap.objs.size ≤ h'.objs.size; omega) hk
        (Nat.le_trans (Nat.min_le_left _ _) (by have := rv.length; simp; omega)) hz hTI ⟨_, _, hTO⟩ h1 h2 (p1.isList.at fun o e => hk _ o e) (p2'.isList.at fun o e => hk _ o e) fun h2' acc c ze => ?_
      obtain ⟨z1, z2, z3, z4, z5⟩ := ze
      have big : s1.heap.objs.size ≤ h'.objs.size := by omega
      have none_of : ∀ T : Addr, s1.heap.objs.size ≤ T → s1.heap.get? T = none := fun T hT => by
        cases e : s1.heap.get? T with
        | none => rfl
        | some o => exact absurd (Heap.lt_size e) (Nat.not_lt.mpr hT)
      have l1 := rv.length
      have l2 := rv2.length
      obtain ⟨ts, H2, G2, e1, L, I2, k3, fr⟩ := inv_pairs (h2 := h2') (xs.zip ys) acc.toList H1 s1.heap I1 z1 (by rw [Array.length_toList, z3, List.length_zip]; simp; omega) (fun j v x y ev ep => by
        obtain ⟨T, u, u', rfl, hT, _, pr, hx, hy⟩ := z2 j v (by rw [← Array.getElem?_toList]; exact ev)
        obtain ⟨ex, ey⟩ := List.getElem?_zip_eq_some.mp ep
        obtain ⟨w, hw, rw1⟩ := rv.get ex
        obtain ⟨w2, hw2, rw2⟩ := rv2.get ey
        have e3 : u = w := by
          have : its[j]? = some u := by simpa using hx
          rw [hw] at this; cases this; rfl
        have e4 : u' = w2 := by
          have : its2[j]? = some u' := by simpa using hy
          rw [hw2] at this; cases this; rfl
        subst e3 e4
        exact ⟨T, _, _, rfl, none_of T hT, I1.hok.fresh hT, pr, rw1, rw2⟩) z4
      have hSts : h'.objs.size ∉ ts := fun m => by
        have m' : Value.ref h'.objs.size ∈ acc.toList := by rw [e1]; exact List.mem_map.mpr ⟨_, m, rfl⟩
        obtain ⟨j, hj, ej⟩ := List.mem_iff_getElem.mp m'
        obtain ⟨T, u, u', eT, _, ne, _⟩ := z2 j (.ref h'.objs.size) (by rw [← Array.getElem?_toList, List.getElem?_eq_getElem hj, ej])
        cases eT
        exact ne rfl
      obtain ⟨f1, f2⟩ := fr _ hSts
      have hn2 : H2 h'.objs.size = none := f2.trans (I1.hok.fresh big)
      have vl : Vals (ts.map V.ref) acc.toList := by
        rw [e1]
        exact vals_refs ts
      refine ⟨.ref h'.objs.size, upd H2 h'.objs.size (.lst (ts.map V.ref)), I2.laidN (t' := s1.toks) k3 (f1.trans (none_of _ big)) hn2 ⟨?_, acc.toList, c, vl, ?_⟩, rfl, q ts H2 _ L hn2⟩
      · show (ts.map V.ref).length ≤ sizeLine
        have : acc.toList.length = ts.length := by rw [e1, List.length_map]
        rw [List.length_map, ← this, Array.length_toList, z3]
        exact Nat.le_trans (Nat.min_le_left _ _) (by simp; omega)
      · rw [Array.toArray_toList]; exact z5
theorem laid_rep {K : PySem.W.Frag} {E : Ent} {G M : Addr → Prop} {σ : L2.St} {δ : Env} {π : Tmp} : ∀ {ps : List (V × V)} {ts : List Addr} {H H2 : Hp}, Laid H ps ts H2 → ∀ {xs ys : List V} {ds es : List D}, ps = xs.zip ys → EncS K M H xs ds → EncS K M H ys es → RepG K E G M σ H δ π →
    RepG K E G M σ H2 δ π ∧ EncS K M H2 (ts.map V.ref) (zipD ds es) ∧ ∀ vs cs, EncS K M H vs cs → EncS K M H2 vs cs
  | _, _, _, _, .nil, xs, ys, ds, es, e, h1, h2, R => by
    refine ⟨R, ?_, fun _ _ h => h⟩
    cases h1 with
    | nil => exact .nil
    | cons a b =>
      cases h2 with
      | nil => exact .nil
      | cons c d => cases e
  | _, _, _, _, .cons (H := H) (T := T) (x := x) (y := y) hn L, xs, ys, ds, es, e, h1, h2, R => by
    cases h1 with
    | nil => cases e
    | cons a b =>
      cases h2 with
      | nil => cases e
      | cons c d =>
        simp only [List.zip_cons_cons, List.cons.injEq, Prod.mk.injEq] at e
        obtain ⟨⟨rfl, rfl⟩, e⟩ := e
        have X : Ext G M H G M (upd H T (.tup [x, y])) := ⟨fun a u q _ => by rw [upd_ne (ne_of_none q hn)]; exact q, fun _ h => h, fun _ h => .inl h, fun _ h => h, fun _ h => .inl h⟩
        have S := X.stay R.good
        have R1 := R.pair hn a c
        obtain ⟨R2, q, st⟩ := laid_rep L e (EncS.stay S b) (EncS.stay S d) R1.drop
        have t1 : EncS K M (upd H T (.tup [x, y])) [V.ref T] [_] := .cons R1.top .nil
        have t2 := st _ _ t1
        cases t2 with
        | cons u _ => exact ⟨R2, .cons u q, fun vs cs h => st _ _ (EncS.stay S h)⟩
/-- list(zip(a, b)), a and b lists -/
def tdListZip (Ts : TDA) : TD := fun δ Q => Ts δ (on2 fun s t δ2 => ∃ xs ys, View s δ2 xs ∧ View t δ2 ys ∧ ∀ p, Q (.own p (zipD xs ys)) δ2)
theorem de_listZip {X : Cx} {E : Ent} {a b : Expr} {Ts : TDA} {p p2 pos pos2 : Pos} (hc : X.calm = true) (hm : X.mg "list" = none) (hm2 : X.mg "zip" = none) (ha : DA X E [a, b] Ts) (hg : Gl X "list" := by rfl) (hg2 : Gl X "zip" := by rfl)
    (hs : starEach [a, b] X.env = (false, eval a X.env) :: starEach [b] X.env := by rfl) (hpl : (backTo pos2 (starEach [b] X.env)).any (·.1) = false := by rfl) (nr : starEach [.Call (.Name "zip" p2) [a, b] [] pos2] X.env = (false, eval (.Call (.Name "zip" p2) [a, b] [] pos2) X.env) :: starEach [] X.env := by rfl) :
    DE X E (.Call (.Name "list" p) [.Call (.Name "zip" p2) [a, b] [] pos2] [] pos) (tdListZip Ts) :=
  PE.imp (pe_listZip hc hm hm2 ha hg hg2 hs hpl nr) fun σ H Q ⟨δ, π, Q', R0, t, k⟩ =>
    ⟨δ, π, _, R0, t, fun vs H1 ss δ1 el R1 q => by
      obtain ⟨s, t, v, w, rfl, rfl, ds, es, e1, e2, q⟩ := on2_iff q el
      obtain ⟨G, M, R1⟩ := R1
      obtain ⟨ad, us, rfl, f1, g1⟩ := R1.view (v := v) (s := s) (by simp) e1
      obtain ⟨bd, ws, rfl, f2, g2⟩ := R1.view (v := w) (s := t) (by simp) e2
      refine ⟨ad, bd, us, ws, rfl, SqL.of f1, SqL.of f2, fun ts H2 z L hn => ?_⟩
      have R2 : RepG X.K E G M σ H1 δ1 π := R1.drop.drop
      obtain ⟨R3, g3, _⟩ := laid_rep L rfl g1 g2 R2
      exact k _ _ _ _ ⟨_, _, R3.fresh hn g3⟩ (q z)⟩
end HR
namespace HR
open PySem PySem.Spec L2
open PyProof.Rows hiding St
open PySem.W PySem.SeqAt
/-! ### sorted of tuples, the empty one among them -/
section
variable {prog : Program} {w : World} {A : Around} {E : Value → Shared → Prop} {s : Shared}
/-- the call of tuple's own __lt__ -/
theorem call_tupLt {Q : Value → Shared → Prop} {l b : Addr} {items items2 : Array Value} {e r : Nat → Bool} (hl : s.heap.IsTuple l items) (hb : s.heap.IsTuple b items2)
    (he : ∀ j (h1 : j < items.size) (h2 : j < items2.size), EqAt A.in1 s items[j] items2[j] (e j)) (hr : ∀ j (h1 : j < items.size) (h2 : j < items2.size), e j = false → RcLt A.in1 s items[j] items2[j] (r j))
    (h : Q (.bool (firstLt e r (decide (items.size < items2.size)) (List.range (min items.size items2.size)))) s) : wpAny (model prog w) A (call (.builtin "tuple.__lt__") [.ref l, .ref b]) Q E s := by
  obtain ⟨⟨c1, dd, d1, sl⟩, ho, hc, n, hd⟩ := id hl
  obtain ⟨⟨c2, dd2, d2, sl2⟩, ho2, hc2, n2, hd2⟩ := id hb
  simp only at hc hd hc2 hd2
  subst hc hd hc2 hd2
  exact call_meets F.slot_tuple_lt ⟨_, ho, rfl⟩ F.entry_tuple_lt (F.args_tuple_lt_2 _ _) (tuple_ltAt l b items items2 n n2 dd dd2 sl sl2 e r) ⟨ho, ho2, he, hr, h⟩
theorem oneLt_tups {xs ys : List PyData} {a b : Value} {as bs : List Addr} {Q : Bool → Shared → Prop} (ra : Reads s.heap a (.tuple xs) as) (rb : Reads s.heap b (.tuple ys) bs) (h : alike (.tuple xs) (.tuple ys) = true)
    (hu : A.units + min (PyData.tuple xs).depth (PyData.tuple ys).depth < cLine) (hq : Q (dataLt (.tuple xs) (.tuple ys)) s) : wpAny (model prog w) A (oneLt' true a b) Q E s := by
  have hal : alikeAll xs ys = true := by simpa [alike] using h
  cases ra with
  | @tuple l o vs n _ as₁ h1 h2 h3 h4 =>
    cases rb with
    | @tuple l' o' vs' n' _ bs₁ k1 k2 k3 k4 =>
      have n1 : vs.size = xs.length := by simpa using ReadsAll.length _ _ _ h4
      have n2 : vs'.size = ys.length := by simpa using ReadsAll.length _ _ _ k4
      rw [dataLt_tuple, ← firstLt_toks xs ys hal, ← n1, ← n2] at hq
      rw [oneLt'_eq]
      simp only [if_true]
      refine wpAny_bind (wpAny_cRoomFor (room_here hu) ?_)
      refine wpAny_bind (wpAny_callSpecialIfBound?_slot (T := "tuple") ⟨_, h1, h2⟩ F.slot_tuple_lt (call_tupLt (e := pairEq xs ys) (r := fun j => dataLt (xs.getD j .none) (ys.getD j .none)) ⟨_, h1, h2, _, h3⟩ ⟨_, k1, k2, _, k3⟩ (fun j j1 j2 => ?_) (fun j j1 j2 hj => ?_) ?_))
      · have q := eqAt_alikeAll xs ys A.in1 s vs.toList vs'.toList _ _ h4 k4 hal (room_in hu) j (by simpa using j1) (by simpa using j2)
        simpa using q
      · have q := rcLt_alikeAll xs ys A.in1 s vs.toList vs'.toList _ _ h4 k4 hal (room_in hu) j (by simpa using j1) (by simpa using j2) hj
        simpa using q
      · exact wpAny_truthy_bool hq
/-- tuples, with their first items (if they have one) -/
def TupOpts (h : Heap) : List Value → List (Option Value) → Prop
  | [], [] => True
  | v :: vs, f :: fs => (∃ a o xs n, v = .ref a ∧ h.get? a = some o ∧ o.cls = .type "tuple" ∧ o.data = .seq xs n ∧ xs[0]? = f) ∧ TupOpts h vs fs
  | _, _ => False
theorem firsts_opts {M : Model} : ∀ (vs : List Value) (fs : List (Option Value)) {Q : List (Option Value) → Shared → Prop}, TupOpts s.heap vs fs → Q fs s → wpAny M A (vs.mapM firstOfTuple') Q E s
  | [], [], _, _, h => by rw [List.mapM_nil]; exact wpAny_pure h
  | [], _ :: _, _, t, _ => t.elim
  | _ :: _, [], _, t, _ => t.elim
  | v :: vs, f :: fs, Q, t, h => by
    obtain ⟨⟨a, o, xs, n, rfl, ho, hc, hd, hf⟩, t⟩ := t
    rw [List.mapM_cons]
    refine wpAny_bind ?_
    rw [kas_first_eq]
    refine wpAny_bind (Looks.here (show Looks M s.heap (typeOf (.ref a)) o.cls from (Looks.ld ho).andThen .now) ?_)
    rw [hc, if_neg (by first | decide | simp)]
    refine wpAny_bind (listItems_at ho hd (wpAny_pure ?_))
    rw [hf]
    exact wpAny_bind (firsts_opts vs fs (Q := fun bs s' => wpAny M A (pure (f :: bs)) Q E s') t (wpAny_pure h))
theorem tupOpts_type {M : Model} : ∀ {vs : List Value} {fs : List (Option Value)} {h : Heap}, TupOpts h vs fs → ∀ v ∈ vs, Looks M h (typeOf v) (.type "tuple")
  | [], _, _, _, v, hv => by cases hv
  | v :: vs, [], _, t, _, _ => t.elim
  | v :: vs, f :: fs, h, ⟨⟨a, o, xs, n, e, ho, hc, _, _⟩, t⟩, u, hu => by
    rcases List.mem_cons.mp hu with rfl | hu
    · subst e
      exact hc ▸ (show Looks M h (typeOf (.ref a)) o.cls from (Looks.ld ho).andThen .now)
    · exact tupOpts_type t u hu
/-- the first tuple is empty -/
theorem kind_opts {M : Model} {v : Value} {vs : List Value} {fs : List (Option Value)} {Q : SortKind → Shared → Prop} (t : TupOpts s.heap (v :: vs) (none :: fs)) (h : Q oneType' s) : wpAny M A (keyKind' (v :: vs).toArray) Q E s := by
  rw [kat_kind_eq, List.mapM_toArray, map_eq_pure_bind]
  refine wpAny_bind (wpAny_bind (firsts_opts (v :: vs) (none :: fs) t (wpAny_pure ?_)))
  rw [if_neg (by simp), if_neg (by simp)]
  rw [oneTypeOnly'_eq, List.mapM_toArray, map_eq_pure_bind]
  refine wpAny_bind (wpAny_bind (wpAny_bind (kas_mapM (r := Value.type "tuple") _ (fun u hu Q' hq => (tupOpts_type t u hu).here hq) (wpAny_pure ?_))))
  have hall : ((List.map (fun _ => Value.type "tuple") (v :: vs)).toArray.all fun x => x == Value.type "tuple") = true := by
    simp only [List.all_toArray, List.all_map, List.all_eq_true]
    intro _ _
    exact beq_self_eq_true _
  have h0 : (List.map (fun _ => Value.type "tuple") (v :: vs)).toArray[0]? = some (Value.type "tuple") := by simp
  rw [h0]
  simp only [hall, if_true]
  exact wpAny_pure (wpAny_pure h)
theorem opts_of : ∀ {vs : List Value} {ds : List PyData} {h : Heap}, EachIs (fun v d => ∃ as, Reads h v d as) vs ds → (∀ d ∈ ds, ∃ xs, d = .tuple xs) → ∃ fs, TupOpts h vs fs ∧ ∀ r, ds = .tuple [] :: r → ∃ fr, fs = none :: fr
  | _, _, h, .nil, _ => ⟨[], trivial, fun _ e => by cases e⟩
  | _, _, h, .cons (b := d) ⟨as, r⟩ t, ht => by
    obtain ⟨fs, h1, _⟩ := opts_of t fun d hd => ht d (List.mem_cons_of_mem _ hd)
    obtain ⟨xs, rfl⟩ := ht d List.mem_cons_self
    cases r with
    | @tuple a o ws n _ _ ho hc hd hr =>
      refine ⟨ws[0]? :: fs, ⟨⟨a, o, ws, n, rfl, ho, hc, hd, rfl⟩, h1⟩, fun q e => ?_⟩
      injection e with e1 e2
      injection e1 with e1
      subst e1
      have : ws.toList = [] := by cases q : ws.toList with
        | nil => rfl
        | cons u r => rw [q] at hr; cases hr
      have : ws = #[] := by simpa using this
      subst this
      exact ⟨fs, rfl⟩
/-- alike tuples, the first of them empty, can be sorted -/
theorem sortsAt_opts {vs : List Value} {ds : List PyData} (e : EachIs (fun v d => ∃ as, Reads s.heap v d as) vs ds) (hal : AllAlike ds) (ht : ∀ d ∈ ds, ∃ xs, d = .tuple xs) (h0 : ∃ r, ds = .tuple [] :: r) (hu : ∀ d, d ∈ ds → A.units + d.depth < cLine) : SortsAt prog w A s (dataKind s.heap ds) vs := by
  refine ⟨fun v hv => ?_, oneType', ?_, fun h2 E Q hq => ?_⟩
  · obtain ⟨d, hd, as, r⟩ := e.left v hv
    exact ⟨_, dataKind_some hal hd r⟩
  · intro E x y a b Q ha hb hq
    obtain ⟨d, as, hd, ra, rfl⟩ := dataKind_inv ha
    obtain ⟨d', as', hd', rb, rfl⟩ := dataKind_inv hb
    obtain ⟨xs, rfl⟩ := ht d hd
    obtain ⟨ys, rfl⟩ := ht d' hd'
    rw [keyLt'_oneType]
    exact oneLt_tups ra rb (hal _ hd _ hd') (Nat.lt_of_le_of_lt (Nat.add_le_add_left (Nat.min_le_left _ _) _) (hu _ hd)) hq
  · obtain ⟨fs, t, hf⟩ := opts_of e ht
    obtain ⟨r, rfl⟩ := h0
    obtain ⟨fr, rfl⟩ := hf r rfl
    cases e with
    | cons h1 h3 => exact kind_opts t hq
end
/-- what sorted asks of the items' data -/
def SortOk (ds : List PyData) : Prop := Sortable ds ∨ ((∀ d ∈ ds, ∃ xs, d = .tuple xs) ∧ ∃ r, ds = .tuple [] :: r)
theorem sorted_dat {prog : Program} {w : World} {A : Around} {E : Value → Shared → Prop} {s : Shared} {β : Type} {vs : List Value} {bs : List β} {enc : β → PyData} {R : Value → β → Prop} {l : Addr} {Q : Value → Shared → Prop} (hl : s.heap.IsList l vs.toArray) (e : EachIs R vs bs) (er : EachIs (fun v b => ∃ as, Reads s.heap v (enc b) as) vs bs)
    (hal : AllAlike (bs.map enc)) (hk : SortOk (bs.map enc)) (hL : bs.length ≤ sizeLine) (hu : ∀ b, b ∈ bs → A.units + 2 + (enc b).depth < cLine)
    (h : ∀ out, out.length = bs.length → EachIs R out (bs.mergeSort (dataLe false enc)) → Q (.ref (s.heap.objs.size + 1)) { s with heap := sortedAll s.heap vs (List.toArray out) }) : wpAny (model prog w) A (call (.builtin "sorted") [.ref l]) Q E s := by
  rcases hk with hk | ⟨h1, h2⟩
  · exact sorted_data hl e er hal hk hL hu h
  · have er' : EachIs (fun v b => ∃ as, Reads (sortingHeap (copyHeap s.heap vs) (s.heap.objs.size + 1) vs) v (enc b) as) vs bs := er.mono fun _ _ ⟨as, r⟩ => ⟨as, PyProof.Rows.Reads.keeps (fun _ _ => sorting_copy_old) r⟩
    exact sorted_vals hl (sortsAt_opts (s := { s with heap := sortingHeap (copyHeap s.heap vs) (s.heap.objs.size + 1) vs }) (each_map (R := fun v d => ∃ as, Reads (sortingHeap (copyHeap s.heap vs) (s.heap.objs.size + 1) vs) v d as) enc er') hal h1 h2 (bound_map hu)) (by rw [e.length]; exact hL)
      (h _ (by rw [sortVals_length false rfl]; exact e.length) (sortVals_data false e er' hal))
theorem each_of_dp {X : Cx} {pins : List (Addr × Obj)} {σ : L2.St} {H : Hp} {s : Shared} (I : Inv X pins σ H s) : ∀ {vs : List V} {us : List Value} {ds : List PyData}, Vals vs us → DpAll X.K H vs ds → EachIs (fun u (b : V × PyData) => RelV b.1 u) us (vs.zip ds) ∧ EachIs (fun u (b : V × PyData) => ∃ as, Reads s.heap u b.2 as) us (vs.zip ds)
  | _, _, _, .nil, .nil => ⟨.nil, .nil⟩
  | _, _, _, .cons r rs, .cons h hs => by
    obtain ⟨e1, e2⟩ := each_of_dp I rs hs
    exact ⟨.cons r e1, .cons (Dp.reads I _ _ _ h r) e2⟩
theorem vals_of_each : ∀ {us : List Value} {bs : List (V × PyData)}, EachIs (fun u (b : V × PyData) => RelV b.1 u) us bs → Vals (bs.map (·.1)) us
  | _, _, .nil => .nil
  | _, _, .cons r rs => .cons r (vals_of_each rs)
/-- sorted(xs), xs a list of alike data -/
def rSortDat (K : PySem.W.Frag) : List V → Hp → VK → Prop := fun vs H Q => ∃ (a : Addr) (xs : List V) (ds : List PyData), vs = [.ref a] ∧ SqL K H a xs ∧ DpAll K H xs ds ∧ AllAlike ds ∧ SortOk ds ∧ (∀ d ∈ ds, d.depth ≤ 60) ∧
  ∀ (zs : List (V × PyData)) (q : Addr), zs = (xs.zip ds).mergeSort (dataLe false (fun b : V × PyData => b.2)) → H q = none → Q (.ref q) (upd H q (.lst (zs.map (·.1))))
theorem dpAll_len {K : PySem.W.Frag} {H : Hp} : ∀ {vs : List V} {ds : List PyData}, DpAll K H vs ds → vs.length = ds.length
  | _, _, .nil => rfl
  | _, _, .cons _ hs => by simp [dpAll_len hs]
theorem map_snd_zip {K : PySem.W.Frag} {H : Hp} {vs : List V} {ds : List PyData} (h : DpAll K H vs ds) : (vs.zip ds).map (fun b : V × PyData => b.2) = ds := List.map_snd_zip (by rw [dpAll_len h]; exact Nat.le_refl _)
theorem cr_sortDat {X : Cx} (hu : X.A.units + 64 < cLine) : CallR X (.builtin "sorted") (rSortDat X.K) := by
  intro pn s σ H vs us Q I r h
  obtain ⟨a, xs, ds, rfl, hs, hd, hal, hk, hdep, q⟩ := h
  obtain ⟨its, rv, hl, hz⟩ := I.list hs
  rw [Vals.ref1 r]
  obtain ⟨e1, e2⟩ := each_of_dp I rv hd
  have em := map_snd_zip hd
  refine sorted_dat (enc := fun b : V × PyData => b.2) hl.isList e1 e2 (by rw [em]; exact hal) (by rw [em]; exact hk) ?_ (fun b hb => ?_) fun out ho eo => ?_
  · rw [List.length_zip]
    exact Nat.le_trans (Nat.min_le_left _ _) hz
  · have := hdep b.2 (by rw [← em]; exact List.mem_map.mpr ⟨b, hb, rfl⟩)
    omega
  · obtain ⟨ep, he'⟩ := PyProof.Rows.sortedAll_at s.heap its (List.toArray out)
    have hp : ((xs.zip ds).mergeSort (dataLe false fun b : V × PyData => b.2)).length ≤ sizeLine := by
      rw [List.length_mergeSort, List.length_zip]
      exact Nat.le_trans (Nat.min_le_left _ _) hz
    refine ⟨.ref _, upd H (s.heap.objs.size + 1) (.lst (((xs.zip ds).mergeSort (dataLe false fun b : V × PyData => b.2)).map (·.1))), I.laid (t' := s.toks) (fun _ _ => PyProof.Rows.sortedAll_old) (Nat.le_succ _) ⟨by rw [List.length_map]; exact hp, out, ep, vals_of_each eo, he'⟩, rfl, q _ _ rfl (I.hok.fresh (Nat.le_succ _))⟩
/-! the rule -/
theorem encS_zip {K : PySem.W.Frag} {M : Addr → Prop} {H : Hp} : ∀ {vs : List V} {ds : List D}, EncS K M H vs ds → ∀ b ∈ vs.zip ds, Enc K M H b.1 b.2
  | _, _, .nil, b, h => by cases h
  | _, _, .cons h r, b, m => by
    rw [List.zip_cons_cons] at m
    rcases List.mem_cons.mp m with rfl | m
    · exact h
    · exact encS_zip r b m
theorem encS_of {K : PySem.W.Frag} {M : Addr → Prop} {H : Hp} : ∀ {bs : List (V × D)}, (∀ b ∈ bs, Enc K M H b.1 b.2) → EncS K M H (bs.map (·.1)) (bs.map (·.2))
  | [], _ => .nil
  | b :: bs, h => .cons (h b List.mem_cons_self) (encS_of fun c m => h c (List.mem_cons_of_mem _ m))
theorem encS_dpAll {K : PySem.W.Frag} {M : Addr → Prop} {H : Hp} : ∀ {vs : List V} {ds : List D}, EncS K M H vs ds → DpAll K H vs ds
  | _, _, .nil => .nil
  | _, _, .cons h r => .cons (Enc.dp h) (encS_dpAll r)
def sortDatD (s : SV) (δ : Env) (Q : VD) : Prop := ∃ ds, View s δ ds ∧ AllAlike ds ∧ SortOk ds ∧ (∀ d ∈ ds, d.depth ≤ 60) ∧ ∀ p, Q (.own p (ds.mergeSort (dataLe false fun d : D => d))) δ
theorem sort_snd {vs : List V} {ds : List D} (el : vs.length = ds.length) : ((vs.zip ds).mergeSort (dataLe false fun b : V × D => b.2)).map (fun b => b.2) = ds.mergeSort (dataLe false fun d : D => d) := by
  refine (sort_maps (r := dataLe false fun b : V × D => b.2) (s := dataLe false fun d : D => d) (fun b : V × D => b.2) (fun _ _ _ _ => rfl)).trans ?_
  rw [List.map_snd_zip (by rw [el]; exact Nat.le_refl _)]
theorem snd_sortDat {K : PySem.W.Frag} {E : Ent} : SndC K E (rSortDat K) (fun ss δ Q => on1 (fun s δ => sortDatD s δ Q) ss δ) := snd1 fun σ H v s δ π Q Q' R ⟨ds, e, ha, hk, hd, q⟩ k => by
  obtain ⟨G, M, R⟩ := R
  obtain ⟨a, vs, rfl, a1, a2⟩ := R.view List.mem_cons_self e
  refine ⟨a, vs, ds, rfl, SqL.of a1, encS_dpAll a2, ha, hk, hd, fun zs z hz hn => ?_⟩
  subst hz
  have en : EncS K M H (((vs.zip ds).mergeSort (dataLe false fun b : V × D => b.2)).map (·.1)) (ds.mergeSort (dataLe false fun d : D => d)) := by
    rw [← sort_snd a2.length]
    exact encS_of fun b m => encS_zip a2 b (List.mem_mergeSort.mp m)
  exact k _ _ _ _ ⟨_, _, R.drop.fresh hn en⟩ (q z)
theorem de_sortDat {X : Cx} {E : Ent} {e : Expr} {Ts : TDA} {pos p : Pos} (hu : X.A.units + 64 < cLine) (hm : X.mg "sorted" = none) (ha : DA X E [e] Ts) (hg : Gl X "sorted" := by rfl)
    (he : starEach [e] X.env = (false, eval e X.env) :: starEach [] X.env := by rfl) : DE X E (.Call (.Name "sorted" p) [e] [] pos) (tdCB (fun ss δ Q => on1 (fun s δ => sortDatD s δ Q) ss δ) Ts) :=
  de_callB (cr_sortDat hu) snd_sortDat rfl hm ha hg (by decide) (by decide) he rfl
/-- typed data -/
theorem sortDat_typed {α : Type} [DecidableEq α] [DatumOrd α] {s : SV} {δ : Env} {Q : VD} (as : List α) (h : View s δ (as.map Datum.toD)) (hk : SortOk (as.map Datum.toD)) (hd : Datum.depth α ≤ 60)
    (q : ∀ zs : List α, zs = as.mergeSort (dataLe false fun x : α => Datum.toD x) → zs.Perm as → zs.Pairwise (fun x y => DatumOrd.lt y x = false) → ∀ p, Q (.own p (zs.map Datum.toD)) δ) : sortDatD s δ Q := by
  refine ⟨_, h, fun d m d' m' => ?_, hk, fun d m => ?_, fun p => ?_⟩
  · obtain ⟨x, _, rfl⟩ := List.mem_map.mp m
    obtain ⟨y, _, rfl⟩ := List.mem_map.mp m'
    exact DatumOrd.alike x y
  · obtain ⟨x, _, rfl⟩ := List.mem_map.mp m
    exact Nat.le_trans (Datum.depth_le x) hd
  · have e : (as.map Datum.toD).mergeSort (dataLe false fun d : D => d) = (as.mergeSort (dataLe false fun x : α => Datum.toD x)).map Datum.toD :=
      (sort_maps (Datum.toD : α → D) (fun _ _ _ _ => rfl)).symm
    rw [e]
    refine q _ rfl (List.mergeSort_perm _ _) ?_ p
    refine (sort_pairwise (sortLe_total (listOrd itemOrd) false _) as).imp fun {x y} h => ?_
    have h' : (!dataLt (Datum.toD y) (Datum.toD x)) = true := h
    rw [DatumOrd.lt_eq] at h'
    simpa using h'
theorem sortDat_rest {α : Type} [DecidableEq α] [DatumOrd α] {Z : List D → Prop} (as : List α) (hk : SortOk (as.map Datum.toD)) (hd : Datum.depth α ≤ 60)
    (q : ∀ zs : List α, zs = as.mergeSort (dataLe false fun x : α => Datum.toD x) → zs.Perm as → zs.Pairwise (fun x y => DatumOrd.lt y x = false) → Z (zs.map Datum.toD)) :
    AllAlike (as.map Datum.toD) ∧ SortOk (as.map Datum.toD) ∧ (∀ d ∈ as.map Datum.toD, d.depth ≤ 60) ∧ Z ((as.map Datum.toD).mergeSort (dataLe false fun d : D => d)) := by
  obtain ⟨ds, h1, h2, h3, h4, h5⟩ := sortDat_typed (s := .own 0 (as.map Datum.toD)) (δ := []) (Q := fun r _ => match r with
    | .own _ es => Z es
    | _ => True) as rfl hk hd fun zs e1 e2 e3 _ => q zs e1 e2 e3
  have e : as.map Datum.toD = ds := by
    have z : some (tagOf (.own 0 (as.map Datum.toD)), as.map Datum.toD) = some (tagOf (.own 0 (as.map Datum.toD)), ds) := h1
    injection z with z
    exact congrArg Prod.snd z
  subst e
  exact ⟨h2, h3, h4, h5 0⟩
end HR
namespace HR
open PySem PySem.Spec L2
open PyProof.Rows hiding St
/-! the mathematics of states -/
theorem get_last1 {α : Type} {xs : List α} (h : xs ≠ []) : getI xs (-1) = xs.getLast? := by
  unfold getI
  rw [if_neg (by decide), if_pos (by cases xs with | nil => exact absurd rfl h | cons a r => simp), List.getLast?_eq_getElem?]
  rfl
def asInts : List D → Option (List Int)
  | [] => some []
  | .int i :: r => (asInts r).map (i :: ·)
  | _ :: _ => none
theorem asInts_map : ∀ xs : List Int, asInts (xs.map .int) = some xs
  | [] => rfl
  | x :: xs => by simp [asInts, asInts_map xs]
theorem asInts_some : ∀ {ds : List D} {xs : List Int}, asInts ds = some xs → ds = xs.map .int
  | [], xs, h => by cases h; rfl
  | .int i :: r, xs, h => by
    simp only [asInts, Option.map_eq_some_iff] at h
    obtain ⟨ys, h1, rfl⟩ := h
    rw [asInts_some h1]
    rfl
  | .none :: r, xs, h => by cases h
  | .bool _ :: r, xs, h => by cases h
  | .str _ :: r, xs, h => by cases h
  | .list _ :: r, xs, h => by cases h
  | .tuple _ :: r, xs, h => by cases h
  | .dict _ :: r, xs, h => by cases h
def mInt (d : D) (lo hi : Int) : Bool := match d with
  | .int i => decide (lo ≤ i) && decide (i ≤ hi)
  | _ => false
def asc : List Int → Bool
  | [] => true
  | [_] => true
  | x :: y :: r => decide (x < y) && asc (y :: r)
def isRows (n : Int) (xs : List Int) : Bool := (xs.all fun x => decide (1 ≤ x) && decide (x ≤ n)) && asc xs
def mRowsT (n : Int) (o : Option (List Int)) : Bool := match o with
  | some xs => isRows n xs
  | none => false
def mRows (n : Int) (d : D) : Bool := match d with
  | .tuple ds => mRowsT n (asInts ds)
  | _ => false
def mState (d : D) : Bool := match d with
  | .tuple [.int n, h] => decide (1 ≤ n) && decide (n ≤ 40) && mRows n h
  | _ => false
theorem all_mInt {n : Int} : ∀ {ds : List D}, (ds.all fun d => mInt d 1 n) = true → ∃ xs : List Int, ds = xs.map .int ∧ (xs.all fun x => decide (1 ≤ x) && decide (x ≤ n)) = true
  | [], _ => ⟨[], rfl, rfl⟩
  | d :: ds, h => by
    simp only [List.all_cons, Bool.and_eq_true] at h
    obtain ⟨xs, rfl, hx⟩ := all_mInt h.2
    cases d with
    | int i => exact ⟨i :: xs, rfl, by simp only [List.all_cons, Bool.and_eq_true]; exact ⟨by simpa [mInt] using h.1, hx⟩⟩
    | _ => cases h.1
theorem not_all_mInt {n : Int} {ds : List D} (h : (ds.all fun d => mInt d 1 n) = false) : mRows n (.tuple ds) = false := by
  show mRowsT n (asInts ds) = false
  cases e : asInts ds with
  | none => rfl
  | some xs =>
    have := asInts_some e
    subst this
    have : (xs.all fun x => decide (1 ≤ x) && decide (x ≤ n)) = false := by rw [← h, List.all_map]; rfl
    show isRows n xs = false
    unfold isRows
    rw [this, Bool.false_and]
theorem asc_zip : ∀ xs : List Int, ((xs.zip (xs.drop 1)).all fun p => decide (p.1 < p.2)) = asc xs
  | [] => rfl
  | [_] => rfl
  | x :: y :: r => by
    have ih := asc_zip (y :: r)
    simp only [List.drop_succ_cons, List.drop_zero] at ih ⊢
    rw [List.zip_cons_cons, List.all_cons, ih]
    rfl
theorem asc_pw : ∀ {xs : List Int}, asc xs = true ↔ xs.Pairwise (· < ·)
  | [] => by simp [asc]
  | [_] => by simp [asc]
  | x :: y :: r => by
    have ih := asc_pw (xs := y :: r)
    show (decide (x < y) && asc (y :: r)) = true ↔ _
    rw [Bool.and_eq_true, ih, List.pairwise_cons (a := x), decide_eq_true_eq]
    constructor
    · rintro ⟨h1, h2⟩
      refine ⟨fun z hz => ?_, h2⟩
      rcases List.mem_cons.mp hz with rfl | hz
      · exact h1
      · exact Int.lt_trans h1 ((List.pairwise_cons.mp h2).1 z hz)
    · rintro ⟨h1, h2⟩
      exact ⟨h1 y List.mem_cons_self, h2⟩
/-- a state -/
structure IsSt (n : Int) (xs : List Int) : Prop where
  n1 : 1 ≤ n
  n2 : n ≤ 40
  rows : ∀ x ∈ xs, 1 ≤ x ∧ x ≤ n
  asc : xs.Pairwise (· < ·)
abbrev tupI (xs : List Int) : D := .tuple (xs.map .int)
abbrev stD' (n : Int) (xs : List Int) : D := .tuple [.int n, tupI xs]
theorem isRows_iff {n : Int} {xs : List Int} : isRows n xs = true ↔ (∀ x ∈ xs, 1 ≤ x ∧ x ≤ n) ∧ xs.Pairwise (· < ·) := by
  unfold isRows
  rw [Bool.and_eq_true, asc_pw, List.all_eq_true]
  simp
theorem mState_iff {n : Int} {xs : List Int} : mState (stD' n xs) = true ↔ IsSt n xs := by
  show (decide (1 ≤ n) && decide (n ≤ 40) && mRows n (tupI xs)) = true ↔ _
  have : mRows n (tupI xs) = isRows n xs := by
    show mRowsT n (asInts (xs.map .int)) = _
    rw [asInts_map]; rfl
  rw [this, Bool.and_eq_true, Bool.and_eq_true, isRows_iff, decide_eq_true_eq, decide_eq_true_eq]
  exact ⟨fun ⟨⟨a, b⟩, c, d⟩ => ⟨a, b, c, d⟩, fun ⟨a, b, c, d⟩ => ⟨⟨a, b⟩, c, d⟩⟩
theorem IsSt.ok {n : Int} {xs : List Int} (h : IsSt n xs) : mState (stD' n xs) = true := mState_iff.mpr h
theorem mState_some {d : D} (h : mState d = true) : ∃ n xs, d = stD' n xs ∧ IsSt n xs := by
  unfold mState at h
  split at h
  · rename_i n e
    have h' := h
    rw [Bool.and_eq_true] at h'
    have h2 := h'.2
    cases e with
    | tuple ds =>
      have h3 : mRowsT n (asInts ds) = true := h2
      cases hy : asInts ds with
      | none => rw [hy] at h3; cases h3
      | some ys =>
        have := asInts_some hy
        subst this
        exact ⟨n, ys, rfl, mState_iff.mp h⟩
    | _ => cases h2
  · cases h
theorem noDicts_int : ∀ xs : List Int, noDicts (xs.map .int) = true
  | [] => rfl
  | x :: xs => by simp [noDicts, noDict, noDicts_int xs]
theorem noDict_st (n : Int) (xs : List Int) : noDict (stD' n xs) = true := by simp [noDict, noDicts, noDicts_int]
/-- the length of ascending rows -/
theorem asc_len : ∀ {xs : List Int} {a b : Int}, xs.Pairwise (· < ·) → (∀ x ∈ xs, a ≤ x ∧ x ≤ b) → a ≤ b + 1 → (xs.length : Int) ≤ b - a + 1
  | [], a, b, _, _, h => by simp; omega
  | x :: xs, a, b, h, hx, hab => by
    obtain ⟨h1, h2⟩ := List.pairwise_cons.mp h
    have hx0 := hx x List.mem_cons_self
    have ih := asc_len (a := x + 1) (b := b) h2 (fun y hy => ⟨by have := h1 y hy; omega, (hx y (List.mem_cons_of_mem _ hy)).2⟩) (by omega)
    simp only [List.length_cons]
    omega
theorem IsSt.len {n : Int} {xs : List Int} (h : IsSt n xs) : xs.length ≤ 40 := by
  have := asc_len h.asc h.rows (by have := h.n1; omega)
  have := h.n2
  omega
/-- the blocks -/
def blkStep (acc : List (Int × Int)) (x : Int) : List (Int × Int) := match acc.getLast? with
  | some (a, b) => if b = x - 1 then acc.dropLast ++ [(a, x)] else acc ++ [(x, x)]
  | none => acc ++ [(x, x)]
def blocksOf (xs : List Int) : List (Int × Int) := xs.foldl blkStep []
theorem blkStep_len (acc : List (Int × Int)) (x : Int) : (blkStep acc x).length ≤ acc.length + 1 := by
  unfold blkStep
  split
  · split <;> simp <;> omega
  · simp
theorem blkFold_len : ∀ (xs : List Int) (acc : List (Int × Int)), (xs.foldl blkStep acc).length ≤ acc.length + xs.length
  | [], acc => by simp
  | x :: xs, acc => by
    have h1 := blkFold_len xs (blkStep acc x)
    have h2 := blkStep_len acc x
    simp only [List.foldl_cons, List.length_cons] at *
    omega
theorem blocksOf_len (xs : List Int) : (blocksOf xs).length ≤ xs.length := by
  have := blkFold_len xs []
  unfold blocksOf
  simpa using this
abbrev prD (q : Int × Int) : D := .tuple [.int q.1, .int q.2]
abbrev prsD (ps : List (Int × Int)) : List D := ps.map prD
abbrev intsD (xs : List Int) : List D := xs.map .int
def optD : Option Int → D
  | none => .none
  | some i => .int i
/-- the visible rows -/
def seenOf (n : Int) (xs : List Int) : List Int := ((List.range n.toNat).map fun i : Nat => (1 + (i : Int))).filter fun r => decide (r ∉ xs)
/-! blocks, by their tops and ends -/
def topsI (xs : List Int) : List Int := xs.filter fun r => decide (r - 1 ∉ xs)
def endsI (xs : List Int) : List Int := xs.filter fun r => decide (r + 1 ∉ xs)
theorem snoc_ind {α : Type} {P : List α → Prop} (h0 : P []) (h1 : ∀ xs x, P xs → P (xs ++ [x])) : ∀ xs, P xs := by
  have key : ∀ n (xs : List α), xs.length = n → P xs := by
    intro n
    induction n with
    | zero => intro xs h; rw [List.eq_nil_of_length_eq_zero h]; exact h0
    | succ n ih =>
      intro xs h
      rcases List.eq_nil_or_concat xs with rfl | ⟨ys, y, rfl⟩
      · exact h0
      · rw [List.concat_eq_append] at *
        exact h1 ys y (ih ys (by simpa using h))
  exact fun xs => key _ xs rfl
theorem asc_snoc {xs : List Int} {x : Int} (h : (xs ++ [x]).Pairwise (· < ·)) : xs.Pairwise (· < ·) ∧ ∀ y ∈ xs, y < x := by
  obtain ⟨h1, _, h2⟩ := List.pairwise_append.mp h
  exact ⟨h1, fun y hy => h2 y hy x (by simp)⟩
theorem asc_last {xs : List Int} {l x : Int} (h : xs.Pairwise (· < ·)) (hl : xs.getLast? = some l) (hx : x ∈ xs) : x ≤ l := by
  rcases List.eq_nil_or_concat xs with rfl | ⟨ys, y, rfl⟩
  · cases hx
  · rw [List.concat_eq_append] at *
    rw [List.getLast?_append] at hl
    cases hl
    rcases List.mem_append.mp hx with hx | hx
    · exact Int.le_of_lt ((asc_snoc h).2 x hx)
    · rw [List.mem_singleton.mp hx]; exact Int.le_refl _
theorem tops_snoc {xs : List Int} {x : Int} (hx : ∀ y ∈ xs, y < x) : topsI (xs ++ [x]) = topsI xs ++ if x - 1 ∈ xs then [] else [x] := by
  unfold topsI
  rw [List.filter_append, List.filter_cons, List.filter_nil]
  congr 1
  · refine List.filter_congr fun r hr => ?_
    have := hx r hr
    refine decide_eq_decide.mpr (not_congr ?_)
    rw [List.mem_append, List.mem_singleton]
    exact ⟨fun h => h.elim id fun e => by omega, .inl⟩
  · by_cases h : x - 1 ∈ xs
    · rw [if_pos h, if_neg (by simp [h])]
    · rw [if_neg h, if_pos (by simp [h]; omega)]
theorem blocks_zip : ∀ xs : List Int, xs.Pairwise (· < ·) → blocksOf xs = (topsI xs).zip (endsI xs) ∧ (topsI xs).length = (endsI xs).length ∧ ∀ l, xs.getLast? = some l → (endsI xs).getLast? = some l := by
  refine snoc_ind (fun _ => ⟨rfl, rfl, fun _ h => by cases h⟩) fun xs x ih h => ?_
  obtain ⟨h1, h2⟩ := asc_snoc h
  obtain ⟨e1, e2, e3⟩ := ih h1
  have et := tops_snoc h2
  have en : endsI (xs ++ [x]) = xs.filter (fun r => decide (r + 1 ∉ xs ++ [x])) ++ [x] := by
    unfold endsI
    rw [List.filter_append, List.filter_cons, List.filter_nil]
    congr 1
    rw [if_pos]
    refine decide_eq_true fun m => ?_
    rcases List.mem_append.mp m with m | m
    · have := h2 _ m; omega
    · have := List.mem_singleton.mp m; omega
  have eb : blocksOf (xs ++ [x]) = blkStep (blocksOf xs) x := by simp [blocksOf]
  rw [eb, e1, et, en]
  by_cases hm : x - 1 ∈ xs
  · -- the last block grows
    rw [if_pos hm, List.append_nil]
    rcases List.eq_nil_or_concat xs with rfl | ⟨ys, l, rfl⟩
    · cases hm
    rw [List.concat_eq_append] at *
    have hl : l = x - 1 := by
      have a1 := asc_last h1 (l := l) (by simp) hm
      have a2 := h2 l (by simp)
      omega
    have e3 := e3 l (by simp)
    obtain ⟨es, ee⟩ : ∃ es, endsI (ys ++ [l]) = es ++ [l] := by
      rcases List.eq_nil_or_concat (endsI (ys ++ [l])) with e | ⟨es, y, e⟩
      · rw [e] at e3; cases e3
      · rw [List.concat_eq_append] at e
        rw [e, List.getLast?_append] at e3
        cases e3
        exact ⟨es, e⟩
    have ef : (ys ++ [l]).filter (fun r => decide (r + 1 ∉ ys ++ [l] ++ [x])) = es := by
      have a1 : (ys ++ [l]).filter (fun r => decide (r + 1 ∉ ys ++ [l] ++ [x])) = (endsI (ys ++ [l])).filter fun r => decide (r ≠ l) := by
        unfold endsI
        rw [List.filter_filter]
        refine List.filter_congr fun r hr => ?_
        rw [Bool.eq_iff_iff, Bool.and_eq_true, decide_eq_true_eq, decide_eq_true_eq, decide_eq_true_eq, List.mem_append (t := [x]), List.mem_singleton]
        constructor
        · intro z
          exact ⟨fun e => z (.inr (by omega)), fun m => z (.inl m)⟩
        · rintro ⟨z1, z2⟩ (m | m)
          · exact z2 m
          · exact z1 (by omega)
      rw [a1, ee, List.filter_append, List.filter_cons, List.filter_nil, if_neg (by simp), List.append_nil]
      refine List.filter_eq_self.mpr fun r hr => decide_eq_true ?_
      rintro rfl
      have nd : (endsI (ys ++ [r])).Pairwise (· < ·) := h1.filter _
      rw [ee] at nd
      have := (asc_snoc nd).2 r hr
      omega
    rw [ef]
    rw [ee] at e2 ⊢
    rcases List.eq_nil_or_concat (topsI (ys ++ [l])) with e | ⟨ts, t, e⟩
    · rw [e] at e2; simp at e2
    rw [List.concat_eq_append] at e
    rw [e] at e2 ⊢
    have len : ts.length = es.length := by simpa using e2
    refine ⟨?_, by simpa using e2, fun m hm => by simpa using hm⟩
    rw [List.zip_append len, List.zip_append len]
    show blkStep (ts.zip es ++ [(t, l)]) x = _
    unfold blkStep
    rw [List.getLast?_append]
    show (if l = x - 1 then (ts.zip es ++ [(t, l)]).dropLast ++ [(t, x)] else _) = _
    rw [if_pos hl, List.dropLast_concat]
    rfl
  · rw [if_neg hm]
    have ef : xs.filter (fun r => decide (r + 1 ∉ xs ++ [x])) = endsI xs := by
      refine List.filter_congr fun r hr => decide_eq_decide.mpr (not_congr ?_)
      rw [List.mem_append, List.mem_singleton]
      exact ⟨fun h => h.elim id fun e => absurd (show x - 1 ∈ xs by rw [show x - 1 = r by omega]; exact hr) hm, .inl⟩
    rw [ef]
    refine ⟨?_, by simp [e2], fun m hm => by simpa using hm⟩
    rw [List.zip_append e2]
    unfold blkStep
    cases hl : ((topsI xs).zip (endsI xs)).getLast? with
    | none => rfl
    | some p =>
      obtain ⟨u, v⟩ := p
      have hv : v ∈ xs := by
        have m := List.mem_of_getLast? hl
        have := (List.of_mem_zip m).2
        exact (List.mem_filter.mp this).1
      show (if v = x - 1 then _ else _) = _
      rw [if_neg (fun z : v = x - 1 => hm (z ▸ hv))]
      rfl
theorem st_inj {n m : Int} {xs ys : List Int} (e : stD' n xs = stD' m ys) : n = m ∧ xs = ys := by
  have h1 : PyData.eqv (PySem.W.Datum.toD ((n, ⟨xs⟩) : Int × PySem.W.Tup Int)) (PySem.W.Datum.toD ((m, ⟨ys⟩) : Int × PySem.W.Tup Int)) = true := by
    rw [show PySem.W.Datum.toD ((m, ⟨ys⟩) : Int × PySem.W.Tup Int) = PySem.W.Datum.toD ((n, ⟨xs⟩) : Int × PySem.W.Tup Int) from e.symm, PySem.W.Datum.eqv]
    exact decide_eq_true rfl
  rw [PySem.W.Datum.eqv, decide_eq_true_eq] at h1
  exact ⟨congrArg Prod.fst h1, congrArg (fun p : Int × PySem.W.Tup Int => p.2.items) h1⟩
theorem shaped_prs (ps : List (Int × Int)) : SeqAt.shaped (.list (prsD ps)) = true := shaped_dat (α := List (Int × Int)) ps (by decide)
theorem eqv_prs (ps qs : List (Int × Int)) : PyData.eqv (.list (prsD ps)) (.list (prsD qs)) = decide (ps = qs) := PySem.W.Datum.eqv (α := List (Int × Int)) ps qs
theorem shaped_ints (xs : List Int) : SeqAt.shaped (.list (intsD xs)) = true := shaped_dat (α := List Int) xs (by decide)
theorem eqv_ints (xs ys : List Int) : PyData.eqv (.list (intsD xs)) (.list (intsD ys)) = decide (xs = ys) := PySem.W.Datum.eqv (α := List Int) xs ys
theorem seenOf_len (n : Int) (xs : List Int) : (seenOf n xs).length ≤ n.toNat := by
  refine Nat.le_trans (List.length_filter_le _ _) ?_
  simp
end HR
namespace HR
open PySem PySem.Spec L2
open PyProof.Rows hiding St
open PySem.W (Datum Tup T3 T4 SomeDatum)
/-! the mathematics of actions -/
theorem layAll_mem : ∀ {xs : List D} {x : D}, PyData.canLayAll0 xs = true → x ∈ xs → x.canLay0 = true
  | y :: ys, x, h, m => by
    have h' : (y.canLay0 && PyData.canLayAll0 ys) = true := h
    rw [Bool.and_eq_true] at h'
    rcases List.mem_cons.mp m with rfl | m
    · exact h'.1
    · exact layAll_mem h'.2 m
mutual
theorem noDict_lay : ∀ d : D, d.canLay0 = true → noDict d = true
  | .none, _ => rfl
  | .bool _, _ => rfl
  | .int _, _ => rfl
  | .str _, _ => rfl
  | .list xs, h => noDicts_lay xs h
  | .tuple xs, h => noDicts_lay xs h
  | .dict _, h => by cases h
theorem noDicts_lay : ∀ ds : List D, PyData.canLayAll0 ds = true → noDicts ds = true
  | [], _ => rfl
  | d :: ds, h => by
    have h' : (d.canLay0 && PyData.canLayAll0 ds) = true := h
    rw [Bool.and_eq_true] at h'
    show (noDict d && noDicts ds) = true
    rw [noDict_lay d h'.1, noDicts_lay ds h'.2]
    rfl
end
theorem shaped_str {s : Str} (h : (PyData.str s).canLay0 = true) : SeqAt.shaped (.str s) = true := by
  unfold SeqAt.shaped
  rw [h]
  rfl
theorem eqv_str (a b : Str) : PyData.eqv (.str a) (.str b) = decide (a = b) := Datum.eqv a b
structure Act where
  hide : Bool
  x : Int
  y : Int
  deriving DecidableEq
abbrev wordD (k : Bool) : D := match k with
  | true => .str "hide"
  | false => .str "show"
abbrev actD (a : Act) : D := .tuple [wordD a.hide, .int a.x, .int a.y]
abbrev scrD (as : List Act) : D := .tuple (as.map actD)
def optH : Option (List Int) → D
  | none => .none
  | some xs => tupI xs
/-- an action of a sheet of n rows -/
def isAct (n : Int) (a : Act) : Bool := if a.hide = true then decide (1 ≤ a.x) && decide (a.x ≤ n) && (decide (a.x ≤ a.y) && decide (a.y ≤ n)) else decide (0 ≤ a.x) && decide (a.x ≤ n) && (decide (a.x + 1 ≤ a.y) && decide (a.y ≤ n + 1))
def mSpan (b c : D) (lo hi more : Int) : Bool := mInt b lo hi && (match b with
  | .int x => mInt c (x + more) (hi + more)
  | _ => false)
def mAct (n : Int) (d : D) : Bool := match d with
  | .tuple [.str s, b, c] => if decide (s = "hide") = true then mSpan b c 1 n 0 else if decide (s = "show") = true then mSpan b c 0 n 1 else false
  | _ => false
def mScr (n : Int) (m : Int) (d : D) : Bool := match d with
  | .tuple ds => decide ((ds.length : Int) ≤ m) && ds.all (mAct n)
  | _ => false
theorem mAct_act (n : Int) (a : Act) : mAct n (actD a) = isAct n a := by
  obtain ⟨k, x, y⟩ := a
  cases k
  · show (if decide (("show" : Str) = "hide") = true then mSpan (.int x) (.int y) 1 n 0 else if decide (("show" : Str) = "show") = true then mSpan (.int x) (.int y) 0 n 1 else false) = _
    rw [if_neg (by decide), if_pos (by decide)]
    rfl
  · show (if decide (("hide" : Str) = "hide") = true then mSpan (.int x) (.int y) 1 n 0 else if decide (("hide" : Str) = "show") = true then mSpan (.int x) (.int y) 0 n 1 else false) = _
    rw [if_pos (by decide)]
    simp [mSpan, isAct, mInt]
theorem mSpan_some {b c : D} {lo hi more : Int} (h : mSpan b c lo hi more = true) : ∃ x y, b = .int x ∧ c = .int y := by
  unfold mSpan at h
  rw [Bool.and_eq_true] at h
  obtain ⟨h1, h2⟩ := h
  cases b with
  | int x =>
    cases c with
    | int y => exact ⟨x, y, rfl, rfl⟩
    | _ => cases h2
  | _ => cases h1
theorem mAct_some {n : Int} {d : D} (h : mAct n d = true) : ∃ a, d = actD a ∧ isAct n a = true := by
  have h0 := h
  unfold mAct at h
  split at h
  · rename_i s b c
    split at h
    · rename_i e
      obtain ⟨x, y, rfl, rfl⟩ := mSpan_some h
      cases of_decide_eq_true e
      exact ⟨⟨true, x, y⟩, rfl, by rw [← mAct_act]; exact h0⟩
    · split at h
      · rename_i e
        obtain ⟨x, y, rfl, rfl⟩ := mSpan_some h
        cases of_decide_eq_true e
        exact ⟨⟨false, x, y⟩, rfl, by rw [← mAct_act]; exact h0⟩
      · cases h
  · cases h
theorem acts_some {n : Int} : ∀ {ds : List D}, ds.all (mAct n) = true → ∃ as : List Act, ds = as.map actD ∧ as.all (isAct n) = true
  | [], _ => ⟨[], rfl, rfl⟩
  | d :: ds, h => by
    simp only [List.all_cons, Bool.and_eq_true] at h
    obtain ⟨a, rfl, ha⟩ := mAct_some h.1
    obtain ⟨as, rfl, has⟩ := acts_some h.2
    exact ⟨a :: as, rfl, by simp only [List.all_cons, ha, has, Bool.and_self]⟩
theorem mScr_some {n m : Int} {d : D} (h : mScr n m d = true) : ∃ as, d = scrD as ∧ as.all (isAct n) = true ∧ (as.length : Int) ≤ m := by
  unfold mScr at h
  split at h
  · rename_i ds
    rw [Bool.and_eq_true, decide_eq_true_eq] at h
    obtain ⟨as, rfl, ha⟩ := acts_some h.2
    exact ⟨as, rfl, ha, by simpa using h.1⟩
  · cases h
theorem mScr_scr {n m : Int} {as : List Act} : mScr n m (scrD as) = (decide ((as.length : Int) ≤ m) && as.all (isAct n)) := by
  show (decide (((as.map actD).length : Int) ≤ m) && (as.map actD).all (mAct n)) = _
  rw [List.length_map, List.all_map]
  congr 1
  congr 1
  exact funext fun a => mAct_act n a
/-- hidden rows after an action -/
def uniI (h : List Int) (x y : Int) : List Int := h.filter (fun r => decide (r < x)) ++ ((List.range (y + 1 - x).toNat).map fun i : Nat => (x + (i : Int))) ++ h.filter fun r => decide (y < r)
def aft (h : List Int) (a : Act) : Option (List Int) := if a.x ∈ h ∨ a.y ∈ h then none else if a.hide = true then some (uniI h a.x a.y) else some (h.filter fun r => !(decide (a.x < r) && decide (r < a.y)))
def runA (o : Option (List Int)) (as : List Act) : Option (List Int) := as.foldl (fun o a => o.bind (aft · a)) o
theorem mem_rng {x : Int} {n : Nat} {r : Int} : r ∈ (List.range n).map (fun i : Nat => (x + (i : Int))) ↔ x ≤ r ∧ r < x + n := by
  rw [List.mem_map]
  constructor
  · rintro ⟨i, hi, rfl⟩
    have := List.mem_range.mp hi
    omega
  · intro h
    exact ⟨(r - x).toNat, List.mem_range.mpr (by omega), by omega⟩
theorem rng_asc (x : Int) (n : Nat) : ((List.range n).map fun i : Nat => (x + (i : Int))).Pairwise (· < ·) := by
  rw [List.pairwise_map]
  exact List.pairwise_lt_range.imp fun h => by omega
theorem mem_uni {h : List Int} {x y r : Int} : r ∈ uniI h x y ↔ (r ∈ h ∧ (r < x ∨ y < r)) ∨ (x ≤ r ∧ r ≤ y) := by
  unfold uniI
  rw [List.mem_append, List.mem_append, mem_rng, List.mem_filter, List.mem_filter, decide_eq_true_eq, decide_eq_true_eq]
  by_cases hr : r ∈ h <;> simp only [hr, true_and, false_and, or_false, false_or] <;> omega
theorem uni_asc {h : List Int} {x y : Int} (a : h.Pairwise (· < ·)) (xy : x ≤ y) : (uniI h x y).Pairwise (· < ·) := by
  unfold uniI
  refine List.pairwise_append.mpr ⟨List.pairwise_append.mpr ⟨a.filter _, rng_asc _ _, fun u hu v hv => ?_⟩, a.filter _, fun u hu v hv => ?_⟩
  · have h1 := of_decide_eq_true (List.mem_filter.mp hu).2
    have h2 := mem_rng.mp hv
    omega
  · have h2 := of_decide_eq_true (List.mem_filter.mp hv).2
    rcases List.mem_append.mp hu with hu | hu
    · have h1 := of_decide_eq_true (List.mem_filter.mp hu).2
      omega
    · have h1 := mem_rng.mp hu
      omega
/-- two ascending lists of the same members are one -/
theorem asc_ext {xs ys : List Int} (hx : xs.Pairwise (· < ·)) (hy : ys.Pairwise (· < ·)) (h : ∀ r, r ∈ xs ↔ r ∈ ys) : xs = ys := by
  have n1 : xs.Nodup := hx.imp (fun h => by omega)
  have n2 : ys.Nodup := hy.imp (fun h => by omega)
  exact ((List.perm_ext_iff_of_nodup n1 n2).mpr h).eq_of_pairwise (fun a b _ _ h1 h2 => by omega) hx hy
theorem normal_uni {h : List Int} {x y : Int} {out : List Int} (a : h.Pairwise (· < ·)) (xy : x ≤ y) (o : Normal (h ++ (List.range (y + 1 - x).toNat).map fun i : Nat => (x + (i : Int))) out) : out = uniI h x y :=
  asc_ext o.1 (uni_asc a xy) fun r => by
    rw [o.2 r, mem_uni, List.mem_append, mem_rng]
    have : ((y + 1 - x).toNat : Int) = y + 1 - x := by omega
    rw [this]
    by_cases hr : r ∈ h <;> simp only [hr, true_and, false_and, or_false, false_or, true_or, true_iff] <;> omega
theorem isAct_hide {n x y : Int} : isAct n ⟨true, x, y⟩ = true ↔ 1 ≤ x ∧ x ≤ y ∧ y ≤ n := by
  simp only [isAct, if_true, Bool.and_eq_true, decide_eq_true_eq]
  omega
theorem isAct_show {n x y : Int} : isAct n ⟨false, x, y⟩ = true ↔ 0 ≤ x ∧ x < y ∧ y ≤ n + 1 := by
  simp only [isAct, Bool.false_eq_true, if_false, Bool.and_eq_true, decide_eq_true_eq]
  omega
theorem isAct_bound {n : Int} {a : Act} (h : isAct n a = true) : 0 ≤ a.x ∧ a.x ≤ a.y ∧ a.y ≤ n + 1 ∧ (a.hide = true → 1 ≤ a.x ∧ a.y ≤ n) := by
  obtain ⟨k, x, y⟩ := a
  cases k
  · have := isAct_show.mp h
    exact ⟨this.1, by show x ≤ y; omega, this.2.2, fun h => by cases h⟩
  · have := isAct_hide.mp h
    exact ⟨by show 0 ≤ x; omega, this.2.1, by show y ≤ n + 1; omega, fun _ => ⟨this.1, this.2.2⟩⟩
theorem aft_st {n : Int} {h h' : List Int} {a : Act} (s : IsSt n h) (ha : isAct n a = true) (e : aft h a = some h') : IsSt n h' := by
  have b := isAct_bound ha
  unfold aft at e
  split at e
  · cases e
  · split at e
    · rename_i hk
      cases e
      refine ⟨s.n1, s.n2, fun r hr => ?_, uni_asc s.asc b.2.1⟩
      rcases mem_uni.mp hr with ⟨h1, _⟩ | h1
      · exact s.rows r h1
      · have := b.2.2.2 hk
        omega
    · cases e
      exact ⟨s.n1, s.n2, fun r hr => s.rows r (List.mem_filter.mp hr).1, s.asc.filter _⟩
theorem runA_none : ∀ as : List Act, runA none as = none
  | [] => rfl
  | _ :: as => runA_none as
theorem runA_cons (o : Option (List Int)) (a : Act) (as : List Act) : runA o (a :: as) = runA (o.bind (aft · a)) as := rfl
theorem runA_app (o : Option (List Int)) (as bs : List Act) : runA o (as ++ bs) = runA (runA o as) bs := List.foldl_append ..
theorem runA_st {n : Int} : ∀ {as : List Act} {h h' : List Int}, IsSt n h → as.all (isAct n) = true → runA (some h) as = some h' → IsSt n h'
  | [], h, h', s, _, e => by cases e; exact s
  | a :: as, h, h', s, ha, e => by
    simp only [List.all_cons, Bool.and_eq_true] at ha
    rw [runA_cons] at e
    cases e1 : aft h a with
    | none =>
      rw [show (some h).bind (aft · a) = aft h a from rfl, e1, runA_none] at e
      cases e
    | some h1 =>
      rw [show (some h).bind (aft · a) = aft h a from rfl, e1] at e
      exact runA_st (aft_st s ha.1 e1) ha.2 e
/-- the states behind each action -/
def scanA : Option (List Int) → List Act → List (Option (List Int))
  | _, [] => []
  | o, a :: as => (o.bind (aft · a)) :: scanA (o.bind (aft · a)) as
theorem scanA_last : ∀ (o : Option (List Int)) (as : List Act), (o :: scanA o as).getLast? = some (runA o as)
  | o, [] => rfl
  | o, a :: as => by
    rw [show scanA o (a :: as) = (o.bind (aft · a)) :: scanA (o.bind (aft · a)) as from rfl, List.getLast?_cons_cons, scanA_last]
    rfl
theorem scanA_len : ∀ (o : Option (List Int)) (as : List Act), (scanA o as).length = as.length
  | _, [] => rfl
  | o, a :: as => by
    show (scanA _ as).length + 1 = _
    rw [scanA_len]
    rfl
theorem scanA_snoc : ∀ (o : Option (List Int)) (as : List Act) (a : Act), scanA o (as ++ [a]) = scanA o as ++ [(runA o as).bind (aft · a)]
  | _, [], _ => rfl
  | o, b :: as, a => by
    show _ :: scanA _ (as ++ [a]) = _ :: (scanA _ as ++ _)
    rw [scanA_snoc]
    rfl
abbrev natsD (xs : List Nat) : List D := xs.map fun i => .int (i : Nat)
/-- the actions that may be left out -/
def needA (h : List Int) (as : List Act) : List Nat := (List.range as.length).filter fun i => decide (runA (some h) (as.take i ++ as.drop (i + 1)) = runA (some h) as)
theorem optH_dat (o : Option (List Int)) : optH o = Datum.toD (o.map Tup.mk) := by cases o <;> rfl
theorem shaped_optH (o : Option (List Int)) : SeqAt.shaped (optH o) = true := by rw [optH_dat]; exact shaped_dat _ (by decide)
theorem eqv_optH (a b : Option (List Int)) : PyData.eqv (optH a) (optH b) = decide (a = b) := by
  rw [optH_dat, optH_dat, Datum.eqv]
  exact decide_eq_decide.mpr ⟨fun h => by cases a <;> cases b <;> simp_all, fun h => by rw [h]⟩
theorem eqv_word (k k' : Bool) : PyData.eqv (wordD k) (wordD k') = decide (k = k') := by
  cases k <;> cases k' <;> exact (eqv_str _ _).trans (by decide)
theorem lay_act (a : Act) : (actD a).canLay0 = true := by
  obtain ⟨k, x, y⟩ := a
  have e1 : PyData.canLay0 (.str "hide") = true := by decide +kernel
  have e2 : PyData.canLay0 (.str "show") = true := by decide +kernel
  cases k
  · show (PyData.canLay0 (.str "show") && (true && (true && true))) = true
    rw [e2]; rfl
  · show (PyData.canLay0 (.str "hide") && (true && (true && true))) = true
    rw [e1]; rfl
instance : Datum Act where
  toD := actD
  plain a := by obtain ⟨k, x, y⟩ := a; cases k <;> rfl
  eqv a b := by
    show (PyData.eqv (wordD a.hide) (wordD b.hide) && (PyData.eqv (.int a.x) (.int b.x) && (PyData.eqv (.int a.y) (.int b.y) && true))) = decide (a = b)
    rw [eqv_word, eqv_int, eqv_int, Bool.and_true, ← Bool.decide_and, ← Bool.decide_and]
    obtain ⟨k, x, y⟩ := a
    obtain ⟨k', x', y'⟩ := b
    exact decide_eq_decide.mpr (by simp)
  depth := 1
  depth_le a := by obtain ⟨k, x, y⟩ := a; cases k <;> exact Nat.le_refl _
instance : Shp Act := ⟨lay_act⟩
theorem acts_inj {as bs : List Act} (e : scrD as = scrD bs) : as = bs := by
  have h1 : PyData.eqv (Datum.toD (⟨as⟩ : Tup Act)) (Datum.toD (⟨bs⟩ : Tup Act)) = true := by
    rw [show Datum.toD (⟨bs⟩ : Tup Act) = Datum.toD (⟨as⟩ : Tup Act) from e.symm, Datum.eqv]
    exact decide_eq_true rfl
  rw [Datum.eqv, decide_eq_true_eq] at h1
  exact congrArg Tup.items h1
theorem lay_acts : ∀ as : List Act, PyData.canLayAll0 (as.map actD) = true
  | [] => rfl
  | a :: as => by
    show (PyData.canLay0 (actD a) && PyData.canLayAll0 (as.map actD)) = true
    rw [lay_acts as, Bool.and_true]
    exact lay_act a
theorem lay_scr (as : List Act) : (scrD as).canLay0 = true := lay_acts as
theorem mScr_ok {n : Int} {as : List Act} (ha : as.all (isAct n) = true) (hl : as.length ≤ 60) : mScr n 60 (scrD as) = true := by
  rw [mScr_scr, ha, Bool.and_true, decide_eq_true_eq]
  omega
def comA (h : List Int) (a b : Act) : Bool := (runA (some h) [a, b]).isSome && decide (runA (some h) [a, b] = runA (some h) [b, a])
theorem natsD_snoc (xs : List Nat) (a : Nat) : natsD (xs ++ [a]) = natsD xs ++ [.int (0 + (a : Int))] := by
  rw [natsD, List.map_append, Int.zero_add]
  rfl
theorem nats_dat (xs : List Nat) : PyData.list (natsD xs) = Datum.toD (xs.map fun i : Nat => (i : Int)) := by
  show PyData.list _ = PyData.list _
  rw [List.map_map]
  rfl
theorem shaped_nats (xs : List Nat) : SeqAt.shaped (.list (natsD xs)) = true := by rw [nats_dat]; exact shaped_dat _ (by decide)
theorem eqv_nats (xs ys : List Nat) : PyData.eqv (.list (natsD xs)) (.list (natsD ys)) = decide (xs = ys) := by
  rw [nats_dat, nats_dat, Datum.eqv]
  exact decide_eq_decide.mpr ⟨fun h => List.map_inj_right (fun _ _ e => by omega) |>.mp h, fun h => by rw [h]⟩
theorem comA_symm (h : List Int) (a b : Act) : comA h b a = comA h a b := by
  unfold comA
  by_cases e : runA (some h) [a, b] = runA (some h) [b, a]
  · rw [e]
  · rw [decide_eq_false e, decide_eq_false (fun z => e z.symm), Bool.and_false, Bool.and_false]
theorem needA_snoc {h : List Int} {as : List Act} (i : Nat) : (List.range (i + 1)).filter (fun i => decide (runA (some h) (as.take i ++ as.drop (i + 1)) = runA (some h) as)) =
    (List.range i).filter (fun i => decide (runA (some h) (as.take i ++ as.drop (i + 1)) = runA (some h) as)) ++ if runA (some h) (as.take i ++ as.drop (i + 1)) = runA (some h) as then [i] else [] := by
  rw [List.range_succ, List.filter_append, List.filter_cons, List.filter_nil]
  by_cases e : runA (some h) (as.take i ++ as.drop (i + 1)) = runA (some h) as
  · rw [decide_eq_true e, if_pos rfl, if_pos e]
  · rw [decide_eq_false e, if_neg (by decide), if_neg e]
theorem all_cut {n : Int} {as : List Act} (ha : as.all (isAct n) = true) (i : Nat) : (as.take i ++ as.drop (i + 1)).all (isAct n) = true := by
  refine List.all_eq_true.mpr fun a m => List.all_eq_true.mp ha a ?_
  rcases List.mem_append.mp m with m | m
  · exact List.mem_of_mem_take m
  · exact List.mem_of_mem_drop m
theorem min_le {a b : Int} (ha : 0 ≤ a) (hb : 0 ≤ b) : 0 ≤ (fun i j : Int => if j < i then j else i) a b ∧ (fun i j : Int => if j < i then j else i) a b ≤ b := by
  dsimp only
  split <;> omega
/-- the actions of a sheet, in order -/
def hidesOf (n : Int) (m : Nat) : List Act := (List.range m).flatMap fun i : Nat => (List.range (n - (i : Int)).toNat).map fun j : Nat => ⟨true, 1 + (i : Int), 1 + (i : Int) + (j : Int)⟩
def showsOf (n : Int) (m : Nat) : List Act := (List.range m).flatMap fun i : Nat => (List.range (n + 1 - (i : Int)).toNat).map fun j : Nat => ⟨false, (i : Int), (i : Int) + 1 + (j : Int)⟩
def actsOf (n : Int) : List Act := hidesOf n n.toNat ++ showsOf n (n + 1).toNat
theorem hidesOf_succ (n : Int) (m : Nat) : hidesOf n (m + 1) = hidesOf n m ++ (List.range (n - (m : Int)).toNat).map fun j : Nat => ⟨true, 1 + (m : Int), 1 + (m : Int) + (j : Int)⟩ := by
  unfold hidesOf
  rw [List.range_succ, List.flatMap_append]
  simp
theorem showsOf_succ (n : Int) (m : Nat) : showsOf n (m + 1) = showsOf n m ++ (List.range (n + 1 - (m : Int)).toNat).map fun j : Nat => ⟨false, (m : Int), (m : Int) + 1 + (j : Int)⟩ := by
  unfold showsOf
  rw [List.range_succ, List.flatMap_append]
  simp
theorem hidesOf_len {n : Int} (n2 : n ≤ 40) : ∀ m : Nat, (hidesOf n m).length ≤ 40 * m
  | 0 => Nat.le_refl _
  | m + 1 => by
    have := hidesOf_len n2 m
    rw [hidesOf_succ, List.length_append, List.length_map, List.length_range]
    omega
theorem showsOf_len {n : Int} (n2 : n ≤ 40) : ∀ m : Nat, (showsOf n m).length ≤ 41 * m
  | 0 => Nat.le_refl _
  | m + 1 => by
    have := showsOf_len n2 m
    rw [showsOf_succ, List.length_append, List.length_map, List.length_range]
    omega
theorem actsOf_len {n : Int} (n2 : n ≤ 40) : (actsOf n).length ≤ 10000 := by
  have h1 := hidesOf_len n2 n.toNat
  have h2 := showsOf_len n2 (n + 1).toNat
  unfold actsOf
  rw [List.length_append]
  omega
theorem mem_acts {n : Int} (n1 : 1 ≤ n) (a : Act) : a ∈ actsOf n ↔ isAct n a = true := by
  obtain ⟨k, x, y⟩ := a
  unfold actsOf hidesOf showsOf
  simp only [List.mem_append, List.mem_flatMap, List.mem_map, List.mem_range]
  cases k
  · rw [isAct_show]
    constructor
    · rintro (⟨i, hi, j, hj, e⟩ | ⟨i, hi, j, hj, e⟩)
      · cases e
      · injection e with e1 e2 e3
        omega
    · intro h
      exact .inr ⟨x.toNat, by omega, (y - x - 1).toNat, by omega, by congr 1 <;> omega⟩
  · rw [isAct_hide]
    constructor
    · rintro (⟨i, hi, j, hj, e⟩ | ⟨i, hi, j, hj, e⟩)
      · injection e with e1 e2 e3
        omega
      · cases e
    · intro h
      exact .inl ⟨(x - 1).toNat, by omega, (y - x).toNat, by omega, by congr 1 <;> omega⟩
/-- the actions that may have stood at place i -/
def missA (n : Int) (h : List Int) (as : List Act) (i : Nat) (r : List Int) : List Act := match runA (some h) (as.take i) with
  | none => []
  | some here => (actsOf n).filter fun a => (aft here a).isSome && decide (runA (aft here a) (as.drop i) = some r)
theorem shaped_act (a : Act) : SeqAt.shaped (actD a) = true := shaped_dat a (by decide)
theorem shaped_acts (as : List Act) : SeqAt.shaped (.list (as.map actD)) = true := shaped_dat (α := List Act) as (by decide)
theorem eqv_acts (as bs : List Act) : PyData.eqv (.list (as.map actD)) (.list (bs.map actD)) = decide (as = bs) := Datum.eqv (α := List Act) as bs
theorem any_act (as : List Act) (a : Act) : ((as.map actD).any fun e => PyData.eqv e (actD a)) = decide (a ∈ as) := W.any_datum as a
theorem missA_eq {n : Int} {h : List Int} {as : List Act} {i : Nat} {r : List Int} : missA n h as i r = (actsOf n).filter fun a => decide (runA (some h) (as.take i ++ [a] ++ as.drop i) = some r) := by
  unfold missA
  cases e : runA (some h) (as.take i) with
  | none =>
    refine (List.filter_eq_nil_iff.mpr fun a _ => ?_).symm
    rw [runA_app, runA_app, e, runA_none, runA_none]
    exact fun z => nomatch of_decide_eq_true z
  | some g =>
    refine List.filter_congr fun a _ => ?_
    rw [runA_app, runA_app, e, show runA (some g) [a] = aft g a from rfl]
    cases e2 : aft g a with
    | none => rw [runA_none]; rfl
    | some g2 => rw [Option.isSome_some, Bool.true_and]
theorem cut_back {α : Type} {as : List α} {i : Nat} (h : i < as.length) : (as.take i ++ as.drop (i + 1)).take i ++ [as[i]] ++ (as.take i ++ as.drop (i + 1)).drop i = as := by
  have h1 : (as.take i).length = i := by rw [List.length_take]; omega
  have e1 : (as.take i ++ as.drop (i + 1)).take i = as.take i := by
    rw [List.take_append_of_le_length (by omega), List.take_of_length_le (by omega)]
  have e2 : (as.take i ++ as.drop (i + 1)).drop i = as.drop (i + 1) := by
    rw [List.drop_append_of_le_length (by omega), List.drop_of_length_le (by omega), List.nil_append]
  rw [e1, e2, List.append_assoc, List.singleton_append, ← List.drop_eq_getElem_cons h, List.take_append_drop]
theorem shaped_scr (as : List Act) : SeqAt.shaped (scrD as) = true := shaped_dat (α := Tup Act) ⟨as⟩ (by decide)
theorem eqv_scr (as bs : List Act) : PyData.eqv (scrD as) (scrD bs) = decide (as = bs) := by
  refine (Datum.eqv (⟨as⟩ : Tup Act) ⟨bs⟩).trans ?_
  exact decide_eq_decide.mpr ⟨fun h => congrArg Tup.items h, fun h => by rw [h]⟩
end HR
namespace HR
open PySem PySem.Spec L2
open PyProof.Rows hiding St
open PySem.W (Datum Tup T3 T4 SomeDatum DatumOrd dataLe dataLt listLt Sortable)
/-! all sets of hidden rows -/
abbrev tupT (t : Tup Int) : D := tupI t.items
def subsI : Nat → List (Tup Int)
  | 0 => [⟨[]⟩]
  | k + 1 => subsI k ++ (subsI k).map fun t => ⟨t.items ++ [1 + (k : Int)]⟩
def allH (n : Nat) : List (Tup Int) := (subsI n).mergeSort (dataLe false fun x : Tup Int => Datum.toD x)
theorem subsI_len : ∀ n, (subsI n).length = 2 ^ n
  | 0 => rfl
  | n + 1 => by
    show (subsI n ++ _).length = _
    rw [List.length_append, List.length_map, subsI_len n]
    omega
theorem subsI_asc : ∀ (n : Nat) (t : Tup Int), t ∈ subsI n → (∀ x ∈ t.items, 1 ≤ x ∧ x ≤ n) ∧ t.items.Pairwise (· < ·)
  | 0, t, h => by
    have : t = ⟨[]⟩ := by simpa [subsI] using h
    subst this
    exact ⟨fun x hx => (by cases hx), List.Pairwise.nil⟩
  | n + 1, t, h => by
    rcases List.mem_append.mp (show t ∈ subsI n ++ (subsI n).map fun t => ⟨t.items ++ [1 + (n : Int)]⟩ from h) with h | h
    · obtain ⟨h1, h2⟩ := subsI_asc n t h
      exact ⟨fun x hx => ⟨(h1 x hx).1, by have := (h1 x hx).2; omega⟩, h2⟩
    · obtain ⟨u, hu, rfl⟩ := List.mem_map.mp h
      obtain ⟨h1, h2⟩ := subsI_asc n u hu
      refine ⟨fun x hx => ?_, List.pairwise_append.mpr ⟨h2, List.pairwise_singleton _ _, fun a ha b hb => ?_⟩⟩
      · rcases List.mem_append.mp hx with hx | hx
        · have := h1 x hx; omega
        · have := List.mem_singleton.mp hx; omega
      · have := h1 a ha
        have := List.mem_singleton.mp hb
        omega
theorem allH_st {n : Nat} (h1 : 1 ≤ n) (h2 : n ≤ 40) {t : Tup Int} (h : t ∈ allH n) : IsSt n t.items := by
  have h' := List.mem_mergeSort.mp h
  obtain ⟨a, b⟩ := subsI_asc n t h'
  exact ⟨by omega, by omega, a, b⟩
theorem subsI_first : ∀ n, ∃ r, subsI n = ⟨[]⟩ :: r
  | 0 => ⟨[], rfl⟩
  | n + 1 => by
    obtain ⟨r, e⟩ := subsI_first n
    exact ⟨r ++ (subsI n).map fun t => ⟨t.items ++ [1 + (n : Int)]⟩, by show subsI n ++ _ = _; rw [e]; rfl⟩
theorem subsI_ok (n : Nat) : SortOk ((subsI n).map fun t : Tup Int => Datum.toD t) := by
  refine .inr ⟨fun d hd => ?_, ?_⟩
  · obtain ⟨t, _, rfl⟩ := List.mem_map.mp hd
    exact ⟨_, rfl⟩
  · obtain ⟨r, e⟩ := subsI_first n
    exact ⟨r.map fun t : Tup Int => Datum.toD t, by rw [e]; rfl⟩
/-- the first state on which two scripts differ -/
def diffA (n : Nat) (as bs : List Act) : Option (Tup Int) := (allH n).find? fun t => decide (runA (some t.items) as ≠ runA (some t.items) bs)
/-- a comprehension whose items are told by an invariant -/
theorem compD_inv {α β : Type} {g : TDG} {tt : TDT} {te : TD} {vs : List Nat} {chk : Env → Prop} {δ : Env} {Q : List D → Env → Prop} (enc : α → D) (encb : β → D) (I : Nat → List β → Prop) (hc : chk δ) : ∀ (xs : List α) (i : Nat) (acc : List β), I i acc →
    (∀ x ∈ xs, ∀ i acc, I i acc → ∀ K : List D → Env → Prop, (∀ acc', I (i + 1) acc' → K (acc'.map encb) δ) → (g (.val (enc x)) δ fun δ1 => tt δ1 fun b δ2 => if b = true then te δ2 fun s δ3 => asD s δ3 fun d δ4 => K (acc.map encb ++ [d]) (wipeE δ4 vs) else K (acc.map encb) (wipeE δ2 vs))) →
    (∀ acc, I (i + xs.length) acc → Q (acc.map encb) δ) → compD g tt te vs chk (xs.map enc) (acc.map encb) δ Q
  | [], i, acc, h0, _, q => ⟨hc, q acc h0⟩
  | x :: xs, i, acc, h0, h, q => by
    refine ⟨hc, h x List.mem_cons_self i acc h0 (fun acc δ => compD g tt te vs chk (xs.map enc) acc δ Q) fun acc' h' => ?_⟩
    refine compD_inv enc encb I hc xs (i + 1) acc' h' (fun y hy => h y (List.mem_cons_of_mem _ hy)) fun acc'' h'' => q acc'' ?_
    rw [List.length_cons, show i + (xs.length + 1) = i + 1 + xs.length by omega]
    exact h''
theorem diffA_symm (n : Nat) (as bs : List Act) : diffA n bs as = diffA n as bs := by
  unfold diffA
  congr 1
  funext t
  exact decide_eq_decide.mpr ⟨fun h e => h e.symm, fun h e => h e.symm⟩
theorem diffA_self (n : Nat) (as : List Act) : diffA n as as = none := List.find?_eq_none.mpr fun t _ => (by simp)
theorem diffA_head (n : Nat) (as bs : List Act) : diffA n as bs = ((allH n).filter fun t => decide (runA (some t.items) as ≠ runA (some t.items) bs)).head? := List.head?_filter.symm
theorem shaped_tups (ts : List (Tup Int)) : SeqAt.shaped (.list (ts.map tupT)) = true := shaped_dat (α := List (Tup Int)) ts (by decide)
theorem eqv_tups (ts us : List (Tup Int)) : PyData.eqv (.list (ts.map tupT)) (.list (us.map tupT)) = decide (ts = us) := Datum.eqv (α := List (Tup Int)) ts us
theorem listLt_anti : ∀ xs ys : List Int, listLt xs ys = false → listLt ys xs = false → xs = ys
  | [], [], _, _ => rfl
  | [], _ :: _, h, _ => by simp [listLt] at h
  | _ :: _, [], _, h => by simp [listLt] at h
  | x :: xs, y :: ys, h1, h2 => by
    simp only [listLt] at h1 h2
    by_cases e : x = y
    · subst e
      rw [if_pos rfl] at h1 h2
      rw [listLt_anti xs ys h1 h2]
    · rw [if_neg e] at h1
      rw [if_neg (fun z => e z.symm)] at h2
      have a1 : ¬ x < y := of_decide_eq_false h1
      have a2 : ¬ y < x := of_decide_eq_false h2
      omega
theorem allH_is {n : Nat} {ts : List (Tup Int)} (h1 : (subsI n).Perm ts) (h2 : ts.Pairwise fun x y => listLt y.items x.items = false) : allH n = ts := by
  have p : (allH n).Perm ts := (List.mergeSort_perm _ _).trans h1
  have hs : (allH n).Pairwise fun x y : Tup Int => listLt y.items x.items = false := (PySem.W.sort_pairwise (PySem.W.sortLe_total (listOrd itemOrd) false _) _).imp fun {x y} h => by
    have h' : (!dataLt (Datum.toD y) (Datum.toD x)) = true := h
    rw [DatumOrd.lt_eq] at h'
    have h2 : DatumOrd.lt y x = false := by simpa using h'
    exact h2
  exact p.eq_of_pairwise (fun a b _ _ a1 a2 => by
    have := listLt_anti _ _ a2 a1
    cases a; cases b; exact congrArg Tup.mk this) hs h2
theorem allH3 : allH 3 = [⟨[]⟩, ⟨[1]⟩, ⟨[1, 2]⟩, ⟨[1, 2, 3]⟩, ⟨[1, 3]⟩, ⟨[2]⟩, ⟨[2, 3]⟩, ⟨[3]⟩] := allH_is (by decide) (by decide)
theorem allH2 : allH 2 = [⟨[]⟩, ⟨[1]⟩, ⟨[1, 2]⟩, ⟨[2]⟩] := allH_is (by decide) (by decide)
theorem diff_a : diffA 2 [⟨true, 1, 2⟩] [⟨true, 1, 1⟩, ⟨true, 2, 2⟩] = none := by unfold diffA; rw [allH2]; decide
theorem diff_b : diffA 3 [⟨false, 0, 4⟩] [⟨false, 0, 2⟩, ⟨false, 1, 4⟩] = some ⟨[1, 2]⟩ := by unfold diffA; rw [allH3]; decide
theorem diff_c : diffA 2 [⟨true, 1, 1⟩] [] = some ⟨[]⟩ := by unfold diffA; rw [allH2]; decide
end HR
namespace HR
open PySem PySem.Spec L2
open PyProof.Rows hiding St
open PySem.W (Datum Tup T3 T4 SomeDatum)
def topS (i : Nat) : Stmt := PySem.Challenge.pw_hiddenrows_k18_whole_scripts_on_all_stat.main.body.getD i (.Pass ⟨0, 0, 0, 0⟩)
abbrev sLawBag : Stmt := topS 19
abbrev sAllHidden : Stmt := topS 15
abbrev sIsInteger : Stmt := topS 5
abbrev sIsAction : Stmt := topS 8
abbrev sIsScript : Stmt := topS 12
abbrev sAfter : Stmt := topS 9
abbrev sPerformed : Stmt := topS 10
abbrev sLastOf : Stmt := topS 11
abbrev sDifference : Stmt := topS 17
abbrev sLawTake : Stmt := topS 20
abbrev sLawOf : Stmt := topS 21
abbrev sLawActions : Stmt := topS 26
abbrev sLawScript : Stmt := topS 28
abbrev sLawOther : Stmt := topS 29
abbrev sLawAll : Stmt := topS 27
abbrev sLawAfter : Stmt := topS 24
abbrev sLawLast : Stmt := topS 25
abbrev sLaw : Stmt := topS 30
local macro_rules | `(tactic| walk_at "go") => `(tactic| repeat (first | refine ⟨_, rfl, ?_⟩ | refine ⟨⟨_, _, rfl⟩, ?_⟩ | refine ⟨_, _, rfl, rfl, ?_⟩ | refine ⟨_, _, rfl, ?_⟩ | refine ⟨_, _, _, rfl, ?_⟩ | refine ⟨_, _, _, _, rfl, ?_⟩ | refine ⟨_, _, _, _, _, rfl, ?_⟩ | refine ⟨rfl, ?_⟩ | refine ⟨_, _, rfl, rfl, rfl, rfl, ?_⟩ | refine ⟨trivial, ?_⟩ | refine ⟨all_flat _, ?_⟩ | refine ⟨Nat.le_of_ble_eq_true rfl, ?_⟩ | refine ⟨shaped_str (by decide +kernel), ?_⟩))
structure Tx (K : PySem.W.Frag) (mg : Str → Option Value) : Prop where
  b_all : mg "all" = none
  b_bool : mg "bool" = none
  b_int : mg "int" = none
  b_isinstance : mg "isinstance" = none
  b_len : mg "len" = none
  b_min : mg "min" = none
  b_range : mg "range" = none
  b_set : mg "set" = none
  b_sorted : mg "sorted" = none
  b_str : mg "str" = none
  b_tuple : mg "tuple" = none
  c_InvalidScript : ClsX K mg "InvalidScript"
  c_InvalidSize : ClsX K mg "InvalidSize"
  g_ACTIONS : CstD K mg "ACTIONS" (.int 60)
  g_SMALL : CstD K mg "SMALL" (.int 8)
  f__law_bag : TxtFn K mg "_law_bag" sLawBag
  f_all_hidden : TxtFn K mg "all_hidden" sAllHidden
  f_is_integer : TxtFn K mg "is_integer" sIsInteger
  f_is_action : TxtFn K mg "is_action" sIsAction
  f_is_script : TxtFn K mg "is_script" sIsScript
  f_after : TxtFn K mg "after" sAfter
  f_performed : TxtFn K mg "performed" sPerformed
  f_last_of : TxtFn K mg "last_of" sLastOf
  f_difference : TxtFn K mg "difference" sDifference
  f__law_take : TxtFn K mg "_law_take" sLawTake
  f__law_of : TxtFn K mg "_law_of" sLawOf
  f__law_actions : TxtFn K mg "_law_actions" sLawActions
  f__law_script : TxtFn K mg "_law_script" sLawScript
  f__law_other : TxtFn K mg "_law_other" sLawOther
  f__law_all : TxtFn K mg "_law_all" sLawAll
  f__law_after : TxtFn K mg "_law_after" sLawAfter
  f__law_last : TxtFn K mg "_law_last" sLawLast
section
variable {P : Program} {w : World} {K : PySem.W.Frag} {mg : Str → Option Value} {base : Heap}
/-! _law_bag -/
def c__law_bag : Con := fun ss Q _ => ∃ ns k, ss = [.scr ns, .val (.int k)] ∧ ns.length ≤ 1000 ∧ 0 ≤ k ∧ k ≤ 1000 ∧ Q .bag
theorem scLawBag : FnScope ["script", "k", "cell", "seed"] ["script", "k"] (defScope sLawBag) := ⟨rfl, rfl, rfl, by decide +kernel, rfl, by decide +kernel, by decide +kernel⟩
theorem ok__law_bag (X : Tx K mg) : FnD P w K mg base 1 "_law_bag" c__law_bag := by
  refine fnD_ok (N := ["script", "k", "cell", "seed"]) (ps := ["script", "k"]) X.f__law_bag scLawBag (fun _ _ _ _ _ _ us hl => match us, hl with | [_, _], _ => rfl) (fun ss Q X' h => ?_) (fun f cdv A outer s H Y E ss Q' X' hr xo hp h => ?_)
  · obtain ⟨ns, k, rfl, _⟩ := h
    rfl
  · have nd := scLawBag.nd
    have hu := hr.units
    have hu5 := room65 hr
    refine ⟨_, (dss_cons (ds_set (i := 2) nd de_int) (dss_cons (ds_if (dt_cp c_lt (de_var (i := 1)) (de_len X.b_len (da_cons (de_var (i := 0)) da_nil))) (dss_one (ds_set (i := 2) nd (de_mod (de_ix (de_var (i := 0)) (de_var (i := 1))) (de_pow de_int de_int)))) dss_nil) (dss_cons (ds_set (i := 3) nd (de_add de_int (de_mod (de_add (de_add (de_add (de_mul (de_mod (de_var (i := 2)) de_int) de_int) (de_mul (de_mul de_int (de_var (i := 1))) (de_var (i := 1)))) (de_mul de_int (de_var (i := 1)))) de_int) de_int))) (dss_cons (ds_if (dt_cp c_lt (de_var (i := 2)) (de_pow de_int de_int)) (dss_one (ds_retBag (de_lst (da_cons de_int (da_cons (de_var (i := 3)) da_nil))))) dss_nil) (dss_one (ds_retBag (de_lst (da_cons (de_var (i := 2)) (da_cons (de_var (i := 3)) da_nil))))))))), ?_⟩
    clear hu5 hu nd hp xo hr
    obtain ⟨ns, k, rfl, hl, h0, h1, q⟩ := h
    walk_at "go"
    refine ite2 (fun h => ?_) (fun h => ?_)
    · have h := of_decide_eq_true h
      walk_at "go"
      refine ⟨_, getI_in h0 (by omega), ?_⟩
      walk_at "go"
      refine ⟨⟨by decide, by decide, by decide⟩, md (by decide), ?_⟩
      dsimp only
      generalize hc : ns[k.toNat]'(by omega) % 10 ^ (60 : Int).toNat = cell
      have c0 : 0 ≤ cell := by rw [← hc]; exact Int.emod_nonneg _ (by decide)
      walk_at "go"
      refine ⟨md (by decide), mulR, mulL, mulR (by omega) (by omega), mulL, md (by decide), ?_⟩
      dsimp only
      generalize hs : (cell % 2147483629 * 16807 + 40009 * k * k + 7919 * k + 1009) % 2147483645 = seed
      have s0 : 0 ≤ seed := by rw [← hs]; exact Int.emod_nonneg _ (by decide)
      have s1 : seed < 2147483645 := by rw [← hs]; exact Int.emod_lt_of_pos _ (by decide)
      walk_at "go"
      refine ⟨⟨by decide, by decide, by decide⟩, ?_⟩
      walk_at "go"
      refine ite2 (fun h => ?_) (fun h => ?_)
      · walk_at "go"
        exact fun p => ⟨p, _, _, rfl, by decide, by omega, by omega, rfl, q⟩
      · walk_at "go"
        exact fun p => ⟨p, _, _, rfl, c0, by omega, by omega, rfl, q⟩
    · walk_at "go"
      refine ⟨md (by decide), mulR, mulL, mulR (by omega) (by omega), mulL, md (by decide), ?_⟩
      dsimp only
      generalize hs : (0 % 2147483629 * 16807 + 40009 * k * k + 7919 * k + 1009) % 2147483645 = seed
      have s0 : 0 ≤ seed := by rw [← hs]; exact Int.emod_nonneg _ (by decide)
      have s1 : seed < 2147483645 := by rw [← hs]; exact Int.emod_lt_of_pos _ (by decide)
      walk_at "go"
      refine ⟨⟨by decide, by decide, by decide⟩, ?_⟩
      walk_at "go"
      exact fun p => ⟨p, _, _, rfl, by decide, by omega, by omega, rfl, q⟩
/-! all_hidden -/
def c_all_hidden : Con := fun ss Q _ => ∃ n : Int, ss = [.val (.int n)] ∧ 0 ≤ n ∧ n ≤ 12 ∧ ∀ p, Q (.own p ((allH n.toNat).map tupT))
theorem scAllHidden : FnScope ["size", "found", "row", "some"] ["size"] (defScope sAllHidden) := ⟨rfl, rfl, rfl, by decide +kernel, rfl, by decide +kernel, by decide +kernel⟩
theorem ok_all_hidden (X : Tx K mg) : FnD P w K mg base 1 "all_hidden" c_all_hidden := by
  refine fnD_ok (N := ["size", "found", "row", "some"]) (ps := ["size"]) X.f_all_hidden scAllHidden (fun _ _ _ _ _ _ us hl => match us, hl with | [_], _ => rfl) (fun ss Q X' h => ?_) (fun f cdv A outer s H Y E ss Q' X' hr xo hp h => ?_)
  · obtain ⟨n, rfl, _⟩ := h
    rfl
  · have nd := scAllHidden.nd
    have hu := hr.units
    have hu5 := room65 hr
    refine ⟨_, (dss_cons (ds_set (i := 1) nd (de_lst (da_cons (de_tup da_nil) da_nil))) (dss_cons (ds_for hp rfl (di_r2 X.b_range (da_cons de_int (da_cons (de_add (de_var (i := 0)) de_int) da_nil))) (dg_name (i := 2) nd) (dss_one (ds_augAdd (i := 1) nd (de_comp (own := [("some", 3)]) (vs := [3]) rfl rfl nd (di_seq (de_var (i := 1))) (blkOk_by (N := ["size", "found", "row", "some"]) (sc := defScope sAllHidden) (by decide +kernel)) (tg_name 3) (fun _ _ _ _ _ => (pg_name (i := 3) nd rfl (Or.inl rfl))) (fun _ _ _ _ _ => dts_nil) (fun _ _ _ _ _ => (de_add (de_var (i := 3)) (de_tup (da_cons (de_var (i := 2)) da_nil)))))))) (dss_one (ds_ret (de_sortDat hu X.b_sorted (da_cons (de_var (i := 1)) da_nil)))))), ?_⟩
    clear hu5 hu nd hp xo hr
    obtain ⟨n, rfl, n0, n1, q⟩ := h
    have pw : ∀ i : Nat, i ≤ 12 → 2 ^ i ≤ 4096 := fun i hi => Nat.le_trans (Nat.pow_le_pow_right (by decide) hi) (by decide)
    walk_at "go"
    intro p
    walk_at "go"
    refine ⟨by omega, by omega, by omega, by omega, by omega, ?_⟩
    refine forD_rng (fun i δ => ∃ (s t : SV), δ = [.val (.int n), .own p ((subsI i).map tupT), s, t]) ⟨.none, .none, rfl⟩ (fun _ _ _ => trivial) ?_ ?_
    · rintro i _ hi ⟨s, t, rfl⟩ K k
      have hl := subsI_len i
      have hp := pw i (by omega)
      have e : (subsI (i + 1)).map tupT = (subsI i).map tupT ++ (subsI i).map fun t => .tuple (t.items.map .int ++ [.int (1 + (i : Int))]) := by
        show (subsI i ++ (subsI i).map _).map tupT = _
        rw [List.map_append, List.map_map]
        congr 1
        refine List.map_congr_left fun t _ => ?_
        simp [tupI]
      rw [e] at k
      refine ⟨⟨_, rfl, fun z => nomatch z⟩, ?_⟩
      walk_at "go"
      refine compD_map tupT (fun t => .tuple (t.items.map .int ++ [.int (1 + (i : Int))])) (subsI i) rfl (fun t ht K acc k => ?_) ?_
      · have st := (subsI_asc i t ht).2
        have lt := asc_len st (subsI_asc i t ht).1 (by omega)
        walk_at "go"
        refine ⟨by simp [sizeLine_eq]; omega, ?_⟩
        walk_at "go"
        exact k
      · intro p1
        walk_at "go"
        refine ⟨by simp; omega, ?_⟩
        exact k _ ⟨_, _, rfl⟩
    · rintro _ ⟨s, t, rfl⟩
      rw [show (n + 1 - 1).toNat = n.toNat by omega]
      refine ⟨_, rfl, sortDat_rest (α := Tup Int) (Z := fun ds => ∀ p : Addr, resOk (.own p ds) = true ∧ Q' (.own p ds)) (subsI n.toNat) (subsI_ok _) (by decide) fun zs e _ _ p => ?_⟩
      subst e
      exact ⟨rfl, q p⟩
/-! is_integer -/
def c_is_integer : Con := fun ss Q _ => ∃ d lo hi, ss = [.val d, .val (.int lo), .val (.int hi)] ∧ noDict d = true ∧ Q (.val (.bool (mInt d lo hi)))
theorem scIsInteger : FnScope ["value", "low", "high"] ["value", "low", "high"] (defScope sIsInteger) := ⟨rfl, rfl, rfl, by decide +kernel, rfl, by decide +kernel, by decide +kernel⟩
theorem ok_is_integer (X : Tx K mg) : FnD P w K mg base 1 "is_integer" c_is_integer := by
  refine fnD_ok (N := ["value", "low", "high"]) (ps := ["value", "low", "high"]) X.f_is_integer scIsInteger (fun _ _ _ _ _ _ us hl => match us, hl with | [_, _, _], _ => rfl) (fun ss Q X' h => ?_) (fun f cdv A outer s H Y E ss Q' X' hr xo hp h => ?_)
  · obtain ⟨d, lo, hi, rfl, _⟩ := h
    rfl
  · have nd := scIsInteger.nd
    have hu := hr.units
    have hu5 := room65 hr
    refine ⟨_, (dss_one (ds_ret (de_and (de_isi (n := .int) (fun z => nomatch z) (by decide +kernel) X.b_int X.b_isinstance (de_var (i := 0))) (de_and (de_not (de_isi (n := .bool) (fun z => nomatch z) (by decide +kernel) X.b_bool X.b_isinstance (de_var (i := 0)))) (de_one (de_cp2 c_le c_le (de_var (i := 1)) (de_var (i := 0)) (de_var (i := 2)))))))), ?_⟩
    clear hu5 hu nd hp xo hr
    obtain ⟨d, lo, hi, rfl, hd, q⟩ := h
    cases d with
    | int i =>
      walk_at "go"
      refine ite2 (fun h => ⟨rfl, ?_⟩) (fun h => ⟨rfl, ?_⟩)
      · simpa [mInt, of_decide_eq_true h] using q
      · simpa [mInt, show ¬ lo ≤ i from fun z => h (decide_eq_true z)] using q
    | dict _ => simp [noDict] at hd
    | _ => walk_at "go"; exact q
/-! is_action -/
def c_is_action : Con := fun ss Q _ => ∃ n d, ss = [.val (.int n), .val d] ∧ d.canLay0 = true ∧ Q (.val (.bool (mAct n d)))
theorem scIsAction : FnScope ["size", "value"] ["size", "value"] (defScope sIsAction) := ⟨rfl, rfl, rfl, by decide +kernel, rfl, by decide +kernel, by decide +kernel⟩
theorem ok_is_action (X : Tx K mg) : FnD P w K mg base 2 "is_action" c_is_action := by
  refine fnD_ok (N := ["size", "value"]) (ps := ["size", "value"]) X.f_is_action scIsAction (fun _ _ _ _ _ _ us hl => match us, hl with | [_, _], _ => rfl) (fun ss Q X' h => ?_) (fun f cdv A outer s H Y E ss Q' X' hr xo hp h => ?_)
  · obtain ⟨n, d, rfl, _⟩ := h
    rfl
  · have nd := scIsAction.nd
    have hu := hr.units
    have hu5 := room65 hr
    refine ⟨_, (dss_cons (ds_if (DW.dt (dw_or (dt_not (dt_truth (de_isi (n := .tuple) (fun z => nomatch z) (by decide +kernel) X.b_tuple X.b_isinstance (de_var (i := 1))))) (dw_or (dt_cp (c_ne hu) (de_len X.b_len (da_cons (de_var (i := 1)) da_nil)) de_int) (dw_or1 (dt_not (dt_truth (de_isi (n := .str) (fun z => nomatch z) (by decide +kernel) X.b_str X.b_isinstance (de_ix (de_var (i := 1)) de_int)))))))) (dss_one (ds_ret de_bl)) dss_nil) (dss_cons (ds_if (dt_cp (c_eq hu) (de_ix (de_var (i := 1)) de_int) de_str) (dss_one (ds_ret (de_and (de_call (ok_is_integer X) (hr.mono (by decide)) xo (da_cons (de_ix (de_var (i := 1)) de_int) (da_cons de_int (da_cons (de_var (i := 0)) da_nil)))) (de_one (de_call (ok_is_integer X) (hr.mono (by decide)) xo (da_cons (de_ix (de_var (i := 1)) de_int) (da_cons (de_ix (de_var (i := 1)) de_int) (da_cons (de_var (i := 0)) da_nil)))))))) dss_nil) (dss_cons (ds_if (dt_cp (c_eq hu) (de_ix (de_var (i := 1)) de_int) de_str) (dss_one (ds_ret (de_and (de_call (ok_is_integer X) (hr.mono (by decide)) xo (da_cons (de_ix (de_var (i := 1)) de_int) (da_cons de_int (da_cons (de_var (i := 0)) da_nil)))) (de_one (de_call (ok_is_integer X) (hr.mono (by decide)) xo (da_cons (de_ix (de_var (i := 1)) de_int) (da_cons (de_add (de_ix (de_var (i := 1)) de_int) de_int) (da_cons (de_add (de_var (i := 0)) de_int) da_nil)))))))) dss_nil) (dss_one (ds_ret de_bl))))), ?_⟩
    clear hu5 hu nd hp xo hr
    obtain ⟨n, d, rfl, hd, q⟩ := h
    have no : ∀ (hn : mAct n d = false), Q' (.val (.bool false)) := fun hn => by rw [hn] at q; exact q
    cases d with
    | tuple ds =>
      match ds, hd, q, no with
      | [], hd, q, no => walk_at "go"; exact no rfl
      | [a], hd, q, no => walk_at "go"; exact no (by cases a <;> rfl)
      | [a, b], hd, q, no => walk_at "go"; exact no (by cases a <;> rfl)
      | a :: b :: c :: e :: r, hd, q, no => walk_at "go"; exact no (by cases a <;> rfl)
      | [a, b, c], hd, q, no =>
        have ha : a.canLay0 = true := layAll_mem hd List.mem_cons_self
        have hb : noDict b = true := noDict_lay _ (layAll_mem hd (List.mem_cons_of_mem _ List.mem_cons_self))
        have hc : noDict c = true := noDict_lay _ (layAll_mem hd (List.mem_cons_of_mem _ (List.mem_cons_of_mem _ List.mem_cons_self)))
        cases a with
        | str s =>
          have sp : ∀ (lo more : Int) (K : Bool → Prop), K (mSpan b c lo n more) → (mInt b lo n = false → K false) ∧ (∀ x, b = .int x → mInt b lo n = true → K (mInt c (x + more) (n + more))) := fun lo more K k => by
            unfold mSpan at k
            constructor
            · intro hB
              rw [hB] at k
              exact k
            · rintro x rfl hB
              rw [hB] at k
              exact k
          walk_at "go"
          refine ⟨shaped_str ha, ?_⟩
          walk_at "go"
          rw [eqv_str]
          refine ite2 (fun h => ?_) (fun h => ?_)
          · have q : Q' (.val (.bool (mSpan b c 1 n 0))) := by rw [show mAct n (.tuple [.str s, b, c]) = if decide (s = "hide") = true then mSpan b c 1 n 0 else if decide (s = "show") = true then mSpan b c 0 n 1 else false from rfl, if_pos h] at q; exact q
            obtain ⟨q1, q2⟩ := sp 1 0 (fun k => Q' (.val (.bool k))) q
            walk_at "go"
            refine ⟨hb, _, rfl, ?_⟩
            cases hB : mInt b 1 n with
            | false => walk_at "go"; exact q1 hB
            | true =>
              cases b with
              | int x =>
                have q3 := q2 x rfl hB
                rw [Int.add_zero, Int.add_zero] at q3
                walk_at "go"; exact ⟨hc, rfl, q3⟩
              | _ => cases hB
          · have q : Q' (.val (.bool (if decide (s = "show") = true then mSpan b c 0 n 1 else false))) := by rw [show mAct n (.tuple [.str s, b, c]) = if decide (s = "hide") = true then mSpan b c 1 n 0 else if decide (s = "show") = true then mSpan b c 0 n 1 else false from rfl, if_neg h] at q; exact q
            walk_at "go"
            refine ⟨shaped_str ha, ?_⟩
            walk_at "go"
            rw [eqv_str]
            refine ite2 (fun h => ?_) (fun h => ?_)
            · rw [if_pos h] at q
              obtain ⟨q1, q2⟩ := sp 0 1 (fun k => Q' (.val (.bool k))) q
              walk_at "go"
              refine ⟨hb, _, rfl, ?_⟩
              cases hB : mInt b 0 n with
              | false => walk_at "go"; exact q1 hB
              | true =>
                cases b with
                | int x => walk_at "go"; exact ⟨hc, rfl, q2 x rfl hB⟩
                | _ => cases hB
            · rw [if_neg h] at q
              exact ⟨rfl, q⟩
        | dict _ => cases ha
        | _ => walk_at "go"; exact no rfl
    | dict _ => cases hd
    | _ => walk_at "go"; exact no rfl
/-! is_script -/
def c_is_script : Con := fun ss Q _ => ∃ n d m, ss = [.val (.int n), .val d, .val (.int m)] ∧ d.canLay0 = true ∧ Q (.val (.bool (mScr n m d)))
theorem scIsScript : FnScope ["size", "value", "most", "one"] ["size", "value", "most"] (defScope sIsScript) := ⟨rfl, rfl, rfl, by decide +kernel, rfl, by decide +kernel, by decide +kernel⟩
theorem ok_is_script (X : Tx K mg) : FnD P w K mg base 3 "is_script" c_is_script := by
  refine fnD_ok (N := ["size", "value", "most", "one"]) (ps := ["size", "value", "most"]) X.f_is_script scIsScript (fun _ _ _ _ _ _ us hl => match us, hl with | [_, _, _], _ => rfl) (fun ss Q X' h => ?_) (fun f cdv A outer s H Y E ss Q' X' hr xo hp h => ?_)
  · obtain ⟨n, d, m, rfl, _⟩ := h
    rfl
  · have nd := scIsScript.nd
    have hu := hr.units
    have hu5 := room65 hr
    refine ⟨_, (dss_one (ds_ret (de_and (de_isi (n := .tuple) (fun z => nomatch z) (by decide +kernel) X.b_tuple X.b_isinstance (de_var (i := 1))) (de_and (de_cp c_le (de_len X.b_len (da_cons (de_var (i := 1)) da_nil)) (de_var (i := 2))) (de_one (de_all rfl X.b_all (da_cons (de_comp (own := [("one", 3)]) (vs := [3]) rfl rfl nd (di_seq (de_var (i := 1))) (blkOk_by (N := ["size", "value", "most", "one"]) (sc := defScope sIsScript) (by decide +kernel)) (tg_name 3) (fun _ _ _ _ _ => (pg_name (i := 3) nd rfl (Or.inl rfl))) (fun _ _ _ _ _ => dts_nil) (fun _ _ _ _ _ => (de_call (ok_is_action X) (hr.mono (by decide)) xo_blk (da_cons (de_var (i := 0)) (da_cons (de_var (i := 3)) da_nil))))) da_nil))))))), ?_⟩
    clear hu5 hu nd hp xo hr
    obtain ⟨n, d, m, rfl, hd, q⟩ := h
    cases d with
    | tuple ds =>
      have q : Q' (.val (.bool (decide ((ds.length : Int) ≤ m) && ds.all (mAct n)))) := q
      walk_at "go"
      cases hB : decide ((ds.length : Int) ≤ m) with
      | false => rw [hB] at q; exact ⟨rfl, q⟩
      | true =>
        rw [hB] at q
        walk_at "go"
        rw [← List.map_id' ds]
        refine compD_map (fun x => x) (fun x => .bool (mAct n x)) ds trivial (fun x hx K acc k => ?_) ?_
        · exact ⟨_, _, rfl, layAll_mem hd hx, k⟩
        intro p
        refine ⟨ds.map (mAct n), by simp [View, viewA, tagOf], rfl, ?_⟩
        rw [List.all_map]
        exact q
    | dict _ => cases hd
    | _ => walk_at "go"; exact q
/-! after -/
def c_after : Con := fun ss Q _ => ∃ h k x y, ss = [.val (tupI h), .val (.tuple [wordD k, .int x, .int y])] ∧ ∃ n, IsSt n h ∧ isAct n ⟨k, x, y⟩ = true ∧ Q (.val (optH (aft h ⟨k, x, y⟩)))
theorem scAfter : FnScope ["hidden", "action", "kind", "first", "last", "row"] ["hidden", "action"] (defScope sAfter) := ⟨rfl, rfl, rfl, by decide +kernel, rfl, by decide +kernel, by decide +kernel⟩
theorem ok_after (X : Tx K mg) : FnD P w K mg base 1 "after" c_after := by
  refine fnD_ok (N := ["hidden", "action", "kind", "first", "last", "row"]) (ps := ["hidden", "action"]) X.f_after scAfter (fun _ _ _ _ _ _ us hl => match us, hl with | [_, _], _ => rfl) (fun ss Q X' h => ?_) (fun f cdv A outer s H Y E ss Q' X' hr xo hp h => ?_)
  · obtain ⟨h, k, x, y, rfl, _⟩ := h
    rfl
  · have nd := scAfter.nd
    have hu := hr.units
    have hu5 := room65 hr
    refine ⟨_, (dss_cons (ds_asg (de_var (i := 1)) (dg_tup (n := 3) rfl (dgs_cons (dg_name (i := 2) nd) (dgs_cons (dg_name (i := 3) nd) (dgs_cons (dg_name (i := 4) nd) dgs_nil))))) (dss_cons (ds_if (DW.dt (dw_or (dt_cp (c_in hu5) (de_var (i := 3)) (de_var (i := 0))) (dw_or1 (dt_cp (c_in hu5) (de_var (i := 4)) (de_var (i := 0)))))) (dss_one (ds_ret de_non)) dss_nil) (dss_cons (ds_if (dt_cp (c_eq hu) (de_var (i := 2)) de_str) (dss_one (ds_ret (de_tuple X.b_tuple (da_cons (de_sortSet rfl X.b_sorted X.b_set (de_add (de_var (i := 0)) (de_tupRg2 rfl X.b_tuple X.b_range (de_var (i := 3)) (de_add (de_var (i := 4)) de_int)))) da_nil)))) dss_nil) (dss_one (ds_ret (de_tuple X.b_tuple (da_cons (de_comp (own := [("row", 5)]) (vs := [5]) rfl rfl nd (di_seq (de_var (i := 0))) (blkOk_by (N := ["hidden", "action", "kind", "first", "last", "row"]) (sc := defScope sAfter) (by decide +kernel)) (tg_name 5) (fun _ _ _ _ _ => (pg_name (i := 5) nd rfl (Or.inl rfl))) (fun _ _ _ _ _ => (dts_one (dt_not (dt_cp2 c_lt c_lt (de_var (i := 3)) (de_var (i := 5)) (de_var (i := 4)))))) (fun _ _ _ _ _ => (de_var (i := 5)))) da_nil))))))), ?_⟩
    clear hu5 hu nd hp xo hr
    obtain ⟨h, k, x, y, rfl, n, st, ha, q⟩ := h
    have b := isAct_bound ha
    have n1 := st.n1
    have n2 := st.n2
    have no : (x ∈ h ∨ y ∈ h) → Q' (.val .none) := fun z => by unfold aft at q; rw [if_pos z] at q; exact q
    dsimp only at b
    walk_at "go"
    rw [any_int]
    cases hx : decide (x ∈ h) with
    | true => walk_at "go"; exact no (.inl (of_decide_eq_true hx))
    | false =>
      walk_at "go"
      rw [any_int]
      cases hy : decide (y ∈ h) with
      | true => walk_at "go"; exact no (.inr (of_decide_eq_true hy))
      | false =>
        have q : Q' (.val (optH (if k = true then some (uniI h x y) else some (h.filter fun r => !(decide (x < r) && decide (r < y)))))) := by
          unfold aft at q
          rw [if_neg (fun z => z.elim (of_decide_eq_false hx) (of_decide_eq_false hy))] at q
          exact q
        cases k with
        | true =>
          walk_at "go"
          refine ⟨by omega, by omega, by omega, by omega, by omega, ?_⟩
          refine ⟨by simp [rangeD, sizeLine_eq]; have := st.len; omega, ?_⟩
          have e : h.map PyData.int ++ rangeD x (y + 1 - x).toNat = (h ++ (List.range (y + 1 - x).toNat).map fun i : Nat => (x + (i : Int))).map .int := by
            unfold rangeD
            rw [List.map_append, List.map_map]
            rfl
          refine ⟨_, (List.range 40).map fun i : Nat => (1 + (i : Int)), by rw [e], ?_⟩
          refine ⟨by simp; have := st.len; omega, by simp, fun r hr => ?_, fun out ho p => ?_⟩
          · rw [mem_rng]
            rcases List.mem_append.mp hr with hr | hr
            · have := st.rows r hr
              omega
            · have := mem_rng.mp hr
              have := b.2.2.2 rfl
              omega
          · walk_at "go"
            rw [normal_uni st.asc b.2.1 ho]
            exact q
        | false =>
          walk_at "go"
          refine compD_typed PyData.int (fun r => !(decide (x < r) && decide (r < y))) PyData.int trivial h [] (fun r hr K acc k => ?_) ?_
          · walk_at "go"
            cases h1 : decide (x < r) with
            | false =>
              rw [h1] at k
              walk_at "go"
              exact k
            | true =>
              rw [h1] at k
              walk_at "go"
              cases h2 : decide (r < y) with
              | false =>
                rw [h2] at k
                exact k
              | true =>
                rw [h2] at k
                exact k
          · intro p
            walk_at "go"
            exact q
/-! performed -/
def c_performed : Con := fun ss Q _ => ∃ h as, ss = [.val (tupI h), .val (scrD as)] ∧ ∃ n, IsSt n h ∧ as.all (isAct n) = true ∧ as.length ≤ 1000 ∧ ∀ p, Q (.own p ((scanA (some h) as).map optH))
theorem scPerformed : FnScope ["hidden", "script", "found", "action"] ["hidden", "script"] (defScope sPerformed) := ⟨rfl, rfl, rfl, by decide +kernel, rfl, by decide +kernel, by decide +kernel⟩
theorem ok_performed (X : Tx K mg) : FnD P w K mg base 2 "performed" c_performed := by
  refine fnD_ok (N := ["hidden", "script", "found", "action"]) (ps := ["hidden", "script"]) X.f_performed scPerformed (fun _ _ _ _ _ _ us hl => match us, hl with | [_, _], _ => rfl) (fun ss Q X' h => ?_) (fun f cdv A outer s H Y E ss Q' X' hr xo hp h => ?_)
  · obtain ⟨h, as, rfl, _⟩ := h
    rfl
  · have nd := scPerformed.nd
    have hu := hr.units
    have hu5 := room65 hr
    refine ⟨_, (dss_cons (ds_set (i := 2) nd (de_lst da_nil)) (dss_cons (ds_for hp rfl (di_seq (de_var (i := 1))) (dg_name (i := 3) nd) (dss_cons (ds_set (i := 0) nd (de_if (dt_cp c_is (de_var (i := 0)) de_non) de_non (de_call (ok_after X) (hr.mono (by decide)) xo (da_cons (de_var (i := 0)) (da_cons (de_var (i := 3)) da_nil))))) (dss_one (ds_expr (de_append (i := 2) (de_var (i := 0))))))) (dss_one (ds_ret (de_var (i := 2)))))), ?_⟩
    clear hu5 hu nd hp xo hr
    obtain ⟨h, as, rfl, n, st, ha, hl, q⟩ := h
    walk_at "go"
    intro p
    refine ⟨as.map actD, rfl, ?_⟩
    refine forD_inv actD as (fun done δ => ∃ s, δ = [.val (optH (runA (some h) done)), .val (scrD as), .own p ((scanA (some h) done).map optH), s]) ⟨_, rfl⟩ (fun _ _ _ => trivial) ?_ ?_
    · rintro done a rest _ e ⟨s, rfl⟩ K k
      have ha1 : done.all (isAct n) = true := by rw [e, List.all_append, Bool.and_eq_true] at ha; exact ha.1
      have ha2 : isAct n a = true := by rw [e, List.all_append, Bool.and_eq_true, List.all_cons, Bool.and_eq_true] at ha; exact ha.2.1
      have hd : done.length ≤ 1000 := by have := congrArg List.length e; simp at this; omega
      rw [scanA_snoc, runA_app, List.map_append] at k
      have k : ∀ s, K [.val (optH ((runA (some h) done).bind (aft · a))), .val (scrD as), .own p ((scanA (some h) done).map optH ++ [optH ((runA (some h) done).bind (aft · a))]), s] := fun s => k _ ⟨s, rfl⟩
      have st' := fun h' e => runA_st (h' := h') st ha1 e
      have ln : (scanA (some h) done).length ≤ 1000 := by rw [scanA_len]; exact hd
      generalize runA (some h) done = o at *
      generalize scanA (some h) done = sc at *
      cases o with
      | none =>
        walk_at "go"
        exact ⟨by simp; omega, k _⟩
      | some h' =>
        walk_at "go"
        refine ⟨n, st' h' rfl, ha2, ?_⟩
        cases e3 : aft h' a with
        | none =>
          have k : ∀ s, K [.val .none, .val (scrD as), .own p (sc.map optH ++ [.none]), s] := fun s => by have := k s; rw [show (some h').bind (aft · a) = aft h' a from rfl, e3] at this; exact this
          walk_at "go"
          exact ⟨by simp; omega, k _⟩
        | some h2 =>
          have k : ∀ s, K [.val (tupI h2), .val (scrD as), .own p (sc.map optH ++ [tupI h2]), s] := fun s => by have := k s; rw [show (some h').bind (aft · a) = aft h' a from rfl, e3] at this; exact this
          walk_at "go"
          exact ⟨by simp; omega, k _⟩
    · rintro _ ⟨s, rfl⟩
      walk_at "go"
      exact q p
/-! last_of -/
def c_last_of : Con := fun ss Q _ => ∃ h as, ss = [.val (tupI h), .val (scrD as)] ∧ ∃ n, IsSt n h ∧ as.all (isAct n) = true ∧ as.length ≤ 1000 ∧ Q (.val (optH (runA (some h) as)))
theorem scLastOf : FnScope ["hidden", "script"] ["hidden", "script"] (defScope sLastOf) := ⟨rfl, rfl, rfl, by decide +kernel, rfl, by decide +kernel, by decide +kernel⟩
theorem ok_last_of (X : Tx K mg) : FnD P w K mg base 3 "last_of" c_last_of := by
  refine fnD_ok (N := ["hidden", "script"]) (ps := ["hidden", "script"]) X.f_last_of scLastOf (fun _ _ _ _ _ _ us hl => match us, hl with | [_, _], _ => rfl) (fun ss Q X' h => ?_) (fun f cdv A outer s H Y E ss Q' X' hr xo hp h => ?_)
  · obtain ⟨h, as, rfl, _⟩ := h
    rfl
  · have nd := scLastOf.nd
    have hu := hr.units
    have hu5 := room65 hr
    refine ⟨_, (dss_one (ds_ret (de_ix (de_add (de_lst (da_cons (de_var (i := 0)) da_nil)) (de_call (ok_performed X) (hr.mono (by decide)) xo (da_cons (de_var (i := 0)) (da_cons (de_var (i := 1)) da_nil)))) (de_neg de_int)))), ?_⟩
    clear hu5 hu nd hp xo hr
    obtain ⟨h, as, rfl, n, st, ha, hl, q⟩ := h
    walk_at "go"
    intro p1
    walk_at "go"
    refine ⟨n, st, ha, hl, fun p2 p3 => ?_⟩
    refine ⟨[tupI h], (scanA (some h) as).map optH, rfl, rfl, by simp [sizeLine_eq, scanA_len]; omega, fun p4 => ?_⟩
    have e : getI ([tupI h] ++ (scanA (some h) as).map optH) (-1) = some (optH (runA (some h) as)) := by
      rw [get_last1 (by simp), show [tupI h] ++ (scanA (some h) as).map optH = (some h :: scanA (some h) as).map optH from rfl, List.getLast?_map, scanA_last]
      rfl
    walk_at "go"
    refine ⟨_, _, rfl, e, ?_⟩
    have rk : ∀ o : Option (List Int), retD (.val (optH o)) [] (fun r _ => resOk r = true ∧ Q' r) = (resOk (.val (optH o)) = true ∧ Q' (.val (optH o))) := fun o => by cases o <;> rfl
    cases e4 : runA (some h) as with
    | none => rw [e4] at q; exact ⟨rfl, q⟩
    | some h' => rw [e4] at q; exact ⟨rfl, q⟩
/-! difference -/
def c_difference : Con := fun ss Q X => ∃ n as bs, ss = [.val (.int n), .val (scrD as), .val (scrD bs)] ∧ 1 ≤ n ∧ n ≤ 8 ∧ as.all (isAct n) = true ∧ as.length ≤ 60 ∧ bs.all (isAct n) = true ∧ bs.length ≤ 60 ∧ Q (.val (optH ((diffA n.toNat as bs).map Tup.items)))
theorem scDifference : FnScope ["size", "first", "second", "script", "hidden"] ["size", "first", "second"] (defScope sDifference) := ⟨rfl, rfl, rfl, by decide +kernel, rfl, by decide +kernel, by decide +kernel⟩
theorem ok_difference (X : Tx K mg) : FnD P w K mg base 4 "difference" c_difference := by
  refine fnD_ok (N := ["size", "first", "second", "script", "hidden"]) (ps := ["size", "first", "second"]) X.f_difference scDifference (fun _ _ _ _ _ _ us hl => match us, hl with | [_, _, _], _ => rfl) (fun ss Q X' h => ?_) (fun f cdv A outer s H Y E ss Q' X' hr xo hp h => ?_)
  · obtain ⟨n, as, bs, rfl, _⟩ := h
    rfl
  · have nd := scDifference.nd
    have hu := hr.units
    have hu5 := room65 hr
    refine ⟨_, (dss_cons (ds_if (dt_not (dt_truth (de_call (ok_is_integer X) (hr.mono (by decide)) xo (da_cons (de_var (i := 0)) (da_cons de_int (da_cons (de_const X.g_SMALL) da_nil)))))) (dss_one (ds_raise X.c_InvalidSize rfl xo)) dss_nil) (dss_cons (ds_for hp rfl (di_seq (de_tup (da_cons (de_var (i := 1)) (da_cons (de_var (i := 2)) da_nil)))) (dg_name (i := 3) nd) (dss_one (ds_if (dt_not (dt_truth (de_call (ok_is_script X) (hr.mono (by decide)) xo (da_cons (de_var (i := 0)) (da_cons (de_var (i := 3)) (da_cons (de_const X.g_ACTIONS) da_nil)))))) (dss_one (ds_raise X.c_InvalidScript rfl xo)) dss_nil))) (dss_cons (ds_for hp rfl (di_seq (de_call (ok_all_hidden X) (hr.mono (by decide)) xo (da_cons (de_var (i := 0)) da_nil))) (dg_name (i := 4) nd) (dss_one (ds_if (dt_cp (c_ne hu) (de_call (ok_last_of X) (hr.mono (by decide)) xo (da_cons (de_var (i := 4)) (da_cons (de_var (i := 1)) da_nil))) (de_call (ok_last_of X) (hr.mono (by decide)) xo (da_cons (de_var (i := 4)) (da_cons (de_var (i := 2)) da_nil)))) (dss_one (ds_ret (de_var (i := 4)))) dss_nil))) (dss_one (ds_ret de_non))))), ?_⟩
    clear hu5 hu nd hp xo hr
    obtain ⟨n, as, bs, rfl, n0, n1, ha, la, hb, lb, q⟩ := h
    have hi : mInt (.int n) 1 8 = true := by
      show (decide (1 ≤ n) && decide (n ≤ 8)) = true
      rw [decide_eq_true n0, decide_eq_true n1]; rfl
    walk_at "go"
    rw [hi]
    walk_at "go"
    refine ⟨lay_scr as, ?_⟩
    rw [mScr_ok ha la]
    walk_at "go"
    refine ⟨lay_scr bs, ?_⟩
    rw [mScr_ok hb lb]
    walk_at "go"
    refine ⟨by omega, by omega, fun p p2 => ?_⟩
    walk_at "go"
    refine forD_inv tupT (allH n.toNat) (fun done δ => ∃ s t : SV, (∀ x ∈ done, decide (runA (some x.items) as ≠ runA (some x.items) bs) = false) ∧ δ = [.val (.int n), .val (scrD as), .val (scrD bs), s, t])
      ⟨_, _, fun x h => (by cases h), rfl⟩ (fun _ _ _ => trivial) ?_ ?_
    · rintro done x rest _ e ⟨s, t, hd, rfl⟩ K k
      have sx : IsSt n x.items := by
        have := allH_st (n := n.toNat) (by omega) (by omega) (t := x) (by rw [e]; simp)
        rw [show ((n.toNat : Nat) : Int) = n by omega] at this
        exact this
      walk_at "go"
      refine ⟨n, sx, ha, by omega, ?_⟩
      walk_at "go"
      refine ⟨n, sx, hb, by omega, ?_⟩
      walk_at "go"
      refine ⟨shaped_optH _, shaped_optH _, ?_⟩
      rw [eqv_optH]
      cases hc : decide (runA (some x.items) as = runA (some x.items) bs) with
      | true =>
        walk_at "go"
        refine k _ ⟨_, _, fun y hy => ?_, rfl⟩
        rcases List.mem_append.mp hy with hy | hy
        · exact hd y hy
        · rw [List.mem_singleton.mp hy, decide_eq_false_iff_not]
          exact fun z => z (of_decide_eq_true hc)
      | false =>
        have e2 : diffA n.toNat as bs = some x := by
          unfold diffA
          rw [e, List.find?_append, List.find?_eq_none.mpr fun y hy => (by rw [hd y hy]; exact fun z => nomatch z)]
          rw [List.find?_cons, decide_eq_true (show runA (some x.items) as ≠ runA (some x.items) bs from of_decide_eq_false hc)]
          rfl
        rw [e2] at q
        walk_at "go"
        exact q
    · rintro _ ⟨s, t, hd, rfl⟩
      have e2 : diffA n.toNat as bs = none := List.find?_eq_none.mpr fun y hy => (by rw [hd y hy]; exact fun z => nomatch z)
      rw [e2] at q
      walk_at "go"
      exact q
/-! _law_take -/
def c__law_take : Con := fun ss Q _ => ∃ n : Int, ss = [.bag, .val (.int n)] ∧ 0 < n ∧ n ≤ 1000000 ∧ ∀ r, 0 ≤ r → r < n → Q (.val (.int r))
theorem scLawTake : FnScope ["bag", "count", "found"] ["bag", "count"] (defScope sLawTake) := ⟨rfl, rfl, rfl, by decide +kernel, rfl, by decide +kernel, by decide +kernel⟩
theorem ok__law_take (X : Tx K mg) : FnD P w K mg base 1 "_law_take" c__law_take := by
  refine fnD_ok (N := ["bag", "count", "found"]) (ps := ["bag", "count"]) X.f__law_take scLawTake (fun _ _ _ _ _ _ us hl => match us, hl with | [_, _], _ => rfl) (fun ss Q X' h => ?_) (fun f cdv A outer s H Y E ss Q' X' hr xo hp h => ?_)
  · obtain ⟨n, rfl, _⟩ := h
    rfl
  · have nd := scLawTake.nd
    have hu := hr.units
    have hu5 := room65 hr
    refine ⟨_, (dss_cons (ds_if (dt_cp c_gt (de_ix (de_var (i := 0)) de_int) de_int) (dss_cons (ds_set (i := 2) nd (de_mod (de_ix (de_var (i := 0)) de_int) (de_var (i := 1)))) (dss_cons (ds_setIx (i := 0) (de_fdiv (de_ix (de_var (i := 0)) de_int) (de_var (i := 1))) de_int) (dss_one (ds_ret (de_var (i := 2)))))) dss_nil) (dss_cons (ds_setIx (i := 0) (de_mod (de_mul (de_ix (de_var (i := 0)) de_int) de_int) de_int) de_int) (dss_one (ds_ret (de_mod (de_fdiv (de_mod (de_mul (de_fdiv (de_ix (de_var (i := 0)) de_int) de_int) (de_add (de_mod (de_ix (de_var (i := 0)) de_int) de_int) de_int)) de_int) de_int) (de_var (i := 1))))))), ?_⟩
    clear hu5 hu nd hp xo hr
    obtain ⟨n, rfl, h0, h1, q⟩ := h
    have fin : ∀ x : Int, 0 ≤ x % n ∧ x % n < n := fun x => ⟨Int.emod_nonneg _ (by omega), Int.emod_lt_of_pos _ h0⟩
    refine .inl ⟨rfl, fun x hx => ?_⟩
    walk_at "go"
    refine ite2 (fun h => ?_) (fun h => ?_)
    · refine .inl ⟨rfl, fun x hx => ?_⟩
      refine ⟨md h0, ?_⟩
      refine .inl ⟨rfl, fun y hy => ?_⟩
      refine ⟨⟨h0, by omega⟩, ⟨_, rfl, .inr rfl⟩, ?_⟩
      walk_at "go"
      refine ⟨Int.ediv_nonneg hy (by omega), .inl rfl, ?_⟩
      exact ⟨rfl, q _ (fin _).1 (fin _).2⟩
    · refine .inr ⟨rfl, fun y hy hy1 => ?_⟩
      refine ⟨mulR, md (by decide), ⟨_, rfl, .inr rfl⟩, ?_⟩
      walk_at "go"
      refine ⟨Int.emod_nonneg _ (by decide), .inr ⟨rfl, Int.emod_lt_of_pos _ (by decide)⟩, ?_⟩
      refine .inr ⟨rfl, fun a ha ha1 => ?_⟩
      refine ⟨⟨by decide, by decide⟩, ?_⟩
      refine .inr ⟨rfl, fun b hb hb1 => ?_⟩
      refine ⟨md (by decide), ?_⟩
      refine ⟨.inl ⟨?_, ?_⟩, md (by decide), ⟨by decide, by decide⟩, md h0, rfl, q _ (fin _).1 (fin _).2⟩
      · have : 0 ≤ a / 13 := Int.ediv_nonneg ha (by decide)
        omega
      · have : a / 13 < 2 ^ 64 := by omega
        exact this
/-! _law_of -/
def c__law_of : Con := fun ss Q _ => ∃ d, ss = [.bag, .val d] ∧ ∃ ds, (d = .list ds ∨ d = .tuple ds) ∧ 0 < ds.length ∧ ds.length ≤ 1000000 ∧ ∀ x ∈ ds, Q (.val x)
theorem scLawOf : FnScope ["bag", "some"] ["bag", "some"] (defScope sLawOf) := ⟨rfl, rfl, rfl, by decide +kernel, rfl, by decide +kernel, by decide +kernel⟩
theorem ok__law_of (X : Tx K mg) : FnD P w K mg base 2 "_law_of" c__law_of := by
  refine fnD_ok (N := ["bag", "some"]) (ps := ["bag", "some"]) X.f__law_of scLawOf (fun _ _ _ _ _ _ us hl => match us, hl with | [_, _], _ => rfl) (fun ss Q X' h => ?_) (fun f cdv A outer s H Y E ss Q' X' hr xo hp h => ?_)
  · obtain ⟨d, rfl, _⟩ := h
    rfl
  · have nd := scLawOf.nd
    have hu := hr.units
    have hu5 := room65 hr
    refine ⟨_, (dss_one (ds_ret (de_ix (de_var (i := 1)) (de_call (ok__law_take X) (hr.mono (by decide)) xo (da_cons (de_var (i := 0)) (da_cons (de_len X.b_len (da_cons (de_var (i := 1)) da_nil)) da_nil)))))), ?_⟩
    clear hu5 hu nd hp xo hr
    obtain ⟨d, rfl, ds, hd, h0, h1, q⟩ := h
    have key : ∀ r : Int, 0 ≤ r → r < ds.length → ∃ x, getI ds r = some x ∧ Q' (.val x) := fun r r0 r1 => ⟨_, getI_in r0 (by omega), q _ (List.getElem_mem _)⟩
    rcases hd with rfl | rfl
    · walk_at "go"
      refine ⟨by omega, by omega, fun r r0 r1 => ?_⟩
      obtain ⟨x, e, q⟩ := key r r0 r1
      exact ⟨_, _, rfl, e, rfl, q⟩
    · walk_at "go"
      refine ⟨by omega, by omega, fun r r0 r1 => ?_⟩
      obtain ⟨x, e, q⟩ := key r r0 r1
      exact ⟨_, e, rfl, q⟩
/-! _law_actions -/
def c__law_actions : Con := fun ss Q _ => ∃ n : Int, ss = [.val (.int n)] ∧ 1 ≤ n ∧ n ≤ 40 ∧ ∀ p (acts : List Act), acts = actsOf n → (∀ a, a ∈ acts ↔ isAct n a = true) → acts.length ≤ 100000 → Q (.own p (acts.map actD))
theorem scLawActions : FnScope ["size", "found", "word", "low", "more", "x", "y"] ["size"] (defScope sLawActions) := ⟨rfl, rfl, rfl, by decide +kernel, rfl, by decide +kernel, by decide +kernel⟩
theorem ok__law_actions (X : Tx K mg) : FnD P w K mg base 1 "_law_actions" c__law_actions := by
  refine fnD_ok (N := ["size", "found", "word", "low", "more", "x", "y"]) (ps := ["size"]) X.f__law_actions scLawActions (fun _ _ _ _ _ _ us hl => match us, hl with | [_], _ => rfl) (fun ss Q X' h => ?_) (fun f cdv A outer s H Y E ss Q' X' hr xo hp h => ?_)
  · obtain ⟨n, rfl, _⟩ := h
    rfl
  · have nd := scLawActions.nd
    have hu := hr.units
    have hu5 := room65 hr
    refine ⟨_, (dss_cons (ds_set (i := 1) nd (de_lst da_nil)) (dss_cons (ds_for hp rfl (di_seq (de_lst (da_cons (de_tup (da_cons de_str (da_cons de_int (da_cons de_int da_nil)))) (da_cons (de_tup (da_cons de_str (da_cons de_int (da_cons de_int da_nil)))) da_nil)))) (dg_tup (n := 3) rfl (dgs_cons (dg_name (i := 2) nd) (dgs_cons (dg_name (i := 3) nd) (dgs_cons (dg_name (i := 4) nd) dgs_nil)))) (dss_one (ds_for hp rfl (di_r2 X.b_range (da_cons (de_var (i := 3)) (da_cons (de_add (de_var (i := 0)) de_int) da_nil))) (dg_name (i := 5) nd) (dss_one (ds_set (i := 1) nd (de_add (de_var (i := 1)) (de_comp (own := [("y", 6)]) (vs := [6]) rfl rfl nd (di_r2 X.b_range (da_cons (de_add (de_var (i := 5)) (de_var (i := 4))) (da_cons (de_add (de_add (de_var (i := 0)) de_int) (de_var (i := 4))) da_nil))) (blkOk_by (N := ["size", "found", "word", "low", "more", "x", "y"]) (sc := defScope sLawActions) (by decide +kernel)) (tg_name 6) (fun _ _ _ _ _ => (pg_name (i := 6) nd rfl (Or.inl rfl))) (fun _ _ _ _ _ => dts_nil) (fun _ _ _ _ _ => (de_tup (da_cons (de_var (i := 2)) (da_cons (de_var (i := 5)) (da_cons (de_var (i := 6)) da_nil)))))))))))) (dss_one (ds_ret (de_var (i := 1)))))), ?_⟩
    clear hu5 hu nd hp xo hr
    obtain ⟨n, rfl, n1, n2, q⟩ := h
    have q := fun p => q p (actsOf n) rfl (mem_acts n1) (by have := actsOf_len n2; omega)
    walk_at "go"
    intro p
    walk_at "go"
    intro p1
    walk_at "go"
    refine ⟨by omega, by omega, by omega, by omega, by omega, ?_⟩
    refine forD_rng (fun i δ => ∃ (p : Addr) (s t : SV), δ = [.val (.int n), .own p ((hidesOf n i).map actD), .val (wordD true), .val (.int 1), .val (.int 0), s, t])
      ⟨p, .none, .none, rfl⟩ (fun _ _ _ => trivial) ?_ ?_
    · rintro i _ hi ⟨p, s, t, rfl⟩ K k
      have hl := hidesOf_len n2 i
      rw [hidesOf_succ] at k
      walk_at "go"
      refine ⟨by omega, by omega, by omega, by omega, by omega, ?_⟩
      unfold rangeD
      refine compD_map (fun j : Nat => .int (1 + (i : Int) + 0 + (j : Int))) (fun j => actD ⟨true, 1 + (i : Int), 1 + (i : Int) + 0 + (j : Int)⟩) _ trivial (fun j hj K acc k => ?_) ?_
      · walk_at "go"
        exact k
      · intro p1
        walk_at "go"
        refine ⟨by simp [sizeLine_eq]; omega, fun p2 => ?_⟩
        walk_at "go"
        refine k _ ⟨p2, .val (.int (1 + (i : Int))), .none, ?_⟩
        simp only [List.map_append, List.map_map, Int.add_zero]
        rw [show n + 1 - (1 + (i : Int)) = n - (i : Int) by omega]
        rfl
    · rintro _ ⟨p, s, t, rfl⟩
      rw [show (n + 1 - 1).toNat = n.toNat by omega]
      walk_at "go"
      refine ⟨by omega, by omega, by omega, by omega, by omega, ?_⟩
      refine forD_rng (fun i δ => ∃ (p : Addr) (s t : SV), δ = [.val (.int n), .own p ((hidesOf n n.toNat ++ showsOf n i).map actD), .val (wordD false), .val (.int 0), .val (.int 1), s, t])
        ⟨p, s, t, by rw [show showsOf n 0 = [] from rfl, List.append_nil]; rfl⟩ (fun _ _ _ => trivial) ?_ ?_
      · rintro i _ hi ⟨p, s, t, rfl⟩ K k
        have hl := showsOf_len n2 i
        have hl2 := hidesOf_len n2 n.toNat
        rw [showsOf_succ] at k
        walk_at "go"
        refine ⟨by omega, by omega, by omega, by omega, by omega, ?_⟩
        unfold rangeD
        refine compD_map (fun j : Nat => .int (0 + (i : Int) + 1 + (j : Int))) (fun j => actD ⟨false, 0 + (i : Int), 0 + (i : Int) + 1 + (j : Int)⟩) _ trivial (fun j hj K acc k => ?_) ?_
        · walk_at "go"
          exact k
        · intro p1
          walk_at "go"
          refine ⟨by simp [sizeLine_eq]; omega, fun p2 => ?_⟩
          walk_at "go"
          refine k _ ⟨p2, .val (.int (0 + (i : Int))), .none, ?_⟩
          simp only [List.map_append, List.map_map, Int.zero_add]
          rw [show n + 1 + 1 - ((i : Int) + 1) = n + 1 - (i : Int) by omega, List.append_assoc]
          rfl
      · rintro _ ⟨p, s, t, rfl⟩
        rw [show (n + 1 - 0).toNat = (n + 1).toNat by omega]
        walk_at "go"
        exact q p
/-! _law_script -/
def c__law_script : Con := fun ss Q _ => ∃ n m : Int, ss = [.bag, .val (.int n), .val (.int m)] ∧ 1 ≤ n ∧ n ≤ 40 ∧ 0 ≤ m ∧ m ≤ 50 ∧ ∀ as, as.all (isAct n) = true → (as.length : Int) ≤ m → Q (.val (scrD as))
theorem scLawScript : FnScope ["bag", "size", "most", "turn"] ["bag", "size", "most"] (defScope sLawScript) := ⟨rfl, rfl, rfl, by decide +kernel, rfl, by decide +kernel, by decide +kernel⟩
theorem ok__law_script (X : Tx K mg) : FnD P w K mg base 3 "_law_script" c__law_script := by
  refine fnD_ok (N := ["bag", "size", "most", "turn"]) (ps := ["bag", "size", "most"]) X.f__law_script scLawScript (fun _ _ _ _ _ _ us hl => match us, hl with | [_, _, _], _ => rfl) (fun ss Q X' h => ?_) (fun f cdv A outer s H Y E ss Q' X' hr xo hp h => ?_)
  · obtain ⟨n, m, rfl, _⟩ := h
    rfl
  · have nd := scLawScript.nd
    have hu := hr.units
    have hu5 := room65 hr
    refine ⟨_, (dss_one (ds_ret (de_tuple X.b_tuple (da_cons (de_comp (own := [("turn", 3)]) (vs := [3]) rfl rfl nd (di_r1 X.b_range (da_cons (de_call (ok__law_take X) (hr.mono (by decide)) xo (da_cons (de_var (i := 0)) (da_cons (de_add (de_var (i := 2)) de_int) da_nil))) da_nil)) (blkOk_by (N := ["bag", "size", "most", "turn"]) (sc := defScope sLawScript) (by decide +kernel)) (tg_name 3) (fun _ _ _ _ _ => (pg_name (i := 3) nd rfl (Or.inl rfl))) (fun _ _ _ _ _ => dts_nil) (fun _ _ _ _ _ => (de_call (ok__law_of X) (hr.mono (by decide)) xo_blk (da_cons (de_var (i := 0)) (da_cons (de_call (ok__law_actions X) (hr.mono (by decide)) xo_blk (da_cons (de_var (i := 1)) da_nil)) da_nil))))) da_nil)))), ?_⟩
    clear hu5 hu nd hp xo hr
    obtain ⟨n, m, rfl, n1, n2, m0, m1, q⟩ := h
    walk_at "go"
    refine ⟨by omega, by omega, fun r r0 r1 => ?_⟩
    walk_at "go"
    refine ⟨by omega, by omega, ?_⟩
    unfold rangeD
    refine compD_inv (fun i : Nat => .int (0 + (i : Int))) actD (fun i as => as.all (isAct n) = true ∧ as.length = i) trivial _ 0 [] ⟨rfl, rfl⟩ (fun x hx i as ⟨ha, hl⟩ K k => ?_) fun as ⟨ha, hl⟩ p => ?_
    · walk_at "go"
      refine ⟨n1, n2, fun p acts _ hm hc p2 => ?_⟩
      walk_at "go"
      refine ⟨_, .inl rfl, ?_, by rw [List.length_map]; omega, fun d hd => ?_⟩
      · rw [List.length_map]
        exact List.length_pos_of_mem ((hm ⟨false, 0, n + 1⟩).mpr (isAct_show.mpr ⟨by omega, by omega, by omega⟩))
      · obtain ⟨a, hd1, rfl⟩ := List.mem_map.mp hd
        have ha2 := (hm a).mp hd1
        walk_at "go"
        have k := k (as ++ [a]) ⟨by simp [ha, ha2], by simp [hl]⟩
        rw [List.map_append] at k
        exact k
    · walk_at "go"
      exact q as ha (by simp at hl; omega)
/-! _law_other -/
def c__law_other : Con := fun ss Q _ => ∃ n as, ss = [.bag, .val (.int n), .val (scrD as)] ∧ 1 ≤ n ∧ n ≤ 40 ∧ as.all (isAct n) = true ∧ as.length ≤ 50 ∧ ∀ bs, bs.all (isAct n) = true → bs.length ≤ 53 → Q (.val (scrD bs))
theorem scLawOther : FnScope ["bag", "size", "whole", "way", "at"] ["bag", "size", "whole"] (defScope sLawOther) := ⟨rfl, rfl, rfl, by decide +kernel, rfl, by decide +kernel, by decide +kernel⟩
theorem ok__law_other (X : Tx K mg) : FnD P w K mg base 4 "_law_other" c__law_other := by
  refine fnD_ok (N := ["bag", "size", "whole", "way", "at"]) (ps := ["bag", "size", "whole"]) X.f__law_other scLawOther (fun _ _ _ _ _ _ us hl => match us, hl with | [_, _, _], _ => rfl) (fun ss Q X' h => ?_) (fun f cdv A outer s H Y E ss Q' X' hr xo hp h => ?_)
  · obtain ⟨n, as, rfl, _⟩ := h
    rfl
  · have nd := scLawOther.nd
    have hu := hr.units
    have hu5 := room65 hr
    refine ⟨_, (dss_cons (ds_set (i := 3) nd (de_call (ok__law_take X) (hr.mono (by decide)) xo (da_cons (de_var (i := 0)) (da_cons de_int da_nil)))) (dss_cons (ds_if (DW.dt (dw_or (dt_cp (c_eq hu) (de_var (i := 2)) (de_tup da_nil)) (dw_or1 (dt_cp (c_eq hu) (de_var (i := 3)) de_int)))) (dss_one (ds_ret (de_call (ok__law_script X) (hr.mono (by decide)) xo (da_cons (de_var (i := 0)) (da_cons (de_var (i := 1)) (da_cons de_int da_nil)))))) dss_nil) (dss_cons (ds_set (i := 4) nd (de_call (ok__law_take X) (hr.mono (by decide)) xo (da_cons (de_var (i := 0)) (da_cons (de_len X.b_len (da_cons (de_var (i := 2)) da_nil)) da_nil)))) (dss_cons (ds_if (dt_cp (c_eq hu) (de_var (i := 3)) de_int) (dss_one (ds_ret (de_add (de_slice (de_var (i := 2)) do_none (do_some (de_var (i := 4)))) (de_slice (de_var (i := 2)) (do_some (de_add (de_var (i := 4)) de_int)) do_none)))) dss_nil) (dss_cons (ds_if (dt_cp (c_eq hu) (de_var (i := 3)) de_int) (dss_one (ds_ret (de_add (de_add (de_slice (de_var (i := 2)) do_none (do_some (de_var (i := 4)))) (de_tup (da_cons (de_ix (de_var (i := 2)) (de_var (i := 4))) da_nil))) (de_slice (de_var (i := 2)) (do_some (de_var (i := 4))) do_none)))) dss_nil) (dss_cons (ds_if (dt_cp (c_eq hu) (de_var (i := 3)) de_int) (dss_one (ds_ret (de_add (de_add (de_slice (de_var (i := 2)) do_none (do_some (de_var (i := 4)))) (de_tup (da_cons (de_call (ok__law_of X) (hr.mono (by decide)) xo (da_cons (de_var (i := 0)) (da_cons (de_call (ok__law_actions X) (hr.mono (by decide)) xo (da_cons (de_var (i := 1)) da_nil)) da_nil))) da_nil))) (de_slice (de_var (i := 2)) (do_some (de_add (de_var (i := 4)) de_int)) do_none)))) dss_nil) (dss_one (ds_ret (de_add (de_slice (de_var (i := 2)) (do_some (de_var (i := 4))) do_none) (de_slice (de_var (i := 2)) do_none (do_some (de_var (i := 4))))))))))))), ?_⟩
    clear hu5 hu nd hp xo hr
    obtain ⟨n, as, rfl, n1, n2, ha, hl, q⟩ := h
    walk_at "go"
    refine ⟨by omega, by omega, fun r r0 r1 => ?_⟩
    walk_at "go"
    refine ⟨shaped_scr as, shaped_scr [], ?_⟩
    rw [show PyData.tuple [] = scrD [] from rfl, eqv_scr]
    walk_at "go"
    have one : ∀ bs : List Act, bs.all (isAct n) = true → (bs.length : Int) ≤ 3 → Q' (.val (scrD bs)) := fun bs hb hl => q bs hb (by omega)
    cases he : decide (as = []) with
    | true =>
      walk_at "go"
      refine ⟨n1, n2, by omega, by omega, fun bs hb hl => ?_⟩
      exact ⟨rfl, one bs hb hl⟩
    | false =>
      have hne : as ≠ [] := of_decide_eq_false he
      have hpos : 0 < as.length := List.length_pos_iff.mpr hne
      walk_at "go"
      rw [eqv_int]
      cases h0 : decide (r = 0) with
      | true =>
        walk_at "go"
        refine ⟨n1, n2, by omega, by omega, fun bs hb hl => ?_⟩
        exact ⟨rfl, one bs hb hl⟩
      | false =>
        walk_at "go"
        refine ⟨by simp; omega, by simp; omega, fun at' at0 at1 => ?_⟩
        have hat : at'.toNat < as.length := by simp at at1; omega
        have c1 : cutD (as.map actD) none (some at') = (as.take at'.toNat).map actD := by rw [cutD_map, show at' = ((at'.toNat : Nat) : Int) by omega, cutD_to]; rfl
        have c2 : cutD (as.map actD) (some (at' + 1)) none = (as.drop (at'.toNat + 1)).map actD := by rw [show at' + 1 = ((at'.toNat + 1 : Nat) : Int) by omega, cutD_map, cutD_from]
        have c3 : cutD (as.map actD) (some at') none = (as.drop at'.toNat).map actD := by rw [cutD_map, show at' = ((at'.toNat : Nat) : Int) by omega, cutD_from]; rfl
        have tk : ∀ a ∈ as.take at'.toNat, isAct n a = true := fun a m => List.all_eq_true.mp ha a (List.mem_of_mem_take m)
        have dp : ∀ i, ∀ a ∈ as.drop i, isAct n a = true := fun i a m => List.all_eq_true.mp ha a (List.mem_of_mem_drop m)
        have lt1 : (as.take at'.toNat).length ≤ 50 := by rw [List.length_take]; omega
        have lt2 : ∀ i, (as.drop i).length ≤ 50 := fun i => by rw [List.length_drop]; omega
        have fin : ∀ bs : List Act, (∀ a ∈ bs, isAct n a = true) → bs.length ≤ 53 → ∀ d, d = scrD bs → (resOk (.val d) = true ∧ Q' (.val d)) := fun bs hb hl d e => by
          subst e
          exact ⟨rfl, q bs (List.all_eq_true.mpr hb) hl⟩
        have mem3 : ∀ (xs ys : List Act), (∀ a ∈ xs, isAct n a = true) → (∀ a ∈ ys, isAct n a = true) → ∀ a ∈ xs ++ ys, isAct n a = true := fun xs ys h1 h2 a m => (List.mem_append.mp m).elim (h1 a) (h2 a)
        walk_at "go"
        rw [eqv_int]
        cases h1 : decide (r = 1) with
        | true =>
          walk_at "go"
          refine ⟨by rw [c1, c2]; simp [sizeLine_eq]; omega, ?_⟩
          exact fin (as.take at'.toNat ++ as.drop (at'.toNat + 1)) (mem3 _ _ tk (dp _)) (by rw [List.length_append]; have := lt2 (at'.toNat + 1); simp; omega) _ (by rw [c1, c2, scrD, List.map_append])
        | false =>
          walk_at "go"
          rw [eqv_int]
          cases h2 : decide (r = 2) with
          | true =>
            walk_at "go"
            refine ⟨actD as[at'.toNat], by rw [getI_map, getI_in at0 hat]; rfl, ?_⟩
            walk_at "go"
            refine ⟨by rw [c1]; simp [sizeLine_eq]; omega, ?_⟩
            walk_at "go"
            refine ⟨by rw [c1, c3]; simp [sizeLine_eq]; omega, ?_⟩
            exact fin (as.take at'.toNat ++ [as[at'.toNat]] ++ as.drop at'.toNat) (mem3 _ _ (mem3 _ _ tk fun a m => (by rw [List.mem_singleton.mp m]; exact List.all_eq_true.mp ha _ (List.getElem_mem hat))) (dp _)) (by simp; omega) _ (by rw [c1, c3, scrD, List.map_append, List.map_append]; rfl)
          | false =>
            walk_at "go"
            rw [eqv_int]
            cases h3 : decide (r = 3) with
            | true =>
              walk_at "go"
              refine ⟨n1, n2, fun p acts _ hm hc p2 => ?_⟩
              walk_at "go"
              refine ⟨_, .inl rfl, ?_, by rw [List.length_map]; omega, fun d hd => ?_⟩
              · rw [List.length_map]
                exact List.length_pos_of_mem ((hm ⟨false, 0, n + 1⟩).mpr (isAct_show.mpr ⟨by omega, by omega, by omega⟩))
              · obtain ⟨a, hd1, rfl⟩ := List.mem_map.mp hd
                have ha2 := (hm a).mp hd1
                walk_at "go"
                refine ⟨by rw [c1]; simp [sizeLine_eq]; omega, ?_⟩
                walk_at "go"
                refine ⟨by rw [c1, c2]; simp [sizeLine_eq]; omega, ?_⟩
                exact fin (as.take at'.toNat ++ [a] ++ as.drop (at'.toNat + 1)) (mem3 _ _ (mem3 _ _ tk fun b m => (by rw [List.mem_singleton.mp m]; exact ha2)) (dp _)) (by simp; omega) _ (by rw [c1, c2, scrD, List.map_append, List.map_append]; rfl)
            | false =>
              walk_at "go"
              refine ⟨by rw [c1, c3]; simp [sizeLine_eq]; omega, ?_⟩
              exact fin (as.drop at'.toNat ++ as.take at'.toNat) (mem3 _ _ (dp _) tk) (by simp; omega) _ (by rw [c1, c3, scrD, List.map_append])
/-! _law_all -/
def c__law_all : Con := fun ss Q _ => ∃ n : Int, ss = [.val (.int n)] ∧ 0 ≤ n ∧ n ≤ 12 ∧ ∀ p, Q (.own p ((allH n.toNat).map tupT))
theorem scLawAll : FnScope ["size", "found", "row", "some"] ["size"] (defScope sLawAll) := ⟨rfl, rfl, rfl, by decide +kernel, rfl, by decide +kernel, by decide +kernel⟩
theorem ok__law_all (X : Tx K mg) : FnD P w K mg base 1 "_law_all" c__law_all := by
  refine fnD_ok (N := ["size", "found", "row", "some"]) (ps := ["size"]) X.f__law_all scLawAll (fun _ _ _ _ _ _ us hl => match us, hl with | [_], _ => rfl) (fun ss Q X' h => ?_) (fun f cdv A outer s H Y E ss Q' X' hr xo hp h => ?_)
  · obtain ⟨n, rfl, _⟩ := h
    rfl
  · have nd := scLawAll.nd
    have hu := hr.units
    have hu5 := room65 hr
    refine ⟨_, (dss_cons (ds_set (i := 1) nd (de_lst (da_cons (de_tup da_nil) da_nil))) (dss_cons (ds_for hp rfl (di_r2 X.b_range (da_cons de_int (da_cons (de_add (de_var (i := 0)) de_int) da_nil))) (dg_name (i := 2) nd) (dss_one (ds_set (i := 1) nd (de_add (de_var (i := 1)) (de_comp (own := [("some", 3)]) (vs := [3]) rfl rfl nd (di_seq (de_var (i := 1))) (blkOk_by (N := ["size", "found", "row", "some"]) (sc := defScope sLawAll) (by decide +kernel)) (tg_name 3) (fun _ _ _ _ _ => (pg_name (i := 3) nd rfl (Or.inl rfl))) (fun _ _ _ _ _ => dts_nil) (fun _ _ _ _ _ => (de_add (de_var (i := 3)) (de_tup (da_cons (de_var (i := 2)) da_nil))))))))) (dss_one (ds_ret (de_sortDat hu X.b_sorted (da_cons (de_var (i := 1)) da_nil)))))), ?_⟩
    clear hu5 hu nd hp xo hr
    obtain ⟨n, rfl, n0, n1, q⟩ := h
    have pw : ∀ i : Nat, i ≤ 12 → 2 ^ i ≤ 4096 := fun i hi => Nat.le_trans (Nat.pow_le_pow_right (by decide) hi) (by decide)
    walk_at "go"
    intro p
    walk_at "go"
    refine ⟨by omega, by omega, by omega, by omega, by omega, ?_⟩
    refine forD_rng (fun i δ => ∃ (p : Addr) (s t : SV), δ = [.val (.int n), .own p ((subsI i).map tupT), s, t]) ⟨p, .none, .none, rfl⟩ (fun _ _ _ => trivial) ?_ ?_
    · rintro i _ hi ⟨p, s, t, rfl⟩ K k
      have hl := subsI_len i
      have hp := pw i (by omega)
      have e : (subsI (i + 1)).map tupT = (subsI i).map tupT ++ (subsI i).map fun t => .tuple (t.items.map .int ++ [.int (1 + (i : Int))]) := by
        show (subsI i ++ (subsI i).map _).map tupT = _
        rw [List.map_append, List.map_map]
        congr 1
        refine List.map_congr_left fun t _ => ?_
        simp [tupI]
      rw [e] at k
      walk_at "go"
      refine compD_map tupT (fun t => .tuple (t.items.map .int ++ [.int (1 + (i : Int))])) (subsI i) rfl (fun t ht K acc k => ?_) ?_
      · have st := (subsI_asc i t ht).2
        have lt := asc_len st (subsI_asc i t ht).1 (by omega)
        walk_at "go"
        refine ⟨by simp [sizeLine_eq]; omega, ?_⟩
        walk_at "go"
        exact k
      · intro p1
        walk_at "go"
        refine ⟨by simp [sizeLine_eq]; omega, fun p2 => ?_⟩
        exact k _ ⟨p2, _, _, rfl⟩
    · rintro _ ⟨p, s, t, rfl⟩
      rw [show (n + 1 - 1).toNat = n.toNat by omega]
      refine ⟨_, rfl, sortDat_rest (α := Tup Int) (Z := fun ds => ∀ p : Addr, resOk (.own p ds) = true ∧ Q' (.own p ds)) (subsI n.toNat) (subsI_ok _) (by decide) fun zs e _ _ p => ?_⟩
      subst e
      exact ⟨rfl, q p⟩
/-! _law_after -/
def c__law_after : Con := fun ss Q _ => ∃ n h k x y, ss = [.val (.int n), .val (tupI h), .val (.tuple [wordD k, .int x, .int y])] ∧ IsSt n h ∧ isAct n ⟨k, x, y⟩ = true ∧ Q (.val (optH (aft h ⟨k, x, y⟩)))
theorem scLawAfter : FnScope ["size", "hidden", "action", "word", "x", "y", "row"] ["size", "hidden", "action"] (defScope sLawAfter) := ⟨rfl, rfl, rfl, by decide +kernel, rfl, by decide +kernel, by decide +kernel⟩
theorem ok__law_after (X : Tx K mg) : FnD P w K mg base 1 "_law_after" c__law_after := by
  refine fnD_ok (N := ["size", "hidden", "action", "word", "x", "y", "row"]) (ps := ["size", "hidden", "action"]) X.f__law_after scLawAfter (fun _ _ _ _ _ _ us hl => match us, hl with | [_, _, _], _ => rfl) (fun ss Q X' h => ?_) (fun f cdv A outer s H Y E ss Q' X' hr xo hp h => ?_)
  · obtain ⟨n, h, k, x, y, rfl, _⟩ := h
    rfl
  · have nd := scLawAfter.nd
    have hu := hr.units
    have hu5 := room65 hr
    refine ⟨_, (dss_cons (ds_asg (de_var (i := 2)) (dg_tup (n := 3) rfl (dgs_cons (dg_name (i := 3) nd) (dgs_cons (dg_name (i := 4) nd) (dgs_cons (dg_name (i := 5) nd) dgs_nil))))) (dss_cons (ds_if (DW.dt (dw_or (dt_cp (c_in hu5) (de_var (i := 4)) (de_var (i := 1))) (dw_or1 (dt_cp (c_in hu5) (de_var (i := 5)) (de_var (i := 1)))))) (dss_one (ds_ret de_non)) dss_nil) (dss_cons (ds_if (dt_cp (c_eq hu) (de_var (i := 3)) de_str) (dss_one (ds_ret (de_tuple X.b_tuple (da_cons (de_comp (own := [("row", 6)]) (vs := [6]) rfl rfl nd (di_r2 X.b_range (da_cons de_int (da_cons (de_add (de_var (i := 0)) de_int) da_nil))) (blkOk_by (N := ["size", "hidden", "action", "word", "x", "y", "row"]) (sc := defScope sLawAfter) (by decide +kernel)) (tg_name 6) (fun _ _ _ _ _ => (pg_name (i := 6) nd rfl (Or.inl rfl))) (fun _ _ _ _ _ => (dts_one (DW.dt (dw_or (dt_cp (c_in hu5) (de_var (i := 6)) (de_var (i := 1))) (dw_or1 (dt_cp2 c_le c_le (de_var (i := 4)) (de_var (i := 6)) (de_var (i := 5)))))))) (fun _ _ _ _ _ => (de_var (i := 6)))) da_nil)))) dss_nil) (dss_one (ds_ret (de_tuple X.b_tuple (da_cons (de_comp (own := [("row", 6)]) (vs := [6]) rfl rfl nd (di_seq (de_var (i := 1))) (blkOk_by (N := ["size", "hidden", "action", "word", "x", "y", "row"]) (sc := defScope sLawAfter) (by decide +kernel)) (tg_name 6) (fun _ _ _ _ _ => (pg_name (i := 6) nd rfl (Or.inl rfl))) (fun _ _ _ _ _ => (dts_one (DW.dt (dw_or (dt_cp c_lt (de_var (i := 6)) (de_var (i := 4))) (dw_or1 (dt_cp c_gt (de_var (i := 6)) (de_var (i := 5)))))))) (fun _ _ _ _ _ => (de_var (i := 6)))) da_nil))))))), ?_⟩
    clear hu5 hu nd hp xo hr
    obtain ⟨n, h, k, x, y, rfl, st, ha, q⟩ := h
    have b := isAct_bound ha
    have n1 := st.n1
    have n2 := st.n2
    have no : (x ∈ h ∨ y ∈ h) → Q' (.val .none) := fun z => by unfold aft at q; rw [if_pos z] at q; exact q
    dsimp only at b
    walk_at "go"
    rw [any_int]
    cases hx : decide (x ∈ h) with
    | true => walk_at "go"; exact no (.inl (of_decide_eq_true hx))
    | false =>
      walk_at "go"
      rw [any_int]
      cases hy : decide (y ∈ h) with
      | true => walk_at "go"; exact no (.inr (of_decide_eq_true hy))
      | false =>
        have hx := of_decide_eq_false hx
        have hy := of_decide_eq_false hy
        have q : Q' (.val (optH (if k = true then some (uniI h x y) else some (h.filter fun r => !(decide (x < r) && decide (r < y)))))) := by
          unfold aft at q
          rw [if_neg (fun z => z.elim hx hy)] at q
          exact q
        cases k with
        | true =>
          walk_at "go"
          refine ⟨by omega, by omega, by omega, by omega, by omega, ?_⟩
          unfold rangeD
          refine compD_typed (fun i : Nat => .int (1 + (i : Int))) (fun i => decide ((1 + (i : Int)) ∈ h) || (decide (x ≤ 1 + (i : Int)) && decide (1 + (i : Int) ≤ y))) (fun i => .int (1 + (i : Int))) trivial _ [] (fun i hi K acc k => ?_) ?_
          · walk_at "go"
            rw [any_int]
            cases h1 : decide ((1 + (i : Int)) ∈ h) with
            | true => rw [h1] at k; walk_at "go"; exact k
            | false =>
              rw [h1] at k
              walk_at "go"
              cases h2 : decide (x ≤ 1 + (i : Int)) with
              | false => rw [h2] at k; walk_at "go"; exact k
              | true =>
                rw [h2] at k
                walk_at "go"
                cases h3 : decide (1 + (i : Int) ≤ y) with
                | false => rw [h3] at k; exact k
                | true => rw [h3] at k; exact k
          · intro p
            walk_at "go"
            have e : ((List.range (n + 1 - 1).toNat).filter fun i : Nat => decide ((1 + (i : Int)) ∈ h) || (decide (x ≤ 1 + (i : Int)) && decide (1 + (i : Int) ≤ y))).map (fun i : Nat => PyData.int (1 + (i : Int))) = (uniI h x y).map .int := by
              have := b.2.2.2 rfl
              rw [← asc_ext (xs := (((List.range (n + 1 - 1).toNat).map fun i : Nat => (1 + (i : Int))).filter fun r => decide (r ∈ h) || (decide (x ≤ r) && decide (r ≤ y)))) ((rng_asc _ _).filter _) (uni_asc st.asc b.2.1) fun r => ?_]
              · rw [List.filter_map, List.map_map]
                rfl
              · rw [List.mem_filter, mem_rng, mem_uni, Bool.or_eq_true, Bool.and_eq_true, decide_eq_true_eq, decide_eq_true_eq, decide_eq_true_eq]
                by_cases hr : r ∈ h
                · have := st.rows r hr
                  simp only [hr, true_and, true_or, and_true]
                  omega
                · simp only [hr, false_and, false_or]
                  omega
            rw [List.nil_append, e]
            exact q
        | false =>
          walk_at "go"
          refine compD_typed PyData.int (fun r => !(decide (x < r) && decide (r < y))) PyData.int trivial h [] (fun r hr K acc k => ?_) ?_
          · have e : (!(decide (x < r) && decide (r < y))) = (decide (r < x) || decide (y < r)) := by
              have h1 : r ≠ x := fun z => hx (z ▸ hr)
              have h2 : r ≠ y := fun z => hy (z ▸ hr)
              rw [Bool.eq_iff_iff]
              simp only [Bool.not_eq_true', Bool.and_eq_false_iff, Bool.or_eq_true, decide_eq_true_eq, decide_eq_false_iff_not]
              omega
            rw [e] at k
            walk_at "go"
            cases h1 : decide (r < x) with
            | true => rw [h1] at k; walk_at "go"; exact k
            | false =>
              rw [h1] at k
              walk_at "go"
              cases h2 : decide (y < r) with
              | false => rw [h2] at k; exact k
              | true => rw [h2] at k; exact k
          · intro p
            walk_at "go"
            exact q
/-! _law_last -/
def c__law_last : Con := fun ss Q _ => ∃ n h as, ss = [.val (.int n), .val (tupI h), .val (scrD as)] ∧ IsSt n h ∧ as.all (isAct n) = true ∧ Q (.val (optH (runA (some h) as)))
theorem scLawLast : FnScope ["size", "hidden", "script", "action"] ["size", "hidden", "script"] (defScope sLawLast) := ⟨rfl, rfl, rfl, by decide +kernel, rfl, by decide +kernel, by decide +kernel⟩
theorem ok__law_last (X : Tx K mg) : FnD P w K mg base 2 "_law_last" c__law_last := by
  refine fnD_ok (N := ["size", "hidden", "script", "action"]) (ps := ["size", "hidden", "script"]) X.f__law_last scLawLast (fun _ _ _ _ _ _ us hl => match us, hl with | [_, _, _], _ => rfl) (fun ss Q X' h => ?_) (fun f cdv A outer s H Y E ss Q' X' hr xo hp h => ?_)
  · obtain ⟨n, h, as, rfl, _⟩ := h
    rfl
  · have nd := scLawLast.nd
    have hu := hr.units
    have hu5 := room65 hr
    refine ⟨_, (dss_cons (ds_for hp rfl (di_seq (de_var (i := 2))) (dg_name (i := 3) nd) (dss_one (ds_if (dt_cp c_isnot (de_var (i := 1)) de_non) (dss_one (ds_set (i := 1) nd (de_call (ok__law_after X) (hr.mono (by decide)) xo (da_cons (de_var (i := 0)) (da_cons (de_var (i := 1)) (da_cons (de_var (i := 3)) da_nil)))))) dss_nil))) (dss_one (ds_ret (de_var (i := 1))))), ?_⟩
    clear hu5 hu nd hp xo hr
    obtain ⟨n, h, as, rfl, st, ha, q⟩ := h
    refine ⟨as.map actD, rfl, ?_⟩
    refine forD_inv actD as (fun done δ => ∃ s, δ = [.val (.int n), .val (optH (runA (some h) done)), .val (scrD as), s]) ⟨_, rfl⟩ (fun _ _ _ => trivial) ?_ ?_
    · rintro done a rest _ e ⟨s, rfl⟩ K k
      have ha1 : done.all (isAct n) = true := by rw [e, List.all_append, Bool.and_eq_true] at ha; exact ha.1
      have ha2 : isAct n a = true := by rw [e, List.all_append, Bool.and_eq_true, List.all_cons, Bool.and_eq_true] at ha; exact ha.2.1
      rw [runA_app] at k
      have k : ∀ s, K [.val (.int n), .val (optH ((runA (some h) done).bind (aft · a))), .val (scrD as), s] := fun s => k _ ⟨s, rfl⟩
      have st' := fun h' e => runA_st (h' := h') st ha1 e
      generalize runA (some h) done = o at *
      cases o with
      | none =>
        walk_at "go"
        exact k _
      | some h' =>
        walk_at "go"
        refine ⟨st' h' rfl, ha2, ?_⟩
        walk_at "go"
        exact k _
    · rintro _ ⟨s, rfl⟩
      walk_at "go"
      cases e4 : runA (some h) as with
      | none => rw [e4] at q; exact q
      | some h' => rw [e4] at q; exact q
/-! law -/
def c_law : Con := fun ss Q _ => ∃ ns, ss = [.scr ns] ∧ ns.length ≤ 63 ∧ Q (.val (.bool true))
theorem scLaw : FnScope ["script", "k", "bag", "turn", "size", "first", "second", "rows", "due", "own"] ["script"] (defScope sLaw) := ⟨rfl, rfl, rfl, by decide +kernel, rfl, by decide +kernel, by decide +kernel⟩
theorem ok_law {f : Addr} {fd : FuncData} (F : Fun K "law" "law" sLaw f fd) (X : Tx K mg) : FnOk P w K mg base (L2.CX P w) 5 f fd ["script"] (spD K mg c_law) := by
  refine fnX_ok (N := ["script", "k", "bag", "turn", "size", "first", "second", "rows", "due", "own"]) (ps := ["script"]) F scLaw (fun ss Q X' h => ?_) (fun f cdv A outer s H Y E ss Q' X' hr xo hp h => ?_)
  · obtain ⟨ns, rfl, _⟩ := h
    rfl
  · have nd := scLaw.nd
    have hu := hr.units
    have hu5 := room65 hr
    refine ⟨_, (dss_cons (ds_for hp rfl (di_r1 X.b_range (da_cons (de_add (de_min2 rfl X.b_min (da_cons (de_len X.b_len (da_cons (de_var (i := 0)) da_nil)) (da_cons de_int da_nil))) de_int) da_nil)) (dg_name (i := 1) nd) (dss_cons (ds_set (i := 2) nd (de_call (ok__law_bag X) (hr.mono (by decide)) xo (da_cons (de_var (i := 0)) (da_cons (de_var (i := 1)) da_nil)))) (dss_one (ds_for hp rfl (di_r1 X.b_range (da_cons de_int da_nil)) (dg_name (i := 3) nd) (dss_cons (ds_set (i := 4) nd (de_add de_int (de_call (ok__law_take X) (hr.mono (by decide)) xo (da_cons (de_var (i := 2)) (da_cons de_int da_nil))))) (dss_cons (ds_set (i := 5) nd (de_call (ok__law_script X) (hr.mono (by decide)) xo (da_cons (de_var (i := 2)) (da_cons (de_var (i := 4)) (da_cons de_int da_nil))))) (dss_cons (ds_set (i := 6) nd (de_call (ok__law_other X) (hr.mono (by decide)) xo (da_cons (de_var (i := 2)) (da_cons (de_var (i := 4)) (da_cons (de_var (i := 5)) da_nil))))) (dss_cons (ds_setLc (i := 7) (own := [("own", 9)]) (vs := [9]) rfl rfl nd rfl rfl (sw_true rfl rfl rfl (by decide +kernel)) (di_seq (de_call (ok__law_all X) (hr.mono (by decide)) xo (da_cons (de_var (i := 4)) da_nil))) (blkOk_by (N := ["script", "k", "bag", "turn", "size", "first", "second", "rows", "due", "own"]) (sc := defScope sLaw) (by decide +kernel)) (tg_name 9) (fun _ _ _ _ _ => (pg_name (i := 9) nd rfl (Or.inl rfl))) (fun _ _ _ _ _ => (dts_one (dt_cp (c_ne hu) (de_call (ok__law_last X) (hr.mono (by decide)) xo_blk (da_cons (de_var (i := 4)) (da_cons (de_var (i := 9)) (da_cons (de_var (i := 5)) da_nil)))) (de_call (ok__law_last X) (hr.mono (by decide)) xo_blk (da_cons (de_var (i := 4)) (da_cons (de_var (i := 9)) (da_cons (de_var (i := 6)) da_nil))))))) (fun _ _ _ _ _ => (de_var (i := 9)))) (dss_cons (ds_set (i := 8) nd (de_if (dt_cp (c_ne hu) (de_var (i := 7)) (de_lst da_nil)) (de_ix (de_var (i := 7)) de_int) de_non)) (dss_cons (ds_if (DW.dt (dw_or (dt_cp (c_ne hu) (de_call (ok_difference X) (hr.mono (by decide)) xo (da_cons (de_var (i := 4)) (da_cons (de_var (i := 5)) (da_cons (de_var (i := 6)) da_nil)))) (de_var (i := 8))) (dw_or1 (dt_cp (c_ne hu) (de_call (ok_difference X) (hr.mono (by decide)) xo (da_cons (de_var (i := 4)) (da_cons (de_var (i := 6)) (da_cons (de_var (i := 5)) da_nil)))) (de_var (i := 8)))))) (dss_one (ds_ret de_bl)) dss_nil) (dss_one (ds_if (dt_cp c_isnot (de_call (ok_difference X) (hr.mono (by decide)) xo (da_cons (de_var (i := 4)) (da_cons (de_var (i := 5)) (da_cons (de_var (i := 5)) da_nil)))) de_non) (dss_one (ds_ret de_bl)) dss_nil)))))))))))) (dss_cons (ds_if (dt_cp c_isnot (de_call (ok_difference X) (hr.mono (by decide)) xo (da_cons de_int (da_cons (de_tup (da_cons (de_tup (da_cons de_str (da_cons de_int (da_cons de_int da_nil)))) da_nil)) (da_cons (de_tup (da_cons (de_tup (da_cons de_str (da_cons de_int (da_cons de_int da_nil)))) (da_cons (de_tup (da_cons de_str (da_cons de_int (da_cons de_int da_nil)))) da_nil))) da_nil)))) de_non) (dss_one (ds_ret de_bl)) dss_nil) (dss_cons (ds_if (dt_cp (c_ne hu) (de_call (ok_difference X) (hr.mono (by decide)) xo (da_cons de_int (da_cons (de_tup (da_cons (de_tup (da_cons de_str (da_cons de_int (da_cons de_int da_nil)))) da_nil)) (da_cons (de_tup (da_cons (de_tup (da_cons de_str (da_cons de_int (da_cons de_int da_nil)))) (da_cons (de_tup (da_cons de_str (da_cons de_int (da_cons de_int da_nil)))) da_nil))) da_nil)))) (de_tup (da_cons de_int (da_cons de_int da_nil)))) (dss_one (ds_ret de_bl)) dss_nil) (dss_one (ds_ret (de_cp (c_eq hu) (de_call (ok_difference X) (hr.mono (by decide)) xo (da_cons de_int (da_cons (de_tup (da_cons (de_tup (da_cons de_str (da_cons de_int (da_cons de_int da_nil)))) da_nil)) (da_cons (de_tup da_nil) da_nil)))) (de_tup da_nil))))))), ?_⟩
    clear hu5 hu nd hp xo hr
    obtain ⟨ns, rfl, hl, q⟩ := h
    have hm := min_le (a := (ns.length : Int)) (b := 4) (by omega) (by omega)
    walk_at "go"
    refine ⟨by omega, by omega, ?_⟩
    refine forD_rng (fun i δ => ∃ s1 s2 s3 s4 s5 s6 s7 s8 s9 : SV, δ = [.scr ns, s1, s2, s3, s4, s5, s6, s7, s8, s9]) ⟨.none, .none, .none, .none, .none, .none, .none, .none, .none, rfl⟩ (fun _ _ _ => trivial) ?_ ?_
    · rintro i _ hi ⟨s1, s2, s3, s4, s5, s6, s7, s8, s9, rfl⟩ K k
      walk_at "go"
      refine ⟨by omega, by omega, by omega, ?_⟩
      walk_at "go"
      refine ⟨by omega, by omega, ?_⟩
      refine forD_rng (fun j δ => ∃ t1 t2 t3 t4 t5 t6 t7 : SV, δ = [.scr ns, .val (.int (0 + (i : Int))), .bag, t1, t2, t3, t4, t5, t6, t7]) ⟨s3, s4, s5, s6, s7, s8, s9, rfl⟩ (fun _ _ _ => trivial) ?_ ?_
      · rintro j _ hj ⟨t1, t2, t3, t4, t5, t6, t7, rfl⟩ K k
        walk_at "go"
        refine ⟨by omega, by omega, fun m m0 m1 => ?_⟩
        walk_at "go"
        refine ⟨by omega, by omega, by omega, by omega, fun as ha la => ?_⟩
        walk_at "go"
        refine ⟨by omega, by omega, ha, by omega, fun bs hb lb => ?_⟩
        walk_at "go"
        refine ⟨by omega, by omega, fun p p1 => ?_⟩
        walk_at "go"
        refine compD_typed tupT (fun t => decide (runA (some t.items) as ≠ runA (some t.items) bs)) tupT trivial (allH (1 + m).toNat) [] (fun x hx K acc k => ?_) ?_
        · have sx : IsSt (1 + m) x.items := by
            have := allH_st (n := (1 + m).toNat) (by omega) (by omega) hx
            rw [show (((1 + m).toNat : Nat) : Int) = 1 + m by omega] at this
            exact this
          walk_at "go"
          refine ⟨sx, ha, ?_⟩
          walk_at "go"
          refine ⟨sx, hb, ?_⟩
          walk_at "go"
          refine ⟨shaped_optH _, shaped_optH _, ?_⟩
          rw [eqv_optH]
          cases hc : decide (runA (some x.items) as = runA (some x.items) bs) with
          | true =>
            rw [if_neg (by simpa using hc)] at k
            walk_at "go"
            exact k
          | false =>
            rw [if_pos (by simpa using hc)] at k
            walk_at "go"
            exact k
        · intro p2
          have hD := diffA_head (1 + m).toNat as bs
          rw [List.nil_append]
          generalize (allH (1 + m).toNat).filter (fun t => decide (runA (some t.items) as ≠ runA (some t.items) bs)) = rows at *
          walk_at "go"
          intro p3
          walk_at "go"
          refine ⟨shaped_tups rows, shaped_tups [], ?_⟩
          rw [show PyData.list [] = .list (([] : List (Tup Int)).map tupT) from rfl, eqv_tups]
          cases rows with
          | nil =>
            rw [List.head?_nil] at hD
            walk_at "go"
            refine ⟨by omega, by omega, ha, by omega, hb, by omega, ?_⟩
            rw [hD]
            walk_at "go"
            refine ⟨by omega, by omega, hb, by omega, ha, by omega, ?_⟩
            rw [diffA_symm, hD]
            walk_at "go"
            refine ⟨by omega, by omega, ha, by omega, ha, by omega, ?_⟩
            rw [diffA_self]
            walk_at "go"
            exact k _ ⟨_, _, _, _, _, _, _, rfl⟩
          | cons x rest =>
            rw [List.head?_cons] at hD
            rw [show decide (x :: rest = []) = false from rfl]
            walk_at "go"
            refine ⟨by omega, by omega, ha, by omega, hb, by omega, ?_⟩
            rw [hD]
            walk_at "go"
            refine ⟨shaped_optH (some x.items), shaped_optH (some x.items), ?_⟩
            rw [show PyData.eqv (optH ((some x).map Tup.items)) (tupT x) = true from (eqv_optH (some x.items) (some x.items)).trans (decide_eq_true rfl)]
            walk_at "go"
            refine ⟨by omega, by omega, hb, by omega, ha, by omega, ?_⟩
            rw [diffA_symm, hD]
            walk_at "go"
            refine ⟨shaped_optH (some x.items), shaped_optH (some x.items), ?_⟩
            rw [show PyData.eqv (optH ((some x).map Tup.items)) (tupT x) = true from (eqv_optH (some x.items) (some x.items)).trans (decide_eq_true rfl)]
            walk_at "go"
            refine ⟨by omega, by omega, ha, by omega, ha, by omega, ?_⟩
            rw [diffA_self]
            walk_at "go"
            exact k _ ⟨_, _, _, _, _, _, _, rfl⟩
      · rintro _ ⟨t1, t2, t3, t4, t5, t6, t7, rfl⟩
        exact k _ ⟨_, _, _, _, _, _, _, _, _, rfl⟩
    · rintro _ ⟨s1, s2, s3, s4, s5, s6, s7, s8, s9, rfl⟩
      walk_at "go"
      refine ⟨2, [⟨true, 1, 2⟩], [⟨true, 1, 1⟩, ⟨true, 2, 2⟩], rfl, by decide, by decide, by decide, by decide, by decide, by decide, ?_⟩
      rw [show diffA (2 : Int).toNat [⟨true, 1, 2⟩] [⟨true, 1, 1⟩, ⟨true, 2, 2⟩] = none from diff_a]
      walk_at "go"
      refine ⟨3, [⟨false, 0, 4⟩], [⟨false, 0, 2⟩, ⟨false, 1, 4⟩], rfl, by decide, by decide, by decide, by decide, by decide, by decide, ?_⟩
      rw [show diffA (3 : Int).toNat [⟨false, 0, 4⟩] [⟨false, 0, 2⟩, ⟨false, 1, 4⟩] = some ⟨[1, 2]⟩ from diff_b]
      walk_at "go"
      refine ⟨2, [⟨true, 1, 1⟩], [], rfl, by decide, by decide, by decide, by decide, by decide, by decide, ?_⟩
      rw [show diffA (2 : Int).toNat [⟨true, 1, 1⟩] [] = some ⟨[]⟩ from diff_c]
      walk_at "go"
      exact q
end
/-! ### the end -/
theorem all_mk {P : Program} {w : World} {K : PySem.W.Frag} {h : Heap} {mg : Str → Option Value} {fa f0 f1 f2 f3 f4 f5 f6 f7 f8 f9 f10 f11 f12 f13 f14 f15 f16 f17 C0 C1 : Addr} (X : K.In h) (G : h.Ns mainGlobals mg) (hfa : mg "law" = some (.ref fa))
    {od0 an0 od1 an1 od2 an2 od3 an3 od4 an4 od5 an5 od6 an6 od7 an7 od8 an8 od9 an9 od10 an10 od11 an11 od12 an12 od13 an13 od14 an14 od15 an15 od16 an16 od17 an17 : Option Addr} {sl0 sl1 sl2 sl3 sl4 sl5 sl6 sl7 sl8 sl9 sl10 sl11 sl12 sl13 sl14 sl15 sl16 sl17 : Array (Option Value)} {oc0 kV0 dc0 pm0 cd0 ct0 oc1 kV1 dc1 pm1 cd1 ct1 oc2 kV2 dc2 pm2 cd2 ct2 oc3 kV3 dc3 pm3 cd3 ct3 oc4 kV4 dc4 pm4 cd4 ct4 oc5 kV5 dc5 pm5 cd5 ct5 oc6 kV6 dc6 pm6 cd6 ct6 oc7 kV7 dc7 pm7 cd7 ct7 oc8 kV8 dc8 pm8 cd8 ct8 oc9 kV9 dc9 pm9 cd9 ct9 oc10 kV10 dc10 pm10 cd10 ct10 oc11 kV11 dc11 pm11 cd11 ct11 oc12 kV12 dc12 pm12 cd12 ct12 oc13 kV13 dc13 pm13 cd13 ct13 oc14 kV14 dc14 pm14 cd14 ct14 oc15 kV15 dc15 pm15 cd15 ct15 oc16 kV16 dc16 pm16 cd16 ct16 oc17 kV17 dc17 pm17 cd17 ct17 : Value} {tk0 tk1 : Tok}
    (a0 : PySem.W.nsIn K mainGlobals "_law_bag" = some (some (.ref f0)))
    (l0 : K.lookup f0 = some ⟨oc0, od0, .func (PySem.W.fnOf "_law_bag" "_law_bag" (defArgs sLawBag) (defBody sLawBag) (defScope sLawBag) .none kV0 dc0 pm0 an0 cd0 ct0), sl0⟩)
    (c0 : PySem.W.codeIn K cd0 "_law_bag" = true)
    (k0 : PySem.W.keepIn K (.ref f0) = true)
    (a1 : PySem.W.nsIn K mainGlobals "all_hidden" = some (some (.ref f1)))
    (l1 : K.lookup f1 = some ⟨oc1, od1, .func (PySem.W.fnOf "all_hidden" "all_hidden" (defArgs sAllHidden) (defBody sAllHidden) (defScope sAllHidden) .none kV1 dc1 pm1 an1 cd1 ct1), sl1⟩)
    (c1 : PySem.W.codeIn K cd1 "all_hidden" = true)
    (k1 : PySem.W.keepIn K (.ref f1) = true)
    (a2 : PySem.W.nsIn K mainGlobals "is_integer" = some (some (.ref f2)))
    (l2 : K.lookup f2 = some ⟨oc2, od2, .func (PySem.W.fnOf "is_integer" "is_integer" (defArgs sIsInteger) (defBody sIsInteger) (defScope sIsInteger) .none kV2 dc2 pm2 an2 cd2 ct2), sl2⟩)
    (c2 : PySem.W.codeIn K cd2 "is_integer" = true)
    (k2 : PySem.W.keepIn K (.ref f2) = true)
    (a3 : PySem.W.nsIn K mainGlobals "is_action" = some (some (.ref f3)))
    (l3 : K.lookup f3 = some ⟨oc3, od3, .func (PySem.W.fnOf "is_action" "is_action" (defArgs sIsAction) (defBody sIsAction) (defScope sIsAction) .none kV3 dc3 pm3 an3 cd3 ct3), sl3⟩)
    (c3 : PySem.W.codeIn K cd3 "is_action" = true)
    (k3 : PySem.W.keepIn K (.ref f3) = true)
    (a4 : PySem.W.nsIn K mainGlobals "is_script" = some (some (.ref f4)))
    (l4 : K.lookup f4 = some ⟨oc4, od4, .func (PySem.W.fnOf "is_script" "is_script" (defArgs sIsScript) (defBody sIsScript) (defScope sIsScript) .none kV4 dc4 pm4 an4 cd4 ct4), sl4⟩)
    (c4 : PySem.W.codeIn K cd4 "is_script" = true)
    (k4 : PySem.W.keepIn K (.ref f4) = true)
    (a5 : PySem.W.nsIn K mainGlobals "after" = some (some (.ref f5)))
    (l5 : K.lookup f5 = some ⟨oc5, od5, .func (PySem.W.fnOf "after" "after" (defArgs sAfter) (defBody sAfter) (defScope sAfter) .none kV5 dc5 pm5 an5 cd5 ct5), sl5⟩)
    (c5 : PySem.W.codeIn K cd5 "after" = true)
    (k5 : PySem.W.keepIn K (.ref f5) = true)
    (a6 : PySem.W.nsIn K mainGlobals "performed" = some (some (.ref f6)))
    (l6 : K.lookup f6 = some ⟨oc6, od6, .func (PySem.W.fnOf "performed" "performed" (defArgs sPerformed) (defBody sPerformed) (defScope sPerformed) .none kV6 dc6 pm6 an6 cd6 ct6), sl6⟩)
    (c6 : PySem.W.codeIn K cd6 "performed" = true)
    (k6 : PySem.W.keepIn K (.ref f6) = true)
    (a7 : PySem.W.nsIn K mainGlobals "last_of" = some (some (.ref f7)))
    (l7 : K.lookup f7 = some ⟨oc7, od7, .func (PySem.W.fnOf "last_of" "last_of" (defArgs sLastOf) (defBody sLastOf) (defScope sLastOf) .none kV7 dc7 pm7 an7 cd7 ct7), sl7⟩)
    (c7 : PySem.W.codeIn K cd7 "last_of" = true)
    (k7 : PySem.W.keepIn K (.ref f7) = true)
    (a8 : PySem.W.nsIn K mainGlobals "difference" = some (some (.ref f8)))
    (l8 : K.lookup f8 = some ⟨oc8, od8, .func (PySem.W.fnOf "difference" "difference" (defArgs sDifference) (defBody sDifference) (defScope sDifference) .none kV8 dc8 pm8 an8 cd8 ct8), sl8⟩)
    (c8 : PySem.W.codeIn K cd8 "difference" = true)
    (k8 : PySem.W.keepIn K (.ref f8) = true)
    (a9 : PySem.W.nsIn K mainGlobals "_law_take" = some (some (.ref f9)))
    (l9 : K.lookup f9 = some ⟨oc9, od9, .func (PySem.W.fnOf "_law_take" "_law_take" (defArgs sLawTake) (defBody sLawTake) (defScope sLawTake) .none kV9 dc9 pm9 an9 cd9 ct9), sl9⟩)
    (c9 : PySem.W.codeIn K cd9 "_law_take" = true)
    (k9 : PySem.W.keepIn K (.ref f9) = true)
    (a10 : PySem.W.nsIn K mainGlobals "_law_of" = some (some (.ref f10)))
    (l10 : K.lookup f10 = some ⟨oc10, od10, .func (PySem.W.fnOf "_law_of" "_law_of" (defArgs sLawOf) (defBody sLawOf) (defScope sLawOf) .none kV10 dc10 pm10 an10 cd10 ct10), sl10⟩)
    (c10 : PySem.W.codeIn K cd10 "_law_of" = true)
    (k10 : PySem.W.keepIn K (.ref f10) = true)
    (a11 : PySem.W.nsIn K mainGlobals "_law_actions" = some (some (.ref f11)))
    (l11 : K.lookup f11 = some ⟨oc11, od11, .func (PySem.W.fnOf "_law_actions" "_law_actions" (defArgs sLawActions) (defBody sLawActions) (defScope sLawActions) .none kV11 dc11 pm11 an11 cd11 ct11), sl11⟩)
    (c11 : PySem.W.codeIn K cd11 "_law_actions" = true)
    (k11 : PySem.W.keepIn K (.ref f11) = true)
    (a12 : PySem.W.nsIn K mainGlobals "_law_script" = some (some (.ref f12)))
    (l12 : K.lookup f12 = some ⟨oc12, od12, .func (PySem.W.fnOf "_law_script" "_law_script" (defArgs sLawScript) (defBody sLawScript) (defScope sLawScript) .none kV12 dc12 pm12 an12 cd12 ct12), sl12⟩)
    (c12 : PySem.W.codeIn K cd12 "_law_script" = true)
    (k12 : PySem.W.keepIn K (.ref f12) = true)
    (a13 : PySem.W.nsIn K mainGlobals "_law_other" = some (some (.ref f13)))
    (l13 : K.lookup f13 = some ⟨oc13, od13, .func (PySem.W.fnOf "_law_other" "_law_other" (defArgs sLawOther) (defBody sLawOther) (defScope sLawOther) .none kV13 dc13 pm13 an13 cd13 ct13), sl13⟩)
    (c13 : PySem.W.codeIn K cd13 "_law_other" = true)
    (k13 : PySem.W.keepIn K (.ref f13) = true)
    (a14 : PySem.W.nsIn K mainGlobals "_law_all" = some (some (.ref f14)))
    (l14 : K.lookup f14 = some ⟨oc14, od14, .func (PySem.W.fnOf "_law_all" "_law_all" (defArgs sLawAll) (defBody sLawAll) (defScope sLawAll) .none kV14 dc14 pm14 an14 cd14 ct14), sl14⟩)
    (c14 : PySem.W.codeIn K cd14 "_law_all" = true)
    (k14 : PySem.W.keepIn K (.ref f14) = true)
    (a15 : PySem.W.nsIn K mainGlobals "_law_after" = some (some (.ref f15)))
    (l15 : K.lookup f15 = some ⟨oc15, od15, .func (PySem.W.fnOf "_law_after" "_law_after" (defArgs sLawAfter) (defBody sLawAfter) (defScope sLawAfter) .none kV15 dc15 pm15 an15 cd15 ct15), sl15⟩)
    (c15 : PySem.W.codeIn K cd15 "_law_after" = true)
    (k15 : PySem.W.keepIn K (.ref f15) = true)
    (a16 : PySem.W.nsIn K mainGlobals "_law_last" = some (some (.ref f16)))
    (l16 : K.lookup f16 = some ⟨oc16, od16, .func (PySem.W.fnOf "_law_last" "_law_last" (defArgs sLawLast) (defBody sLawLast) (defScope sLawLast) .none kV16 dc16 pm16 an16 cd16 ct16), sl16⟩)
    (c16 : PySem.W.codeIn K cd16 "_law_last" = true)
    (k16 : PySem.W.keepIn K (.ref f16) = true)
    (a17 : PySem.W.nsIn K mainGlobals "law" = some (some (.ref f17)))
    (l17 : K.lookup f17 = some ⟨oc17, od17, .func (PySem.W.fnOf "law" "law" (defArgs sLaw) (defBody sLaw) (defScope sLaw) .none kV17 dc17 pm17 an17 cd17 ct17), sl17⟩)
    (c17 : PySem.W.codeIn K cd17 "law" = true)
    (k17 : PySem.W.keepIn K (.ref f17) = true)
    (gC0 : PySem.W.nsIn K mainGlobals "InvalidScript" = some (some (.ref C0)))
    (xC0 : PySem.W.excIn K C0 [.type "ValueError", .type "Exception", .type "BaseException", .type "object"] "ValueError.__new__" = true)
    (kC0 : PySem.W.keepIn K (.ref C0) = true)
    (bC0 : PySem.W.subIn K (.ref C0) (.type "BaseException") = some true)
    (tC0 : PySem.W.typeIn K (.ref C0) = some (.type "type"))
    (gC1 : PySem.W.nsIn K mainGlobals "InvalidSize" = some (some (.ref C1)))
    (xC1 : PySem.W.excIn K C1 [.type "ValueError", .type "Exception", .type "BaseException", .type "object"] "ValueError.__new__" = true)
    (kC1 : PySem.W.keepIn K (.ref C1) = true)
    (bC1 : PySem.W.subIn K (.ref C1) (.type "BaseException") = some true)
    (tC1 : PySem.W.typeIn K (.ref C1) = some (.type "type"))
    (n0 : PySem.W.nsIn K mainGlobals "ACTIONS" = some (some (.int 60 tk0)))
    (n1 : PySem.W.nsIn K mainGlobals "SMALL" = some (some (.int 8 tk1)))
    (z0 : PySem.W.nsIn K mainGlobals "all" = some none)
    (z1 : PySem.W.nsIn K mainGlobals "bool" = some none)
    (z2 : PySem.W.nsIn K mainGlobals "int" = some none)
    (z3 : PySem.W.nsIn K mainGlobals "isinstance" = some none)
    (z4 : PySem.W.nsIn K mainGlobals "len" = some none)
    (z5 : PySem.W.nsIn K mainGlobals "min" = some none)
    (z6 : PySem.W.nsIn K mainGlobals "range" = some none)
    (z7 : PySem.W.nsIn K mainGlobals "set" = some none)
    (z8 : PySem.W.nsIn K mainGlobals "sorted" = some none)
    (z9 : PySem.W.nsIn K mainGlobals "str" = some none)
    (z10 : PySem.W.nsIn K mainGlobals "tuple" = some none)
    : ∃ fd : FuncData, (∀ (s : Shared) (v : Value), BindsTo s fd ⟨[v], []⟩ [("script", v)]) ∧ ∀ base : Heap, K.In base → base.Ns mainGlobals mg → FnOk P w K mg base (L2.CX P w) 5 fa fd ["script"] (spL K) := by
  have e := hfa.symm.trans (PySem.W.mg_of X G a17)
  cases e
  have T : Tx K mg := {
    b_all := PySem.W.mg_none_of X G z0,
    b_bool := PySem.W.mg_none_of X G z1,
    b_int := PySem.W.mg_none_of X G z2,
    b_isinstance := PySem.W.mg_none_of X G z3,
    b_len := PySem.W.mg_none_of X G z4,
    b_min := PySem.W.mg_none_of X G z5,
    b_range := PySem.W.mg_none_of X G z6,
    b_set := PySem.W.mg_none_of X G z7,
    b_sorted := PySem.W.mg_none_of X G z8,
    b_str := PySem.W.mg_none_of X G z9,
    b_tuple := PySem.W.mg_none_of X G z10,
    c_InvalidScript := ⟨C0, PySem.W.mg_of X G gC0, xC0, kC0, bC0, tC0⟩,
    c_InvalidSize := ⟨C1, PySem.W.mg_of X G gC1, xC1, kC1, bC1, tC1⟩,
    g_ACTIONS := cst_int (PySem.W.mg_of X G n0),
    g_SMALL := cst_int (PySem.W.mg_of X G n1),
    f__law_bag := ⟨f0, _, fun_mk (st := sLawBag) l0 c0 k0, PySem.W.mg_of X G a0⟩,
    f_all_hidden := ⟨f1, _, fun_mk (st := sAllHidden) l1 c1 k1, PySem.W.mg_of X G a1⟩,
    f_is_integer := ⟨f2, _, fun_mk (st := sIsInteger) l2 c2 k2, PySem.W.mg_of X G a2⟩,
    f_is_action := ⟨f3, _, fun_mk (st := sIsAction) l3 c3 k3, PySem.W.mg_of X G a3⟩,
    f_is_script := ⟨f4, _, fun_mk (st := sIsScript) l4 c4 k4, PySem.W.mg_of X G a4⟩,
    f_after := ⟨f5, _, fun_mk (st := sAfter) l5 c5 k5, PySem.W.mg_of X G a5⟩,
    f_performed := ⟨f6, _, fun_mk (st := sPerformed) l6 c6 k6, PySem.W.mg_of X G a6⟩,
    f_last_of := ⟨f7, _, fun_mk (st := sLastOf) l7 c7 k7, PySem.W.mg_of X G a7⟩,
    f_difference := ⟨f8, _, fun_mk (st := sDifference) l8 c8 k8, PySem.W.mg_of X G a8⟩,
    f__law_take := ⟨f9, _, fun_mk (st := sLawTake) l9 c9 k9, PySem.W.mg_of X G a9⟩,
    f__law_of := ⟨f10, _, fun_mk (st := sLawOf) l10 c10 k10, PySem.W.mg_of X G a10⟩,
    f__law_actions := ⟨f11, _, fun_mk (st := sLawActions) l11 c11 k11, PySem.W.mg_of X G a11⟩,
    f__law_script := ⟨f12, _, fun_mk (st := sLawScript) l12 c12 k12, PySem.W.mg_of X G a12⟩,
    f__law_other := ⟨f13, _, fun_mk (st := sLawOther) l13 c13 k13, PySem.W.mg_of X G a13⟩,
    f__law_all := ⟨f14, _, fun_mk (st := sLawAll) l14 c14 k14, PySem.W.mg_of X G a14⟩,
    f__law_after := ⟨f15, _, fun_mk (st := sLawAfter) l15 c15 k15, PySem.W.mg_of X G a15⟩,
    f__law_last := ⟨f16, _, fun_mk (st := sLawLast) l16 c16 k16, PySem.W.mg_of X G a16⟩ }
  exact ⟨_, fun s v => .of_eq rfl, fun base _ _ => law_fn (ok_law (fun_mk (st := sLaw) l17 c17 k17) T) fun ns Q X h q => ⟨ns, rfl, h, q⟩⟩
end HR
open PySem PySem.W PyProof.Rows
set_option maxRecDepth 100000 in
set_option maxHeartbeats 0 in
theorem PySem.Challenge.cw_hiddenrows_k18_whole_scripts_on_all_stat_holds : PySem.Challenge.rw_hiddenrows_k18_whole_scripts_on_all_stat.Holds := by
  w_on; o_law; k_head; (case hw => w_witness2)
  k_fill
  refine L2.walk_of (l := PySem.Challenge.rw_hiddenrows_k18_whole_scripts_on_all_stat) (n := 63) (k := 5) (x := "script") (CX := fun w => L2.CX PySem.Challenge.rw_hiddenrows_k18_whole_scripts_on_all_stat.prog w) (sp := fun w => HR.spL _) rfl (by decide) rfl ⟨rfl, by decide, by decide⟩ (fun w h Y => PySem.W.kIn_of Y) ?F (fun w H a ns hl hO hS => ⟨a, ns, rfl, hS, hO, hl, fun _ => rfl⟩) ?Z
  case F =>
    intro w mg fa h KX G hmg
    refine' HR.all_mk KX G hmg ?a0 ?l0 ?c0 ?k0 ?a1 ?l1 ?c1 ?k1 ?a2 ?l2 ?c2 ?k2 ?a3 ?l3 ?c3 ?k3 ?a4 ?l4 ?c4 ?k4 ?a5 ?l5 ?c5 ?k5 ?a6 ?l6 ?c6 ?k6 ?a7 ?l7 ?c7 ?k7 ?a8 ?l8 ?c8 ?k8 ?a9 ?l9 ?c9 ?k9 ?a10 ?l10 ?c10 ?k10 ?a11 ?l11 ?c11 ?k11 ?a12 ?l12 ?c12 ?k12 ?a13 ?l13 ?c13 ?k13 ?a14 ?l14 ?c14 ?k14 ?a15 ?l15 ?c15 ?k15 ?a16 ?l16 ?c16 ?k16 ?a17 ?l17 ?c17 ?k17 ?gC0 ?xC0 ?kC0 ?bC0 ?tC0 ?gC1 ?xC1 ?kC1 ?bC1 ?tC1 ?n0 ?n1 ?z0 ?z1 ?z2 ?z3 ?z4 ?z5 ?z6 ?z7 ?z8 ?z9 ?z10
    (case a0 => k_is)
    (case l0 => k_is)
    (case c0 => k_is)
    (case k0 => k_is)
    (case a1 => k_is)
    (case l1 => k_is)
    (case c1 => k_is)
    (case k1 => k_is)
    (case a2 => k_is)
    (case l2 => k_is)
    (case c2 => k_is)
    (case k2 => k_is)
    (case a3 => k_is)
    (case l3 => k_is)
    (case c3 => k_is)
    (case k3 => k_is)
    (case a4 => k_is)
    (case l4 => k_is)
    (case c4 => k_is)
    (case k4 => k_is)
    (case a5 => k_is)
    (case l5 => k_is)
    (case c5 => k_is)
    (case k5 => k_is)
    (case a6 => k_is)
    (case l6 => k_is)
    (case c6 => k_is)
    (case k6 => k_is)
    (case a7 => k_is)
    (case l7 => k_is)
    (case c7 => k_is)
    (case k7 => k_is)
    (case a8 => k_is)
    (case l8 => k_is)
    (case c8 => k_is)
    (case k8 => k_is)
    (case a9 => k_is)
    (case l9 => k_is)
    (case c9 => k_is)
    (case k9 => k_is)
    (case a10 => k_is)
    (case l10 => k_is)
    (case c10 => k_is)
    (case k10 => k_is)
    (case a11 => k_is)
    (case l11 => k_is)
    (case c11 => k_is)
    (case k11 => k_is)
    (case a12 => k_is)
    (case l12 => k_is)
    (case c12 => k_is)
    (case k12 => k_is)
    (case a13 => k_is)
    (case l13 => k_is)
    (case c13 => k_is)
    (case k13 => k_is)
    (case a14 => k_is)
    (case l14 => k_is)
    (case c14 => k_is)
    (case k14 => k_is)
    (case a15 => k_is)
    (case l15 => k_is)
    (case c15 => k_is)
    (case k15 => k_is)
    (case a16 => k_is)
    (case l16 => k_is)
    (case c16 => k_is)
    (case k16 => k_is)
    (case a17 => k_is)
    (case l17 => k_is)
    (case c17 => k_is)
    (case k17 => k_is)
    (case gC0 => k_is)
    (case xC0 => k_exc)
    (case kC0 => k_is)
    (case bC0 => k_is)
    (case tC0 => k_is)
    (case gC1 => k_is)
    (case xC1 => k_exc)
    (case kC1 => k_is)
    (case bC1 => k_is)
    (case tC1 => k_is)
    (case n0 => k_is)
    (case n1 => k_is)
    (case z0 => k_is)
    (case z1 => k_is)
    (case z2 => k_is)
    (case z3 => k_is)
    (case z4 => k_is)
    (case z5 => k_is)
    (case z6 => k_is)
    (case z7 => k_is)
    (case z8 => k_is)
    (case z9 => k_is)
    (case z10 => k_is)
  case Z =>
    intro w H s e s' h
    obtain ⟨_, _, _, _, _, _, _, _, _, _, _, _, h⟩ := h
    exact h
