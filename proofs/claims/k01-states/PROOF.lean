import PyProof.Rows.All
import Wide.All
import OpenK.AllK
import Wide.FinOn
import HandS.ForMost
import HandS.ForExc
import HandS.IsInst
import HandS.TupAny
import HandS.TupMul
import HandS.Style
import HandS.Deep
import HandS.Conv
import HandS.Walk
import HandS.Zip
import HandS.SortInts
import KE.DatumMore
import HandS.Strs
import HandS.SetFor
import PyProof.ListRange
import HandS.ExcValue
import HandS.MapObj
import KE.KDictZip
import KE.SortData
import KE.DatumOrd
import HandS.ExcIs
import HandS.TryOnly
import HandS.Star
import HandS.Dict
import HandS.Iter
import KE.KDictDisplayH
import KE.DataCmp
import PySem.Challenge.RW_hiddenrows_k01_states_are_checked
set_option Elab.async false
set_option linter.all false
set_option maxRecDepth 100000
set_option maxHeartbeats 4000000
namespace HR
open PySem PySem.Spec L2
open PyProof.Rows hiding St
/-! ### data as such, and how a heap bears it -/
abbrev D := PyData
mutual
inductive Enc (K : PySem.W.Frag) (M : Addr → Prop) (H : Hp) : V → D → Prop
  | non : Enc K M H .non .none
  | bl (b : Bool) : Enc K M H (.bl b) (.bool b)
  | int (i : Int) : Enc K M H (.int i) (.int i)
  | str (x : Str) : Enc K M H (.str x) (.str x)
  | lst {a : Addr} {xs : List V} {ds : List D} : H a = some (.lst xs) → ¬ M a → EncS K M H xs ds → Enc K M H (.ref a) (.list ds)
  | tup {a : Addr} {xs : List V} {ds : List D} : SqT K H a xs → EncS K M H xs ds → (H a = some (.tup xs) ∨ ∃ s r, ds = .str s :: r) → Enc K M H (.ref a) (.tuple ds)
inductive EncS (K : PySem.W.Frag) (M : Addr → Prop) (H : Hp) : List V → List D → Prop
  | nil : EncS K M H [] []
  | cons {v : V} {vs : List V} {d : D} {ds : List D} : Enc K M H v d → EncS K M H vs ds → EncS K M H (v :: vs) (d :: ds)
end
/-- a sequence, which data may lean on while it is locked -/
def Seqy : HO → Prop
  | .lst _ => True
  | .tup _ => True
  | _ => False
/-- what may be written: a list, a dict, a dict that is locked -/
def Wr : Option HO → Prop
  | some (.lst _) => True
  | some (.dK _) => True
  | some (.dT _) => True
  | some (.frz _ (.dK _)) => True
  | some (.frz _ (.dT _)) => True
  | _ => False
/-- from one state of the heap to another, what is read stays -/
structure Stay (M M' : Addr → Prop) (H H' : Hp) : Prop where
  frz : ∀ a o u, H a = some (.frz o u) → Seqy u → H' a = some (.frz o u)
  tup : ∀ a xs, H a = some (.tup xs) → H' a = some (.tup xs)
  lst : ∀ a xs, H a = some (.lst xs) → ¬ M a → H' a = some (.lst xs) ∧ ¬ M' a
section
variable {K : PySem.W.Frag} {M M' : Addr → Prop} {H H' : Hp}
theorem Stay.rd (S : Stay M M' H H') {a : Addr} {xs : List V} (h : Rd H a (.tup xs)) : Rd H' a (.tup xs) := by
  rcases h with h | ⟨o, h⟩
  · exact .inl (S.tup _ _ h)
  · exact .inr ⟨o, S.frz _ _ _ h trivial⟩
mutual
theorem Enc.stay (S : Stay M M' H H') : ∀ {v : V} {d : D}, Enc K M H v d → Enc K M' H' v d
  | _, _, .non => .non
  | _, _, .bl b => .bl b
  | _, _, .int i => .int i
  | _, _, .str x => .str x
  | _, _, .lst h n r => .lst (S.lst _ _ h n).1 (S.lst _ _ h n).2 (EncS.stay S r)
  | _, _, .tup h r p => .tup (by
      rcases h with h | h
      · exact .inl (S.rd h)
      · exact .inr h) (EncS.stay S r) (p.imp (S.tup _ _) id)
theorem EncS.stay (S : Stay M M' H H') : ∀ {vs : List V} {ds : List D}, EncS K M H vs ds → EncS K M' H' vs ds
  | _, _, .nil => .nil
  | _, _, .cons h r => .cons (Enc.stay S h) (EncS.stay S r)
end
mutual
theorem Enc.dp : ∀ {v : V} {d : D}, Enc K M H v d → Dp K H v d
  | _, _, .non => .non
  | _, _, .bl b => .bl b
  | _, _, .int i => .int i
  | _, _, .str x => .str x
  | _, _, .lst h _ r => .lst (SqL.of h) (EncS.dp r)
  | _, _, .tup h r _ => .tup h (EncS.dp r)
theorem EncS.dp : ∀ {vs : List V} {ds : List D}, EncS K M H vs ds → DpAll K H vs ds
  | _, _, .nil => .nil
  | _, _, .cons h r => .cons (Enc.dp h) (EncS.dp r)
end
theorem EncS.length : ∀ {vs : List V} {ds : List D}, EncS K M H vs ds → vs.length = ds.length
  | _, _, .nil => rfl
  | _, _, .cons _ r => by simp [EncS.length r]
theorem EncS.append : ∀ {vs us : List V} {ds es : List D}, EncS K M H vs ds → EncS K M H us es → EncS K M H (vs ++ us) (ds ++ es)
  | _, _, _, _, .nil, h => h
  | _, _, _, _, .cons h r, q => .cons h (EncS.append r q)
theorem EncS.get : ∀ {vs : List V} {ds : List D} {i : Nat} {d : D}, EncS K M H vs ds → ds[i]? = some d → ∃ v, vs[i]? = some v ∧ Enc K M H v d
  | _, _, _, _, .nil, h => by simp at h
  | _, _, 0, _, .cons h _, e => by simp at e; subst e; exact ⟨_, rfl, h⟩
  | _, _, i + 1, d, .cons _ r, e => by
    obtain ⟨v, h1, h2⟩ := EncS.get (i := i) (d := d) r (by simpa using e)
    exact ⟨v, by simpa using h1, h2⟩
theorem EncS.at_ : ∀ {vs : List V} {ds : List D} {i : Nat} {v : V}, EncS K M H vs ds → vs[i]? = some v → ∃ d, ds[i]? = some d ∧ Enc K M H v d
  | _, _, _, _, .nil, h => by simp at h
  | _, _, 0, _, .cons h _, e => by simp at e; subst e; exact ⟨_, rfl, h⟩
  | _, _, i + 1, v, .cons _ r, e => by
    obtain ⟨d, h1, h2⟩ := EncS.at_ (i := i) (v := v) r (by simpa using e)
    exact ⟨d, by simpa using h1, h2⟩
theorem EncS.set {v : V} {d : D} (h : Enc K M H v d) : ∀ {vs : List V} {ds : List D} (i : Nat), EncS K M H vs ds → EncS K M H (vs.set i v) (ds.set i d)
  | _, _, _, .nil => .nil
  | _, _, 0, .cons _ r => .cons h r
  | _, _, i + 1, .cons q r => .cons q (EncS.set h i r)
theorem EncS.take : ∀ {vs : List V} {ds : List D} (n : Nat), EncS K M H vs ds → EncS K M H (vs.take n) (ds.take n)
  | _, _, 0, _ => .nil
  | _, _, _ + 1, .nil => .nil
  | _, _, n + 1, .cons h r => .cons h (EncS.take n r)
theorem EncS.drop : ∀ {vs : List V} {ds : List D} (n : Nat), EncS K M H vs ds → EncS K M H (vs.drop n) (ds.drop n)
  | _, _, 0, h => h
  | _, _, _ + 1, .nil => .nil
  | _, _, n + 1, .cons _ r => EncS.drop n r
theorem EncS.reverse {vs : List V} {ds : List D} (h : EncS K M H vs ds) : EncS K M H vs.reverse ds.reverse := by
  induction vs generalizing ds with
  | nil => cases h; exact .nil
  | cons v vs ih =>
    cases h with
    | cons a r =>
      rw [List.reverse_cons, List.reverse_cons]
      exact (ih r).append (.cons a .nil)
theorem EncS.dropLast {vs : List V} {ds : List D} (h : EncS K M H vs ds) : EncS K M H vs.dropLast ds.dropLast := by
  rw [List.dropLast_eq_take, List.dropLast_eq_take, h.length]
  exact h.take _
theorem EncS.ints : ∀ {vs : List V} {ns : List Int}, EncS K M H vs (ns.map .int) → vs = ns.map V.int
  | _, [], .nil => rfl
  | _, n :: ns, .cons h r => by
    cases h
    rw [EncS.ints r]
    rfl
theorem EncS.bls : ∀ {vs : List V} {ns : List Bool}, EncS K M H vs (ns.map .bool) → vs = ns.map V.bl
  | _, [], .nil => rfl
  | _, n :: ns, .cons h r => by
    cases h
    rw [EncS.bls r]
    rfl
theorem EncS.strs : ∀ {vs : List V} {ns : List Str}, EncS K M H vs (ns.map .str) → vs = ns.map V.str
  | _, [], .nil => rfl
  | _, n :: ns, .cons h r => by
    cases h
    rw [EncS.strs r]
    rfl
theorem EncS.of_ints : ∀ (ns : List Int), EncS K M H (ns.map V.int) (ns.map .int)
  | [] => .nil
  | n :: ns => .cons (.int n) (EncS.of_ints ns)
theorem EncS.of_strs : ∀ (ns : List Str), EncS K M H (ns.map V.str) (ns.map .str)
  | [] => .nil
  | n :: ns => .cons (.str n) (EncS.of_strs ns)
end
/-! ### the world: G bags, M all that may be changed -/
structure Good (G M : Addr → Prop) (H : Hp) : Prop where
  gm : ∀ a, G a → M a
  bag : ∀ a, G a → ∃ x y : Int, H a = some (.lst [.int x, .int y]) ∧ 0 ≤ x ∧ 0 ≤ y ∧ y < 2147483647
  m : ∀ a, M a → ∃ o, H a = some o
structure Ext (G M : Addr → Prop) (H : Hp) (G' M' : Addr → Prop) (H' : Hp) : Prop where
  keep : ∀ a o, H a = some o → ¬ G a → H' a = some o
  gs : ∀ a, G a → G' a
  gn : ∀ a, G' a → G a ∨ H a = none
  ms : ∀ a, M a → M' a
  mn : ∀ a, M' a → M a ∨ H a = none
section
variable {G M G' M' G2 M2 : Addr → Prop} {H H' H2 : Hp}
theorem Ext.refl : Ext G M H G M H := ⟨fun _ _ h _ => h, fun _ h => h, fun _ h => .inl h, fun _ h => h, fun _ h => .inl h⟩
theorem Ext.back (E : Ext G M H G' M' H') (g' : Good G' M' H') {a : Addr} (h : H' a = none) : H a = none := by
  cases q : H a with
  | none => rfl
  | some o =>
    by_cases hg : G a
    · obtain ⟨x, y, e, _⟩ := g'.bag a (E.gs a hg)
      rw [e] at h; cases h
    · rw [E.keep a o q hg] at h; cases h
theorem Ext.trans (E : Ext G M H G' M' H') (F : Ext G' M' H' G2 M2 H2) (g' : Good G' M' H') : Ext G M H G2 M2 H2 where
  keep := fun a o h n => F.keep a o (E.keep a o h n) fun z => by
    rcases E.gn a z with z | z
    · exact n z
    · rw [z] at h; cases h
  gs := fun a h => F.gs a (E.gs a h)
  gn := fun a h => by
    rcases F.gn a h with h | h
    · exact E.gn a h
    · exact .inr (E.back g' h)
  ms := fun a h => F.ms a (E.ms a h)
  mn := fun a h => by
    rcases F.mn a h with h | h
    · exact E.mn a h
    · exact .inr (E.back g' h)
theorem Good.ng (g : Good G M H) {a : Addr} {o : HO} (h : H a = some o) (n : ∀ x y : Int, o ≠ .lst [.int x, .int y]) : ¬ G a := fun z => by
  obtain ⟨x, y, e, _⟩ := g.bag a z
  rw [e] at h
  cases h
  exact n x y rfl
theorem Ext.stay (E : Ext G M H G' M' H') (g : Good G M H) : Stay M M' H H' where
  frz := fun a o u h _ => E.keep _ _ h (g.ng h fun x y z => nomatch z)
  tup := fun a xs h => E.keep _ _ h (g.ng h fun x y z => nomatch z)
  lst := fun a xs h n => by
    refine ⟨E.keep _ _ h fun z => n (g.gm _ z), fun z => ?_⟩
    rcases E.mn a z with z | z
    · exact n z
    · rw [z] at h; cases h
end
/-- the entry of a def -/
structure Ent where
  G : Addr → Prop
  M : Addr → Prop
  H : Hp
/-- a dict: its keys are ints, or tuples of ints; one of the latter that is locked by a walk over its keys -/
inductive Dct where
  | I (kvs : List (Int × D))
  | T (kvs : List (List Int × D))
  | L (w : Unit → Option HO) (kvs : List (List Int × D))
/-- what a slot or a value in hand is: data; a list of the def's own that is still made (at p); what stands in slot i (at p), borrowed; a bag; a pair of own lists; an own dict; the script -/
inductive SV where
  | none
  | val (d : D)
  | own (p : Addr) (ds : List D)
  | bor (i : Nat) (p : Addr)
  | bag
  | two (t p q : Addr) (ds es : List D)
  | dic (p : Addr) (kvs : Dct)
  | scr (ns : List Int)
  | exc (a : Addr)
def owned : SV → List Addr
  | .own p _ => [p]
  | .two _ p q _ _ => [p, q]
  | .dic p _ => [p]
  | _ => []
def Mine (E : Ent) (G M : Addr → Prop) (p : Addr) : Prop := M p ∧ ¬ G p ∧ E.H p = Option.none
/-- a list at p -/
def LstO (K : PySem.W.Frag) (M : Addr → Prop) (H : Hp) (p : Addr) (ds : List D) : Prop := ∃ vs, H p = some (.lst vs) ∧ EncS K M H vs ds
/-- a dict at p -/
def DicO (K : PySem.W.Frag) (M : Addr → Prop) (H : Hp) (p : Addr) : Dct → Prop
  | .I kvs => ∃ ks : List (Key × V), H p = some (.dK ks) ∧ Paired (fun (a : Key × V) (b : Int × D) => a.1 = .inl b.1 ∧ Enc K M H a.2 b.2) ks kvs
  | .T kvs => ∃ ks : List (List Key × V), H p = some (.dT ks) ∧ Paired (fun (a : List Key × V) (b : List Int × D) => a.1 = b.1.map .inl ∧ Enc K M H a.2 b.2) ks kvs
  | .L w kvs => ∃ (o : Obj) (ks : List (List Key × V)), w () = some (.frz o (.dT ks)) ∧ H p = w () ∧ Paired (fun (a : List Key × V) (b : List Int × D) => a.1 = b.1.map .inl ∧ Enc K M H a.2 b.2) ks kvs
/-- the script's list -/
def SqS (K : PySem.W.Frag) (M : Addr → Prop) (H : Hp) (a : Addr) (xs : List V) : Prop :=
  (H a = some (.lst xs) ∧ ¬ M a) ∨ (∃ o, H a = some (.frz o (.lst xs))) ∨ ∃ (o : Obj) (its : Array Value) (n : Nat), K.lookup a = some o ∧ o.cls = .type "list" ∧ o.dict = Option.none ∧ o.data = .seq its n ∧ its.size ≤ sizeLine ∧ Vals xs its.toList
theorem SqS.sq {K : PySem.W.Frag} {M : Addr → Prop} {H : Hp} {a : Addr} {xs : List V} (h : SqS K M H a xs) : SqL K H a xs := by
  rcases h with ⟨h, _⟩ | ⟨o, h⟩ | h
  · exact .inl (.inl h)
  · exact .inl (.inr ⟨o, h⟩)
  · exact .inr h
def RT (K : PySem.W.Frag) (E : Ent) (G M : Addr → Prop) (H : Hp) (v : V) : SV → Prop
  | .none => True
  | .val d => Enc K M H v d
  | .own p ds => v = .ref p ∧ Mine E G M p ∧ LstO K M H p ds
  | .bor _ p => v = .ref p
  | .bag => ∃ b, v = .ref b ∧ G b
  | .two t p q ds es => v = .ref t ∧ H t = some (.tup [.ref p, .ref q]) ∧ Mine E G M p ∧ Mine E G M q ∧ LstO K M H p ds ∧ LstO K M H q es
  | .dic p kvs => v = .ref p ∧ Mine E G M p ∧ DicO K M H p kvs
  | .scr ns => ∃ a, v = .ref a ∧ SqS K M H a (ns.map V.int)
  | .exc a => v = .ref a
abbrev Env := List SV
abbrev Tmp := List (V × SV)
/-- the state at a point of a def's body: slots σ, heap H; δ says what the slots are, π what is in hand -/
structure RepG (K : PySem.W.Frag) (E : Ent) (G M : Addr → Prop) (σ : St) (H : Hp) (δ : Env) (π : Tmp) : Prop where
  g0 : Good E.G E.M E.H
  ext : Ext E.G E.M E.H G M H
  good : Good G M H
  len : σ.length = δ.length
  slot : ∀ (i : Nat) (s : SV), δ[i]? = some s → s ≠ .none → ∃ v, σ[i]? = some (some v) ∧ RT K E G M H v s
  tmp : ∀ x ∈ π, RT K E G M H x.1 x.2
  nd : (δ.flatMap owned ++ π.flatMap fun x => owned x.2).Nodup
def Rep (K : PySem.W.Frag) (E : Ent) (σ : St) (H : Hp) (δ : Env) (π : Tmp) : Prop := ∃ G M, RepG K E G M σ H δ π
section
variable {K : PySem.W.Frag} {E : Ent} {G M G' M' : Addr → Prop} {σ : St} {H H' : Hp} {δ : Env} {π π' : Tmp} {v : V} {s : SV}
theorem LstO.stay {p : Addr} {ds : List D} (S : Stay M M' H H') (e : H' p = H p) (h : LstO K M H p ds) : LstO K M' H' p ds := by
  obtain ⟨vs, h1, h2⟩ := h
  exact ⟨vs, e ▸ h1, EncS.stay S h2⟩
theorem DicO.stay {p : Addr} {kv : Dct} (S : Stay M M' H H') (e : H' p = H p) (h : DicO K M H p kv) : DicO K M' H' p kv := by
  cases kv with
  | I kvs =>
    obtain ⟨ks, h1, h2⟩ := h
    exact ⟨ks, e ▸ h1, Paired.mapP h2 fun a b h => ⟨h.1, Enc.stay S h.2⟩⟩
  | T kvs =>
    obtain ⟨ks, h1, h2⟩ := h
    exact ⟨ks, e ▸ h1, Paired.mapP h2 fun a b h => ⟨h.1, Enc.stay S h.2⟩⟩
  | L w kvs =>
    obtain ⟨o, ks, hw, h1, h2⟩ := h
    exact ⟨o, ks, hw, e ▸ h1, Paired.mapP h2 fun a b h => ⟨h.1, Enc.stay S h.2⟩⟩
theorem LstO.mut {p : Addr} {ds : List D} (h : LstO K M H p ds) : Wr (H p) := by
  obtain ⟨vs, h1, _⟩ := h
  rw [h1]; trivial
theorem DicO.mut {p : Addr} {kv : Dct} (h : DicO K M H p kv) : Wr (H p) := by
  cases kv with
  | I kvs => obtain ⟨ks, h1, _⟩ := h; rw [h1]; trivial
  | T kvs => obtain ⟨ks, h1, _⟩ := h; rw [h1]; trivial
  | L w kvs => obtain ⟨o, ks, hw, h1, _⟩ := h; rw [h1, hw]; trivial
theorem RT.stay (S : Stay M M' H H') (hg : ∀ a, G a → G' a) (hm : ∀ a ∈ owned s, Mine E G M a → Mine E G' M' a ∧ H' a = H a) (h : RT K E G M H v s) : RT K E G' M' H' v s := by
  cases s with
  | none => trivial
  | val d => exact Enc.stay S h
  | own p ds =>
    obtain ⟨e, m, h⟩ := h
    obtain ⟨a1, a2⟩ := hm p (by simp [owned]) m
    exact ⟨e, a1, h.stay S a2⟩
  | bor i p => exact h
  | exc a => exact h
  | bag =>
    obtain ⟨b, e, g⟩ := h
    exact ⟨b, e, hg b g⟩
  | two t p q ds es =>
    obtain ⟨e, et, m, n, h, k⟩ := h
    obtain ⟨a1, a2⟩ := hm p (by simp [owned]) m
    obtain ⟨b1, b2⟩ := hm q (by simp [owned]) n
    exact ⟨e, S.tup _ _ et, a1, b1, h.stay S a2, k.stay S b2⟩
  | dic p kvs =>
    obtain ⟨e, m, h⟩ := h
    obtain ⟨a1, a2⟩ := hm p (by simp [owned]) m
    exact ⟨e, a1, h.stay S a2⟩
  | scr ns =>
    obtain ⟨a, e, h⟩ := h
    refine ⟨a, e, ?_⟩
    rcases h with ⟨h, n⟩ | ⟨o, h⟩ | h
    · exact .inl (S.lst _ _ h n)
    · exact .inr (.inl ⟨o, S.frz _ _ _ h trivial⟩)
    · exact .inr (.inr h)
theorem RepG.ext_to (R : RepG K E G M σ H δ π) (X : Ext G M H G' M' H') (g : Good G' M' H') : RepG K E G' M' σ H' δ π := by
  have S := X.stay R.good
  have hm : ∀ a, Mine E G M a → Mine E G' M' a ∧ H' a = H a := fun a ⟨m, n, z⟩ => by
    obtain ⟨o, e⟩ := R.good.m a m
    refine ⟨⟨X.ms a m, fun q => ?_, z⟩, ?_⟩
    · rcases X.gn a q with q | q
      · exact n q
      · rw [q] at e; cases e
    · rw [e, X.keep a o e n]
  exact ⟨R.g0, R.ext.trans X R.good, g, R.len, fun i s h n => let ⟨v, e, r⟩ := R.slot i s h n; ⟨v, e, r.stay S X.gs fun a _ => hm a⟩, fun x hx => (R.tmp x hx).stay S X.gs fun a _ => hm a, R.nd⟩
theorem RepG.perm (R : RepG K E G M σ H δ π) (h : π.Perm π') : RepG K E G M σ H δ π' :=
  ⟨R.g0, R.ext, R.good, R.len, R.slot, fun x hx => R.tmp x (h.mem_iff.mpr hx), (List.Perm.append_left _ (h.flatMap_right _)).nodup_iff.mp R.nd⟩
theorem RepG.drop (R : RepG K E G M σ H δ ((v, s) :: π)) : RepG K E G M σ H δ π := by
  refine ⟨R.g0, R.ext, R.good, R.len, R.slot, fun x hx => R.tmp x (List.mem_cons_of_mem _ hx), ?_⟩
  refine R.nd.sublist (List.Sublist.append_left ?_ _)
  rw [List.flatMap_cons]
  exact List.sublist_append_right _ _
theorem RepG.sub (R : RepG K E G M σ H δ (π' ++ π)) : RepG K E G M σ H δ π := by
  induction π' with
  | nil => exact R
  | cons x r ih => exact ih R.drop
theorem RepG.top (R : RepG K E G M σ H δ ((v, s) :: π)) : RT K E G M H v s := R.tmp _ List.mem_cons_self
/-- a value without an own list comes into hand -/
theorem RepG.push (R : RepG K E G M σ H δ π) (h : RT K E G M H v s) (n : owned s = []) : RepG K E G M σ H δ ((v, s) :: π) := by
  refine ⟨R.g0, R.ext, R.good, R.len, R.slot, fun x hx => ?_, ?_⟩
  · rcases List.mem_cons.mp hx with rfl | hx
    · exact h
    · exact R.tmp x hx
  · rw [List.flatMap_cons]
    show (List.flatMap owned δ ++ (owned s ++ List.flatMap (fun x => owned x.2) π)).Nodup
    rw [n]
    exact R.nd
/-- a new object that is never written -/
theorem RepG.laid (R : RepG K E G M σ H δ π) {p : Addr} {o : HO} (n : H p = Option.none) : RepG K E G M σ (upd H p o) δ π := by
  refine R.ext_to (M' := M) ⟨fun a u h _ => ?_, fun _ h => h, fun _ h => .inl h, fun _ h => h, fun _ h => .inl h⟩ ⟨R.good.gm, fun a h => ?_, fun a h => ?_⟩
  · rw [upd_ne (ne_of_none h n)]; exact h
  · obtain ⟨x, y, e, q⟩ := R.good.bag a h
    exact ⟨x, y, by rw [upd_ne (ne_of_none e n)]; exact e, q⟩
  · obtain ⟨u, e⟩ := R.good.m a h
    exact ⟨u, by rw [upd_ne (ne_of_none e n)]; exact e⟩
/-- every owned address is mine -/
theorem RepG.mine (R : RepG K E G M σ H δ π) {p : Addr} (h : p ∈ δ.flatMap owned ++ π.flatMap fun x => owned x.2) : Mine E G M p ∧ Wr (H p) := by
  have key : ∀ (v : V) (s : SV), RT K E G M H v s → p ∈ owned s → Mine E G M p ∧ Wr (H p) := fun v s r hp => by
    cases s with
    | own q ds =>
      have e : p = q := by simpa [owned] using hp
      subst e
      exact ⟨r.2.1, r.2.2.mut⟩
    | two t q q' ds es =>
      have e : p = q ∨ p = q' := by simpa [owned] using hp
      obtain ⟨_, _, m, m', h1, h2⟩ := r
      rcases e with rfl | rfl
      · exact ⟨m, h1.mut⟩
      · exact ⟨m', h2.mut⟩
    | dic q kvs =>
      have e : p = q := by simpa [owned] using hp
      subst e
      exact ⟨r.2.1, r.2.2.mut⟩
    | _ => simp [owned] at hp
  rcases List.mem_append.mp h with h | h
  · obtain ⟨s, hs, hp⟩ := List.mem_flatMap.mp h
    obtain ⟨i, hi⟩ := List.mem_iff_getElem?.mp hs
    obtain ⟨v, _, r⟩ := R.slot i s hi (fun z => by subst z; simp [owned] at hp)
    exact key v s r hp
  · obtain ⟨x, hx, hp⟩ := List.mem_flatMap.mp h
    exact key x.1 x.2 (R.tmp x hx) hp
/-- an object of one's own is laid at p -/
theorem RepG.freshO (R : RepG K E G M σ H δ π) {p : Addr} {o : HO} (n : H p = Option.none) :
    Ext G M H G (fun a => M a ∨ a = p) (upd H p o) ∧ Good G (fun a => M a ∨ a = p) (upd H p o) ∧ Mine E G (fun a => M a ∨ a = p) p ∧ p ∉ List.flatMap owned δ ++ List.flatMap (fun x => owned x.2) π := by
  have np : ¬ G p := fun z => by
    obtain ⟨x, y, e, _⟩ := R.good.bag p z
    rw [n] at e; cases e
  refine ⟨?_, ?_, ⟨.inr rfl, np, R.ext.back R.good n⟩, fun z => ?_⟩
  · refine ⟨fun a u h _ => by rw [upd_ne (ne_of_none h n)]; exact h, fun _ h => h, fun _ h => .inl h, fun _ h => .inl h, fun a h => ?_⟩
    rcases h with h | h
    · exact .inl h
    · subst h; exact .inr n
  · refine ⟨fun a h => .inl (R.good.gm a h), fun a h => ?_, fun a h => ?_⟩
    · obtain ⟨x, y, e, q⟩ := R.good.bag a h
      exact ⟨x, y, by rw [upd_ne (ne_of_none e n)]; exact e, q⟩
    · rcases h with h | h
      · obtain ⟨u, e⟩ := R.good.m a h
        exact ⟨u, by rw [upd_ne (ne_of_none e n)]; exact e⟩
      · subst h; exact ⟨_, upd_same⟩
  · obtain ⟨_, m⟩ := R.mine z
    rw [n] at m; exact m
theorem nd_push {a b c : List Addr} {p : Addr} (h : (a ++ b).Nodup) (n : p ∉ a ++ b) : (a ++ ([p] ++ b)).Nodup := by
  have : (a ++ ([p] ++ b)).Perm (p :: (a ++ b)) := by simpa using List.perm_middle
  exact this.nodup_iff.mpr (List.nodup_cons.mpr ⟨n, h⟩)
/-- a new list of one's own -/
theorem RepG.fresh (R : RepG K E G M σ H δ π) {p : Addr} {vs : List V} {ds : List D} (n : H p = Option.none) (h : EncS K M H vs ds) :
    RepG K E G (fun a => M a ∨ a = p) σ (upd H p (.lst vs)) δ ((.ref p, .own p ds) :: π) := by
  obtain ⟨X, g, m, hp⟩ := R.freshO (o := .lst vs) n
  have R' := R.ext_to X g
  refine ⟨R'.g0, R'.ext, R'.good, R'.len, R'.slot, fun x hx => ?_, ?_⟩
  · rcases List.mem_cons.mp hx with rfl | hx
    · exact ⟨rfl, m, vs, upd_same, EncS.stay (X.stay R.good) h⟩
    · exact R'.tmp x hx
  · rw [List.flatMap_cons]
    exact nd_push (c := []) R.nd hp
theorem RepG.freshD (R : RepG K E G M σ H δ π) {p : Addr} (n : H p = Option.none) (b : Bool) :
    RepG K E G (fun a => M a ∨ a = p) σ (upd H p (if b then .dK [] else .dT [])) δ ((.ref p, .dic p (if b then .I [] else .T [])) :: π) := by
  obtain ⟨X, g, m, hp⟩ := R.freshO (o := if b then .dK [] else .dT []) n
  have R' := R.ext_to X g
  refine ⟨R'.g0, R'.ext, R'.good, R'.len, R'.slot, fun x hx => ?_, ?_⟩
  · rcases List.mem_cons.mp hx with rfl | hx
    · refine ⟨rfl, m, ?_⟩
      cases b with
      | true => exact ⟨[], upd_same, .nil⟩
      | false => exact ⟨[], upd_same, .nil⟩
    · exact R'.tmp x hx
  · rw [List.flatMap_cons]
    exact nd_push (c := []) R.nd hp
/-! #### slots and what they own -/
theorem flat_set : ∀ {δ : Env} {i : Nat} {s : SV}, i < δ.length → ((δ.set i s).flatMap owned).Perm (owned s ++ (δ.set i .none).flatMap owned)
  | [], _, _, h => absurd h (Nat.not_lt_zero _)
  | x :: r, 0, s, _ => by
    show (owned s ++ r.flatMap owned).Perm (owned s ++ ([] ++ r.flatMap owned))
    exact List.Perm.refl _
  | x :: r, i + 1, s, h => by
    have ih := flat_set (δ := r) (i := i) (s := s) (Nat.lt_of_succ_lt_succ h)
    show (owned x ++ (r.set i s).flatMap owned).Perm (owned s ++ (owned x ++ (r.set i .none).flatMap owned))
    refine (List.Perm.append_left _ ih).trans ?_
    rw [← List.append_assoc, ← List.append_assoc]
    exact List.Perm.append_right _ List.perm_append_comm
theorem flat_sub : ∀ (δ : Env) (i : Nat), ((δ.set i .none).flatMap owned).Sublist (δ.flatMap owned)
  | [], _ => List.Sublist.refl _
  | x :: r, 0 => by
    show ([] ++ r.flatMap owned).Sublist (owned x ++ r.flatMap owned)
    exact List.Sublist.append_right (List.nil_sublist _) _
  | x :: r, i + 1 => by
    show (owned x ++ (r.set i .none).flatMap owned).Sublist (owned x ++ r.flatMap owned)
    exact List.Sublist.append_left (flat_sub r i) _
theorem set_self {δ : Env} {i : Nat} {s : SV} (h : δ[i]? = some s) : δ.set i s = δ := by
  apply List.ext_getElem?
  intro j
  rw [List.getElem?_set]
  split
  · rename_i e
    subst e
    obtain ⟨h1, h2⟩ := List.getElem?_eq_some_iff.mp h
    rw [if_pos h1, h]
  · rfl
theorem lt_of_get {δ : Env} {i : Nat} {s : SV} (h : δ[i]? = some s) : i < δ.length := (List.getElem?_eq_some_iff.mp h).1
/-- what is in hand goes into a slot -/
theorem RepG.store (R : RepG K E G M σ H δ ((v, s) :: π)) {i : Nat} (hi : i < δ.length) : RepG K E G M (σ.set i (some v)) H (δ.set i s) π := by
  refine ⟨R.g0, R.ext, R.good, by simp [R.len], fun j t h n => ?_, fun x hx => R.tmp x (List.mem_cons_of_mem _ hx), ?_⟩
  · rw [List.getElem?_set] at h ⊢
    by_cases e : i = j
    · subst e
      rw [if_pos rfl, if_pos hi] at h
      rw [if_pos rfl, if_pos (by rw [R.len]; exact hi)]
      cases h
      exact ⟨v, rfl, R.top⟩
    · rw [if_neg e] at h ⊢
      exact R.slot j t h n
  · have q := R.nd
    rw [List.flatMap_cons] at q
    have p1 : ((δ.set i s).flatMap owned ++ π.flatMap fun x => owned x.2).Perm ((δ.set i .none).flatMap owned ++ (owned s ++ π.flatMap fun x => owned x.2)) := by
      refine (List.Perm.append_right _ (flat_set hi)).trans ?_
      rw [← List.append_assoc]
      exact List.Perm.append_right _ List.perm_append_comm
    exact p1.nodup_iff.mpr (q.sublist (List.Sublist.append_right (flat_sub δ i) _))
/-- forget a slot -/
theorem RepG.forget (R : RepG K E G M σ H δ π) (i : Nat) : RepG K E G M σ H (δ.set i .none) π := by
  refine ⟨R.g0, R.ext, R.good, by simp [R.len], fun j t h n => ?_, R.tmp, R.nd.sublist (List.Sublist.append_right (flat_sub δ i) _)⟩
  rw [List.getElem?_set] at h
  split at h
  · split at h
    · cases h; exact absurd rfl n
    · cases h
  · exact R.slot j t h n
/-- the slot's address stands in no other place -/
theorem RepG.apart (R : RepG K E G M σ H δ π) {i : Nat} {p : Addr} (h : δ[i]? = some s) (hp : p ∈ owned s) : p ∉ ((δ.set i .none).flatMap owned ++ π.flatMap fun x => owned x.2) := by
  have hi := lt_of_get h
  have p1 : (δ.flatMap owned ++ π.flatMap fun x => owned x.2).Perm (owned s ++ ((δ.set i .none).flatMap owned ++ π.flatMap fun x => owned x.2)) := by
    have q := flat_set (s := s) hi
    rw [set_self h] at q
    rw [← List.append_assoc]
    exact List.Perm.append_right _ q
  have nd := p1.nodup_iff.mp R.nd
  intro z
  exact (List.nodup_append.mp nd).2.2 p hp p z rfl
theorem RepG.apartT (R : RepG K E G M σ H δ ((v, s) :: π)) {p : Addr} (hp : p ∈ owned s) : p ∉ (δ.flatMap owned ++ π.flatMap fun x => owned x.2) := by
  have nd := R.nd
  rw [List.flatMap_cons] at nd
  have p1 : (δ.flatMap owned ++ (owned s ++ π.flatMap fun x => owned x.2)).Perm (owned s ++ (δ.flatMap owned ++ π.flatMap fun x => owned x.2)) := by
    rw [← List.append_assoc, ← List.append_assoc]
    exact List.Perm.append_right _ List.perm_append_comm
  have nd := p1.nodup_iff.mp nd
  intro z
  exact (List.nodup_append.mp nd).2.2 p hp p z rfl
theorem mem_flat_slot {δ : Env} {i j : Nat} {s : SV} {p : Addr} (hj : δ[j]? = some s) (e : j ≠ i) (hp : p ∈ owned s) : p ∈ (δ.set i .none).flatMap owned := by
  refine List.mem_flatMap.mpr ⟨s, ?_, hp⟩
  refine List.mem_of_getElem? (i := j) ?_
  rw [List.getElem?_set_ne (Ne.symm e)]
  exact hj
theorem stay_upd {p : Addr} {o : HO} (m : M p) (h : Wr (H p)) : Stay M M H (upd H p o) where
  frz := fun a u w q y => by
    rw [upd_ne (by
      rintro rfl
      rw [q] at h
      cases w <;> first | exact h | exact y)]
    exact q
  tup := fun a xs q => by rw [upd_ne (by rintro rfl; rw [q] at h; exact h)]; exact q
  lst := fun a xs q n => by
    have e : a ≠ p := fun z => n (z ▸ m)
    exact ⟨by rw [upd_ne e]; exact q, n⟩
theorem good_upd {p : Addr} {o : HO} (g : Good G M H) (n : ¬ G p) : Good G M (upd H p o) := by
  refine ⟨g.gm, fun a h => ?_, fun a h => ?_⟩
  · obtain ⟨x, y, e, q⟩ := g.bag a h
    exact ⟨x, y, by rw [upd_ne (by rintro rfl; exact n h)]; exact e, q⟩
  · obtain ⟨u, e⟩ := g.m a h
    by_cases q : a = p
    · subst q; exact ⟨_, upd_same⟩
    · exact ⟨u, by rw [upd_ne q]; exact e⟩
theorem ext_upd {p : Addr} {o : HO} (X : Ext E.G E.M E.H G M H) (m : E.H p = Option.none) : Ext E.G E.M E.H G M (upd H p o) :=
  ⟨fun a u h n => by rw [upd_ne (ne_of_none h m)]; exact X.keep a u h n, X.gs, X.gn, X.ms, X.mn⟩
/-- what stands in a slot is changed at p, its own -/
theorem RepG.writeO (R : RepG K E G M σ H δ π) {i : Nat} {p : Addr} {o : HO} {t : SV} (h : δ[i]? = some s) (hp : p ∈ owned s) (ho : owned t = owned s) (hn : s ≠ .none) (ht : ∀ v, RT K E G M H v s → Mine E G M p → Stay M M H (upd H p o) → RT K E G M (upd H p o) v t) :
    RepG K E G M σ (upd H p o) (δ.set i t) π := by
  obtain ⟨v, e, r⟩ := R.slot i _ h hn
  have hi := lt_of_get h
  obtain ⟨m, mu⟩ := R.mine (List.mem_append_left _ (List.mem_flatMap.mpr ⟨s, List.mem_of_getElem? h, hp⟩))
  have S : Stay M M H (upd H p o) := stay_upd m.1 mu
  have ap := R.apart h hp
  refine ⟨R.g0, ext_upd R.ext m.2.2, good_upd R.good m.2.1, by simp [R.len], fun j t' hj n => ?_, fun x hx => ?_, ?_⟩
  · by_cases q : j = i
    · subst q
      rw [List.getElem?_set_self hi] at hj
      cases hj
      exact ⟨_, e, ht v r m S⟩
    · rw [List.getElem?_set_ne (Ne.symm q)] at hj
      obtain ⟨w, e', r⟩ := R.slot j t' hj n
      refine ⟨w, e', r.stay S (fun _ z => z) fun a ha m => ⟨m, ?_⟩⟩
      exact upd_ne fun z => ap (List.mem_append_left _ (mem_flat_slot hj q (z ▸ ha)))
  · refine (R.tmp x hx).stay S (fun _ z => z) fun a ha m => ⟨m, ?_⟩
    exact upd_ne fun z => ap (List.mem_append_right _ (List.mem_flatMap.mpr ⟨x, hx, z ▸ ha⟩))
  · have p1 := flat_set (s := t) hi
    have p2 := flat_set (s := s) hi
    rw [set_self h] at p2
    rw [ho] at p1
    exact (List.Perm.append_right _ (p1.trans p2.symm)).nodup_iff.mpr R.nd
/-- the own list of a slot is written -/
theorem RepG.write (R : RepG K E G M σ H δ π) {i : Nat} {p : Addr} {ds es : List D} {us : List V} (h : δ[i]? = some (.own p ds)) (hu : EncS K M H us es) : RepG K E G M σ (upd H p (.lst us)) (δ.set i (.own p es)) π :=
  R.writeO h (by simp [owned]) rfl (fun z => nomatch z) fun v r m S => ⟨r.1, m, us, upd_same, EncS.stay S hu⟩
/-- an own list in hand is written -/
theorem RepG.writeT {p : Addr} {ds es : List D} {us : List V} (R : RepG K E G M σ H δ ((v, .own p ds) :: π)) (hu : EncS K M H us es) : RepG K E G M σ (upd H p (.lst us)) δ ((v, .own p es) :: π) := by
  obtain ⟨rfl, m, l⟩ := R.top
  have S : Stay M M H (upd H p (.lst us)) := stay_upd m.1 l.mut
  have ap := R.apartT (p := p) (by simp [owned])
  refine ⟨R.g0, ext_upd R.ext m.2.2, good_upd R.good m.2.1, R.len, fun j t hj n => ?_, fun x hx => ?_, R.nd⟩
  · obtain ⟨w, e', r⟩ := R.slot j t hj n
    refine ⟨w, e', r.stay S (fun _ z => z) fun a ha m => ⟨m, ?_⟩⟩
    exact upd_ne fun z => ap (List.mem_append_left _ (List.mem_flatMap.mpr ⟨t, List.mem_of_getElem? hj, z ▸ ha⟩))
  · rcases List.mem_cons.mp hx with rfl | hx
    · exact ⟨rfl, m, us, upd_same, EncS.stay S hu⟩
    · refine (R.tmp x (List.mem_cons_of_mem _ hx)).stay S (fun _ z => z) fun a ha m => ⟨m, ?_⟩
      exact upd_ne fun z => ap (List.mem_append_right _ (List.mem_flatMap.mpr ⟨x, hx, z ▸ ha⟩))
/-- without p -/
def but (M : Addr → Prop) (p : Addr) : Addr → Prop := fun a => M a ∧ a ≠ p
theorem stay_but {p : Addr} : Stay M (but M p) H H := ⟨fun _ _ _ h _ => h, fun _ _ h => h, fun _ _ h n => ⟨h, fun z => n z.1⟩⟩
theorem RepG.butWorld (R : RepG K E G M σ H δ π) {p : Addr} (m : Mine E G M p) : Ext E.G E.M E.H G (but M p) H ∧ Good G (but M p) H := by
  obtain ⟨m1, m2, m3⟩ := m
  refine ⟨⟨R.ext.keep, R.ext.gs, R.ext.gn, fun a h => ⟨R.ext.ms a h, fun z => ?_⟩, fun a h => R.ext.mn a h.1⟩, ⟨fun a h => ⟨R.good.gm a h, fun z => m2 (z ▸ h)⟩, R.good.bag, fun a h => R.good.m a h.1⟩⟩
  obtain ⟨o, e⟩ := R.g0.m a h
  rw [z, m3] at e; cases e
/-- the own list of a slot is done: it is data from now on -/
theorem RepG.freeze (R : RepG K E G M σ H δ π) {i : Nat} {p : Addr} {ds : List D} (h : δ[i]? = some (.own p ds)) : RepG K E G (but M p) σ H (δ.set i (.val (.list ds))) π := by
  obtain ⟨v, e, rfl, m, vs, h1, h2⟩ := R.slot i _ h (fun z => nomatch z)
  obtain ⟨w1, w2⟩ := R.butWorld m
  have ap := R.apart h (p := p) (by simp [owned])
  have hi := lt_of_get h
  have S : Stay M (but M p) H H := stay_but
  refine ⟨R.g0, w1, w2, by simp [R.len], fun j t hj n => ?_, fun x hx => ?_, ?_⟩
  · by_cases q : j = i
    · subst q
      rw [List.getElem?_set_self hi] at hj
      cases hj
      exact ⟨_, e, .lst h1 (fun z => z.2 rfl) (EncS.stay S h2)⟩
    · rw [List.getElem?_set_ne (Ne.symm q)] at hj
      obtain ⟨w, e', r⟩ := R.slot j t hj n
      refine ⟨w, e', r.stay S (fun _ z => z) fun a ha m => ⟨⟨⟨m.1, ?_⟩, m.2⟩, rfl⟩⟩
      exact fun z => ap (List.mem_append_left _ (mem_flat_slot hj q (z ▸ ha)))
  · refine (R.tmp x hx).stay S (fun _ z => z) fun a ha m => ⟨⟨⟨m.1, ?_⟩, m.2⟩, rfl⟩
    exact fun z => ap (List.mem_append_right _ (List.mem_flatMap.mpr ⟨x, hx, z ▸ ha⟩))
  · have p1 := flat_set (s := .val (.list ds)) hi
    exact (List.Perm.append_right _ p1).nodup_iff.mpr (R.nd.sublist (List.Sublist.append_right (flat_sub δ i) _))
theorem RepG.freezeT {p : Addr} {ds : List D} (R : RepG K E G M σ H δ ((v, .own p ds) :: π)) : RepG K E G (but M p) σ H δ ((v, .val (.list ds)) :: π) := by
  obtain ⟨rfl, m, vs, h1, h2⟩ := R.top
  obtain ⟨w1, w2⟩ := R.butWorld m
  have ap := R.apartT (p := p) (by simp [owned])
  have S : Stay M (but M p) H H := stay_but
  refine ⟨R.g0, w1, w2, R.len, fun j t hj n => ?_, fun x hx => ?_, ?_⟩
  · obtain ⟨w, e', r⟩ := R.slot j t hj n
    refine ⟨w, e', r.stay S (fun _ z => z) fun a ha m => ⟨⟨⟨m.1, ?_⟩, m.2⟩, rfl⟩⟩
    exact fun z => ap (List.mem_append_left _ (List.mem_flatMap.mpr ⟨t, List.mem_of_getElem? hj, z ▸ ha⟩))
  · rcases List.mem_cons.mp hx with rfl | hx
    · exact .lst h1 (fun z => z.2 rfl) (EncS.stay S h2)
    · refine (R.tmp x (List.mem_cons_of_mem _ hx)).stay S (fun _ z => z) fun a ha m => ⟨⟨⟨m.1, ?_⟩, m.2⟩, rfl⟩
      exact fun z => ap (List.mem_append_right _ (List.mem_flatMap.mpr ⟨x, hx, z ▸ ha⟩))
  · refine R.nd.sublist (List.Sublist.append_left ?_ _)
    rw [List.flatMap_cons, List.flatMap_cons]
    exact List.Sublist.append_right (List.nil_sublist _) _
/-- a slot that owns something is emptied: it comes into hand -/
theorem RepG.take (R : RepG K E G M σ H δ π) {i : Nat} (h : δ[i]? = some s) (hn : s ≠ .none) : ∃ v, σ[i]? = some (some v) ∧ RepG K E G M σ H (δ.set i .none) ((v, s) :: π) := by
  obtain ⟨v, e, r⟩ := R.slot i s h hn
  have hi := lt_of_get h
  refine ⟨v, e, R.g0, R.ext, R.good, by simp [R.len], (R.forget i).slot, fun x hx => ?_, ?_⟩
  · rcases List.mem_cons.mp hx with rfl | hx
    · exact r
    · exact R.tmp x hx
  · have q := flat_set (s := s) hi
    rw [set_self h] at q
    rw [List.flatMap_cons, ← List.append_assoc]
    refine (List.Perm.append_right _ (q.trans List.perm_append_comm)).nodup_iff.mp R.nd
/-- an own list of two numbers becomes a bag -/
theorem RepG.bagT {p : Addr} {x y : Int} (R : RepG K E G M σ H δ ((v, .own p [.int x, .int y]) :: π)) (hx : 0 ≤ x) (hy : 0 ≤ y) (hy2 : y < 2147483647) : RepG K E (fun a => G a ∨ a = p) M σ H δ ((v, .bag) :: π) := by
  obtain ⟨rfl, ⟨m1, m2, m3⟩, vs, h1, h2⟩ := R.top
  have ap := R.apartT (p := p) (by simp [owned])
  have hv : vs = [.int x, .int y] := by
    cases h2 with
    | cons a r => cases r with
      | cons b r => cases r; cases a; cases b; rfl
  subst hv
  have S : Stay M M H H := ⟨fun _ _ _ h _ => h, fun _ _ h => h, fun _ _ h n => ⟨h, n⟩⟩
  refine ⟨R.g0, ⟨fun a o h n => R.ext.keep a o h n, fun a h => .inl (R.ext.gs a h), fun a h => ?_, R.ext.ms, R.ext.mn⟩, ⟨fun a h => ?_, fun a h => ?_, R.good.m⟩, R.len, fun j t hj n => ?_, fun z hz => ?_, ?_⟩
  · rcases h with h | h
    · exact R.ext.gn a h
    · subst h; exact .inr m3
  · rcases h with h | h
    · exact R.good.gm a h
    · subst h; exact m1
  · rcases h with h | h
    · exact R.good.bag a h
    · subst h; exact ⟨x, y, h1, hx, hy, hy2⟩
  · obtain ⟨w, e', r⟩ := R.slot j t hj n
    refine ⟨w, e', r.stay S (fun _ z => .inl z) fun a ha m => ⟨⟨m.1, fun z => z.elim m.2.1 fun z => ?_, m.2.2⟩, rfl⟩⟩
    exact ap (List.mem_append_left _ (List.mem_flatMap.mpr ⟨t, List.mem_of_getElem? hj, z ▸ ha⟩))
  · rcases List.mem_cons.mp hz with rfl | hz
    · exact ⟨p, rfl, .inr rfl⟩
    · refine (R.tmp z (List.mem_cons_of_mem _ hz)).stay S (fun _ z => .inl z) fun a ha m => ⟨⟨m.1, fun q => q.elim m.2.1 fun q => ?_, m.2.2⟩, rfl⟩
      exact ap (List.mem_append_right _ (List.mem_flatMap.mpr ⟨z, hz, q ▸ ha⟩))
  · refine R.nd.sublist (List.Sublist.append_left ?_ _)
    rw [List.flatMap_cons, List.flatMap_cons]
    exact List.Sublist.append_right (List.nil_sublist _) _
/-- a bag is written -/
theorem RepG.bagW (R : RepG K E G M σ H δ π) {b : Addr} (hb : G b) {x y : Int} (hx : 0 ≤ x) (hy : 0 ≤ y) (hy2 : y < 2147483647) : RepG K E G M σ (upd H b (.lst [.int x, .int y])) δ π := by
  obtain ⟨x0, y0, e0, _⟩ := R.good.bag b hb
  have X : Ext G M H G M (upd H b (.lst [.int x, .int y])) := ⟨fun a o h n => by rw [upd_ne (by rintro rfl; exact n hb)]; exact h, fun _ h => h, fun _ h => .inl h, fun _ h => h, fun _ h => .inl h⟩
  refine R.ext_to X ⟨R.good.gm, fun a h => ?_, fun a h => ?_⟩
  · by_cases q : a = b
    · subst q; exact ⟨x, y, upd_same, hx, hy, hy2⟩
    · obtain ⟨x', y', e, z⟩ := R.good.bag a h
      exact ⟨x', y', by rw [upd_ne q]; exact e, z⟩
  · by_cases q : a = b
    · subst q; exact ⟨_, upd_same⟩
    · obtain ⟨o, e⟩ := R.good.m a h
      exact ⟨o, by rw [upd_ne q]; exact e⟩
end
end HR
namespace HR
open PySem PySem.Spec L2
open PyProof.Rows hiding St
/-! ### readings over data -/
abbrev VD := SV → Env → Prop
abbrev TD := Env → VD → Prop
abbrev TDT := Env → (Bool → Env → Prop) → Prop
abbrev TDA := Env → (List SV → Env → Prop) → Prop
def lE (K : PySem.W.Frag) (E : Ent) (T : TD) : TE := fun σ H Q => ∃ δ π Q', Rep K E σ H δ π ∧ T δ Q' ∧ ∀ v H' r δ', Rep K E σ H' δ' ((v, r) :: π) → Q' r δ' → Q v H'
def lT (K : PySem.W.Frag) (E : Ent) (T : TDT) : TT := fun σ H Q => ∃ δ π Q', Rep K E σ H δ π ∧ T δ Q' ∧ ∀ b H' δ', Rep K E σ H' δ' π → Q' b δ' → Q b H'
def lA (K : PySem.W.Frag) (E : Ent) (T : TDA) : TA := fun σ H Q => ∃ δ π Q', Rep K E σ H δ π ∧ T δ Q' ∧ ∀ vs H' rs δ', vs.length = rs.length → Rep K E σ H' δ' (vs.zip rs ++ π) → Q' rs δ' → Q vs H'
abbrev DE (X : Cx) (E : Ent) (e : Expr) (T : TD) : Prop := PE X e (lE X.K E T)
abbrev DT (X : Cx) (E : Ent) (e : Expr) (T : TDT) : Prop := PT X e (lT X.K E T)
abbrev DW (X : Cx) (E : Ent) (e : Expr) (T : TDT) : Prop := PW X e (lT X.K E T)
abbrev DA (X : Cx) (E : Ent) (es : List Expr) (T : TDA) : Prop := PA X es (lA X.K E T)
section
variable {X : Cx} {E : Ent} {e : Expr} {es : List Expr}
theorem PE.imp {t t' : TE} (h : PE X e t) (i : ∀ σ H Q, t' σ H Q → t σ H Q) : PE X e t' := ⟨fun pins s σ H Q I q => h.run pins s σ H Q I (i _ _ _ q)⟩
theorem PT.imp {t t' : TT} (h : PT X e t) (i : ∀ σ H Q, t' σ H Q → t σ H Q) : PT X e t' := ⟨fun pins s σ H Q I q => h.run pins s σ H Q I (i _ _ _ q)⟩
theorem PW.imp {t t' : TT} (h : PW X e t) (i : ∀ σ H Q, t' σ H Q → t σ H Q) : PW X e t' := ⟨fun wh pins s σ H Q I q => h.run wh pins s σ H Q I (i _ _ _ q)⟩
theorem PA.imp {t t' : TA} (h : PA X es t) (i : ∀ σ H Q, t' σ H Q → t σ H Q) : PA X es t' := ⟨fun pos pins s σ H Q I q => h.run pos pins s σ H Q I (i _ _ _ q)⟩
end
section
variable {K : PySem.W.Frag} {E : Ent} {σ : L2.St} {H H' : Hp} {δ δ' : Env} {π π' : Tmp} {v : V} {s r : SV}
theorem Rep.perm (R : Rep K E σ H δ π) (h : π.Perm π') : Rep K E σ H δ π' := let ⟨G, M, R⟩ := R; ⟨G, M, R.perm h⟩
theorem Rep.drop {x : V × SV} (R : Rep K E σ H δ (x :: π)) : Rep K E σ H δ π := let ⟨G, M, R⟩ := R; ⟨G, M, RepG.drop (v := x.1) (s := x.2) R⟩
theorem Rep.sub (R : Rep K E σ H δ (π' ++ π)) : Rep K E σ H δ π := let ⟨G, M, R⟩ := R; ⟨G, M, R.sub⟩
/-- data at hand -/
theorem Rep.scal (R : Rep K E σ H δ π) {d : D} (h : ∀ M, Enc K M H v d) : Rep K E σ H δ ((v, .val d) :: π) := let ⟨G, M, R⟩ := R; ⟨G, M, R.push (s := .val d) (h M) rfl⟩
theorem Rep.int (R : Rep K E σ H δ π) (i : Int) : Rep K E σ H δ ((.int i, .val (.int i)) :: π) := R.scal fun _ => .int i
theorem Rep.bl (R : Rep K E σ H δ π) (i : Bool) : Rep K E σ H δ ((.bl i, .val (.bool i)) :: π) := R.scal fun _ => .bl i
theorem Rep.str (R : Rep K E σ H δ π) (i : Str) : Rep K E σ H δ ((.str i, .val (.str i)) :: π) := R.scal fun _ => .str i
theorem Rep.non (R : Rep K E σ H δ π) : Rep K E σ H δ ((.non, .val .none) :: π) := R.scal fun _ => .non
/-- the two at the top give way to one -/
theorem Rep.under1 {x : V × SV} {y : V × SV} (R : Rep K E σ H δ (x :: y :: π)) : Rep K E σ H δ (x :: π) := (R.perm (List.Perm.swap y x π)).drop
theorem Rep.under2 {x y z : V × SV} (R : Rep K E σ H δ (x :: y :: z :: π)) : Rep K E σ H δ (x :: π) := R.under1.under1
theorem Rep.underN {x : V × SV} (R : Rep K E σ H δ (x :: (π' ++ π))) : Rep K E σ H δ (x :: π) :=
  (R.perm (show (x :: (π' ++ π)).Perm (π' ++ (x :: π)) from List.perm_middle.symm)).sub
end
/-! ### what is in hand, as a list, as data -/
def tagOf : SV → Addr
  | .bor _ p => p
  | _ => 0
def viewA (s : SV) (δ : Env) : Option (Addr × List D) := match s with
  | .val (.list ds) => some (0, ds)
  | .own _ ds => some (0, ds)
  | .bor i _ => (match δ[i]? with
    | some (.own q ds) => some (q, ds)
    | _ => none)
  | _ => none
/-- a list -/
def View (s : SV) (δ : Env) (ds : List D) : Prop := viewA s δ = some (tagOf s, ds)
/-- as data, only looked at -/
def DataR (s : SV) (δ : Env) (d : D) : Prop := match s with
  | .val e => e = d
  | s => (viewA s δ).map (fun x => (x.1, PyData.list x.2)) = some (tagOf s, d)
/-- a list or a tuple -/
def SeqR (s : SV) (δ : Env) (ds : List D) : Prop := match s with
  | .val (.tuple es) => es = ds
  | s => View s δ ds
/-- as data, kept: an own list is done with that -/
def asD (s : SV) (δ : Env) (Q : D → Env → Prop) : Prop := match s with
  | .val d => Q d δ
  | .own _ ds => Q (.list ds) δ
  | .bor i p => ∃ ds, δ[i]? = some (.own p ds) ∧ Q (.list ds) (δ.set i (.val (.list ds)))
  | _ => False
section
variable {K : PySem.W.Frag} {E : Ent} {σ : L2.St} {H H' : Hp} {δ δ' : Env} {π π' : Tmp} {v : V} {s r : SV} {G M : Addr → Prop}
theorem RepG.view (R : RepG K E G M σ H δ π) (h : (v, s) ∈ π) {ds : List D} (e : View s δ ds) : ∃ a vs, v = .ref a ∧ H a = some (.lst vs) ∧ EncS K M H vs ds := by
  have r := R.tmp _ h
  cases s with
  | val d =>
    cases d with
    | list es =>
      cases e
      cases r with
      | lst h1 h2 h3 => exact ⟨_, _, rfl, h1, h3⟩
    | _ => cases e
  | own p es =>
    cases e
    obtain ⟨e1, _, vs, h1, h2⟩ := r
    exact ⟨p, vs, e1, h1, h2⟩
  | bor i p =>
    unfold View viewA at e
    simp only [tagOf] at e
    split at e
    · rename_i q es hq
      cases e
      obtain ⟨w, _, _, _, vs, h1, h2⟩ := R.slot i _ hq (fun z => nomatch z)
      exact ⟨p, vs, r, h1, h2⟩
    · cases e
  | _ => cases e
theorem RepG.data (R : RepG K E G M σ H δ π) (h : (v, s) ∈ π) {d : D} (e : DataR s δ d) : Dp K H v d := by
  have key : ∀ {s : SV}, (v, s) ∈ π → (viewA s δ).map (fun x => (x.1, PyData.list x.2)) = some (tagOf s, d) → Dp K H v d := fun {s} h e => by
    cases q : viewA s δ with
    | none => rw [q] at e; cases e
    | some x =>
      obtain ⟨t, ds⟩ := x
      rw [q] at e
      simp only [Option.map_some, Option.some.injEq, Prod.mk.injEq] at e
      obtain ⟨rfl, rfl⟩ := e
      obtain ⟨a, vs, rfl, h1, h2⟩ := R.view h q
      exact .lst (SqL.of h1) h2.dp
  cases s with
  | val d' =>
    cases e
    exact Enc.dp (R.tmp _ h)
  | _ => exact key h e
theorem asD_ok (R : Rep K E σ H δ ((v, s) :: π)) {Q : D → Env → Prop} (h : asD s δ Q) : ∃ d δ', Rep K E σ H δ' ((v, .val d) :: π) ∧ Q d δ' := by
  obtain ⟨G, M, R⟩ := R
  cases s with
  | val d => exact ⟨d, δ, ⟨G, M, R⟩, h⟩
  | own p ds => exact ⟨_, δ, ⟨_, _, R.freezeT⟩, h⟩
  | bor i p =>
    obtain ⟨ds, e, h⟩ := h
    have e1 : v = .ref p := R.top
    subst e1
    have F := R.freeze e
    obtain ⟨w, e2, rfl, m, l⟩ := R.slot i _ e (fun z => nomatch z)
    obtain ⟨w', e3, r⟩ := F.slot i (.val (.list ds)) (by rw [List.getElem?_set_self (lt_of_get e)]) (fun z => nomatch z)
    rw [e2] at e3
    cases e3
    exact ⟨_, _, ⟨_, _, (F.drop).push (s := .val (.list ds)) r rfl⟩, h⟩
  | _ => exact h.elim
end
/-! ### names and constants -/
def tdC (d : D) : TD := fun δ Q => Q (.val d) δ
def tdVar (i : Nat) : TD := fun δ Q => match δ[i]? with
  | some (.val d) => Q (.val d) δ
  | some (.own p _) => Q (.bor i p) δ
  | some (.dic p _) => Q (.bor i p) δ
  | some (.two t _ _ _ _) => Q (.bor i t) δ
  | some .bag => Q .bag δ
  | some (.scr ns) => Q (.scr ns) δ
  | some (.exc a) => Q (.exc a) δ
  | _ => False
section
variable {X : Cx} {E : Ent} {a b c : Expr} {Ta Tb Tc : TD} {pos : Pos}
theorem de_var {i : Nat} {x : Str} (hN : X.N[i]? = some x := by rfl) (hv : Vis X.env.scope x := by first | exact Or.inl rfl | exact Or.inr (Or.inl rfl) | exact Or.inr (Or.inr rfl)) (hd : (x == ("__debug__" : Str)) = false := by decide)
    (hcd : (x == ("__classdict__" : Str)) = false := by decide) : DE X E (.Name x pos) (tdVar i) := by
  refine PE.imp (pe_var hN hv hd hcd) ?_
  rintro σ H Q ⟨δ, π, Q', ⟨G, M, R⟩, t, k⟩
  unfold tdVar at t
  have key : ∀ s r : SV, δ[i]? = some s → s ≠ .none → owned r = [] → (∀ v, RT X.K E G M H v s → RT X.K E G M H v r) → Q' r δ → tVar i σ H Q := fun s r e n ho hr q => by
    obtain ⟨v, e2, r2⟩ := R.slot i s e n
    exact ⟨v, e2, k v H r δ ⟨G, M, R.push (hr v r2) ho⟩ q⟩
  split at t
  · rename_i d e; exact key _ _ e (fun z => nomatch z) rfl (fun _ r => r) t
  · rename_i p ds e; exact key _ (.bor i p) e (fun z => nomatch z) rfl (fun _ r => r.1) t
  · rename_i p ds e; exact key _ (.bor i p) e (fun z => nomatch z) rfl (fun _ r => r.1) t
  · rename_i p _ _ _ _ e; exact key _ (.bor i p) e (fun z => nomatch z) rfl (fun _ r => r.1) t
  · rename_i e; exact key _ _ e (fun z => nomatch z) rfl (fun _ r => r) t
  · rename_i ns e; exact key _ _ e (fun z => nomatch z) rfl (fun _ r => r) t
  · rename_i a e; exact key _ _ e (fun z => nomatch z) rfl (fun _ r => r) t
  · exact t.elim
theorem de_C {e : Expr} {v : V} {d : D} (h : PE X e (tC v)) (he : ∀ M H, Enc X.K M H v d) : DE X E e (tdC d) :=
  PE.imp h fun σ H Q ⟨δ, π, Q', R, t, k⟩ => k v H (.val d) δ (R.scal fun M => he M H) t
theorem de_int {i : Int} {j} : DE X E (.Constant (.int i) j pos) (tdC (.int i)) := de_C pe_int fun _ _ => .int i
theorem de_bl {i : Bool} {j} : DE X E (.Constant (.bool i) j pos) (tdC (.bool i)) := de_C pe_bl fun _ _ => .bl i
theorem de_non {j} : DE X E (.Constant .none j pos) (tdC .none) := de_C pe_non fun _ _ => .non
theorem de_str {i : Str} {j} : DE X E (.Constant (.str i) j pos) (tdC (.str i)) := de_C pe_str fun _ _ => .str i
theorem de_glob {x : Str} {u : Value} {v : V} {d : D} (hm : X.mg x = some u) (r : RelV v u) (he : ∀ M H, Enc X.K M H v d) (hg : Gl X x := by rfl) (hd : (x == ("__debug__" : Str)) = false := by decide) : DE X E (.Name x pos) (tdC d) := de_C (pe_glob hg hm r hd) he
/-! ### two-place operators by values -/
abbrev R2D := SV → SV → Env → VD → Prop
/-- what R asks is enough for r -/
def Snd (K : PySem.W.Frag) (E : Ent) (r : R2) (R : R2D) : Prop := ∀ (σ : L2.St) (H : Hp) (x y : V) (s t : SV) (δ : Env) (π : Tmp) (Q : VK) (Q' : VD), Rep K E σ H δ ((y, t) :: (x, s) :: π) → R s t δ Q' →
  (∀ v H' u δ', Rep K E σ H' δ' ((v, u) :: π) → Q' u δ' → Q v H') → r x y H Q
def tdOp (R : R2D) (Ta Tb : TD) : TD := fun δ Q => Ta δ fun s δ1 => Tb δ1 fun t δ2 => R s t δ2 Q
theorem op_ok {K : PySem.W.Frag} {r : R2} {R : R2D} (h : Snd K E r R) : ∀ σ H Q, lE K E (tdOp R Ta Tb) σ H Q → tOp r (lE K E Ta) (lE K E Tb) σ H Q := fun σ H Q ⟨δ, π, Q', R1, t, k⟩ =>
  ⟨δ, π, _, R1, t, fun x H1 s δ1 R2 q => ⟨δ1, _, _, R2, q, fun y H2 u δ2 R3 q2 => h σ H2 x y s u δ2 π Q Q' R3 q2 k⟩⟩
theorem de_bin {op : Operator} {r : R2} {R : R2D} (ho : OpR X (binaryOp op) r) (h : Snd X.K E r R) (ha : DE X E a Ta) (hb : DE X E b Tb) : DE X E (.BinOp a op b pos) (tdOp R Ta Tb) := PE.imp (pe_op ho ha hb) (op_ok h)
theorem de_cmp {op : CmpOp} {r : R2} {R : R2D} (ho : OpR X (compareOp op) r) (h : Snd X.K E r R) (ha : DE X E a Ta) (hb : DE X E b Tb) (hm : behindInMarks op b = false) : DE X E (.Compare a [op] [b] pos) (tdOp R Ta Tb) := PE.imp (pe_cmpR ho ha hb hm) (op_ok h)
/-- a truth value as a test -/
def tdTest (T : TD) : TDT := fun δ Q => T δ fun s δ1 => ∃ k, s = .val (.bool k) ∧ Q k δ1
theorem test_ok {K : PySem.W.Frag} {t : TE} {T : TD} (h : ∀ σ H Q, lE K E T σ H Q → t σ H Q) : ∀ σ H Q, lT K E (tdTest T) σ H Q → tTest t σ H Q := fun σ H Q ⟨δ, π, Q', R, t1, k⟩ => by
  refine h σ H _ ⟨δ, π, _, R, t1, fun v H' r δ' R' q => ?_⟩
  obtain ⟨c, rfl, q⟩ := q
  have e : v = .bl c := by
    obtain ⟨G, M, R'⟩ := R'
    have z : Enc K M H' v (.bool c) := R'.top
    cases z; rfl
  exact ⟨c, e, k c H' δ' R'.drop q⟩
theorem dt_cmp {op : CmpOp} {r : R2} {R : R2D} (ho : OpR X (compareOp op) r) (h : Snd X.K E r R) (ha : DE X E a Ta) (hb : DE X E b Tb) (hm : behindInMarks op b = false) : DT X E (.Compare a [op] [b] pos) (tdTest (tdOp R Ta Tb)) :=
  PT.imp (pt_cmpR ho ha hb hm) (test_ok (op_ok h))
/-- a < b < c -/
def tdChain (R R' : R2D) (Ta Tb Tc : TD) : TD := fun δ Q => Ta δ fun s δ1 => Tb δ1 fun t δ2 => R s t δ2 fun z δ3 => ∃ k, z = .val (.bool k) ∧ (if k = true then Tc δ3 fun u δ4 => R' t u δ4 Q else Q (.val (.bool false)) δ3)
/-- a comparison of scalars leaves the heap and what is known -/
def SndP (K : PySem.W.Frag) (E : Ent) (r : R2) (R : R2D) : Prop := ∀ (σ : L2.St) (H : Hp) (x y : V) (s t : SV) (δ : Env) (π : Tmp) (Q : VK) (Q' : VD), Rep K E σ H δ ((y, t) :: (x, s) :: π) → R s t δ Q' →
  (∀ v u, Rep K E σ H δ ((v, u) :: (y, t) :: (x, s) :: π) → Q' u δ → Q v H) → r x y H Q
theorem SndP.snd {K : PySem.W.Frag} {r : R2} {R : R2D} (h : SndP K E r R) : Snd K E r R := fun σ H x y s t δ π Q Q' R1 q k => h σ H x y s t δ π Q Q' R1 q fun v u R2 q2 => k v H u δ R2.under2 q2
theorem chain_ok {K : PySem.W.Frag} {r r' : R2} {R R' : R2D} (h : SndP K E r R) (h' : Snd K E r' R') : ∀ σ H Q, lE K E (tdChain R R' Ta Tb Tc) σ H Q → tChain r r' (lE K E Ta) (lE K E Tb) (lE K E Tc) σ H Q := fun σ H Q ⟨δ, π, Q', R1, t, k⟩ =>
  ⟨δ, π, _, R1, t, fun x H1 s δ1 R2 q => ⟨δ1, _, _, R2, q, fun y H2 u δ2 R3 q2 => h σ H2 x y s u δ2 π _ _ R3 q2 fun v w R4 q4 => by
    obtain ⟨c, rfl, q4⟩ := q4
    have e : v = .bl c := by
      obtain ⟨G, M, R'⟩ := R4
      have z : Enc K M H2 v (.bool c) := R'.top
      cases z; rfl
    subst e
    refine ⟨c, rfl, ?_⟩
    cases c with
    | false => exact k _ H2 _ δ2 R4.under2 q4
    | true => exact ⟨δ2, _, _, R4.drop.under1, q4, fun z H3 w' δ3 R5 q5 => h' σ H3 y z u w' δ3 π Q Q' R5 q5 k⟩⟩⟩
theorem de_chain {op op' : CmpOp} {r r' : R2} {R R' : R2D} (ho : OpR X (compareOp op) r) (ho' : OpR X (compareOp op') r') (h : SndP X.K E r R) (h' : Snd X.K E r' R') (ha : DE X E a Ta) (hb : DE X E b Tb) (hc : DE X E c Tc)
    (hm : lastMarks [op, op'] [b, c] = false := by with_unfolding_all rfl) : DE X E (.Compare a [op, op'] [b, c] pos) (tdChain R R' Ta Tb Tc) := PE.imp (pe_chain ho ho' ha hb hc hm) (chain_ok h h')
theorem dt_chain {op op' : CmpOp} {r r' : R2} {R R' : R2D} (ho : OpR X (compareOp op) r) (ho' : OpR X (compareOp op') r') (h : SndP X.K E r R) (h' : Snd X.K E r' R') (ha : DE X E a Ta) (hb : DE X E b Tb) (hc : DE X E c Tc)
    (hm : lastMarks [op, op'] [b, c] = false := by with_unfolding_all rfl) : DT X E (.Compare a [op, op'] [b, c] pos) (tdTest (tdChain R R' Ta Tb Tc)) := PT.imp (pt_chain ho ho' ha hb hc hm) (test_ok (chain_ok h h'))
end
end HR
namespace HR
open PySem PySem.Spec L2
open PyProof.Rows hiding St
section
variable {K : PySem.W.Frag} {E : Ent} {G M : Addr → Prop} {σ : L2.St} {H : Hp} {δ : Env} {π : Tmp} {v : V}
theorem Rep.isInt {i : Int} {π' : Tmp} (R : Rep K E σ H δ π) (h : (v, .val (.int i)) ∈ π) : v = .int i := by
  obtain ⟨G, M, R⟩ := R
  have z : Enc K M H v (.int i) := R.tmp _ h
  cases z; rfl
theorem Rep.isBl {i : Bool} (R : Rep K E σ H δ π) (h : (v, .val (.bool i)) ∈ π) : v = .bl i := by
  obtain ⟨G, M, R⟩ := R
  have z : Enc K M H v (.bool i) := R.tmp _ h
  cases z; rfl
theorem Rep.isStr {i : Str} (R : Rep K E σ H δ π) (h : (v, .val (.str i)) ∈ π) : v = .str i := by
  obtain ⟨G, M, R⟩ := R
  have z : Enc K M H v (.str i) := R.tmp _ h
  cases z; rfl
theorem Rep.isNon (R : Rep K E σ H δ π) (h : (v, .val .none) ∈ π) : v = .non := by
  obtain ⟨G, M, R⟩ := R
  have z : Enc K M H v .none := R.tmp _ h
  cases z; rfl
theorem Rep.laid {p : Addr} {o : HO} (R : Rep K E σ H δ π) (n : H p = none) : Rep K E σ (upd H p o) δ π := let ⟨G, M, R⟩ := R; ⟨G, M, R.laid n⟩
/-- a new tuple of things at hand -/
theorem RepG.newTup {p : Addr} {vs : List V} {ds : List D} (R : RepG K E G M σ H δ π) (n : H p = none) (h : EncS K M H vs ds) : RepG K E G M σ (upd H p (.tup vs)) δ ((.ref p, .val (.tuple ds)) :: π) := by
  have X : Ext G M H G M (upd H p (.tup vs)) := ⟨fun a u q _ => by rw [upd_ne (ne_of_none q n)]; exact q, fun _ h => h, fun _ h => .inl h, fun _ h => h, fun _ h => .inl h⟩
  refine (R.laid (o := .tup vs) n).push (s := .val (.tuple ds)) ?_ rfl
  exact .tup (.inl (.inl upd_same)) (EncS.stay (X.stay R.good) h) (.inl upd_same)
end
/-! ### int operators -/
def intR (g : Int → Int → D) (C : Int → Int → Prop) : R2D := fun s t δ Q => match s, t with
  | .val (.int i), .val (.int j) => C i j ∧ Q (.val (g i j)) δ
  | _, _ => False
def int0R (g : Int → Int → D) : R2D := fun s t δ Q => match s, t with
  | .val (.int i), .val (.int j) => Q (.val (g i j)) δ
  | _, _ => False
def vD : D → V
  | .int i => .int i
  | .bool b => .bl b
  | .str x => .str x
  | _ => .non
section
variable {K : PySem.W.Frag} {E : Ent}
theorem snd_int {C : Int → Int → Prop} {g : Int → Int → Int} : SndP K E (rI C fun i j => .int (g i j)) (intR (fun i j => .int (g i j)) C) := by
  intro σ H x y s t δ π Q Q' R h k
  unfold intR at h
  split at h
  · rename_i i j
    have e1 := R.isInt (π' := π) (List.mem_cons_of_mem _ List.mem_cons_self)
    have e2 := R.isInt (π' := π) List.mem_cons_self
    exact ⟨i, j, e1, e2, h.1, k _ _ (R.int _) h.2⟩
  · exact h.elim
theorem snd_int0 {g : Int → Int → Int} : SndP K E (rI0 fun i j => .int (g i j)) (int0R (fun i j => .int (g i j))) := by
  intro σ H x y s t δ π Q Q' R h k
  unfold int0R at h
  split at h
  · rename_i i j
    have e1 := R.isInt (π' := π) (List.mem_cons_of_mem _ List.mem_cons_self)
    have e2 := R.isInt (π' := π) List.mem_cons_self
    exact ⟨i, j, e1, e2, k _ _ (R.int _) h⟩
  · exact h.elim
theorem snd_bl0 {g : Int → Int → Bool} : SndP K E (rI0 fun i j => .bl (g i j)) (int0R (fun i j => .bool (g i j))) := by
  intro σ H x y s t δ π Q Q' R h k
  unfold int0R at h
  split at h
  · rename_i i j
    have e1 := R.isInt (π' := π) (List.mem_cons_of_mem _ List.mem_cons_self)
    have e2 := R.isInt (π' := π) List.mem_cons_self
    exact ⟨i, j, e1, e2, k _ _ (R.bl _) h⟩
  · exact h.elim
end
abbrev subD : R2D := int0R (fun i j => .int (i - j))
abbrev modD : R2D := intR (fun i j => .int (i % j)) fun _ j => 0 < j
abbrev fdivD : R2D := intR (fun i j => .int (i / j)) CDiv
abbrev powD : R2D := intR (fun i j => .int (i ^ j.toNat)) CPow
abbrev ltD : R2D := int0R (fun i j => .bool (decide (i < j)))
abbrev leD : R2D := int0R (fun i j => .bool (decide (i ≤ j)))
abbrev gtD : R2D := int0R (fun i j => .bool (decide (j < i)))
abbrev geD : R2D := int0R (fun i j => .bool (decide (j ≤ i)))
/-- + -/
def addD : R2D := fun s t δ Q => match s, t with
  | .val (.int i), .val (.int j) => Q (.val (.int (i + j))) δ
  | .val (.str a), .val (.str b) => a.length + b.length ≤ sizeLine ∧ Q (.val (.str (a ++ b))) δ
  | .val (.tuple xs), .val (.tuple ys) => xs.length + ys.length ≤ sizeLine ∧ Q (.val (.tuple (xs ++ ys))) δ
  | s, t => ∃ xs ys, View s δ xs ∧ View t δ ys ∧ xs.length + ys.length ≤ sizeLine ∧ ∀ p, Q (.own p (xs ++ ys)) δ
def rAdd (K : PySem.W.Frag) : R2 := fun x y H Q => (∃ i j, x = .int i ∧ y = .int j ∧ Q (.int (i + j)) H) ∨ (∃ i j, x = .str i ∧ y = .str j ∧ i.length + j.length ≤ sizeLine ∧ Q (.str (i ++ j)) H) ∨ rCatA K x y H Q ∨ rCat x y H Q
theorem or_add {X : Cx} : OpR X (binaryOp .Add) (rAdd X.K) := OpR.or op_add (OpR.or op_add_str (OpR.or op_catA op_cat))
/-- * -/
def mulD : R2D := fun s t δ Q => match s, t with
  | .val (.int i), .val (.int j) => CMul i j ∧ Q (.val (.int (i * j))) δ
  | .val (.tuple xs), .val (.int k) => xs ≠ [] ∧ 2 ≤ k ∧ k ≤ 1000 ∧ xs.length ≤ 1000 ∧ Q (.val (.tuple (List.replicate k.toNat xs).flatten)) δ
  | s, .val (.int k) => ∃ xs, View s δ xs ∧ -(2 ^ 63) ≤ k ∧ k < 2 ^ 63 ∧ xs.length * k.toNat ≤ sizeLine ∧ ∀ p, Q (.own p (List.replicate k.toNat xs).flatten) δ
  | _, _ => False
def rMulA (K : PySem.W.Frag) : R2 := fun x y H Q => rI CMul (fun i j => .int (i * j)) x y H Q ∨ rRepT K x y H Q ∨ rRep x y H Q
theorem or_mul {X : Cx} : OpR X (binaryOp .Mult) (rMulA X.K) := OpR.or op_mul (OpR.or op_repT op_rep)
/-- ==, != -/
def eqD : R2D := fun s t δ Q => ∃ d e, DataR s δ d ∧ DataR t δ e ∧ SeqAt.shaped d = true ∧ SeqAt.shaped e = true ∧ Q (.val (.bool (PyData.eqv d e))) δ
def neD : R2D := fun s t δ Q => ∃ d e, DataR s δ d ∧ DataR t δ e ∧ SeqAt.shaped d = true ∧ SeqAt.shaped e = true ∧ Q (.val (.bool (!PyData.eqv d e))) δ
def noneD : D → Bool
  | .none => true
  | _ => false
/-- is, is not: None, truth values -/
def isD (neg : Bool) : R2D := fun s t δ Q => match s, t with
  | .val d, .val .none => Q (.val (.bool (noneD d != neg))) δ
  | .val (.bool a), .val (.bool b) => Q (.val (.bool (decide (a = b) != neg))) δ
  | _, _ => False
/-- in, not in of a list or a tuple -/
def flatD : D → Bool
  | .none => true
  | .bool _ => true
  | .int _ => true
  | .str _ => true
  | _ => false
def inD (neg : Bool) : R2D := fun s t δ Q => ∃ d, DataR s δ d ∧ match t with
  | .val (.tuple ds) => flatD d = true ∧ ds.all flatD = true ∧ Q (.val (.bool ((ds.any fun e => PyData.eqv e d) != neg))) δ
  | t => ∃ ds, View t δ ds ∧ SeqAt.shaped d = true ∧ SeqAt.shaped (.list ds) = true ∧ Q (.val (.bool ((ds.any fun e => PyData.eqv e d) != neg))) δ
def rInA (K : PySem.W.Frag) (neg : Bool) : R2 := fun x y H Q => rIn K neg x y H Q ∨ (if neg then rNotInD K x y H Q else rInD K x y H Q)
theorem or_in {X : Cx} (hu : X.A.units + 65 < cLine) : OpR X (compareOp .In) (rInA X.K false) := OpR.or op_in_seq (op_inD hu)
theorem or_notin {X : Cx} (hu : X.A.units + 65 < cLine) : OpR X (compareOp .NotIn) (rInA X.K true) := OpR.or op_notIn_seq (op_notInD hu)
def rIsA (neg : Bool) : R2 := fun x y H Q => (y = .non ∧ Q (.bl (decide (x = .non) != neg)) H) ∨ ∃ a b : Bool, x = .bl a ∧ y = .bl b ∧ Q (.bl (decide (a = b) != neg)) H
theorem or_is {X : Cx} : OpR X (compareOp .Is) (rIsA false) := by
  refine fun pins s σ H x y v u Q I rx ry h => ?_
  rcases h with ⟨h1, h⟩ | ⟨a, b, h1, h2, h⟩
  · exact op_isN pins s σ H x y v u Q I rx ry ⟨h1, by simpa using h⟩
  · exact op_isBl pins s σ H x y v u Q I rx ry ⟨a, b, h1, h2, by simpa using h⟩
theorem or_isnot {X : Cx} : OpR X (compareOp .IsNot) (rIsA true) := by
  refine fun pins s σ H x y v u Q I rx ry h => ?_
  rcases h with ⟨h1, h⟩ | ⟨a, b, h1, h2, h⟩
  · exact op_notN pins s σ H x y v u Q I rx ry ⟨h1, by simpa using h⟩
  · exact op_notBl pins s σ H x y v u Q I rx ry ⟨a, b, h1, h2, by simpa using h⟩
section
variable {K : PySem.W.Frag} {E : Ent}
theorem rep2 {σ : L2.St} {H : Hp} {x y v : V} {s t : SV} {δ : Env} {π : Tmp} {u : SV} (R : Rep K E σ H δ ((y, t) :: (x, s) :: π)) (h : Rep K E σ H δ ((v, u) :: (y, t) :: (x, s) :: π)) : Rep K E σ H δ ((v, u) :: π) := h.under2
theorem snd_add : Snd K E (rAdd K) addD := by
  intro σ H x y s t δ π Q Q' R h k
  have R0 := R.drop.drop
  have lists : (∃ xs ys, View s δ xs ∧ View t δ ys ∧ xs.length + ys.length ≤ sizeLine ∧ ∀ p, Q' (.own p (xs ++ ys)) δ) → rAdd K x y H Q := by
    rintro ⟨xs, ys, h1, h2, hz, q⟩
    obtain ⟨G, M, R⟩ := R
    obtain ⟨a, vs, rfl, a1, a2⟩ := R.view (List.mem_cons_of_mem _ List.mem_cons_self) h1
    obtain ⟨b, us, rfl, b1, b2⟩ := R.view List.mem_cons_self h2
    refine .inr (.inr (.inr ⟨a, b, vs, us, rfl, rfl, a1, b1, by rw [a2.length, b2.length]; exact hz, fun p n => ?_⟩))
    exact k _ _ _ _ ⟨_, _, R.drop.drop.fresh n (a2.append b2)⟩ (q p)
  unfold addD at h
  split at h
  · rename_i i j
    have e1 := R.isInt (π' := π) (List.mem_cons_of_mem _ List.mem_cons_self)
    have e2 := R.isInt (π' := π) List.mem_cons_self
    exact .inl ⟨i, j, e1, e2, k _ _ _ _ (R0.int _) h⟩
  · rename_i i j
    have e1 := R.isStr (List.mem_cons_of_mem _ List.mem_cons_self)
    have e2 := R.isStr List.mem_cons_self
    exact .inr (.inl ⟨i, j, e1, e2, h.1, k _ _ _ _ (R0.str _) h.2⟩)
  · rename_i xs ys
    obtain ⟨hz, q⟩ := h
    obtain ⟨G, M, R⟩ := R
    have r1 : Enc K M H x (.tuple xs) := R.tmp _ (List.mem_cons_of_mem _ List.mem_cons_self)
    have r2 : Enc K M H y (.tuple ys) := R.tmp _ List.mem_cons_self
    cases r1 with
    | tup a1 a2 a3 =>
      cases r2 with
      | tup b1 b2 b3 =>
        rename_i a vs b us
        refine .inr (.inr (.inl ⟨a, b, vs, us, rfl, rfl, a1, b1, by rw [a2.length, b2.length]; exact hz, fun e => ?_, fun _ e => ?_, fun _ _ p n => ?_⟩))
        · subst e
          cases a2
          exact k _ _ _ _ ⟨_, _, R.drop.drop.push (s := .val (.tuple ys)) (.tup b1 b2 b3) rfl⟩ q
        · subst e
          cases b2
          exact k _ _ _ _ ⟨_, _, R.drop.drop.push (s := .val (.tuple xs)) (.tup a1 a2 a3) rfl⟩ (by simpa using q)
        · exact k _ _ _ _ ⟨_, _, R.drop.drop.newTup n (a2.append b2)⟩ q
  · exact lists h
theorem encs_rep {M : Addr → Prop} {H : Hp} {vs : List V} {ds : List D} (h : EncS K M H vs ds) : ∀ n : Nat, EncS K M H (List.replicate n vs).flatten (List.replicate n ds).flatten
  | 0 => .nil
  | n + 1 => by
    rw [List.replicate_succ, List.replicate_succ, List.flatten_cons, List.flatten_cons]
    exact h.append (encs_rep h n)
theorem snd_mul : Snd K E (rMulA K) mulD := by
  intro σ H x y s t δ π Q Q' R h k
  have R0 := R.drop.drop
  have lists : ∀ (c : Int), t = .val (.int c) → (∃ xs, View s δ xs ∧ -(2 ^ 63) ≤ c ∧ c < 2 ^ 63 ∧ xs.length * c.toNat ≤ sizeLine ∧ ∀ p, Q' (.own p (List.replicate c.toNat xs).flatten) δ) → rMulA K x y H Q := by
    rintro c rfl ⟨xs, h1, k1, k2, hz, q⟩
    have e2 := R.isInt (π' := π) List.mem_cons_self
    obtain ⟨G, M, R⟩ := R
    obtain ⟨a, vs, rfl, a1, a2⟩ := R.view (List.mem_cons_of_mem _ List.mem_cons_self) h1
    refine .inr (.inr ⟨a, c, vs, rfl, e2, a1, k1, k2, by rw [a2.length]; exact hz, fun p n => ?_⟩)
    exact k _ _ _ _ ⟨_, _, R.drop.drop.fresh n (encs_rep a2 _)⟩ (q p)
  unfold mulD at h
  split at h
  · rename_i i j
    have e1 := R.isInt (π' := π) (List.mem_cons_of_mem _ List.mem_cons_self)
    have e2 := R.isInt (π' := π) List.mem_cons_self
    exact .inl ⟨i, j, e1, e2, h.1, k _ _ _ _ (R0.int _) h.2⟩
  · rename_i xs c
    obtain ⟨z1, z2, z3, z4, q⟩ := h
    have e2 := R.isInt (π' := π) List.mem_cons_self
    obtain ⟨G, M, R⟩ := R
    have r1 : Enc K M H x (.tuple xs) := R.tmp _ (List.mem_cons_of_mem _ List.mem_cons_self)
    cases r1 with
    | tup a1 a2 a3 =>
      rename_i a vs
      refine .inr (.inl ⟨a, c, vs, rfl, e2, a1, ?_, z2, z3, by rw [a2.length]; exact z4, fun p n => ?_⟩)
      · rintro rfl
        cases a2
        exact z1 rfl
      · exact k _ _ _ _ ⟨_, _, R.drop.drop.newTup n (encs_rep a2 _)⟩ q
  · exact lists _ rfl h
  · exact h.elim
theorem snd_eq : SndP K E (rEqD K) eqD := by
  intro σ H x y s t δ π Q Q' R h k
  obtain ⟨d, e, h1, h2, h3, h4, q⟩ := h
  have R0 := R
  obtain ⟨G, M, R⟩ := R
  exact ⟨d, e, R.data (List.mem_cons_of_mem _ List.mem_cons_self) h1, R.data List.mem_cons_self h2, h3, h4, k _ _ (R0.bl _) q⟩
theorem snd_ne : SndP K E (rNeD K) neD := by
  intro σ H x y s t δ π Q Q' R h k
  obtain ⟨d, e, h1, h2, h3, h4, q⟩ := h
  have R0 := R
  obtain ⟨G, M, R⟩ := R
  exact ⟨d, e, R.data (List.mem_cons_of_mem _ List.mem_cons_self) h1, R.data List.mem_cons_self h2, h3, h4, k _ _ (R0.bl _) q⟩
theorem enc_non {M : Addr → Prop} {H : Hp} {v : V} {d : D} (h : Enc K M H v d) : decide (v = .non) = noneD d := by
  cases h <;> simp [noneD]
theorem snd_is {neg : Bool} : SndP K E (rIsA neg) (isD neg) := by
  intro σ H x y s t δ π Q Q' R h k
  have R0 := R
  unfold isD at h
  split at h
  · rename_i d
    have e2 := R.isNon List.mem_cons_self
    obtain ⟨G, M, R⟩ := R
    have r1 : Enc K M H x d := R.tmp _ (List.mem_cons_of_mem _ List.mem_cons_self)
    exact .inl ⟨e2, k _ _ (R0.bl _) (by rw [enc_non r1]; exact h)⟩
  · rename_i a b
    exact .inr ⟨a, b, R.isBl (List.mem_cons_of_mem _ List.mem_cons_self), R.isBl List.mem_cons_self, k _ _ (R0.bl _) h⟩
  · exact h.elim
theorem flat_enc {M : Addr → Prop} {H : Hp} {v : V} {d : D} (h : Enc K M H v d) (f : flatD d = true) : flatV v = true := by
  cases h <;> first | rfl | cases f
theorem flat_eqv {M : Addr → Prop} {H : Hp} {v w : V} {d e : D} (h : Enc K M H v d) (h' : Enc K M H w e) (f : flatD d = true) (f' : flatD e = true) : eqV w v = PyData.eqv e d := by
  cases h <;> cases h' <;> first | rfl | exact absurd f Bool.false_ne_true | exact absurd f' Bool.false_ne_true
theorem flat_all {M : Addr → Prop} {H : Hp} : ∀ {vs : List V} {ds : List D}, EncS K M H vs ds → ds.all flatD = true → vs.all flatV = true
  | _, _, .nil, _ => rfl
  | _, _, .cons h r, f => by
    simp only [List.all_cons, Bool.and_eq_true] at f ⊢
    exact ⟨flat_enc h f.1, flat_all r f.2⟩
theorem flat_in {M : Addr → Prop} {H : Hp} {v : V} {d : D} (h : Enc K M H v d) (f : flatD d = true) : ∀ {vs : List V} {ds : List D}, EncS K M H vs ds → ds.all flatD = true → inV v vs = ds.any fun e => PyData.eqv e d
  | _, _, .nil, _ => rfl
  | _, _, .cons a r, g => by
    simp only [List.all_cons, Bool.and_eq_true] at g
    have ih := flat_in h f r g.2
    unfold inV at ih ⊢
    rw [List.any_cons, List.any_cons, ih, flat_eqv h a f g.1]
theorem neg_ite (b neg : Bool) : (if neg = true then !b else b) = (b != neg) := by cases b <;> cases neg <;> rfl
theorem snd_in {neg : Bool} : SndP K E (rInA K neg) (inD neg) := by
  intro σ H x y s t δ π Q Q' R h k
  have R0 := R
  obtain ⟨d, h1, h⟩ := h
  obtain ⟨G, M, R⟩ := R
  have dp := R.data (List.mem_cons_of_mem _ List.mem_cons_self) h1
  have lists : (∃ ds, View t δ ds ∧ SeqAt.shaped d = true ∧ SeqAt.shaped (.list ds) = true ∧ Q' (.val (.bool ((ds.any fun e => PyData.eqv e d) != neg))) δ) → rInA K neg x y H Q := by
    rintro ⟨ds, h2, h3, h4, q⟩
    obtain ⟨b, us, rfl, b1, b2⟩ := R.view List.mem_cons_self h2
    refine .inr ?_
    have q' := k _ _ (R0.bl _) q
    cases neg with
    | true => exact ⟨d, ds, dp, .lst (SqL.of b1) b2.dp, h3, h4, by simpa using q'⟩
    | false => exact ⟨d, ds, dp, .lst (SqL.of b1) b2.dp, h3, h4, by simpa using q'⟩
  split at h
  · rename_i ds
    obtain ⟨f, g, q⟩ := h
    have r2 : Enc K M H y (.tuple ds) := R.tmp _ List.mem_cons_self
    have r1 : Enc K M H x d := by
      cases dp with
      | non => exact .non
      | bl b => exact .bl b
      | int b => exact .int b
      | str b => exact .str b
      | lst _ _ => cases f
      | tup _ _ => cases f
    cases r2 with
    | tup b1 b2 b3 =>
      rename_i b us
      refine .inl ⟨b, us, rfl, .inr b1, flat_enc r1 f, flat_all b2 g, ?_⟩
      rw [flat_in r1 f b2 g, neg_ite]
      exact k _ _ (R0.bl _) q
  · exact lists h
end
/-! ### the operators as rules -/
section
variable {X : Cx} {E : Ent} {a b c : Expr} {Ta Tb Tc : TD} {pos : Pos}
theorem de_add (ha : DE X E a Ta) (hb : DE X E b Tb) : DE X E (.BinOp a .Add b pos) (tdOp addD Ta Tb) := de_bin or_add snd_add ha hb
theorem de_sub (ha : DE X E a Ta) (hb : DE X E b Tb) : DE X E (.BinOp a .Sub b pos) (tdOp subD Ta Tb) := de_bin op_sub snd_int0.snd ha hb
theorem de_mul (ha : DE X E a Ta) (hb : DE X E b Tb) : DE X E (.BinOp a .Mult b pos) (tdOp mulD Ta Tb) := de_bin or_mul snd_mul ha hb
theorem de_mod (ha : DE X E a Ta) (hb : DE X E b Tb) : DE X E (.BinOp a .Mod b pos) (tdOp modD Ta Tb) := de_bin op_mod snd_int.snd ha hb
theorem de_fdiv (ha : DE X E a Ta) (hb : DE X E b Tb) : DE X E (.BinOp a .FloorDiv b pos) (tdOp fdivD Ta Tb) := de_bin op_fdiv snd_int.snd ha hb
theorem de_pow (ha : DE X E a Ta) (hb : DE X E b Tb) : DE X E (.BinOp a .Pow b pos) (tdOp powD Ta Tb) := de_bin op_pow snd_int.snd ha hb
/-- a comparison's rule: what the operator asks of the values, sound -/
structure CR2 (X : Cx) (E : Ent) (op : CmpOp) (R : R2D) : Prop where
  ok : ∃ r, OpR X (compareOp op) r ∧ SndP X.K E r R
theorem c_lt : CR2 X E .Lt ltD := ⟨_, op_lt, snd_bl0⟩
theorem c_le : CR2 X E .LtE leD := ⟨_, op_le, snd_bl0⟩
theorem c_gt : CR2 X E .Gt gtD := ⟨_, op_gt, snd_bl0⟩
theorem c_ge : CR2 X E .GtE geD := ⟨_, op_ge, snd_bl0⟩
theorem c_eq (hu : X.A.units + 64 < cLine) : CR2 X E .Eq eqD := ⟨_, op_eqD hu, snd_eq⟩
theorem c_ne (hu : X.A.units + 64 < cLine) : CR2 X E .NotEq neD := ⟨_, op_neD hu, snd_ne⟩
theorem c_is : CR2 X E .Is (isD false) := ⟨_, or_is, snd_is⟩
theorem c_isnot : CR2 X E .IsNot (isD true) := ⟨_, or_isnot, snd_is⟩
theorem c_in (hu : X.A.units + 65 < cLine) : CR2 X E .In (inD false) := ⟨_, or_in hu, snd_in⟩
theorem c_notin (hu : X.A.units + 65 < cLine) : CR2 X E .NotIn (inD true) := ⟨_, or_notin hu, snd_in⟩
theorem de_cp {op : CmpOp} {R : R2D} (o : CR2 X E op R) (ha : DE X E a Ta) (hb : DE X E b Tb) (hm : behindInMarks op b = false := by with_unfolding_all rfl) : DE X E (.Compare a [op] [b] pos) (tdOp R Ta Tb) :=
  let ⟨_, h1, h2⟩ := o.ok; de_cmp h1 h2.snd ha hb hm
theorem dt_cp {op : CmpOp} {R : R2D} (o : CR2 X E op R) (ha : DE X E a Ta) (hb : DE X E b Tb) (hm : behindInMarks op b = false := by with_unfolding_all rfl) : DT X E (.Compare a [op] [b] pos) (tdTest (tdOp R Ta Tb)) :=
  let ⟨_, h1, h2⟩ := o.ok; dt_cmp h1 h2.snd ha hb hm
theorem de_cp2 {op op' : CmpOp} {R R' : R2D} (o : CR2 X E op R) (o' : CR2 X E op' R') (ha : DE X E a Ta) (hb : DE X E b Tb) (hc : DE X E c Tc) (hm : lastMarks [op, op'] [b, c] = false := by with_unfolding_all rfl) :
    DE X E (.Compare a [op, op'] [b, c] pos) (tdChain R R' Ta Tb Tc) := let ⟨_, h1, h2⟩ := o.ok; let ⟨_, h3, h4⟩ := o'.ok; de_chain h1 h3 h2 h4.snd ha hb hc hm
theorem dt_cp2 {op op' : CmpOp} {R R' : R2D} (o : CR2 X E op R) (o' : CR2 X E op' R') (ha : DE X E a Ta) (hb : DE X E b Tb) (hc : DE X E c Tc) (hm : lastMarks [op, op'] [b, c] = false := by with_unfolding_all rfl) :
    DT X E (.Compare a [op, op'] [b, c] pos) (tdTest (tdChain R R' Ta Tb Tc)) := let ⟨_, h1, h2⟩ := o.ok; let ⟨_, h3, h4⟩ := o'.ok; dt_chain h1 h3 h2 h4.snd ha hb hc hm
end
end HR
namespace HR
open PySem PySem.Spec L2
open PyProof.Rows hiding St
/-! ### argument lists, displays -/
def tdNil : TDA := fun δ Q => Q [] δ
def tdCons (Ta : TD) (Tr : TDA) : TDA := fun δ Q => Ta δ fun s δ1 => Tr δ1 fun ss δ2 => Q (s :: ss) δ2
def asDs : List SV → Env → (List D → Env → Prop) → Prop
  | [], δ, Q => Q [] δ
  | s :: ss, δ, Q => asD s δ fun d δ1 => asDs ss δ1 fun ds δ2 => Q (d :: ds) δ2
section
variable {K : PySem.W.Frag} {E : Ent} {σ : L2.St} {H : Hp} {δ : Env} {π : Tmp} {v : V} {G M : Addr → Prop}
theorem asDs_ok : ∀ {vs : List V} {ss : List SV} {δ : Env} {π : Tmp} {Q : List D → Env → Prop}, vs.length = ss.length → Rep K E σ H δ (vs.zip ss ++ π) → asDs ss δ Q → ∃ ds δ', vs.length = ds.length ∧ Rep K E σ H δ' (vs.zip (ds.map SV.val) ++ π) ∧ Q ds δ'
  | [], [], δ, π, Q, _, R, h => ⟨[], δ, rfl, R, h⟩
  | [], _ :: _, _, _, _, e, _, _ => by simp at e
  | _ :: _, [], _, _, _, e, _, _ => by simp at e
  | v :: vs, s :: ss, δ, π, Q, e, R, h => by
    obtain ⟨d, δ1, R1, h1⟩ := asD_ok (π := vs.zip ss ++ π) R h
    have R2 := R1.perm (show ((v, SV.val d) :: (vs.zip ss ++ π)).Perm (vs.zip ss ++ ((v, SV.val d) :: π)) from List.perm_middle.symm)
    obtain ⟨ds, δ2, e2, R3, h2⟩ := asDs_ok (by simpa using e) R2 h1
    exact ⟨d :: ds, δ2, by simp [e2], R3.perm List.perm_middle, h2⟩
theorem RepG.encs : ∀ {vs : List V} {ds : List D}, vs.length = ds.length → RepG K E G M σ H δ (vs.zip (ds.map SV.val) ++ π) → EncS K M H vs ds
  | [], [], _, _ => .nil
  | [], _ :: _, e, _ => by simp at e
  | _ :: _, [], e, _ => by simp at e
  | v :: vs, d :: ds, e, R => .cons (show RT K E G M H v (.val d) from R.top) (RepG.encs (by simpa using e) R.drop)
end
section
variable {X : Cx} {E : Ent} {e : Expr} {es : List Expr} {T Ta : TD} {Ts Tr : TDA} {pos : Pos}
theorem da_nil : DA X E [] tdNil := PA.imp pa_nil fun σ H Q ⟨δ, π, Q', R, t, k⟩ => k [] H [] δ rfl R t
theorem da_cons (ha : DE X E e Ta) (hr : DA X E es Tr) (hs : starEach (e :: es) X.env = (false, eval e X.env) :: starEach es X.env := by rfl) : DA X E (e :: es) (tdCons Ta Tr) :=
  PA.imp (pa_cons ha hr hs) fun σ H Q ⟨δ, π, Q', R, t, k⟩ =>
    ⟨δ, π, _, R, t, fun v H1 s δ1 R1 q => ⟨δ1, _, _, R1, q, fun vs H2 rs δ2 el R2 q2 => k (v :: vs) H2 (s :: rs) δ2 (by simp [el]) (R2.perm List.perm_middle) q2⟩⟩
def tdTup (Ts : TDA) : TD := fun δ Q => Ts δ fun ss δ1 => ss.length ≤ 1000 ∧ asDs ss δ1 fun ds δ2 => Q (.val (.tuple ds)) δ2
def tdLst (Ts : TDA) : TD := fun δ Q => Ts δ fun ss δ1 => ss.length ≤ 1000 ∧ asDs ss δ1 fun ds δ2 => ∀ p, Q (.own p ds) δ2
theorem small_line {n : Nat} (h : n ≤ 1000) : n ≤ sizeLine := Nat.le_trans h (by rw [sizeLine_eq]; decide)
theorem de_tup {x1} (h : DA X E es Ts) : DE X E (.Tuple es x1 pos) (tdTup Ts) := PE.imp (pe_tup h) fun σ H Q ⟨δ, π, Q', R, t, k⟩ =>
  ⟨δ, π, _, R, t, fun vs H1 ss δ1 el R1 ⟨hz, q⟩ => ⟨small_line (by rw [el]; exact hz), fun p n => by
    obtain ⟨ds, δ2, e2, ⟨G, M, R2⟩, q2⟩ := asDs_ok el R1 q
    exact k _ _ _ _ ⟨G, M, R2.sub.newTup n (R2.encs e2)⟩ q2⟩⟩
theorem de_lst (h : DA X E es Ts) : DE X E (.List es pos) (tdLst Ts) := PE.imp (pe_lst h) fun σ H Q ⟨δ, π, Q', R, t, k⟩ =>
  ⟨δ, π, _, R, t, fun vs H1 ss δ1 el R1 ⟨hz, q⟩ => ⟨small_line (by rw [el]; exact hz), fun p n => by
    obtain ⟨ds, δ2, e2, ⟨G, M, R2⟩, q2⟩ := asDs_ok el R1 q
    exact k _ _ _ _ ⟨_, _, R2.sub.fresh n (R2.encs e2)⟩ (q2 p)⟩⟩
end
/-! ### subscripts -/
def getI {α : Type} (xs : List α) (k : Int) : Option α := if 0 ≤ k then xs[k.toNat]? else if (-k).toNat ≤ xs.length then xs[xs.length - (-k).toNat]? else none
theorem getI_at {α : Type} {xs : List α} {k : Int} {d : α} (h : getI xs k = some d) : atI xs k = some d := by
  unfold getI at h
  unfold atI ixN
  split at h
  · rename_i h0
    rw [if_pos h0]
    have hl := (List.getElem?_eq_some_iff.mp h).1
    rw [if_pos (by omega)]
    exact h
  · rename_i h0
    rw [if_neg h0]
    split at h
    · rename_i h1
      rw [if_pos (by omega)]
      show xs[(k + xs.length).toNat]? = some d
      rw [show (k + xs.length).toNat = xs.length - (-k).toNat by omega]
      exact h
    · cases h
theorem ixN_get {n : Nat} {k : Int} : ixN n k = if 0 ≤ k then (if k < n then some k.toNat else none) else if (-k).toNat ≤ n then some (n - (-k).toNat) else none := by
  unfold ixN
  split
  · rfl
  · split
    · rw [if_pos (by omega)]; congr 1; omega
    · rw [if_neg (by omega)]
theorem atI_getI {α : Type} {xs : List α} {k : Int} : atI xs k = getI xs k := by
  unfold atI getI
  rw [ixN_get]
  split
  · split
    · rfl
    · rename_i h
      rw [List.getElem?_eq_none (by omega)]
      rfl
  · split <;> rfl
theorem EncS.getI {K : PySem.W.Frag} {M : Addr → Prop} {H : Hp} {vs : List V} {ds : List D} {k : Int} {d : D} (h : EncS K M H vs ds) (e : HR.getI ds k = some d) : ∃ v, HR.getI vs k = some v ∧ Enc K M H v d := by
  unfold HR.getI at e ⊢
  rw [h.length]
  split at e
  · rename_i h0
    rw [if_pos h0]
    exact h.get e
  · rename_i h0
    rw [if_neg h0]
    split at e
    · rename_i h1
      rw [if_pos h1]
      exact h.get e
    · cases e
theorem getI_map {α β : Type} (f : α → β) (xs : List α) (k : Int) : HR.getI (xs.map f) k = (HR.getI xs k).map f := by
  unfold HR.getI
  rw [List.length_map, List.getElem?_map, List.getElem?_map]
  split
  · rfl
  · split <;> rfl
def ixD : R2D := fun s t δ Q => match t with
  | .val (.int k) => (match s with
    | .val (.tuple ds) => ∃ d, getI ds k = some d ∧ Q (.val d) δ
    | .scr ns => ∃ n, getI ns k = some n ∧ Q (.val (.int n)) δ
    | .bag => (k = 0 ∧ ∀ x, 0 ≤ x → Q (.val (.int x)) δ) ∨ (k = 1 ∧ ∀ y, 0 ≤ y → y < 2147483647 → Q (.val (.int y)) δ)
    | s => ∃ ds d, View s δ ds ∧ getI ds k = some d ∧ Q (.val d) δ)
  | _ => False
def rIxA (K : PySem.W.Frag) : R2 := fun x y H Q => rIxL K x y H Q ∨ rIxT K x y H Q
theorem ix_any {X : Cx} : IxR X (rIxA X.K) := IxR.or ix_list ix_tup
theorem snd_ix {K : PySem.W.Frag} {E : Ent} : Snd K E (rIxA K) ixD := by
  intro σ H x y s t δ π Q Q' R h k
  have R0 := R.drop.drop
  unfold ixD at h
  split at h
  · rename_i c
    have e2 := R.isInt (π' := π) List.mem_cons_self
    have RR := R
    obtain ⟨G, M, R⟩ := R
    split at h
    · rename_i ds
      obtain ⟨d, e, q⟩ := h
      have r1 : Enc K M H x (.tuple ds) := R.tmp _ (List.mem_cons_of_mem _ List.mem_cons_self)
      cases r1 with
      | tup a1 a2 a3 =>
        obtain ⟨w, e3, r⟩ := a2.getI e
        exact .inr ⟨_, _, c, w, rfl, e2, a1, by rw [atI_getI]; exact e3, k _ _ _ _ ⟨_, _, R.drop.drop.push (s := .val d) r rfl⟩ q⟩
    · rename_i ns
      obtain ⟨n, e, q⟩ := h
      obtain ⟨a, rfl, hs⟩ : ∃ a, x = .ref a ∧ SqS K M H a (ns.map V.int) := R.tmp (x, .scr ns) (List.mem_cons_of_mem _ List.mem_cons_self)
      refine .inl ⟨a, _, c, .int n, rfl, e2, hs.sq, ?_, k _ _ _ _ (R0.int n) q⟩
      rw [atI_getI, getI_map, e]
      rfl
    · obtain ⟨b, rfl, g⟩ : ∃ b, x = .ref b ∧ G b := R.tmp (x, .bag) (List.mem_cons_of_mem _ List.mem_cons_self)
      obtain ⟨x0, y0, eb, b1, b2, b3⟩ := R.good.bag b g
      rcases h with ⟨rfl, q⟩ | ⟨rfl, q⟩
      · exact .inl ⟨b, _, 0, .int x0, rfl, e2, SqL.of eb, rfl, k _ _ _ _ (R0.int _) (q x0 b1)⟩
      · exact .inl ⟨b, _, 1, .int y0, rfl, e2, SqL.of eb, rfl, k _ _ _ _ (R0.int _) (q y0 b2 b3)⟩
    · obtain ⟨ds, d, e, e', q⟩ := h
      obtain ⟨a, vs, rfl, a1, a2⟩ := R.view (List.mem_cons_of_mem _ List.mem_cons_self) e
      obtain ⟨w, e3, r⟩ := a2.getI e'
      exact .inl ⟨a, vs, c, w, rfl, e2, SqL.of a1, by rw [atI_getI]; exact e3, k _ _ _ _ ⟨_, _, R.drop.drop.push (s := .val d) r rfl⟩ q⟩
  · exact h.elim
section
variable {X : Cx} {E : Ent} {a b c : Expr} {Ta Tb Tc : TD} {pos p2 : Pos}
theorem de_ix (ha : DE X E a Ta) (hb : DE X E b Tb) (hs : PlainIx b := by exact fun _ _ => rfl) : DE X E (.Subscript a b pos) (tdOp ixD Ta Tb) := PE.imp (pe_ix ix_any ha hb hs) (op_ok snd_ix)
/-! ### slices -/
abbrev TDO := Env → (Option Int → Env → Prop) → Prop
def lO (K : PySem.W.Frag) (E : Ent) (T : TDO) : TO := fun σ H Q => ∃ δ π Q', Rep K E σ H δ π ∧ T δ Q' ∧ ∀ i H' δ', Rep K E σ H' δ' π → Q' i δ' → Q i H'
abbrev DO (X : Cx) (E : Ent) (e : Option Expr) (T : TDO) : Prop := PO X e (lO X.K E T)
theorem PO.imp {e : Option Expr} {t t' : TO} (h : PO X e t) (i : ∀ σ H Q, t' σ H Q → t σ H Q) : PO X e t' := ⟨fun pins s σ H Q I q => h.run pins s σ H Q I (i _ _ _ q)⟩
def tdO0 : TDO := fun δ Q => Q none δ
def tdO1 (T : TD) : TDO := fun δ Q => T δ fun s δ1 => ∃ i, s = .val (.int i) ∧ Q (some i) δ1
theorem do_none : DO X E none tdO0 := PO.imp po_none fun σ H Q ⟨δ, π, Q', R, t, k⟩ => k none H δ R t
theorem do_some (h : DE X E a Ta) : DO X E (some a) (tdO1 Ta) := PO.imp (po_some h) fun σ H Q ⟨δ, π, Q', R, t, k⟩ =>
  ⟨δ, π, _, R, t, fun v H1 s δ1 R1 ⟨i, e, q⟩ => by
    subst e
    exact ⟨i, R1.isInt (π' := π) List.mem_cons_self, k (some i) H1 δ1 R1.drop q⟩⟩
def cutD {α : Type} (xs : List α) (lo hi : Option Int) : List α := (xs.drop (HT.sIx xs.length 0 lo)).take (HT.sIx xs.length xs.length hi - HT.sIx xs.length 0 lo)
theorem EncS.cut {K : PySem.W.Frag} {M : Addr → Prop} {H : Hp} {vs : List V} {ds : List D} (h : EncS K M H vs ds) (lo hi : Option Int) : EncS K M H (cutV vs lo hi) (cutD ds lo hi) := by
  unfold cutV cutD
  rw [h.length]
  exact (h.drop _).take _
def slD (s : SV) (lo hi : Option Int) (δ : Env) (Q : VD) : Prop := match s with
  | .val (.tuple ds) => Q (.val (.tuple (cutD ds lo hi))) δ
  | s => ∃ ds, View s δ ds ∧ ∀ p, Q (.own p (cutD ds lo hi)) δ
def tdSl (Ta : TD) (Tl Th : TDO) : TD := fun δ Q => Ta δ fun s δ1 => Tl δ1 fun lo δ2 => Th δ2 fun hi δ3 => slD s lo hi δ3 Q
theorem sl_any : SlR X (fun x lo hi H Q => rSlA X.K x lo hi H Q ∨ rSlL X.K x lo hi H Q) := SlR.or sl_tupA sl_list
theorem cut_whole {α : Type} {xs : List α} {lo hi : Option Int} (h : HT.sIx xs.length 0 lo = 0 ∧ HT.sIx xs.length xs.length hi = xs.length) : cutD xs lo hi = xs := by
  unfold cutD
  rw [h.1, h.2]
  simp
theorem de_slice {lo hi : Option Expr} {Tl Th : TDO} (ha : DE X E a Ta) (hl : DO X E lo Tl) (hh : DO X E hi Th) : DE X E (.Subscript a (.Slice lo hi none p2) pos) (tdSl Ta Tl Th) :=
  PE.imp (pe_slice sl_any ha hl hh) fun σ H Q ⟨δ, π, Q', R, t, k⟩ =>
    ⟨δ, π, _, R, t, fun v H1 s δ1 R1 q1 => ⟨δ1, _, _, R1, q1, fun lo H2 δ2 R2 q2 => ⟨δ2, _, _, R2, q2, fun hi H3 δ3 R3 q3 => by
      unfold slD at q3
      split at q3
      · rename_i ds
        obtain ⟨G, M, R3⟩ := R3
        have r1 : Enc X.K M H3 v (.tuple ds) := R3.top
        cases r1 with
        | tup a1 a2 a3 =>
          rename_i ad vs
          refine .inl ⟨ad, vs, rfl, a1, fun e => ?_, fun _ p n => k _ _ _ _ ⟨_, _, R3.drop.newTup n (a2.cut lo hi)⟩ q3⟩
          rw [a2.length] at e
          rw [cut_whole e] at q3
          exact k _ _ _ _ ⟨_, _, R3.drop.push (s := .val (.tuple ds)) (.tup a1 a2 a3) rfl⟩ q3
      · obtain ⟨ds, e, q⟩ := q3
        obtain ⟨G, M, R3⟩ := R3
        obtain ⟨ad, vs, rfl, a1, a2⟩ := R3.view List.mem_cons_self e
        exact .inr ⟨ad, vs, rfl, SqL.of a1, fun p n => k _ _ _ _ ⟨_, _, R3.drop.fresh n (a2.cut lo hi)⟩ (q p)⟩⟩⟩⟩
end
/-! ### tests -/
def truthD (s : SV) (δ : Env) (Q : Bool → Prop) : Prop := match s with
  | .val .none => Q false
  | .val (.bool b) => Q b
  | .val (.int i) => Q (i != 0)
  | .val (.tuple ds) => Q (!ds.isEmpty)
  | s => ∃ ds, View s δ ds ∧ Q (!ds.isEmpty)
section
variable {X : Cx} {E : Ent} {a b c : Expr} {Ta Tb Tc : TD} {TA TB : TDT} {rest : List Expr} {pos p2 : Pos}
def tdTruth (T : TD) : TDT := fun δ Q => T δ fun s δ1 => truthD s δ1 fun k => Q k δ1
theorem empty_eq {K : PySem.W.Frag} {M : Addr → Prop} {H : Hp} {vs : List V} {ds : List D} (h : EncS K M H vs ds) : vs.isEmpty = ds.isEmpty := by cases h <;> rfl
theorem truth_ok {K : PySem.W.Frag} {E : Ent} {G M : Addr → Prop} {σ : L2.St} {H : Hp} {δ : Env} {π : Tmp} {v : V} {s : SV} {Q : Bool → Prop} (R : RepG K E G M σ H δ ((v, s) :: π)) (e : truthD s δ Q) : ∃ c, TruV K v H c ∧ Q c := by
  have lists : (∃ ds, View s δ ds ∧ Q (!ds.isEmpty)) → ∃ c, TruV K v H c ∧ Q c := fun ⟨ds, z, q⟩ => by
    obtain ⟨ad, vs, rfl, a1, a2⟩ := R.view List.mem_cons_self z
    exact ⟨_, .inl ⟨vs, SqL.of a1, rfl⟩, by rw [empty_eq a2]; exact q⟩
  unfold truthD at e
  split at e
  · have z : Enc K M H v .none := R.top
    cases z; exact ⟨_, rfl, e⟩
  · rename_i b
    have z : Enc K M H v (.bool b) := R.top
    cases z; exact ⟨_, rfl, e⟩
  · rename_i i
    have z : Enc K M H v (.int i) := R.top
    cases z; exact ⟨_, rfl, e⟩
  · rename_i ds
    have z : Enc K M H v (.tuple ds) := R.top
    cases z with
    | tup a1 a2 a3 => exact ⟨_, .inr (.inl ⟨_, a1, rfl⟩), by rw [empty_eq a2]; exact e⟩
  · exact lists e
theorem dt_truth (ha : DE X E a Ta) (he : ∀ whole, isTrue a X.env whole = (do let v ← whole; standAt a.pos; holding [v] (truthy v)) := by intro _; rfl) : DT X E a (tdTruth Ta) :=
  PT.imp (pt_truth ha he) fun σ H Q ⟨δ, π, Q', R, t, k⟩ => ⟨δ, π, _, R, t, fun v H1 s δ1 R1 e => by
    obtain ⟨G, M, R1⟩ := R1
    obtain ⟨c, h, q⟩ := truth_ok R1 e
    exact ⟨c, h, k c H1 δ1 ⟨G, M, R1.drop⟩ q⟩⟩
def tdNot (T : TDT) : TDT := fun δ Q => T δ fun b δ1 => Q (!b) δ1
def tdAnd (T U : TDT) : TDT := fun δ Q => T δ fun b δ1 => if b = true then U δ1 Q else Q false δ1
def tdOr (T U : TDT) : TDT := fun δ Q => T δ fun b δ1 => if b = true then Q true δ1 else U δ1 Q
theorem dt_not (ha : DT X E a TA) : DT X E (.UnaryOp .Not a pos) (tdNot TA) := PT.imp (pt_not ha) fun σ H Q ⟨δ, π, Q', R, t, k⟩ => ⟨δ, π, _, R, t, fun b H1 δ1 R1 q => k (!b) H1 δ1 R1 q⟩
theorem dw_and1 (ha : DT X E a TA) : DW X E (.BoolOp .And [a] pos) TA := pw_and1 ha
theorem dw_or1 (ha : DT X E a TA) : DW X E (.BoolOp .Or [a] pos) TA := pw_or1 ha
theorem dw_and (ha : DT X E a TA) (hb : DW X E (.BoolOp .And (b :: rest) pos) TB) : DW X E (.BoolOp .And (a :: b :: rest) pos) (tdAnd TA TB) := PW.imp (pw_and ha hb) fun σ H Q ⟨δ, π, Q', R, t, k⟩ =>
  ⟨δ, π, _, R, t, fun c H1 δ1 R1 q => by
    cases c with
    | true => exact iteT ⟨δ1, π, Q', R1, q, k⟩
    | false => exact iteF (k false H1 δ1 R1 q)⟩
theorem dw_or (ha : DT X E a TA) (hb : DW X E (.BoolOp .Or (b :: rest) pos) TB) : DW X E (.BoolOp .Or (a :: b :: rest) pos) (tdOr TA TB) := PW.imp (pw_or ha hb) fun σ H Q ⟨δ, π, Q', R, t, k⟩ =>
  ⟨δ, π, _, R, t, fun c H1 δ1 R1 q => by
    cases c with
    | false => exact iteF ⟨δ1, π, Q', R1, q, k⟩
    | true => exact iteT (k true H1 δ1 R1 q)⟩
theorem DW.dt (h : DW X E a TA) : DT X E a TA := PW.pt h
/-- as values: all but the last truth values -/
def tdAndV (T U : TD) : TD := fun δ Q => T δ fun s δ1 => ∃ c, s = .val (.bool c) ∧ if c = true then U δ1 Q else Q (.val (.bool false)) δ1
def tdOrV (T U : TD) : TD := fun δ Q => T δ fun s δ1 => ∃ c, s = .val (.bool c) ∧ if c = true then Q (.val (.bool true)) δ1 else U δ1 Q
def tdNotV (T : TD) : TD := fun δ Q => T δ fun s δ1 => ∃ c, s = .val (.bool c) ∧ Q (.val (.bool (!c))) δ1
theorem de_one {op} (h : DE X E a Ta) : DE X E (.BoolOp op [a] pos) Ta := pe_one h
theorem de_and (ha : DE X E a Ta) (hb : DE X E (.BoolOp .And (b :: rest) pos) Tb) : DE X E (.BoolOp .And (a :: b :: rest) pos) (tdAndV Ta Tb) := PE.imp (pe_and ha hb) fun σ H Q ⟨δ, π, Q', R, t, k⟩ =>
  ⟨δ, π, _, R, t, fun v H1 s δ1 R1 ⟨c, e, q⟩ => by
    subst e
    refine ⟨c, R1.isBl List.mem_cons_self, ?_⟩
    cases c with
    | true => exact iteT ⟨δ1, π, Q', R1.drop, q, k⟩
    | false => exact iteF (k _ H1 _ δ1 (R1.drop.bl false) q)⟩
theorem de_or (ha : DE X E a Ta) (hb : DE X E (.BoolOp .Or (b :: rest) pos) Tb) : DE X E (.BoolOp .Or (a :: b :: rest) pos) (tdOrV Ta Tb) := PE.imp (pe_or ha hb) fun σ H Q ⟨δ, π, Q', R, t, k⟩ =>
  ⟨δ, π, _, R, t, fun v H1 s δ1 R1 ⟨c, e, q⟩ => by
    subst e
    refine ⟨c, R1.isBl List.mem_cons_self, ?_⟩
    cases c with
    | true => exact iteT (k _ H1 _ δ1 (R1.drop.bl true) q)
    | false => exact iteF ⟨δ1, π, Q', R1.drop, q, k⟩⟩
theorem de_not (ha : DE X E a Ta) : DE X E (.UnaryOp .Not a pos) (tdNotV Ta) := PE.imp (pe_not ha) fun σ H Q ⟨δ, π, Q', R, t, k⟩ =>
  ⟨δ, π, _, R, t, fun v H1 s δ1 R1 ⟨c, e, q⟩ => by
    subst e
    exact ⟨c, R1.isBl List.mem_cons_self, k _ H1 _ δ1 (R1.drop.bl _) q⟩⟩
def tdIf (T : TDT) (Ta Tb : TD) : TD := fun δ Q => T δ fun c δ1 => if c = true then Ta δ1 Q else Tb δ1 Q
theorem de_if (hc : DT X E c TA) (ha : DE X E a Ta) (hb : DE X E b Tb) : DE X E (.IfExp c a b pos) (tdIf TA Ta Tb) := PE.imp (pe_ifExp hc ha hb) fun σ H Q ⟨δ, π, Q', R, t, k⟩ =>
  ⟨δ, π, _, R, t, fun d H1 δ1 R1 q => by
    cases d with
    | true => exact iteT ⟨δ1, π, Q', R1, q, k⟩
    | false => exact iteF ⟨δ1, π, Q', R1, q, k⟩⟩
/-- -a -/
def tdNeg (T : TD) : TD := fun δ Q => T δ fun s δ1 => ∃ i, s = .val (.int i) ∧ Q (.val (.int (-i))) δ1
theorem de_neg (ha : DE X E a Ta) : DE X E (.UnaryOp .USub a pos) (tdNeg Ta) := PE.imp (pe_un un_neg ha) fun σ H Q ⟨δ, π, Q', R, t, k⟩ =>
  ⟨δ, π, _, R, t, fun v H1 s δ1 R1 ⟨c, e, q⟩ => by
    subst e
    exact ⟨c, R1.isInt (π' := π) List.mem_cons_self, k _ H1 _ δ1 (R1.drop.int _) q⟩⟩
end
end HR
namespace HR
open PySem PySem.Spec L2
open PyProof.Rows hiding St
/-! ### what is walked -/
abbrev TDI := Env → (List D → (Env → Prop) → Env → Prop) → Prop
structure Wk (K : PySem.W.Frag) (E : Ent) (J : It) (π1 : Tmp) (chk : Env → Prop) (ds : List D) : Prop where
  go : ∀ (σ : L2.St) (H : Hp) (δ : Env) (π : Tmp) (i : Nat), i < ds.length → Rep K E σ H δ (π1 ++ π) → chk δ → J.go i H
  stop : ∀ (σ : L2.St) (H : Hp) (δ : Env) (π : Tmp), Rep K E σ H δ (π1 ++ π) → chk δ → J.stop ds.length H
  yld : ∀ (σ : L2.St) (H : Hp) (δ : Env) (π : Tmp) (i : Nat) (x : V) (H' : Hp), i < ds.length → Rep K E σ H δ (π1 ++ π) → chk δ → J.yld i H x H' → ∃ d, ds[i]? = some d ∧ Rep K E σ H' δ ((x, .val d) :: (π1 ++ π))
  len : ds.length ≤ sizeLine
def lI (K : PySem.W.Frag) (E : Ent) (T : TDI) : TI := fun σ H R => ∃ δ π Q', Rep K E σ H δ π ∧ T δ Q' ∧ ∀ J H1 δ1 π1 chk ds, Rep K E σ H1 δ1 (π1 ++ π) → Wk K E J π1 chk ds → Q' ds chk δ1 → R J H1
abbrev DI (X : Cx) (E : Ent) (tg e : Expr) (T : TDI) : Prop := PI X tg e (lI X.K E T)
theorem PI.imp {X : Cx} {tg e : Expr} {t t' : TI} (h : PI X tg e t) (i : ∀ σ H Q, t' σ H Q → t σ H Q) : PI X tg e t' := ⟨fun pins s σ H Q I q => h.run pins s σ H Q I (i _ _ _ q)⟩
/-- lists and tuples are never longer than the line -/
def LenOk (K : PySem.W.Frag) (H : Hp) : Prop := ∀ a xs, SqL K H a xs ∨ SqT K H a xs → xs.length ≤ sizeLine
theorem lenOk_of {X : Cx} {pins : List (Addr × Obj)} {σ : L2.St} {H : Hp} {s : Shared} (I : Inv X pins σ H s) : LenOk X.K H := fun a xs h => by
  rcases h with h | h
  · exact (I.list h).elim fun _ z => z.2.2
  · exact (I.tuple h).elim fun _ z => z.2.2
theorem PI.bound {X : Cx} {tg e : Expr} {t : TI} (h : PI X tg e t) : PI X tg e (fun σ H R => t σ H fun J H1 => LenOk X.K H1 → R J H1) := ⟨fun pins s σ H R I q => thn (h.run pins s σ H _ I q) fun v s1 h1 => thn h1 fun itv s2 ⟨it, fp, tn, J, H', e, I2, T, st, f, r⟩ => ⟨it, fp, tn, J, H', e, I2, T, st, f, r (lenOk_of I2)⟩⟩
/-- a list or a tuple -/
def iSeq (K : PySem.W.Frag) (tl : TE) : TI := fun σ H R => tl σ H fun x H1 => ∃ a, x = .ref a ∧ (((∃ xs, SqL K H1 a xs) ∧ R (Itl K a) H1) ∨ ((∃ xs, SqT K H1 a xs) ∧ R (Itt K a) H1))
theorem pi_seq {X : Cx} {tg l : Expr} {tl : TE} (hl : PE X l tl) : PI X tg l (iSeq X.K tl) := by
  refine ⟨fun pn s σ H R I h => ?_⟩
  refine thn (hl.run pn s σ H _ I h) fun v sb ⟨x, Hb, Ib, r1, q1⟩ => ?_
  obtain ⟨a, e, q⟩ := q1
  subst e
  cases r1
  rcases q with ⟨⟨xs, hq⟩, q⟩ | ⟨⟨xs, hq⟩, q⟩
  · obtain ⟨us, rs, p, _hz⟩ := Ib.list hq
    refine wpAny_pyIter_list p.isList ?_
    refine ⟨sb.heap.objs.size, [sb.heap.objs.size], _, _, Hb, rfl, Ib.kept (t' := sb.toks) fun b o e => Heap.get?_push_of_some _ e, turn_list a _, ⟨_, Heap.get?_push_size _ rfl, rfl, rfl⟩, fun b inF => ?_, q⟩
    have e : b = sb.heap.objs.size := by simpa using inF
    subst e
    exact Ib.fpOk (Nat.le_refl _) (Ib.hok.fresh (Nat.le_refl _))
  · obtain ⟨us, rs, p, _hz⟩ := Ib.tuple hq
    refine wpAny_pyIter_tuple (show sb.heap.IsTuple a us.toArray from p) ?_
    refine ⟨sb.heap.objs.size, [sb.heap.objs.size], _, _, Hb, rfl, Ib.kept (t' := sb.toks) fun b o e => Heap.get?_push_of_some _ e, turn_tuple a _, ⟨_, Heap.get?_push_size _ rfl, rfl, rfl⟩, fun b inF => ?_, q⟩
    have e : b = sb.heap.objs.size := by simpa using inF
    subst e
    exact Ib.fpOk (Nat.le_refl _) (Ib.hok.fresh (Nat.le_refl _))
/-- what a walked thing shows, and what must stay so -/
def chkOf (s : SV) (ds : List D) (δ : Env) : Prop := match s with
  | .bor i p => View (.bor i p) δ ds
  | _ => True
theorem seqD_chk {s : SV} {δ δ' : Env} {ds : List D} (h : SeqR s δ ds) (c : chkOf s ds δ') : SeqR s δ' ds := by
  cases s with
  | val d => cases d <;> exact h
  | own p es => exact h
  | bor i p => exact c
  | _ => exact h
def tdIt (T : TD) : TDI := fun δ Q => T δ fun s δ1 => ∃ ds, SeqR s δ1 ds ∧ Q ds (chkOf s ds) δ1
section
variable {K : PySem.W.Frag} {E : Ent} {G M : Addr → Prop} {σ : L2.St} {H H' : Hp} {δ : Env} {π : Tmp} {v : V} {s : SV} {ds : List D}
theorem RepG.seq (R : RepG K E G M σ H δ π) (h : (v, s) ∈ π) (e : SeqR s δ ds) : ∃ a xs, v = .ref a ∧ EncS K M H xs ds ∧ ((SqL K H a xs ∧ ∀ d es, s = .val d → d ≠ .tuple es) ∨ (SqT K H a xs ∧ s = .val (.tuple ds))) := by
  have lists : View s δ ds → (∀ d es, s = .val d → d ≠ .tuple es) → ∃ a xs, v = .ref a ∧ EncS K M H xs ds ∧ ((SqL K H a xs ∧ ∀ d es, s = .val d → d ≠ .tuple es) ∨ (SqT K H a xs ∧ s = .val (.tuple ds))) := fun e hn => by
    obtain ⟨a, xs, rfl, a1, a2⟩ := R.view h e
    exact ⟨a, xs, rfl, a2, .inl ⟨SqL.of a1, hn⟩⟩
  cases s with
  | val d =>
    cases d with
    | tuple es =>
      cases e
      have r : Enc K M H v (.tuple ds) := R.tmp _ h
      cases r with
      | tup a1 a2 a3 => exact ⟨_, _, rfl, a2, .inr ⟨a1, rfl⟩⟩
    | list es => exact lists e fun d fs z => by cases z; exact fun z => nomatch z
    | _ => cases e
  | own p es => exact lists e fun d fs z => nomatch z
  | bor i p => exact lists e fun d fs z => nomatch z
  | _ => cases e
theorem wk_seqL {a : Addr} (hs : ∀ d es, s = .val d → d ≠ .tuple es) (hl : ds.length ≤ sizeLine) (he : ∀ δ, chkOf s ds δ → SeqR s δ ds) : Wk K E (Itl K a) [(.ref a, s)] (chkOf s ds) ds := by
  have key : ∀ {σ : L2.St} {H : Hp} {δ : Env} {π : Tmp}, Rep K E σ H δ ([(.ref a, s)] ++ π) → chkOf s ds δ → ∃ G M xs, RepG K E G M σ H δ ([(.ref a, s)] ++ π) ∧ EncS K M H xs ds ∧ SqL K H a xs := fun {σ H δ π} ⟨G, M, R⟩ c => by
    obtain ⟨b, xs, e, e2, q⟩ := R.seq (v := .ref a) (s := s) (by simp) (he _ c)
    cases e
    rcases q with ⟨q, _⟩ | ⟨_, z⟩
    · exact ⟨G, M, xs, R, e2, q⟩
    · exact absurd rfl (hs _ _ z)
  refine ⟨fun σ H δ π i hi R c => ?_, fun σ H δ π R c => ?_, fun σ H δ π i x H' hi R c y => ?_, hl⟩
  · obtain ⟨G, M, xs, _, e2, q⟩ := key R c
    exact ⟨xs, xs[i]'(by rw [e2.length]; exact hi), q, by simp⟩
  · obtain ⟨G, M, xs, _, e2, q⟩ := key R c
    exact ⟨xs, q, by rw [e2.length]; exact Nat.le_refl _⟩
  · obtain ⟨G, M, xs, R, e2, q⟩ := key R c
    obtain ⟨rfl, y⟩ := y
    obtain ⟨d, hd, r⟩ := e2.at_ (y xs q)
    exact ⟨d, hd, G, M, R.push (s := .val d) r rfl⟩
theorem wk_seqT {a : Addr} (hl : ds.length ≤ sizeLine) : Wk K E (Itt K a) [(.ref a, .val (.tuple ds))] (fun _ => True) ds := by
  have key : ∀ {σ : L2.St} {H : Hp} {δ : Env} {π : Tmp}, Rep K E σ H δ ([(.ref a, .val (.tuple ds))] ++ π) → ∃ G M xs, RepG K E G M σ H δ ([(.ref a, .val (.tuple ds))] ++ π) ∧ EncS K M H xs ds ∧ SqT K H a xs := fun {σ H δ π} ⟨G, M, R⟩ => by
    have r : Enc K M H (.ref a) (.tuple ds) := R.tmp (.ref a, .val (.tuple ds)) (by simp)
    cases r with
    | tup a1 a2 a3 => exact ⟨G, M, _, R, a2, a1⟩
  refine ⟨fun σ H δ π i hi R c => ?_, fun σ H δ π R c => ?_, fun σ H δ π i x H' hi R c y => ?_, hl⟩
  · obtain ⟨G, M, xs, _, e2, q⟩ := key R
    exact ⟨xs, xs[i]'(by rw [e2.length]; exact hi), q, by simp⟩
  · obtain ⟨G, M, xs, _, e2, q⟩ := key R
    exact ⟨xs, q, by rw [e2.length]; exact Nat.le_refl _⟩
  · obtain ⟨G, M, xs, R, e2, q⟩ := key R
    obtain ⟨rfl, y⟩ := y
    obtain ⟨d, hd, r⟩ := e2.at_ (y xs q)
    exact ⟨d, hd, G, M, R.push (s := .val d) r rfl⟩
end
section
variable {X : Cx} {E : Ent} {tg a b c : Expr} {Ta Tb Tc : TD} {Ts : TDA} {pos p : Pos}
theorem di_seq (ha : DE X E a Ta) : DI X E tg a (tdIt Ta) := PI.imp (PI.bound (pi_seq ha)) fun σ H R ⟨δ, π, Q', R0, t, k⟩ =>
  ⟨δ, π, _, R0, t, fun v H1 s δ1 R1 ⟨ds, e, q⟩ => by
    obtain ⟨G, M, R1⟩ := R1
    obtain ⟨ad, xs, rfl, e2, z⟩ := R1.seq List.mem_cons_self e
    refine ⟨ad, rfl, ?_⟩
    rcases z with ⟨z, hn⟩ | ⟨z, rfl⟩
    · refine .inl ⟨⟨xs, z⟩, fun lo => k _ _ δ1 [(.ref ad, s)] _ ds ⟨G, M, R1⟩ (wk_seqL hn (by rw [← e2.length]; exact lo ad xs (.inl z)) fun δ' c => seqD_chk e c) q⟩
    · exact .inr ⟨⟨xs, z⟩, fun lo => k _ _ δ1 [(.ref ad, .val (.tuple ds))] _ ds ⟨G, M, R1⟩ (wk_seqT (by rw [← e2.length]; exact lo ad xs (.inr z))) q⟩⟩
/-! ranges -/
def rangeD (lo : Int) (n : Nat) : List D := (List.range n).map fun i => .int (lo + (i : Nat))
theorem rangeD_len (lo : Int) (n : Nat) : (rangeD lo n).length = n := by simp [rangeD]
theorem rangeD_get {lo : Int} {n i : Nat} (h : i < n) : (rangeD lo n)[i]? = some (.int (lo + (i : Nat))) := by simp [rangeD, h]
theorem wk_range {K : PySem.W.Frag} {E : Ent} {lo : Int} {n : Nat} (h : n ≤ sizeLine) : Wk K E (Itr lo n) [] (fun _ => True) (rangeD lo n) := by
  refine ⟨fun σ H δ π i hi R c => (show i < n by simpa [rangeD_len] using hi), fun σ H δ π R c => by simp [rangeD_len, Itr], fun σ H δ π i x H' hi R c y => ?_, by simpa [rangeD_len] using h⟩
  obtain ⟨rfl, rfl⟩ := y
  exact ⟨_, rangeD_get (by simpa [rangeD_len] using hi), R.int _⟩
def on1 (Q : SV → Env → Prop) : List SV → Env → Prop
  | [s], δ => Q s δ
  | _, _ => False
def on2 (Q : SV → SV → Env → Prop) : List SV → Env → Prop
  | [s, t], δ => Q s t δ
  | _, _ => False
def on3 (Q : SV → SV → SV → Env → Prop) : List SV → Env → Prop
  | [s, t, u], δ => Q s t u δ
  | _, _ => False
theorem on1_iff {Q : SV → Env → Prop} {ss : List SV} {vs : List V} {δ : Env} (h : on1 Q ss δ) (e : vs.length = ss.length) : ∃ s v, ss = [s] ∧ vs = [v] ∧ Q s δ := by
  match ss, vs, h, e with
  | [s], [v], h, _ => exact ⟨s, v, rfl, rfl, h⟩
theorem on2_iff {Q : SV → SV → Env → Prop} {ss : List SV} {vs : List V} {δ : Env} (h : on2 Q ss δ) (e : vs.length = ss.length) : ∃ s t v w, ss = [s, t] ∧ vs = [v, w] ∧ Q s t δ := by
  match ss, vs, h, e with
  | [s, t], [v, w], h, _ => exact ⟨s, t, v, w, rfl, rfl, h⟩
theorem on3_iff {Q : SV → SV → SV → Env → Prop} {ss : List SV} {vs : List V} {δ : Env} (h : on3 Q ss δ) (e : vs.length = ss.length) : ∃ s t u v w z, ss = [s, t, u] ∧ vs = [v, w, z] ∧ Q s t u δ := by
  match ss, vs, h, e with
  | [s, t, u], [v, w, z], h, _ => exact ⟨s, t, u, v, w, z, rfl, rfl, h⟩
def tdR1 (Ts : TDA) : TDI := fun δ Q => Ts δ (on1 fun s δ1 => ∃ n, s = .val (.int n) ∧ 0 ≤ n ∧ n ≤ 16777216 ∧ Q (rangeD 0 n.toNat) (fun _ => True) δ1)
def tdR2 (Ts : TDA) : TDI := fun δ Q => Ts δ (on2 fun s t δ2 => ∃ lo hi, s = .val (.int lo) ∧ t = .val (.int hi) ∧ -(2 ^ 62) ≤ lo ∧ lo < 2 ^ 62 ∧ -(2 ^ 62) ≤ hi ∧ hi < 2 ^ 62 ∧ (hi - lo) ≤ 16777216 ∧ Q (rangeD lo (hi - lo).toNat) (fun _ => True) δ2)
theorem di_r1 (hm : X.mg "range" = none) (ha : DA X E [a] Ts) (hg : Gl X "range" := by rfl) (hs : starEach [a] X.env = [(false, eval a X.env)] := by rfl) : DI X E tg (.Call (.Name "range" p) [a] [] pos) (tdR1 Ts) :=
  PI.imp (pi_range1 hg hm ha hs) fun σ H R ⟨δ, π, Q', R0, t, k⟩ =>
    ⟨δ, π, _, R0, t, fun vs H1 ss δ1 el R1 q => by
      obtain ⟨s, v, rfl, rfl, n, rfl, h0, h1, q⟩ := on1_iff q el
      have e1 := R1.isInt (π' := π) (v := v) (i := n) (by simp)
      subst e1
      exact ⟨n, rfl, by omega, by omega, k _ H1 δ1 [] _ _ R1.drop (wk_range (by rw [sizeLine_eq]; omega)) q⟩⟩
theorem di_r2 (hm : X.mg "range" = none) (ha : DA X E [a, b] Ts) (hg : Gl X "range" := by rfl) (hs : starEach [a, b] X.env = [(false, eval a X.env), (false, eval b X.env)] := by rfl) (hs2 : starEach [b] X.env = [(false, eval b X.env)] := by rfl) :
    DI X E tg (.Call (.Name "range" p) [a, b] [] pos) (tdR2 Ts) :=
  PI.imp (pi_range2 hg hm ha hs hs2) fun σ H R ⟨δ, π, Q', R0, t, k⟩ =>
    ⟨δ, π, _, R0, t, fun vs H1 ss δ1 el R1 q => by
      obtain ⟨s, t, v, w, rfl, rfl, lo, hi, rfl, rfl, h1, h2, h3, h4, h5, q⟩ := on2_iff q el
      have e1 := R1.isInt (π' := π) (v := v) (i := lo) (by simp)
      have e2 := R1.isInt (π' := π) (v := w) (i := hi) (by simp)
      subst e1 e2
      exact ⟨lo, hi, rfl, ⟨h1, h2, h3, h4⟩, k _ H1 δ1 [] _ _ R1.drop.drop (wk_range (by rw [sizeLine_eq]; omega)) q⟩⟩
/-! zip and enumerate -/
def zipD (xs ys : List D) : List D := (xs.zip ys).map fun z => .tuple [z.1, z.2]
theorem zipD_len (xs ys : List D) : (zipD xs ys).length = min xs.length ys.length := by simp [zipD]
theorem zipD_get {xs ys : List D} {i : Nat} {x y : D} (h1 : xs[i]? = some x) (h2 : ys[i]? = some y) : (zipD xs ys)[i]? = some (.tuple [x, y]) := by
  have e : (xs.zip ys)[i]? = some (x, y) := List.getElem?_zip_eq_some.mpr ⟨h1, h2⟩
  simp [zipD, List.getElem?_map, e]
def enumD (xs : List D) : List D := xs.zipIdx.map fun z => .tuple [.int (z.2 : Nat), z.1]
theorem enumD_len (xs : List D) : (enumD xs).length = xs.length := by simp [enumD]
theorem enumD_get {xs : List D} {i : Nat} {x : D} (h1 : xs[i]? = some x) : (enumD xs)[i]? = some (.tuple [.int (i : Nat), x]) := by
  simp [enumD, List.getElem?_map, h1]
def tdZip (Ts : TDA) : TDI := fun δ Q => Ts δ (on2 fun s t δ2 => ∃ xs ys, SeqR s δ2 xs ∧ SeqR t δ2 ys ∧ ((∀ zs, s ≠ .val (.tuple zs)) ↔ ∀ zs, t ≠ .val (.tuple zs)) ∧ Q (zipD xs ys) (fun δ => chkOf s xs δ ∧ chkOf t ys δ) δ2)
def tdEnum (Ts : TDA) : TDI := fun δ Q => Ts δ (on1 fun s δ2 => ∃ xs, View s δ2 xs ∧ Q (enumD xs) (chkOf s xs) δ2)
section
variable {K : PySem.W.Frag} {s t : SV} {xs ys : List D}
theorem RepG.pair {G M : Addr → Prop} {σ : L2.St} {H : Hp} {δ : Env} {π : Tmp} {T : Addr} {v w : V} {d e : D} (R : RepG K E G M σ H δ π) (n : H T = none) (h1 : Enc K M H v d) (h2 : Enc K M H w e) : RepG K E G M σ (upd H T (.tup [v, w])) δ ((.ref T, .val (.tuple [d, e])) :: π) :=
  R.newTup n (.cons h1 (.cons h2 .nil))
theorem seq_key {a : Addr} (he : ∀ δ, chkOf s xs δ → SeqR s δ xs) {G M : Addr → Prop} {σ : L2.St} {H : Hp} {δ : Env} {π : Tmp} (R : RepG K E G M σ H δ π) (h : (.ref a, s) ∈ π) (c : chkOf s xs δ) :
    ∃ vs, EncS K M H vs xs ∧ ((SqL K H a vs ∧ ∀ zs, s ≠ .val (.tuple zs)) ∨ (SqT K H a vs ∧ s = .val (.tuple xs))) := by
  obtain ⟨b, vs, e, e2, q⟩ := R.seq h (he _ c)
  cases e
  refine ⟨vs, e2, ?_⟩
  rcases q with ⟨q, hn⟩ | q
  · exact .inl ⟨q, fun zs z => hn _ zs z rfl⟩
  · exact .inr q
theorem wk_zip {a b : Addr} (J : It) (hl : min xs.length ys.length ≤ sizeLine) (he : ∀ δ, chkOf s xs δ → SeqR s δ xs) (hf : ∀ δ, chkOf t ys δ → SeqR t δ ys)
    (hJ : ∀ (σ : L2.St) (H : Hp) (δ : Env) (π : Tmp) (G M : Addr → Prop), RepG K E G M σ H δ ([(.ref a, s), (.ref b, t)] ++ π) → chkOf s xs δ → chkOf t ys δ → ∃ vs ws, EncS K M H vs xs ∧ EncS K M H ws ys ∧
      (∀ i, i < min vs.length ws.length → J.go i H) ∧ J.stop (min vs.length ws.length) H ∧ ∀ i x H', J.yld i H x H' → ∃ T v w, x = .ref T ∧ H T = none ∧ H' = upd H T (.tup [v, w]) ∧ vs[i]? = some v ∧ ws[i]? = some w) :
    Wk K E J [(.ref a, s), (.ref b, t)] (fun δ => chkOf s xs δ ∧ chkOf t ys δ) (zipD xs ys) := by
  refine ⟨fun σ H δ π i hi ⟨G, M, R⟩ c => ?_, fun σ H δ π ⟨G, M, R⟩ c => ?_, fun σ H δ π i x H' hi ⟨G, M, R⟩ c y => ?_, by rw [zipD_len]; exact hl⟩
  · obtain ⟨vs, ws, e1, e2, q, _⟩ := hJ _ _ _ _ _ _ R c.1 c.2
    rw [zipD_len] at hi
    exact q i (by rw [e1.length, e2.length]; exact hi)
  · obtain ⟨vs, ws, e1, e2, _, q, _⟩ := hJ _ _ _ _ _ _ R c.1 c.2
    rw [zipD_len, ← e1.length, ← e2.length]
    exact q
  · obtain ⟨vs, ws, e1, e2, _, _, q⟩ := hJ _ _ _ _ _ _ R c.1 c.2
    obtain ⟨T, v, w, rfl, n, rfl, h1, h2⟩ := q i x H' y
    obtain ⟨d, hd, r⟩ := e1.at_ h1
    obtain ⟨d', hd', r'⟩ := e2.at_ h2
    exact ⟨_, zipD_get hd hd', G, M, R.pair n r r'⟩
end
theorem di_zip {elts : List Expr} {kk : Nat} {tpos : Pos} (hm : X.mg "zip" = none) (ha : DA X E [a, b] Ts) (hg : Gl X "zip" := by rfl) (hs : starEach [a, b] X.env = (false, eval a X.env) :: starEach [b] X.env := by rfl) (hpl : (backTo pos (starEach [b] X.env)).any (·.1) = false := by rfl) :
    DI X E (.Tuple elts kk tpos) (.Call (.Name "zip" p) [a, b] [] pos) (tdZip Ts) :=
  PI.imp (PI.bound (RZ.pi_zipA hg hm ha hs hpl)) fun σ H R ⟨δ, π, Q', R0, t, k⟩ =>
    ⟨δ, π, _, R0, t, fun vs H1 ss δ1 el R1 q => by
      obtain ⟨s, t, v, w, rfl, rfl, xs, ys, e1, e2, hst, q⟩ := on2_iff q el
      have RR : Rep X.K E σ H1 δ1 ([(v, s), (w, t)] ++ π) := R1
      obtain ⟨G, M, R1⟩ := R1
      obtain ⟨ad, us, rfl, f1, z1⟩ := R1.seq (v := v) (s := s) (by simp) e1
      obtain ⟨bd, zs, rfl, f2, z2⟩ := R1.seq (v := w) (s := t) (by simp) e2
      have c1 : ∀ δ, chkOf s xs δ → SeqR s δ xs := fun δ' c => seqD_chk e1 c
      have c2 : ∀ δ, chkOf t ys δ → SeqR t δ ys := fun δ' c => seqD_chk e2 c
      refine ⟨ad, bd, us, zs, rfl, ?_⟩
      rcases z1 with ⟨z1, n1⟩ | ⟨z1, rfl⟩
      · have n2 : ∀ zs, t ≠ .val (.tuple zs) := hst.mp fun zs z => n1 _ zs z rfl
        rcases z2 with ⟨z2, _⟩ | ⟨_, z⟩
        · refine .inl ⟨z1, z2, fun lo => k _ H1 δ1 _ _ _ RR (wk_zip (a := ad) (b := bd) _ (by rw [← f1.length]; exact Nat.le_trans (Nat.min_le_left _ _) (lo ad us (.inl z1))) c1 c2 fun σ' H' δ' π' G' M' R' d1 d2 => ?_) q⟩
          obtain ⟨vs, g1, h1⟩ := seq_key c1 R' (a := ad) (by simp) d1
          obtain ⟨ws, g2, h2⟩ := seq_key c2 R' (a := bd) (by simp) d2
          rcases h1 with ⟨h1, _⟩ | ⟨_, h1⟩
          · rcases h2 with ⟨h2, _⟩ | ⟨_, h2⟩
            · have W := walk_zip (K := X.K) (a := ad) (b := bd) (xs := vs) (ys := ws) rfl
              refine ⟨vs, ws, g1, g2, fun i hi => W.goes i H' hi ⟨h1, h2⟩, W.stops H' ⟨h1, h2⟩, fun i x H'' y => ?_⟩
              obtain ⟨T, x, z, h3, h4, h5, h6, h7⟩ := y
              exact ⟨T, x, z, h3, h4, h5, h6 vs h1, h7 ws h2⟩
            · exact absurd h2 (n2 _)
          · exact absurd h1 (fun z => n1 _ _ z rfl)
        · exact absurd z (n2 _)
      · rcases z2 with ⟨_, n2⟩ | ⟨z2, rfl⟩
        · exact absurd rfl (hst.mpr (fun zs z => n2 _ zs z rfl) _)
        · refine .inr ⟨z1, z2, fun lo => k _ H1 δ1 _ _ _ RR (wk_zip (a := ad) (b := bd) _ (by rw [← f1.length]; exact Nat.le_trans (Nat.min_le_left _ _) (lo ad us (.inr z1))) c1 c2 fun σ' H' δ' π' G' M' R' d1 d2 => ?_) q⟩
          obtain ⟨vs, g1, h1⟩ := seq_key c1 R' (a := ad) (by simp) d1
          obtain ⟨ws, g2, h2⟩ := seq_key c2 R' (a := bd) (by simp) d2
          rcases h1 with ⟨_, h1⟩ | ⟨h1, _⟩
          · exact absurd rfl (h1 _)
          · rcases h2 with ⟨_, h2⟩ | ⟨h2, _⟩
            · exact absurd rfl (h2 _)
            · refine ⟨vs, ws, g1, g2, fun i hi => ?_, ?_, fun i x H'' y => ?_⟩
              · exact ⟨vs, ws, vs[i]'(by omega), ws[i]'(by omega), h1, h2, by simp, by simp⟩
              · exact ⟨vs, ws, h1, h2, by omega⟩
              · obtain ⟨T, x, z, h3, h4, h5, h6, h7⟩ := y
                exact ⟨T, x, z, h3, h4, h5, h6 vs h1, h7 ws h2⟩⟩
theorem di_enum {elts : List Expr} {kk : Nat} {tpos : Pos} (hm : X.mg "enumerate" = none) (ha : DA X E [a] Ts) (hg : Gl X "enumerate" := by rfl) (hs : starEach [a] X.env = [(false, eval a X.env)] := by rfl) :
    DI X E (.Tuple elts kk tpos) (.Call (.Name "enumerate" p) [a] [] pos) (tdEnum Ts) :=
  PI.imp (PI.bound (pi_enum hg hm ha hs)) fun σ H R ⟨δ, π, Q', R0, t, k⟩ =>
    ⟨δ, π, _, R0, t, fun vs H1 ss δ1 el R1 q => by
      obtain ⟨s, v, rfl, rfl, xs, e1, q⟩ := on1_iff q el
      have RR : Rep X.K E σ H1 δ1 ([(v, s)] ++ π) := R1
      obtain ⟨G, M, R1⟩ := R1
      obtain ⟨ad, us, rfl, f0, f1⟩ := R1.view (v := v) (s := s) (by simp) e1
      have e3 : SeqR s δ1 xs ∧ ∀ zs, s ≠ .val (.tuple zs) := by
        cases s with
        | val d => cases d <;> first | exact ⟨e1, fun zs z => nomatch z⟩ | exact absurd e1 (fun z => nomatch z)
        | own p es => exact ⟨e1, fun zs z => nomatch z⟩
        | bor i p => exact ⟨e1, fun zs z => nomatch z⟩
        | _ => cases e1
      have c1 : ∀ δ, chkOf s xs δ → SeqR s δ xs := fun δ' c => seqD_chk e3.1 c
      refine ⟨ad, us, rfl, SqL.of f0, fun lo => k _ H1 δ1 _ _ _ RR ?_ q⟩
      have key : ∀ {σ : L2.St} {H : Hp} {δ : Env} {π : Tmp}, Rep X.K E σ H δ ([(.ref ad, s)] ++ π) → chkOf s xs δ → ∃ G M vs, RepG X.K E G M σ H δ ([(.ref ad, s)] ++ π) ∧ EncS X.K M H vs xs ∧ SqL X.K H ad vs := fun {σ H δ π} ⟨G, M, R⟩ c => by
        obtain ⟨vs, g1, h1⟩ := seq_key c1 R (a := ad) (by simp) c
        rcases h1 with ⟨h1, _⟩ | ⟨_, h1⟩
        · exact ⟨G, M, vs, R, g1, h1⟩
        · exact absurd h1 (e3.2 _)
      refine ⟨fun σ H δ π i hi R c => ?_, fun σ H δ π R c => ?_, fun σ H δ π i x H' hi R c y => ?_, by rw [enumD_len, ← f1.length]; exact lo ad us (.inl (SqL.of f0))⟩
      · obtain ⟨G, M, vs, _, g, h1⟩ := key R c
        rw [enumD_len, ← g.length] at hi
        exact walk_enum.goes i H hi h1
      · obtain ⟨G, M, vs, _, g, h1⟩ := key R c
        rw [enumD_len, ← g.length]
        exact walk_enum.stops H h1
      · obtain ⟨G, M, vs, R, g, h1⟩ := key R c
        rw [enumD_len, ← g.length] at hi
        obtain ⟨T, x, z, h3, h4, h5, h6, h7⟩ := walk_enum.yields i H x H' hi h1 y
        cases h6
        obtain ⟨d, hd, r⟩ := g.at_ h7
        subst h3 h5
        exact ⟨_, enumD_get hd, G, M, R.pair h4 (.int _) r⟩⟩
end
end HR
namespace HR
open PySem PySem.Spec L2
open PyProof.Rows hiding St
/-! ### statements over data -/
structure En where
  nx : Env → Prop
  rt : SV → Env → Prop
  bk : Env → Prop := fun _ => False
  ct : Env → Prop := fun _ => False
abbrev TDS := En → Env → Prop
def lS (K : PySem.W.Frag) (E : Ent) (T : TDS) : TS := fun D σ H => ∃ δ π D', Rep K E σ H δ π ∧ T D' δ ∧ (∀ σ' H' δ', Rep K E σ' H' δ' π → D'.nx δ' → D.nx σ' H') ∧
  (∀ σ' H' v r δ', Rep K E σ' H' δ' ((v, r) :: π) → D'.rt r δ' → D.rt v H') ∧ (∀ σ' H' δ', Rep K E σ' H' δ' π → D'.bk δ' → D.bk σ' H') ∧ (∀ σ' H' δ', Rep K E σ' H' δ' π → D'.ct δ' → D.ct σ' H')
abbrev DS (X : Cx) (E : Ent) (st : Stmt) (T : TDS) : Prop := PS X st (lS X.K E T)
abbrev DSs (X : Cx) (E : Ent) (st : List Stmt) (T : TDS) : Prop := PSs X st (lS X.K E T)
theorem PS.imp {X : Cx} {e : Stmt} {t t' : TS} (h : PS X e t) (i : ∀ D σ H, t' D σ H → t D σ H) : PS X e t' := ⟨fun pins s σ H D I q => h.run pins s σ H D I (i _ _ _ q)⟩
theorem PSs.imp {X : Cx} {e : List Stmt} {t t' : TS} (h : PSs X e t) (i : ∀ D σ H, t' D σ H → t D σ H) : PSs X e t' := ⟨fun pins s σ H D I q => h.run pins s σ H D I (i _ _ _ q)⟩
def tsSkip : TDS := fun D δ => D.nx δ
def tsSeq (T U : TDS) : TDS := fun D δ => match D with
  | ⟨n, r, b, c⟩ => T ⟨U ⟨n, r, b, c⟩, r, b, c⟩ δ
def tsNever : TDS := fun _ _ => False
def tsExpr (T : TD) : TDS := fun D δ => T δ fun _ δ1 => D.nx δ1
/-- what a return hands back -/
def retD (s : SV) (δ : Env) (Q : SV → Env → Prop) : Prop := match s with
  | .val d => Q (.val d) δ
  | .own p ds => Q (.own p ds) δ
  | .bag => Q .bag δ
  | .bor i p => match δ[i]? with
    | some (.own q ds) => q = p ∧ Q (.own p ds) (δ.set i .none)
    | _ => False
  | _ => False
def tsRet (T : TD) : TDS := fun D δ => T δ fun s δ1 => retD s δ1 D.rt
def tsRetN : TDS := fun D δ => D.rt (.val .none) δ
def tsIf (T : TDT) (U W : TDS) : TDS := fun D δ => T δ fun b δ1 => if b = true then U D δ1 else W D δ1
def tsBrk : TDS := fun D δ => D.bk δ
def tsCnt : TDS := fun D δ => D.ct δ
section
variable {K : PySem.W.Frag} {E : Ent} {σ : L2.St} {H : Hp} {δ : Env} {π : Tmp} {v : V} {s : SV}
theorem retD_ok {Q : SV → Env → Prop} (R : Rep K E σ H δ ((v, s) :: π)) (h : retD s δ Q) : ∃ r δ', Rep K E σ H δ' ((v, r) :: π) ∧ Q r δ' := by
  cases s with
  | val d => exact ⟨_, _, R, h⟩
  | own p ds => exact ⟨_, _, R, h⟩
  | bag => exact ⟨_, _, R, h⟩
  | bor i p =>
    obtain ⟨G, M, R⟩ := R
    have e : v = .ref p := R.top
    subst e
    simp only [retD] at h
    split at h
    · rename_i q ds hq
      obtain ⟨rfl, h⟩ := h
      obtain ⟨w, e2, R2⟩ := R.drop.take hq (fun z => nomatch z)
      have : w = .ref q := (R2.top : RT K E G M H w (.own q ds)).1
      subst this
      exact ⟨_, _, ⟨G, M, R2⟩, h⟩
    · exact h.elim
  | _ => exact h.elim
end
section
variable {X : Cx} {E : Ent} {st : Stmt} {rest : List Stmt} {e : Expr} {es : List Expr} {T : TD} {U W : TDS} {TA : TDT} {pos : Pos}
theorem dss_nil : DSs X E [] tsSkip := PSs.imp pss_nil fun D σ H ⟨δ, π, D', R, t, n, _⟩ => n σ H δ R t
theorem dss_cons (h1 : DS X E st U) (h2 : DSs X E rest W) : DSs X E (st :: rest) (tsSeq U W) := PSs.imp (pss_cons h1 h2) fun D σ H ⟨δ, π, ⟨n', r', b', c'⟩, R, t, n, r, b, c⟩ =>
  ⟨δ, π, _, R, t, fun σ' H' δ' R' q => ⟨δ', π, ⟨n', r', b', c'⟩, R', q, n, r, b, c⟩, r, b, c⟩
theorem dss_one (h1 : DS X E st U) : DSs X E [st] U := pss_one h1
theorem ds_pass : DS X E (.Pass pos) tsSkip := PS.imp ps_pass fun D σ H ⟨δ, π, D', R, t, n, _⟩ => n σ H δ R t
theorem ds_brk : DS X E (.Break pos) tsBrk := PS.imp ps_break fun D σ H ⟨δ, π, D', R, t, n, r, b, c⟩ => b σ H δ R t
theorem ds_cnt : DS X E (.Continue pos) tsCnt := PS.imp ps_continue fun D σ H ⟨δ, π, D', R, t, n, r, b, c⟩ => c σ H δ R t
theorem ds_never : DS X E st tsNever := PS.imp ps_never fun D σ H ⟨δ, π, D', R, t, _⟩ => t.elim
theorem dss_never : DSs X E rest tsNever := PSs.imp pss_never fun D σ H ⟨δ, π, D', R, t, _⟩ => t.elim
theorem ds_expr (he : DE X E e T) (hs : swapsWith e none pos.line X.env = pure false := by rfl) : DS X E (.Expr e pos) (tsExpr T) := PS.imp (ps_expr he hs) fun D σ H ⟨δ, π, D', R, t, n, _⟩ =>
  ⟨δ, π, _, R, t, fun v H' s δ' R' q => n σ H' δ' R'.drop q⟩
theorem ds_ret (he : DE X E e T) : DS X E (.Return (some e) pos) (tsRet T) := PS.imp (ps_ret he) fun D σ H ⟨δ, π, D', R, t, n, r, _⟩ =>
  ⟨δ, π, _, R, t, fun v H' s δ' R' q => by
    obtain ⟨u, δ2, R2, q2⟩ := retD_ok R' q
    exact r σ H' v u δ2 R2 q2⟩
theorem ds_retN : DS X E (.Return none pos) tsRetN := PS.imp ps_retN fun D σ H ⟨δ, π, D', R, t, n, r, _⟩ => r σ H .non (.val .none) δ R.non t
theorem ds_if {c : Expr} {a b : List Stmt} (hc : DT X E c TA) (ha : DSs X E a U) (hb : DSs X E b W) : DS X E (.If c a b pos) (tsIf TA U W) := PS.imp (ps_if hc ha hb) fun D σ H ⟨δ, π, D', R, t, n, r, b, c⟩ =>
  ⟨δ, π, _, R, t, fun d H1 δ1 R1 q => by
    cases d with
    | true => exact iteT ⟨δ1, π, D', R1, q, n, r, b, c⟩
    | false => exact iteF ⟨δ1, π, D', R1, q, n, r, b, c⟩⟩
/-! ### targets -/
abbrev TDG := SV → Env → (Env → Prop) → Prop
/-- what is stored: a value in hand goes to a target -/
def lG (K : PySem.W.Frag) (E : Ent) (T : TDG) : TG := fun v σ H Q => ∃ δ π s Q', Rep K E σ H δ ((v, s) :: π) ∧ T s δ Q' ∧ ∀ σ' H' δ', Rep K E σ' H' δ' π → Q' δ' → Q σ' H'
abbrev DG (X : Cx) (E : Ent) (tg : Expr) (T : TDG) : Prop := PG X tg (lG X.K E T)
theorem PG.imp {tg : Expr} {t t' : TG} (h : PG X tg t) (i : ∀ v σ H Q, t' v σ H Q → t v σ H Q) : PG X tg t' := ⟨fun pins s σ H v u Q I r q => h.run pins s σ H v u Q I r (i _ _ _ _ q)⟩
/-- a name: an own list stays its own, what is borrowed is done with -/
def stD (s : SV) (δ : Env) (Q : SV → Env → Prop) : Prop := match s with
  | .val d => Q (.val d) δ
  | .own p ds => Q (.own p ds) δ
  | .bag => Q .bag δ
  | .two t p q ds es => Q (.two t p q ds es) δ
  | .dic p kvs => Q (.dic p kvs) δ
  | .bor i p => ∃ ds, δ[i]? = some (.own p ds) ∧ Q (.val (.list ds)) (δ.set i (.val (.list ds)))
  | .scr ns => Q (.scr ns) δ
  | .exc a => Q (.exc a) δ
  | .none => False
theorem stD_ok {K : PySem.W.Frag} {E : Ent} {σ : L2.St} {H : Hp} {δ : Env} {π : Tmp} {v : V} {s : SV} {Q : SV → Env → Prop} (R : Rep K E σ H δ ((v, s) :: π)) (h : stD s δ Q) : ∃ r δ', δ'.length = δ.length ∧ Rep K E σ H δ' ((v, r) :: π) ∧ Q r δ' := by
  cases s with
  | bor i p =>
    obtain ⟨ds, e, h⟩ := h
    obtain ⟨d, δ', R', q⟩ := asD_ok (Q := fun d δ' => d = .list ds ∧ δ' = δ.set i (.val (.list ds))) R ⟨ds, e, rfl, rfl⟩
    obtain ⟨rfl, rfl⟩ := q
    exact ⟨_, _, by simp, R', h⟩
  | none => exact h.elim
  | _ => exact ⟨_, _, rfl, R, h⟩
/-- slot i is stored -/
def copyC : Env → (Env → Prop) → Prop
  | [], Q => Q []
  | x :: δ, Q => copyC δ fun δ' => Q (x :: δ')
def setC : Env → Nat → SV → (Env → Prop) → Prop
  | [], _, _, _ => False
  | _ :: δ, 0, r, Q => copyC δ fun δ' => Q (r :: δ')
  | x :: δ, i + 1, r, Q => setC δ i r fun δ' => Q (x :: δ')
theorem copyC_ok : ∀ {δ : Env} {Q : Env → Prop}, copyC δ Q → Q δ
  | [], _, h => h
  | x :: δ, Q, h => copyC_ok (δ := δ) (Q := fun δ' => Q (x :: δ')) h
theorem setC_ok : ∀ {δ : Env} {i : Nat} {r : SV} {Q : Env → Prop}, setC δ i r Q → i < δ.length ∧ Q (δ.set i r)
  | [], _, _, _, h => h.elim
  | _ :: δ, 0, r, Q, h => ⟨Nat.succ_pos _, copyC_ok (δ := δ) (Q := fun δ' => Q (r :: δ')) h⟩
  | x :: δ, i + 1, r, Q, h => by
    obtain ⟨h1, h2⟩ := setC_ok (δ := δ) (i := i) (r := r) (Q := fun δ' => Q (x :: δ')) h
    exact ⟨Nat.succ_lt_succ h1, h2⟩
/-- slot i is stored; the slots are written out anew -/
def putD (i : Nat) (r : SV) (δ : Env) (Q : Env → Prop) : Prop := setC δ i r Q
theorem putD_ok {i : Nat} {r : SV} {δ : Env} {Q : Env → Prop} (h : putD i r δ Q) : i < δ.length ∧ Q (δ.set i r) := setC_ok h
def gdName (i : Nat) : TDG := fun s δ Q => stD s δ fun r δ' => putD i r δ' Q
theorem dg_name {i : Nat} {x : Str} (hN : X.N.Nodup) (hi : X.N[i]? = some x := by rfl) (hx : Loc X.env.scope x := by first | exact Or.inl rfl | exact Or.inr rfl) (hf : X.fn x = true ∨ X.env.scope.names.lookup x = some .local := by first | exact .inl rfl | exact .inr rfl | assumption) : DG X E (.Name x pos) (gdName i) :=
  PG.imp (pg_name hN hi hx hf) fun v σ H Q ⟨δ, π, s, Q', R, t, k⟩ => by
    obtain ⟨r, δ', el, ⟨G, M, R'⟩, q⟩ := stD_ok R t
    obtain ⟨hi, q⟩ := putD_ok q
    exact k _ _ _ ⟨G, M, R'.store hi⟩ q
/-- a, b, .. = a tuple -/
abbrev TDGs := List D → Env → (Env → Prop) → Prop
def lGs (K : PySem.W.Frag) (E : Ent) (T : TDGs) : TGs := fun vs σ H Q => ∃ δ π ds Q', vs.length = ds.length ∧ Rep K E σ H δ (vs.zip (ds.map SV.val) ++ π) ∧ T ds δ Q' ∧ ∀ σ' H' δ', Rep K E σ' H' δ' π → Q' δ' → Q σ' H'
abbrev DGs (X : Cx) (E : Ent) (tgs : List Expr) (T : TDGs) : Prop := PGs X tgs (lGs X.K E T)
theorem PGs.imp {tg : List Expr} {t t' : TGs} (h : PGs X tg t) (i : ∀ v σ H Q, t' v σ H Q → t v σ H Q) : PGs X tg t' := ⟨fun pins s σ H v u Q I r q => h.run pins s σ H v u Q I r (i _ _ _ _ q)⟩
def gdNil : TDGs := fun ds δ Q => ds = [] ∧ Q δ
def gdCons (T : TDG) (U : TDGs) : TDGs := fun ds δ Q => match ds with
  | [] => False
  | d :: r => T (.val d) δ fun δ' => U r δ' Q
theorem dgs_nil : DGs X E [] gdNil := PGs.imp pgs_nil fun vs σ H Q ⟨δ, π, ds, Q', el, R, t, k⟩ => by
  obtain ⟨rfl, t⟩ := t
  have e : vs = [] := by simpa using el
  subst e
  exact ⟨rfl, k σ H δ R t⟩
theorem dgs_cons {g : Expr} {gs : List Expr} {T : TDG} {U : TDGs} (h1 : DG X E g T) (h2 : DGs X E gs U) (hs : (assignEach (g :: gs) X.env).map (·.2) = assign g X.env :: (assignEach gs X.env).map (·.2) := by rfl) : DGs X E (g :: gs) (gdCons T U) :=
  PGs.imp (pgs_cons h1 h2 hs) fun vs σ H Q ⟨δ, π, ds, Q', el, R, t, k⟩ => by
    match vs, ds, el, R, t with
    | v :: vs, d :: ds, el, R, t =>
      exact ⟨v, vs, rfl, δ, _, _, _, R, t, fun σ' H' δ' R' q => ⟨δ', π, ds, Q', by simpa using el, R', q, k⟩⟩
    | [], [], _, _, t => exact t.elim
def gdTup (n : Nat) (T : TDGs) : TDG := fun s δ Q => match s with
  | .val (.tuple ds) => ds.length = n ∧ T ds δ Q
  | _ => False
theorem RepG.spread {K : PySem.W.Frag} {E : Ent} {G M : Addr → Prop} {σ : L2.St} {H : Hp} {δ : Env} {π : Tmp} (R : RepG K E G M σ H δ π) : ∀ {vs : List V} {ds : List D}, EncS K M H vs ds → RepG K E G M σ H δ (vs.zip (ds.map SV.val) ++ π)
  | _, _, .nil => R
  | _, _, .cons h r => (R.spread r).push (s := .val _) h rfl
theorem dg_tup {gs : List Expr} {k : Nat} {U : TDGs} {n : Nat} (hc : X.calm = true) (h : DGs X E gs U) (hn : (assignEach gs X.env).length = n := by rfl) (hst : (assignEach gs X.env).findIdx? (·.1) = none := by rfl) : DG X E (.Tuple gs k pos) (gdTup n U) :=
  PG.imp (pg_tup hc h hn hst) fun v σ H Q ⟨δ, π, s, Q', ⟨G, M, R⟩, t, k⟩ => by
    unfold gdTup at t
    split at t
    · rename_i ds
      have r : Enc X.K M H v (.tuple ds) := R.top
      cases r with
      | tup a1 a2 a3 => exact ⟨_, _, rfl, a1, by rw [a2.length]; exact t.1, δ, π, ds, Q', a2.length, ⟨G, M, R.drop.spread a2⟩, t.2, k⟩
    · exact t.elim
/-! ### assignments -/
def tsAsg (T : TD) (g : TDG) : TDS := fun D δ => T δ fun s δ1 => g s δ1 D.nx
theorem ds_set {i : Nat} {x : Str} {pos' : Pos} (hN : X.N.Nodup) (he : DE X E e T) (hi : X.N[i]? = some x := by rfl) (hx : Loc X.env.scope x := by first | exact Or.inl rfl | exact Or.inr rfl) (hs : swapsWith e (some (.Name x pos')) pos.line X.env = pure false := by rfl)
    (hf : X.fn x = true ∨ X.env.scope.names.lookup x = some .local := by first | exact .inl rfl | exact .inr rfl | assumption) : DS X E (.Assign [.Name x pos'] e pos) (tsAsg T (gdName i)) :=
  PS.imp (ps_set hN hi hx he hs hf) fun D σ H ⟨δ, π, D', R, t, n, r, b, c⟩ => ⟨δ, π, _, R, t, fun v H' s δ' R' q => by
    obtain ⟨w, δ2, el, ⟨G, M, R2⟩, q2⟩ := stD_ok R' q
    obtain ⟨hi, q2⟩ := putD_ok q2
    exact n _ _ _ ⟨G, M, R2.store hi⟩ q2⟩
theorem ds_asg {tg : Expr} {g : TDG} (he : DE X E e T) (hg : DG X E tg g) (hs : swapsWithSole [tg] e pos.line X.env = pure false := by rfl) (hw : swappedStores [tg] e X.env = pure none := by rfl)
    (h1 : (assignEach [tg] X.env).map (·.2) = [assign tg X.env] := by rfl) : DS X E (.Assign [tg] e pos) (tsAsg T g) :=
  PS.imp (ps_asg he hg hs hw h1) fun D σ H ⟨δ, π, D', R, t, n, r, b, c⟩ => ⟨δ, π, _, R, t, fun v H' s δ' R' q => ⟨δ', π, s, D'.nx, R', q, n⟩⟩
/-- a, b = x, y -/
def tsPar (i j : Nat) (Ts : TDA) : TDS := fun D δ => Ts δ (on2 fun s t δ1 => stD s δ1 fun s' δ2 => stD t δ2 fun t' δ3 => putD i s' δ3 fun δ4 => putD j t' δ4 D.nx)
theorem ds_par {i j : Nat} {x y : Str} {a b : Expr} {Ts : TDA} {px py pt : Pos} {kt k2 pt2} (hc : X.calm = true) (hN : X.N.Nodup) (ha : DA X E [a, b] Ts) (hi : X.N[i]? = some x := by rfl) (hj : X.N[j]? = some y := by rfl) (hij : i ≠ j := by decide)
    (hx : X.env.scope.names.lookup x = some .local := by rfl) (hy : X.env.scope.names.lookup y = some .local := by rfl)
    (hw : swappedStores [.Tuple [.Name x px, .Name y py] kt pt] (.Tuple [a, b] k2 pt2) X.env = pure (some [x, y]) := by rfl)
    (hs : swapsWithSole [.Tuple [.Name x px, .Name y py] kt pt] (.Tuple [a, b] k2 pt2) pos.line X.env = pure false := by rfl) :
    DS X E (.Assign [.Tuple [.Name x px, .Name y py] kt pt] (.Tuple [a, b] k2 pt2) pos) (tsPar i j Ts) :=
  PS.imp (ps_par hc hN hi hj hij hx hy ha hw hs) fun D σ H ⟨δ, π, D', R, t, n, r, b, c⟩ => ⟨δ, π, _, R, t, fun vs H' ss δ' el R' q => by
    obtain ⟨s, t, v, w, rfl, rfl, q⟩ := on2_iff q el
    have R1 : Rep X.K E σ H' δ' ((v, s) :: (w, t) :: π) := R'
    obtain ⟨s', δ2, _, R2, q2⟩ := stD_ok R1 q
    obtain ⟨t', δ3, _, R3, q3⟩ := stD_ok (R2.perm (List.Perm.swap _ _ _)) q2
    obtain ⟨l1, q3⟩ := putD_ok q3
    obtain ⟨l2, q3⟩ := putD_ok q3
    refine ⟨v, w, rfl, ?_⟩
    obtain ⟨G, M, R4⟩ := R3.perm (List.Perm.swap _ _ _)
    exact n _ _ _ ⟨G, M, (R4.store l1).store l2⟩ q3⟩
end
end HR
namespace HR
open PySem PySem.Spec L2
open PyProof.Rows hiding St
/-! ### for -/
/-- the turns -/
def forD (g : TDG) (body : TDS) (chk : Env → Prop) : List D → TDS
  | [], D, δ => chk δ ∧ D.nx δ
  | x :: xs, D, δ => chk δ ∧ g (.val x) δ fun δ1 => body { D with nx := fun δ2 => forD g body chk xs D δ2, ct := fun δ2 => forD g body chk xs D δ2, bk := D.nx } δ1
def tsFor (Ti : TDI) (g : TDG) (body : TDS) : TDS := fun D δ => Ti δ fun ds chk δ1 => forD g body chk ds D δ1
section
variable {X : Cx} {E : Ent} {st : Stmt} {rest body : List Stmt} {tg e iter : Expr} {es : List Expr} {T : TD} {U W : TDS} {TA : TDT} {Ti : TDI} {g : TDG} {pos : Pos}
theorem forD_chk {g : TDG} {body : TDS} {chk : Env → Prop} {ds : List D} {D : En} {δ : Env} (h : forD g body chk ds D δ) : chk δ := by
  cases ds with
  | nil => exact h.1
  | cons x xs => exact h.1
theorem ds_for (hp : PassesOwn (model X.prog X.w) X.A X.env X.xe) (hc : X.calm = true) (hi : DI X E tg iter Ti) (hg : DG X E tg g) (hb : DSs X E body U) (hs : ∀ x, foldedSetIterable iter X.env x = pure x := by intro _; rfl) :
    DS X E (.For tg iter body [] pos) (tsFor Ti g U) :=
  PS.imp (ps_for hp hc hi hg hb hs) fun D σ H ⟨δ, π, D', R, t, n, r, b, c⟩ => ⟨δ, π, _, R, t, fun J H1 δ1 π1 chk ds R1 W q => by
    refine ⟨fun i m σ H => m = ds.length - i ∧ i ≤ ds.length ∧ ∃ δ, Rep X.K E σ H δ (π1 ++ π) ∧ forD g U chk (ds.drop i) D' δ, ⟨ds.length, by simp, Nat.zero_le _, δ1, R1, q⟩, ?_⟩
    rintro i m σ H ⟨rfl, hi, δ, R, q⟩
    by_cases hlt : i < ds.length
    · obtain ⟨x, hx⟩ : ∃ x, ds[i]? = some x := ⟨ds[i], by simp [hlt]⟩
      have hd : ds.drop i = x :: ds.drop (i + 1) := by
        rw [List.drop_eq_getElem_cons hlt]
        congr 1
        rw [List.getElem?_eq_getElem hlt] at hx
        exact Option.some.inj hx
      have ck := forD_chk q
      rw [hd] at q
      refine .inr ⟨W.go σ H δ π i hlt R ck, fun σ' H' => ∃ δ', Rep X.K E σ' H' δ' (π1 ++ π) ∧ forD g U chk (ds.drop (i + 1)) D' δ', fun σ' H' ⟨δ', R', q'⟩ => ⟨ds.length - (i + 1), by omega, rfl, hlt, δ', R', q'⟩, fun v H' y => ?_⟩
      obtain ⟨d, e, R2⟩ := W.yld σ H δ π i v H' hlt R ck y
      rw [hx] at e
      cases e
      refine ⟨δ, π1 ++ π, .val x, _, R2, q.2, fun σ' H' δ' R' q' => ⟨δ', π1 ++ π, _, R', q', fun σ2 H2 δ2 R3 q3 => ⟨δ2, R3, q3⟩, fun σ2 H2 w s δ2 R3 q3 => r σ2 H2 w s δ2 ?_ q3, fun σ2 H2 δ2 R3 q3 => n σ2 H2 δ2 R3.sub q3, fun σ2 H2 δ2 R3 q3 => ⟨δ2, R3, q3⟩⟩⟩
      exact R3.underN
    · have e : i = ds.length := by omega
      subst e
      rw [List.drop_length] at q
      exact .inl ⟨W.stop σ H δ π R q.1, n σ H δ R.sub q.2⟩⟩
/-! ### while -/
def tsWhile (T : TDT) (U : TDS) : TDS := fun D δ => ∃ I : Nat → Env → Prop, (∃ m, I m δ) ∧ ∀ m δ, I m δ → T δ fun b δ1 => if b = true then U { D with nx := fun δ2 => ∃ m', m' < m ∧ I m' δ2, ct := fun δ2 => ∃ m', m' < m ∧ I m' δ2, bk := D.nx } δ1 else D.nx δ1
theorem ds_while {c : Expr} (hp : PassesOwn (model X.prog X.w) X.A X.env X.xe) (hc : DT X E c TA) (hb : DSs X E body U) : DS X E (.While c body [] pos) (tsWhile TA U) :=
  PS.imp (ps_while hp hc hb) fun D σ H ⟨δ, π, D', R, ⟨I, ⟨m0, i0⟩, t⟩, n, r, b, c⟩ => by
    refine ⟨fun m σ H => ∃ δ, Rep X.K E σ H δ π ∧ I m δ, ⟨m0, δ, R, i0⟩, ?_⟩
    rintro m σ H ⟨δ, R, i⟩
    refine ⟨δ, π, _, R, t m δ i, fun d H1 δ1 R1 q => ?_⟩
    cases d with
    | true =>
      rw [if_pos rfl] at q ⊢
      exact ⟨fun σ' H' => ∃ δ', Rep X.K E σ' H' δ' π ∧ ∃ m', m' < m ∧ I m' δ', fun σ' H' ⟨δ', R', m', hm, i'⟩ => ⟨m', hm, δ', R', i'⟩, δ1, π, _, R1, q, fun σ' H' δ' R' q' => ⟨δ', R', q'⟩, r, n, fun σ' H' δ' R' q' => ⟨δ', R', q'⟩⟩
    | false =>
      rw [if_neg Bool.false_ne_true] at q ⊢
      exact n σ H1 δ1 R1 q
/-! ### comprehensions -/
def wipeE (δ : Env) : List Nat → Env
  | [] => δ
  | v :: vs => (wipeE δ vs).set v .none
theorem wipeE_len (δ : Env) : ∀ vs : List Nat, (wipeE δ vs).length = δ.length
  | [] => rfl
  | v :: vs => by unfold wipeE; rw [List.length_set, wipeE_len δ vs]
def compD (g : TDG) (tt : TDT) (te : TD) (vs : List Nat) (chk : Env → Prop) : List D → List D → Env → (List D → Env → Prop) → Prop
  | [], acc, δ, Q => chk δ ∧ Q acc δ
  | x :: xs, acc, δ, Q => chk δ ∧ g (.val x) δ fun δ1 => tt δ1 fun b δ2 => if b = true then te δ2 fun s δ3 => asD s δ3 fun d δ4 => compD g tt te vs chk xs (acc ++ [d]) (wipeE δ4 vs) Q else compD g tt te vs chk xs acc (wipeE δ2 vs) Q
theorem compD_chk {g : TDG} {tt : TDT} {te : TD} {vs : List Nat} {chk : Env → Prop} {ds acc : List D} {δ : Env} {Q : List D → Env → Prop} (h : compD g tt te vs chk ds acc δ Q) : chk δ := by
  cases ds with
  | nil => exact h.1
  | cons x xs => exact h.1
def tdComp (Ti : TDI) (g : TDG) (tt : TDT) (te : TD) (vs : List Nat) : TD := fun δ Q => Ti δ fun ds chk δ1 => compD g tt te vs chk ds [] (wipeE δ1 vs) fun acc δ2 => ∀ p, Q (.own p acc) (wipeE δ2 vs)
section
variable {K : PySem.W.Frag} {E : Ent} {G M : Addr → Prop} {σ σ' : L2.St} {H : Hp} {δ : Env} {π : Tmp}
/-- a slot is forgotten on both sides -/
theorem RepG.wipe1 (R : RepG K E G M σ H δ π) (i : Nat) : RepG K E G M (σ.set i none) H (δ.set i .none) π := by
  have F := R.forget i
  refine ⟨F.g0, F.ext, F.good, by simp [R.len], fun j t h n => ?_, F.tmp, F.nd⟩
  obtain ⟨v, e, r⟩ := F.slot j t h n
  refine ⟨v, ?_, r⟩
  rw [List.getElem?_set] at h ⊢
  by_cases q : i = j
  · subst q
    rw [if_pos rfl] at h
    split at h
    · cases h; exact absurd rfl n
    · cases h
  · rw [if_neg q] at h ⊢
    exact e
theorem RepG.wiped (R : RepG K E G M σ H δ π) : ∀ vs : List Nat, RepG K E G M (wipe σ vs) H (wipeE δ vs) π
  | [] => R
  | v :: vs => (R.wiped vs).wipe1 v
theorem wipeE_get {δ : Env} {i : Nat} {s : SV} : ∀ {vs : List Nat}, (wipeE δ vs)[i]? = some s → s ≠ .none → i ∉ vs ∧ δ[i]? = some s
  | [], h, _ => ⟨by simp, h⟩
  | v :: vs, h, n => by
    unfold wipeE at h
    rw [List.getElem?_set] at h
    by_cases q : v = i
    · subst q
      rw [if_pos rfl] at h
      split at h
      · cases h; exact absurd rfl n
      · cases h
    · rw [if_neg q] at h
      obtain ⟨h1, h2⟩ := wipeE_get h n
      exact ⟨by simp only [List.mem_cons, not_or]; exact ⟨fun e => q e.symm, h1⟩, h2⟩
theorem wipe_get {σ : L2.St} {i : Nat} : ∀ {vs : List Nat}, i ∉ vs → (wipe σ vs)[i]? = σ[i]?
  | [], _ => rfl
  | v :: vs, h => by
    simp only [List.mem_cons, not_or] at h
    unfold wipe
    rw [List.getElem?_set_ne (fun e => h.1 e.symm)]
    exact wipe_get h.2
/-- behind the block: the slots as they were, the block's own names forgotten -/
theorem RepG.unwipe {vs : List Nat} (R : RepG K E G M (wipe σ vs) H δ π) : RepG K E G M σ H (wipeE δ vs) π := by
  have F : ∀ vs : List Nat, RepG K E G M (wipe σ vs) H δ π → ∀ us : List Nat, RepG K E G M (wipe σ vs) H (wipeE δ us) π := fun vs R us => by
    induction us with
    | nil => exact R
    | cons u us ih => exact ih.forget u
  have F := F vs R vs
  refine ⟨F.g0, F.ext, F.good, by rw [← F.len, wipe_length], fun j t h n => ?_, F.tmp, F.nd⟩
  obtain ⟨v, e, r⟩ := F.slot j t h n
  obtain ⟨h1, _⟩ := wipeE_get h n
  exact ⟨v, by rw [wipe_get h1] at e; exact e, r⟩
theorem Rep.unwipe {vs : List Nat} (R : Rep K E (wipe σ vs) H δ π) : Rep K E σ H (wipeE δ vs) π := let ⟨G, M, R⟩ := R; ⟨G, M, R.unwipe⟩
theorem Rep.wiped (R : Rep K E σ H δ π) (vs : List Nat) : Rep K E (wipe σ vs) H (wipeE δ vs) π := let ⟨G, M, R⟩ := R; ⟨G, M, R.wiped vs⟩
theorem wipe_wipe {σ : L2.St} : ∀ vs : List Nat, wipe (wipe σ vs) vs = wipe σ vs := fun vs => by
  apply List.ext_getElem?
  intro i
  by_cases h : i ∈ vs
  · have key : ∀ (σ : L2.St) (vs : List Nat), i ∈ vs → i < σ.length → (wipe σ vs)[i]? = some none := fun σ vs => by
      induction vs with
      | nil => intro h; cases h
      | cons v vs ih =>
        intro h hl
        unfold wipe
        by_cases q : v = i
        · subst q
          rw [List.getElem?_set_self (by rw [wipe_length]; exact hl)]
        · rw [List.getElem?_set_ne q]
          exact ih ((List.mem_cons.mp h).resolve_left fun e => q e.symm) hl
    by_cases hl : i < σ.length
    · rw [key _ _ h (by rw [wipe_length]; exact hl), key _ _ h hl]
    · rw [List.getElem?_eq_none (by rw [wipe_length, wipe_length]; omega), List.getElem?_eq_none (by rw [wipe_length]; omega)]
  · rw [wipe_get h]
end
theorem wipe_set {σ : L2.St} {i : Nat} {v : V} {vs : List Nat} (h : i ∈ vs) : wipe (σ.set i (some v)) vs = wipe σ vs := by
  have key : ∀ (vs : List Nat) (σ τ : L2.St), σ.length = τ.length → (∀ j, j ∉ vs → σ[j]? = τ[j]?) → wipe σ vs = wipe τ vs := fun vs σ τ hl hj => by
    apply List.ext_getElem?
    intro j
    by_cases hm : j ∈ vs
    · have k2 : ∀ (σ : L2.St) (vs : List Nat), j ∈ vs → j < σ.length → (wipe σ vs)[j]? = some none := fun σ vs => by
        induction vs with
        | nil => intro h; cases h
        | cons v vs ih =>
          intro h hl
          unfold wipe
          by_cases q : v = j
          · subst q
            rw [List.getElem?_set_self (by rw [wipe_length]; exact hl)]
          · rw [List.getElem?_set_ne q]
            exact ih ((List.mem_cons.mp h).resolve_left fun e => q e.symm) hl
      by_cases hl2 : j < σ.length
      · rw [k2 _ _ hm hl2, k2 _ _ hm (hl ▸ hl2)]
      · rw [List.getElem?_eq_none (by rw [wipe_length]; omega), List.getElem?_eq_none (by rw [wipe_length]; omega)]
    · rw [wipe_get hm, wipe_get hm]
      exact hj j hm
  refine key vs _ _ (by simp) fun j hj => ?_
  rw [List.getElem?_set_ne (by rintro rfl; exact hj h)]
/-- a target of a comprehension: its rule g, what it is over data, the slots that it stores -/
structure TgOk (K : PySem.W.Frag) (E : Ent) (vs : List Nat) (g : TG) (T : TDG) : Prop where
  mono : ∀ (v : V) (σ : L2.St) (H : Hp) (Q Q' : L2.St → Hp → Prop), (∀ σ H, Q σ H → Q' σ H) → g v σ H Q → g v σ H Q'
  snd : ∀ v σ H Q, lG K E T v σ H Q → g v σ H Q
  only : ∀ (v : V) (σ : L2.St) (H : Hp) (Q : L2.St → Hp → Prop), g v σ H Q → g v σ H fun σ2 H2 => wipe σ2 vs = wipe σ vs ∧ Q σ2 H2
structure TgsOk (K : PySem.W.Frag) (E : Ent) (vs : List Nat) (g : TGs) (T : TDGs) : Prop where
  mono : ∀ (v : List V) (σ : L2.St) (H : Hp) (Q Q' : L2.St → Hp → Prop), (∀ σ H, Q σ H → Q' σ H) → g v σ H Q → g v σ H Q'
  snd : ∀ v σ H Q, lGs K E T v σ H Q → g v σ H Q
  only : ∀ (v : List V) (σ : L2.St) (H : Hp) (Q : L2.St → Hp → Prop), g v σ H Q → g v σ H fun σ2 H2 => wipe σ2 vs = wipe σ vs ∧ Q σ2 H2
section
variable {K : PySem.W.Frag} {E : Ent} {vs : List Nat}
theorem tg_name (i : Nat) (h : i ∈ vs := by decide) : TgOk K E vs (L2.gName i) (gdName i) :=
  ⟨fun v σ H Q Q' m q => m _ _ q, fun v σ H Q ⟨δ, π, s, Q', R, t, k⟩ => by
    obtain ⟨r, δ', el, ⟨G, M, R'⟩, q⟩ := stD_ok R t
    obtain ⟨hi, q⟩ := putD_ok q
    exact k _ _ _ ⟨G, M, R'.store hi⟩ q, fun v σ H Q q => ⟨wipe_set h, q⟩⟩
theorem tgs_nil : TgsOk K E vs L2.gNil gdNil :=
  ⟨fun v σ H Q Q' m q => ⟨q.1, m _ _ q.2⟩, fun us σ H Q ⟨δ, π, ds, Q', el, R, t, k⟩ => by
    obtain ⟨rfl, t⟩ := t
    have e : us = [] := by simpa using el
    subst e
    exact ⟨rfl, k σ H δ R t⟩, fun v σ H Q ⟨e, q⟩ => ⟨e, rfl, q⟩⟩
theorem tgs_cons {g : TG} {T : TDG} {gs : TGs} {U : TDGs} (h1 : TgOk K E vs g T) (h2 : TgsOk K E vs gs U) : TgsOk K E vs (L2.gCons g gs) (gdCons T U) :=
  ⟨fun v σ H Q Q' m ⟨w, r, e, q⟩ => ⟨w, r, e, h1.mono _ _ _ _ _ (fun σ1 H1 q1 => h2.mono _ _ _ _ _ m q1) q⟩, fun us σ H Q ⟨δ, π, ds, Q', el, R, t, k⟩ => by
    match us, ds, el, R, t with
    | v :: us, d :: ds, el, R, t =>
      exact ⟨v, us, rfl, h1.snd _ _ _ _ ⟨δ, _, _, _, R, t, fun σ' H' δ' R' q => h2.snd _ _ _ _ ⟨δ', π, ds, Q', by simpa using el, R', q, k⟩⟩⟩
    | [], [], _, _, t => exact t.elim, fun v σ H Q ⟨w, r, e, q⟩ => ⟨w, r, e, h1.mono _ _ _ _ _ (fun σ1 H1 ⟨e1, q1⟩ => h2.mono _ _ _ _ _ (fun σ2 H2 ⟨e2, q2⟩ => ⟨e2.trans e1, q2⟩) (h2.only _ _ _ _ q1)) (h1.only _ _ _ _ q)⟩⟩
theorem tg_tup {gs : TGs} {U : TDGs} {n : Nat} (h : TgsOk K E vs gs U) : TgOk K E vs (L2.gTup K n gs) (gdTup n U) :=
  ⟨fun v σ H Q Q' m ⟨a, xs, e, h1, h2, q⟩ => ⟨a, xs, e, h1, h2, h.mono _ _ _ _ _ m q⟩, fun v σ H Q ⟨δ, π, s, Q', ⟨G, M, R⟩, t, k⟩ => by
    unfold gdTup at t
    split at t
    · rename_i ds
      have r : Enc K M H v (.tuple ds) := R.top
      cases r with
      | tup a1 a2 a3 => exact ⟨_, _, rfl, a1, by rw [a2.length]; exact t.1, h.snd _ _ _ _ ⟨δ, π, ds, Q', a2.length, ⟨G, M, R.drop.spread a2⟩, t.2, k⟩⟩
    · exact t.elim, fun v σ H Q ⟨a, xs, e, h1, h2, q⟩ => ⟨a, xs, e, h1, h2, h.only _ _ _ _ q⟩⟩
end
/-- no test, one test -/
abbrev DTs (X : Cx) (E : Ent) (ifs : List Expr) (T : TDT) : Prop := PTs X ifs (lT X.K E T)
theorem PTs.imp {ifs : List Expr} {t t' : TT} (h : PTs X ifs t) (i : ∀ σ H Q, t' σ H Q → t σ H Q) : PTs X ifs t' := ⟨fun pins s σ H Q I q => h.run pins s σ H Q I (i _ _ _ q)⟩
def tdYes : TDT := fun δ Q => Q true δ
theorem dts_nil : DTs X E [] tdYes := PTs.imp pts_nil fun σ H Q ⟨δ, π, Q', R, t, k⟩ => k true H δ R t
theorem dts_one {c : Expr} (h : DT X E c TA) : DTs X E [c] TA := pts_one h
theorem comp_ok {K : PySem.W.Frag} {E : Ent} {Ti : TDI} {g : TDG} {vs : List Nat} {gH : TG} {tt : TDT} {te : TD} (gk : TgOk K E vs gH g) : ∀ σ H Q, lE K E (tdComp Ti g tt te vs) σ H Q → tLc (lI K E Ti) gH (lT K E tt) (lE K E te) vs σ H Q := fun σ H Q ⟨δ, π, Q', R, t, k⟩ => ⟨δ, π, _, R, t, fun J H1 δ1 π1 chk ds R1 W q D nD => by
  refine ⟨fun i m H => m = ds.length - i ∧ i ≤ ds.length ∧ ∃ δ acc, acc.length ≤ i ∧ Rep K E (wipe σ vs) H δ (π1 ++ ((.ref D, .own D acc) :: π)) ∧ compD g tt te vs chk (ds.drop i) acc δ (fun acc δ2 => ∀ p, Q' (.own p acc) (wipeE δ2 vs)), ⟨ds.length, by simp, Nat.zero_le _, wipeE δ1 vs, [], Nat.le_refl _, ?_, q⟩, ?_⟩
  · obtain ⟨G, M, R1⟩ := R1
    exact ⟨_, _, ((R1.wiped vs).fresh nD .nil).perm List.perm_middle.symm⟩
  rintro i m H ⟨rfl, hi, δ, acc, ha, R, q⟩
  by_cases hlt : i < ds.length
  · obtain ⟨x, hx⟩ : ∃ x, ds[i]? = some x := ⟨ds[i], by simp [hlt]⟩
    have hd : ds.drop i = x :: ds.drop (i + 1) := by
      rw [List.drop_eq_getElem_cons hlt]
      congr 1
      rw [List.getElem?_eq_getElem hlt] at hx
      exact Option.some.inj hx
    have ck := compD_chk q
    rw [hd] at q
    refine .inr ⟨W.go _ H δ _ i hlt R ck, fun H' => ∃ δ' acc', acc'.length ≤ i + 1 ∧ Rep K E (wipe σ vs) H' δ' (π1 ++ ((.ref D, .own D acc') :: π)) ∧ compD g tt te vs chk (ds.drop (i + 1)) acc' δ' (fun acc δ2 => ∀ p, Q' (.own p acc) (wipeE δ2 vs)), fun H' ⟨δ', acc', h1, h2, h3⟩ => ⟨ds.length - (i + 1), by omega, rfl, hlt, δ', acc', h1, h2, h3⟩, fun v H' y => ?_⟩
    obtain ⟨d, e, R2⟩ := W.yld _ H δ _ i v H' hlt R ck y
    rw [hx] at e
    cases e
    refine gk.mono _ _ _ _ _ ?_ (gk.only _ _ _ _ (gk.snd _ _ _ (fun σ2 H2 => ∃ δ', Rep K E σ2 H2 δ' (π1 ++ ((.ref D, .own D acc) :: π)) ∧ tt δ' fun b δ2 => if b = true then te δ2 fun s δ3 => asD s δ3 fun d δ4 => compD g tt te vs chk (ds.drop (i + 1)) (acc ++ [d]) (wipeE δ4 vs) fun acc δ2 => ∀ p, Q' (.own p acc) (wipeE δ2 vs) else compD g tt te vs chk (ds.drop (i + 1)) acc (wipeE δ2 vs) fun acc δ2 => ∀ p, Q' (.own p acc) (wipeE δ2 vs)) ⟨δ, _, .val x, _, R2, q.2, fun σ' H' δ' R' q' => ⟨δ', R', q'⟩⟩))
    rintro σ2 H2 ⟨ew, δ2, R3, q3⟩
    have ew2 : wipe σ2 vs = wipe σ vs := ew.trans (wipe_wipe vs)
    refine ⟨ew2, δ2, _, _, R3, q3, fun b H3 δ3 R4 q4 => ?_⟩
    cases b with
    | true =>
      rw [if_pos rfl] at q4 ⊢
      refine ⟨δ3, _, _, R4, q4, fun w H4 s δ4 R5 q5 => ?_⟩
      obtain ⟨d, δ5, R6, q6⟩ := asD_ok R5 q5
      obtain ⟨G, M, R6⟩ := R6
      have R7 : RepG K E G M σ2 H4 δ5 ((.ref D, .own D acc) :: (w, .val d) :: (π1 ++ π)) := R6.perm (by
        refine (List.Perm.cons _ (List.perm_middle)).trans ?_
        exact List.Perm.swap _ _ _)
      obtain ⟨_, m, vs', h1, h2⟩ := R7.top
      have hw : Enc K M H4 w d := R6.top
      have R8 := R7.writeT (us := vs' ++ [w]) (h2.append (.cons hw .nil))
      refine ⟨vs', h1, ?_, wipeE δ5 vs, acc ++ [d], by simp; omega, ?_, q6⟩
      · rw [h2.length]
        exact Nat.lt_of_lt_of_le (Nat.lt_of_le_of_lt ha hlt) W.len
      · have R9 := R8.wiped vs
        rw [ew2] at R9
        refine ⟨G, M, (R9.perm ?_).drop (v := w) (s := .val d)⟩
        refine (List.Perm.swap _ _ _).trans (List.Perm.cons _ ?_)
        exact List.perm_middle.symm
    | false =>
      rw [if_neg Bool.false_ne_true] at q4 ⊢
      have R9 := R4.wiped vs
      rw [ew2] at R9
      exact ⟨wipeE δ3 vs, acc, by omega, R9, q4⟩
  · have e : i = ds.length := by omega
    subst e
    rw [List.drop_length] at q
    refine .inl ⟨W.stop _ H δ _ R q.1, k _ _ _ _ ?_ (q.2 D)⟩
    exact (R.perm List.perm_middle).underN.unwipe⟩
theorem de_comp {elt : Expr} {ifs : List Expr} {scope : Scope} {own : List (Str × Nat)} {vs : List Nat} {gH : TG} {tt : TDT} {te : TD} (ho : own.map (·.2) = vs) (hc : X.calm = true) (hN : X.N.Nodup) (hi : DI X E tg iter Ti) (ok : BlkOk X.N X.env.scope scope own)
    (gk : TgOk X.K E vs gH g)
    (hg : ∀ (s : Shared) (H : Hp) (C : Addr) (cl : List (Str × Addr)) (fp : List Addr), PG (X.blk s H scope (compEnvC scope cl C X.env) fp) tg gH)
    (ht : ∀ (s : Shared) (H : Hp) (C : Addr) (cl : List (Str × Addr)) (fp : List Addr), DTs (X.blk s H scope (compEnvC scope cl C X.env) fp) E ifs tt)
    (he : ∀ (s : Shared) (H : Hp) (C : Addr) (cl : List (Str × Addr)) (fp : List Addr), DE (X.blk s H scope (compEnvC scope cl C X.env) fp) E elt te) (hs : ∀ x, foldedSetIterable iter X.env x = pure x := by intro _; rfl) :
    DE X E (.ListComp elt [⟨tg, iter, ifs, 0⟩] scope pos) (tdComp Ti g tt te vs) := by
  subst ho
  have ht' : ∀ (s : Shared) (H : Hp) (C : Addr) (cl : List (Str × Addr)) (fp : List Addr), PTs (X.blk s H scope (compEnvC scope cl C X.env) fp) ifs (lT X.K E tt) := ht
  have he' : ∀ (s : Shared) (H : Hp) (C : Addr) (cl : List (Str × Addr)) (fp : List Addr), PE (X.blk s H scope (compEnvC scope cl C X.env) fp) elt (lE X.K E te) := he
  exact PE.imp (pe_lc hc hN hi ok hg ht' he' hs) (comp_ok gk)
end
end HR
namespace HR
open PySem PySem.Spec L2
open PyProof.Rows hiding St
/-! ### own lists changed -/
/-- x.append(e), x an own list in slot i -/
def tdApp (i : Nat) (T : TD) : TD := fun δ Q => (∃ p ds, δ[i]? = some (.own p ds)) ∧ T δ fun s δ1 => asD s δ1 fun d δ2 => ∃ p ds, δ2[i]? = some (.own p ds) ∧ ds.length < 16777216 ∧ Q (.val .none) (δ2.set i (.own p (ds ++ [d])))
/-- x.pop() -/
def tdPop (i : Nat) : TD := fun δ Q => ∃ p ds d, δ[i]? = some (.own p ds) ∧ ds.getLast? = some d ∧ Q (.val d) (δ.set i (.own p ds.dropLast))
/-- x[k] = e, x an own list or a bag in slot i -/
def tsSetIx (i : Nat) (T U : TD) : TDS := fun D δ => T δ fun s δ1 => asD s δ1 fun d δ2 => (∃ s, δ2[i]? = some s ∧ ((∃ p ds, s = .own p ds) ∨ s = .bag)) ∧ U δ2 fun t δ3 => ∃ k, t = .val (.int k) ∧ match δ3[i]? with
  | some (.own p ds) => ∃ j, ixN ds.length k = some j ∧ D.nx (δ3.set i (.own p (ds.set j d)))
  | some .bag => ∃ z, d = .int z ∧ 0 ≤ z ∧ ((k = 0) ∨ (k = 1 ∧ z < 2147483647)) ∧ D.nx δ3
  | _ => False
/-- x += e: ints, an own list -/
def tsAug (i : Nat) (T : TD) : TDS := fun D δ => (∃ s, δ[i]? = some s ∧ s ≠ .none) ∧ T δ fun s δ1 => match δ1[i]? with
  | some (.val (.int a)) => ∃ b, s = .val (.int b) ∧ D.nx (δ1.set i (.val (.int (a + b))))
  | some (.own p ds) => ∃ es, View s δ1 es ∧ ds.length + es.length ≤ 16777216 ∧ D.nx (δ1.set i (.own p (ds ++ es)))
  | _ => False
def tsAugSub (i : Nat) (T : TD) : TDS := fun D δ => (∃ s, δ[i]? = some s ∧ s ≠ .none) ∧ T δ fun s δ1 => match δ1[i]? with
  | some (.val (.int a)) => ∃ b, s = .val (.int b) ∧ D.nx (δ1.set i (.val (.int (a - b))))
  | _ => False
section
variable {K : PySem.W.Frag} {E : Ent} {G M : Addr → Prop} {σ : L2.St} {H : Hp} {δ : Env} {π : Tmp} {v : V} {s : SV}
/-- the value of a slot is told once -/
theorem RepG.slotv (R : RepG K E G M σ H δ π) {i : Nat} (h : δ[i]? = some s) (hn : s ≠ .none) : ∃ v, σ[i]? = some (some v) ∧ RT K E G M H v s := R.slot i s h hn
theorem line_eq : (16777216 : Nat) = sizeLine := by rw [sizeLine_eq]
end
section
variable {X : Cx} {E : Ent} {e k : Expr} {T U : TD} {pos p1 p2 p3 cpos : Pos} {x : Str} {i : Nat}
theorem de_append (he : DE X E e T) (hN : X.N[i]? = some x := by rfl) (hv : Vis X.env.scope x := by first | exact Or.inl rfl | exact Or.inr (Or.inl rfl) | exact Or.inr (Or.inr rfl)) (hd : (x == ("__debug__" : Str)) = false := by decide) (hcd : (x == ("__classdict__" : Str)) = false := by decide)
    (hs : starEach [e] X.env = (false, eval e X.env) :: starEach [] X.env := by rfl)
    (hx : ∀ {t : TE} {ta : TA}, PE X (.Name x p1) t → PA X [e] ta → PE X (.Call (.Attribute (.Name x p1) "append" p2) [e] [] cpos) (tBM X.K "list" rAppend t ta) := by intro t ta h1 h2; exact pe_bm PySem.F.plainAttrs_list PySem.F.slot_list_append PySem.F.type_list_append mt_append h1 h2) :
    DE X E (.Call (.Attribute (.Name x p1) "append" p2) [e] [] cpos) (tdApp i T) :=
  PE.imp (hx (pv i hN hv hd hcd) (pa_cons he pa_nil hs)) fun σ H Q ⟨δ, π, Q', R, ⟨⟨p, ds, h0⟩, t⟩, kk⟩ => by
    have RR := R
    obtain ⟨G, M, R⟩ := R
    obtain ⟨v, e1, rfl, m, vs, h1, h2⟩ := R.slotv h0 (fun z => nomatch z)
    refine ⟨.ref p, e1, .inl ⟨rfl, _, SqL.of h1⟩, δ, π, _, RR, t, fun w H1 s δ1 R1 q => ?_⟩
    obtain ⟨d, δ2, ⟨G2, M2, R2⟩, p', ds', h3, hz, q⟩ := asD_ok R1 q
    obtain ⟨v', e2, rfl, m', us, h4, h5⟩ := R2.slotv h3 (fun z => nomatch z)
    have hw : Enc X.K M2 H1 w d := R2.top
    rw [e1] at e2
    cases e2
    refine ⟨p, us, w, rfl, rfl, h4, by rw [h5.length, ← line_eq]; exact hz, ?_⟩
    exact kk _ _ _ _ (⟨G2, M2, (R2.drop.write h3 (h5.append (.cons hw .nil))).push (s := .val .none) .non rfl⟩) q
theorem de_pop (hN : X.N[i]? = some x := by rfl) (hv : Vis X.env.scope x := by first | exact Or.inl rfl | exact Or.inr (Or.inl rfl) | exact Or.inr (Or.inr rfl)) (hd : (x == ("__debug__" : Str)) = false := by decide) (hcd : (x == ("__classdict__" : Str)) = false := by decide)
    (hx : ∀ {t : TE}, PE X (.Name x p1) t → PE X (.Call (.Attribute (.Name x p1) "pop" p2) [] [] cpos) (tBM0 X.K "list" rPop t) := by intro t h1; exact pe_bm0 PySem.F.plainAttrs_list PySem.F.slot_list_pop PySem.F.type_list_pop mt_pop h1) :
    DE X E (.Call (.Attribute (.Name x p1) "pop" p2) [] [] cpos) (tdPop i) :=
  PE.imp (hx (pv i hN hv hd hcd)) fun σ H Q ⟨δ, π, Q', R, ⟨p, ds, d, h0, hl, t⟩, kk⟩ => by
    have RR := R
    obtain ⟨G, M, R⟩ := R
    obtain ⟨v, e1, rfl, m, vs, h1, h2⟩ := R.slotv h0 (fun z => nomatch z)
    rw [List.getLast?_eq_getElem?] at hl
    obtain ⟨w, h3, h4⟩ := h2.get hl
    refine ⟨.ref p, e1, .inl ⟨rfl, _, SqL.of h1⟩, p, vs, w, rfl, rfl, h1, by rw [h2.length]; exact h3, ?_⟩
    have R2 := R.push (s := .val d) h4 rfl
    have R3 := R2.write h0 h2.dropLast
    exact kk _ _ _ _ ⟨G, M, R3⟩ t
theorem ds_setIx (he : DE X E e T) (hk : DE X E k U) (hN : X.N[i]? = some x := by rfl) (hv : Vis X.env.scope x := by first | exact Or.inl rfl | exact Or.inr (Or.inl rfl) | exact Or.inr (Or.inr rfl)) (hd : (x == ("__debug__" : Str)) = false := by decide) (hcd : (x == ("__classdict__" : Str)) = false := by decide)
    (hs : swapsWithSole [.Subscript (.Name x p1) k p2] e pos.line X.env = pure false := by rfl) (hw : swappedStores [.Subscript (.Name x p1) k p2] e X.env = pure none := by rfl)
    (h1 : (assignEach [.Subscript (.Name x p1) k p2] X.env).map (·.2) = [assign (.Subscript (.Name x p1) k p2) X.env] := by rfl)
    (hx : ∀ {to ti : TE} {t : TSet}, PE X (.Name x p1) to → PE X k ti → PSet X t → PG X (.Subscript (.Name x p1) k p2) (gSub to ti t) := by intro _ _ _ a b c; exact pg_sub a b c) :
    DS X E (.Assign [.Subscript (.Name x p1) k p2] e pos) (tsSetIx i T U) :=
  PS.imp (ps_asg he (hx (pv i hN hv hd hcd) hk set_list) hs hw h1) fun D σ H ⟨δ, π, D', R, t, n, r, b, c⟩ => ⟨δ, π, _, R, t, fun w H1 s δ1 R1 q => by
    obtain ⟨d, δ2, ⟨G2, M2, R2⟩, ⟨⟨s0, g0, g1⟩, q⟩⟩ := asD_ok R1 q
    have n0 : s0 ≠ .none := by
      rcases g1 with ⟨p, ds, rfl⟩ | rfl <;> exact fun z => nomatch z
    obtain ⟨v0, e0, r0⟩ := R2.slotv g0 n0
    refine ⟨v0, e0, δ2, _, _, ⟨G2, M2, R2⟩, q, fun y H2 s2 δ3 R3 q3 => ?_⟩
    obtain ⟨kk, rfl, q3⟩ := q3
    have ek := R3.isInt (π' := π) (v := y) (i := kk) (by simp)
    subst ek
    obtain ⟨G3, M3, R3⟩ := R3
    have hw' : Enc X.K M3 H2 w d := R3.tmp (w, .val d) (by simp)
    split at q3
    · rename_i p ds hp
      obtain ⟨j, hj, q⟩ := q3
      obtain ⟨v1, e1, rfl, m, vs, a1, a2⟩ := R3.slotv hp (fun z => nomatch z)
      rw [e0] at e1
      cases e1
      refine ⟨p, vs, kk, j, rfl, rfl, a1, by rw [a2.length]; exact hj, ?_⟩
      exact n _ _ _ ⟨G3, M3, (R3.write hp (a2.set hw' j)).drop.drop⟩ q
    · rename_i hp
      obtain ⟨z, rfl, hz0, hz1, q⟩ := q3
      cases hw'
      obtain ⟨v1, e1, bb, rfl, gb⟩ := R3.slotv hp (fun z => nomatch z)
      rw [e0] at e1
      cases e1
      obtain ⟨x0, y0, eb, b1, b2, b3⟩ := R3.good.bag bb gb
      rcases hz1 with rfl | ⟨rfl, hz2⟩
      · exact ⟨bb, _, 0, 0, rfl, rfl, eb, rfl, n _ _ _ ⟨G3, M3, (R3.bagW gb hz0 b2 b3).drop.drop⟩ q⟩
      · exact ⟨bb, _, 1, 1, rfl, rfl, eb, rfl, n _ _ _ ⟨G3, M3, (R3.bagW gb b1 hz0 hz2).drop.drop⟩ q⟩
    · exact q3.elim⟩
def ipAdd : TIp := fun x y H Q => (∃ i j, x = .int i ∧ y = .int j ∧ Q (.int (i + j)) H) ∨ rExt2 x y H Q
theorem ip_addA : PIp X .Add ipAdd := by
  intro pins s σ H x y v u Q I r1 r2 h
  rcases h with h | h
  · exact ip_add pins s σ H x y v u Q I r1 r2 h
  · exact iop_ext pins s σ H x y v u Q I r1 r2 h
theorem ds_augAdd (hN : X.N.Nodup) (he : DE X E e T) (hi : X.N[i]? = some x := by rfl) (hx : Loc X.env.scope x := by first | exact Or.inl rfl | exact Or.inr rfl) (hf : X.fn x = true ∨ X.env.scope.names.lookup x = some .local := by first | exact .inl rfl | exact .inr rfl | assumption) :
    DS X E (.AugAssign (.Name x p1) .Add e pos) (tsAug i T) :=
  PS.imp (ps_aug hN hi hx he ip_addA hf) fun D σ H ⟨δ, π, D', R, ⟨⟨s0, g0, g1⟩, t⟩, n, r, b, c⟩ => by
    have RR := R
    obtain ⟨G, M, R⟩ := R
    obtain ⟨v0, e0, r0⟩ := R.slotv g0 g1
    refine ⟨v0, e0, δ, π, _, RR, t, fun w H1 s δ1 R1 q => ?_⟩
    obtain ⟨G1, M1, R1⟩ := R1
    split at q
    · rename_i a ha
      obtain ⟨bb, rfl, q⟩ := q
      obtain ⟨v1, e1, r1⟩ := R1.slotv ha (fun z => nomatch z)
      rw [e0] at e1
      cases e1
      have z1 : Enc X.K M1 H1 v0 (.int a) := r1
      have z2 : Enc X.K M1 H1 w (.int bb) := R1.top
      cases z1
      cases z2
      refine .inl ⟨a, bb, rfl, rfl, ?_⟩
      exact n _ _ _ ⟨G1, M1, (R1.drop.push (s := .val (.int (a + bb))) (.int _) rfl).store (lt_of_get ha)⟩ q
    · rename_i p ds hp
      obtain ⟨es, he, hz, q⟩ := q
      obtain ⟨v1, e1, rfl, m, vs, a1, a2⟩ := R1.slotv hp (fun z => nomatch z)
      rw [e0] at e1
      cases e1
      obtain ⟨bd, us, rfl, b1, b2⟩ := R1.view List.mem_cons_self he
      refine .inr ⟨p, bd, vs, us, rfl, rfl, a1, b1, by rw [a2.length, b2.length, ← line_eq]; exact hz, ?_⟩
      have R2 := (R1.write hp (a2.append b2)).drop
      have hi' := lt_of_get hp
      refine n _ _ _ ⟨G1, M1, ?_⟩ q
      have es : σ.set i (some (.ref p)) = σ := by
        apply List.ext_getElem?
        intro j
        rw [List.getElem?_set]
        split
        · rename_i hj
          subst hj
          rw [if_pos (by rw [R1.len]; exact hi'), e0]
        · rfl
      rw [es]
      exact R2
    · exact q.elim
theorem ds_augSub (hN : X.N.Nodup) (he : DE X E e T) (hi : X.N[i]? = some x := by rfl) (hx : Loc X.env.scope x := by first | exact Or.inl rfl | exact Or.inr rfl) (hf : X.fn x = true ∨ X.env.scope.names.lookup x = some .local := by first | exact .inl rfl | exact .inr rfl | assumption) :
    DS X E (.AugAssign (.Name x p1) .Sub e pos) (tsAugSub i T) :=
  PS.imp (ps_aug hN hi hx he ip_sub hf) fun D σ H ⟨δ, π, D', R, ⟨⟨s0, g0, g1⟩, t⟩, n, r, b, c⟩ => by
    have RR := R
    obtain ⟨G, M, R⟩ := R
    obtain ⟨v0, e0, r0⟩ := R.slotv g0 g1
    refine ⟨v0, e0, δ, π, _, RR, t, fun w H1 s δ1 R1 q => ?_⟩
    obtain ⟨G1, M1, R1⟩ := R1
    split at q
    · rename_i a ha
      obtain ⟨bb, rfl, q⟩ := q
      obtain ⟨v1, e1, r1⟩ := R1.slotv ha (fun z => nomatch z)
      rw [e0] at e1
      cases e1
      have z1 : Enc X.K M1 H1 v0 (.int a) := r1
      have z2 : Enc X.K M1 H1 w (.int bb) := R1.top
      cases z1
      cases z2
      refine ⟨a, bb, rfl, rfl, ?_⟩
      exact n _ _ _ ⟨G1, M1, (R1.drop.push (s := .val (.int (a - bb))) (.int _) rfl).store (lt_of_get ha)⟩ q
    · exact q.elim
end
end HR
namespace HR
open PySem PySem.Spec L2
open PyProof.Rows hiding St
section
variable {X : Cx} {E : Ent} {e tg iter : Expr} {T : TD} {Ti : TDI} {g : TDG} {pos : Pos}
/-- return of a list of two numbers: from now on a bag -/
def tsRetBag (T : TD) : TDS := fun D δ => T δ fun s δ1 => ∃ p x y, s = .own p [.int x, .int y] ∧ 0 ≤ x ∧ 0 ≤ y ∧ y < 2147483647 ∧ D.rt .bag δ1
theorem ds_retBag (he : DE X E e T) : DS X E (.Return (some e) pos) (tsRetBag T) := PS.imp (ps_ret he) fun D σ H ⟨δ, π, D', R, t, n, r, _⟩ =>
  ⟨δ, π, _, R, t, fun v H' s δ' ⟨G, M, R'⟩ ⟨p, x, y, e, h1, h2, h3, q⟩ => by
    subst e
    exact r σ H' v .bag δ' ⟨_, _, R'.bagT h1 h2 h3⟩ q⟩
/-- y = [..] on one line -/
theorem ds_setLc {i : Nat} {y : Str} {py : Pos} {elt : Expr} {ifs : List Expr} {scope : Scope} {own : List (Str × Nat)} {spos : Pos} {vs : List Nat} {gH : TG} {tt : TDT} {te : TD} (ho : own.map (·.2) = vs) (hc : X.calm = true) (hN : X.N.Nodup) (hy : X.N[i]? = some y) (hyl : X.env.scope.names.lookup y = some .local)
    (hsw : swapsWith (.ListComp elt [⟨tg, iter, ifs, 0⟩] scope pos) (some (.Name y py)) spos.line X.env = pure true) (hi : DI X E tg iter Ti) (ok : BlkOk X.N X.env.scope scope own) (gk : TgOk X.K E vs gH g)
    (hg : ∀ (s : Shared) (H : Hp) (C : Addr) (cl : List (Str × Addr)) (fp : List Addr), PG (X.blk s H scope (compEnvC scope cl C X.env) fp) tg gH)
    (ht : ∀ (s : Shared) (H : Hp) (C : Addr) (cl : List (Str × Addr)) (fp : List Addr), DTs (X.blk s H scope (compEnvC scope cl C X.env) fp) E ifs tt)
    (he : ∀ (s : Shared) (H : Hp) (C : Addr) (cl : List (Str × Addr)) (fp : List Addr), DE (X.blk s H scope (compEnvC scope cl C X.env) fp) E elt te) (hs : ∀ x, foldedSetIterable iter X.env x = pure x := by intro _; rfl) :
    DS X E (.Assign [.Name y py] (.ListComp elt [⟨tg, iter, ifs, 0⟩] scope pos) spos) (tsAsg (tdComp Ti g tt te vs) (gdName i)) := by
  subst ho
  have ht' : ∀ (s : Shared) (H : Hp) (C : Addr) (cl : List (Str × Addr)) (fp : List Addr), PTs (X.blk s H scope (compEnvC scope cl C X.env) fp) ifs (lT X.K E tt) := ht
  have he' : ∀ (s : Shared) (H : Hp) (C : Addr) (cl : List (Str × Addr)) (fp : List Addr), PE (X.blk s H scope (compEnvC scope cl C X.env) fp) elt (lE X.K E te) := he
  refine PS.imp (ps_setLc (i := i) hc hN hy hyl hsw hi ok hg ht' he' hs) fun D σ H ⟨δ, π, D', R, t, n, r, b, c⟩ => ?_
  exact comp_ok gk _ _ _ ⟨δ, π, _, R, t, fun v H' s δ' R' q => by
    obtain ⟨w, δ2, el, ⟨G, M, R2⟩, q2⟩ := stD_ok R' q
    obtain ⟨hi, q2⟩ := putD_ok q2
    exact n _ _ _ ⟨G, M, R2.store hi⟩ q2⟩
end
/-! ### calls of defs -/
/-- an argument: data, a bag, the script -/
def asA (s : SV) (δ : Env) (Q : SV → Env → Prop) : Prop := match s with
  | .bag => Q .bag δ
  | .scr ns => Q (.scr ns) δ
  | s => asD s δ fun d δ' => Q (.val d) δ'
def asAs : List SV → Env → (List SV → Env → Prop) → Prop
  | [], δ, Q => Q [] δ
  | s :: ss, δ, Q => asA s δ fun d δ1 => asAs ss δ1 fun ds δ2 => Q (d :: ds) δ2
def argOk : SV → Bool
  | .val _ => true
  | .bag => true
  | .scr _ => true
  | _ => false
section
variable {K : PySem.W.Frag} {E : Ent} {σ : L2.St} {H : Hp} {δ : Env} {π : Tmp} {v : V} {s : SV} {G M : Addr → Prop}
theorem asA_ok {Q : SV → Env → Prop} (R : Rep K E σ H δ ((v, s) :: π)) (h : asA s δ Q) : ∃ r δ', argOk r = true ∧ Rep K E σ H δ' ((v, r) :: π) ∧ Q r δ' := by
  cases s with
  | bag => exact ⟨_, _, rfl, R, h⟩
  | scr ns => exact ⟨_, _, rfl, R, h⟩
  | _ =>
    obtain ⟨d, δ', R', q⟩ := asD_ok (Q := fun d δ' => Q (.val d) δ') R h
    exact ⟨_, _, rfl, R', q⟩
theorem asAs_ok : ∀ {vs : List V} {ss : List SV} {δ : Env} {π : Tmp} {Q : List SV → Env → Prop}, vs.length = ss.length → Rep K E σ H δ (vs.zip ss ++ π) → asAs ss δ Q → ∃ rs δ', vs.length = rs.length ∧ rs.all argOk = true ∧ Rep K E σ H δ' (vs.zip rs ++ π) ∧ Q rs δ'
  | [], [], δ, π, Q, _, R, h => ⟨[], δ, rfl, rfl, R, h⟩
  | [], _ :: _, _, _, _, e, _, _ => by simp at e
  | _ :: _, [], _, _, _, e, _, _ => by simp at e
  | v :: vs, s :: ss, δ, π, Q, e, R, h => by
    obtain ⟨d, δ1, a1, R1, h1⟩ := asA_ok (π := vs.zip ss ++ π) R h
    have R2 := R1.perm (show ((v, d) :: (vs.zip ss ++ π)).Perm (vs.zip ss ++ ((v, d) :: π)) from List.perm_middle.symm)
    obtain ⟨ds, δ2, e2, a2, R3, h2⟩ := asAs_ok (by simpa using e) R2 h1
    exact ⟨d :: ds, δ2, by simp [e2], by simp [a1, a2], R3.perm List.perm_middle, h2⟩
theorem argOk_owned (h : argOk s = true) : owned s = [] := by cases s <;> first | rfl | cases h
theorem argOk_RT {E' : Ent} (h : argOk s = true) (r : RT K E G M H v s) : RT K E' G M H v s := by
  cases s <;> first | exact r | cases h
theorem zip_owned : ∀ {vs : List V} {ss : List SV}, ss.all argOk = true → (vs.zip ss).flatMap (fun x => owned x.2) = []
  | [], _, _ => rfl
  | _ :: _, [], _ => rfl
  | v :: vs, s :: ss, h => by
    simp only [List.all_cons, Bool.and_eq_true] at h
    rw [List.zip_cons_cons, List.flatMap_cons]
    show owned s ++ _ = []
    rw [argOk_owned h.1, zip_owned h.2]
    rfl
end
/-- what a def promises over data: from the arguments, the wish about the result, the wish about exceptions by their classes' names -/
abbrev Con := List SV → (SV → Prop) → (Str → Prop) → Prop
def resOk : SV → Bool
  | .val _ => true
  | .own _ _ => true
  | .dic _ _ => true
  | .bag => true
  | _ => false
def spD (K : PySem.W.Frag) (mg : Str → Option Value) (Γ : Con) : Sp := fun vs H Q X => ∃ (G M : Addr → Prop) (ss : List SV) (Q' : SV → Prop) (X' : Str → Prop), Good G M H ∧ vs.length = ss.length ∧ ss.all argOk = true ∧ (∀ x ∈ vs.zip ss, RT K ⟨G, M, H⟩ G M H x.1 x.2) ∧ Γ ss Q' X' ∧
  (∀ r, Q' r → resOk r = true → ∀ G' M' H' v, Ext G M H G' M' H' → Good G' M' H' → RT K ⟨G, M, H⟩ G' M' H' v r → Q v H') ∧
  (∀ c, X' c → ∀ G' M' H' C, Ext G M H G' M' H' → Good G' M' H' → mg c = some (.ref C) → X (.ref C) none H')
/-- a def of the text that keeps a promise -/
structure FnD (P : Program) (w : World) (K : PySem.W.Frag) (mg : Str → Option Value) (base : Heap) (k : Nat) (x : Str) (Γ : Con) : Prop where
  ex : ∃ (f : Addr) (fd : FuncData) (ps : List Str), FnOk P w K mg base (L2.CX P w) k f fd ps (spD K mg Γ) ∧ mg x = some (.ref f) ∧ PySem.W.keepIn K (.ref f) = true ∧ Binds K fd ps []
/-- what may leave the code: by class and the slots' data -/
structure XOk (X : Cx) (E : Ent) (Ex : Str → Env → Prop) : Prop where
  tk : ∃ W, Takes X W ∧ ∀ c C δ σ H, X.mg c = some (.ref C) → Rep X.K E σ H δ [] → Ex c δ → W (.ref C) none σ H
def tdCall (Γ : Con) (Ex : Str → Env → Prop) (Ts : TDA) : TD := fun δ Q => Ts δ fun ss δ1 => asAs ss δ1 fun rs δ2 => Γ rs (fun r => (match r with | .own _ ds => ∀ p, Q (.own p ds) δ2 | .dic _ kv => ∀ p, Q (.dic p kv) δ2 | r => Q r δ2)) (fun c => Ex c δ2)
section
variable {X : Cx} {E : Ent} {e : Expr} {es : List Expr} {Ts : TDA} {pos p : Pos} {x : Str} {k : Nat} {Γ : Con} {Ex : Str → Env → Prop}
theorem call_ok {K : PySem.W.Frag} {mg : Str → Option Value} {W : WX} (hW : ∀ c C δ σ H, mg c = some (.ref C) → Rep K E σ H δ [] → Ex c δ → W (.ref C) none σ H) :
    ∀ σ H Q, lE K E (tdCall Γ Ex Ts) σ H Q → tCallS (spD K mg Γ) (WE W) (lA K E Ts) σ H Q := fun σ H Q ⟨δ, π, Q', R, t, kk⟩ =>
  ⟨δ, π, _, R, t, fun vs H1 ss δ1 el R1 q => by
    obtain ⟨rs, δ2, e2, ok, ⟨G, M, R2⟩, q2⟩ := asAs_ok el R1 q
    refine ⟨G, M, rs, _, _, R2.good, e2, ok, fun y hy => ?_, q2, fun r hr ro G' M' H' v X1 g1 rt => ?_, fun c hc G' M' H' C X1 g1 hm => ?_⟩
    · have a : argOk y.2 = true := List.all_eq_true.mp ok _ (List.of_mem_zip hy).2
      exact argOk_RT a (R2.tmp y (List.mem_append_left _ hy))
    · have R3 := (R2.sub).ext_to X1 g1
      cases r with
      | val d => exact kk _ _ _ _ ⟨_, _, R3.push (s := .val d) rt rfl⟩ hr
      | bag => exact kk _ _ _ _ ⟨_, _, R3.push (s := .bag) rt rfl⟩ hr
      | own a ds =>
        obtain ⟨rfl, ⟨m1, m2, m3⟩, l⟩ := rt
        refine kk _ _ (.own a ds) _ ⟨G', M', ?_⟩ (hr a)
        refine ⟨R3.g0, R3.ext, R3.good, R3.len, R3.slot, fun y hy => ?_, ?_⟩
        · rcases List.mem_cons.mp hy with rfl | hy
          · exact ⟨rfl, ⟨m1, m2, R2.ext.back R2.good m3⟩, l⟩
          · exact R3.tmp y hy
        · rw [List.flatMap_cons]
          refine nd_push (c := []) R3.nd fun z => ?_
          obtain ⟨_, mu⟩ := (R2.sub).mine z
          have m3' : H1 a = none := m3
          rw [m3'] at mu
          exact mu
      | dic a ds =>
        obtain ⟨rfl, ⟨m1, m2, m3⟩, l⟩ := rt
        refine kk _ _ (.dic a ds) _ ⟨G', M', ?_⟩ (hr a)
        refine ⟨R3.g0, R3.ext, R3.good, R3.len, R3.slot, fun y hy => ?_, ?_⟩
        · rcases List.mem_cons.mp hy with rfl | hy
          · exact ⟨rfl, ⟨m1, m2, R2.ext.back R2.good m3⟩, l⟩
          · exact R3.tmp y hy
        · rw [List.flatMap_cons]
          refine nd_push (c := []) R3.nd fun z => ?_
          obtain ⟨_, mu⟩ := (R2.sub).mine z
          have m3' : H1 a = none := m3
          rw [m3'] at mu
          exact mu
      | _ => cases ro
    · have R3 := (R2.sub).ext_to X1 g1
      exact hW c C δ2 σ H' hm ⟨G', M', RepG.sub (π' := π) (π := []) (by simpa using R3)⟩ hc⟩
theorem de_call (F : FnD X.prog X.w X.K X.mg X.base k x Γ) (hr : Room k X.A) (xo : XOk X E Ex) (ha : DA X E (e :: es) Ts) (hg : Gl X x := by rfl) (hdb : (x == ("__debug__" : Str)) = false := by decide) (he : starEach (e :: es) X.env = (false, eval e X.env) :: starEach es X.env := by rfl)
    (hpl : (backTo pos (starEach es X.env)).any (·.1) = false := by rfl) : DE X E (.Call (.Name x p) (e :: es) [] pos) (tdCall Γ Ex Ts) := by
  obtain ⟨f, fd, ps, F, hm, hk, hb⟩ := F.ex
  obtain ⟨W, tk, hW⟩ := xo.tk
  exact PE.imp (pe_callS F hr hg hm hk hb (fun σ => passAt tk σ) ha hdb he hpl) (call_ok hW)
/-! ### raise -/
def tsRaise (c : Str) (Ex : Str → Env → Prop) : TDS := fun _ δ => Ex c δ
/-- an own exception class of the text -/
structure ClsX (K : PySem.W.Frag) (mg : Str → Option Value) (c : Str) : Prop where
  ex : ∃ C, mg c = some (.ref C) ∧ PySem.W.excIn K C [.type "ValueError", .type "Exception", .type "BaseException", .type "object"] "ValueError.__new__" = true ∧ PySem.W.keepIn K (.ref C) = true ∧
    PySem.W.subIn K (.ref C) (.type "BaseException") = some true ∧ PySem.W.typeIn K (.ref C) = some (.type "type")
theorem ds_raise {m : Str} {j : Nat} {p2 p3 : Pos} (cx : ClsX X.K X.mg x) (hc : X.calm = true) (xo : XOk X E Ex) (hg : Gl X x := by rfl) (hdb : (x == ("__debug__" : Str)) = false := by decide) : DS X E (.Raise (some (.Call (.Name x p) [.Constant (.str m) j p2] [] p3)) none pos) (tsRaise x Ex) := by
  obtain ⟨C, gP, xP, kP, bP, tP⟩ := cx.ex
  obtain ⟨W, tk, hW⟩ := xo.tk
  refine PS.imp (ps_raise hc tk (pmk_own PySem.F.excBase_ValueError xP gP kP (raises_own bP tP) hg hdb)) fun D σ H ⟨δ, π, D', R, t, _⟩ => ?_
  exact hW x C δ σ H gP (Rep.sub (π' := π) (π := []) (by simpa using R)) t
end
/-! ### a def -/
/-- a def of the text, known by its name -/
structure TxtFn (K : PySem.W.Frag) (mg : Str → Option Value) (x : Str) (st : Stmt) : Prop where
  ex : ∃ f fd, Fun K x x st f fd ∧ mg x = some (.ref f)
/-- the def's slots at its entry -/
def startD (n : Nat) (ss : List SV) : Env := ss ++ List.replicate (n - ss.length) .none
theorem start_get {N : List Str} {vs : List V} {i : Nat} {v : V} (h : vs[i]? = some v) : (L2.start N vs)[i]? = some (some v) := by
  unfold L2.start
  rw [List.getElem?_append_left (by simpa using (List.getElem?_eq_some_iff.mp h).1), List.getElem?_map, h]
  rfl
theorem start_rep {K : PySem.W.Frag} {G M : Addr → Prop} {H : Hp} {N : List Str} {vs : List V} {ss : List SV} (g : Good G M H) (el : vs.length = ss.length) (hl : vs.length ≤ N.length) (ok : ss.all argOk = true) (h : ∀ x ∈ vs.zip ss, RT K ⟨G, M, H⟩ G M H x.1 x.2) :
    RepG K ⟨G, M, H⟩ G M (L2.start N vs) H (startD N.length ss) [] := by
  refine ⟨g, .refl, g, ?_, fun i s hs hn => ?_, fun _ hx => absurd hx (by simp), ?_⟩
  · unfold L2.start startD
    simp [el]
  · unfold startD at hs
    by_cases hi : i < ss.length
    · rw [List.getElem?_append_left hi] at hs
      have hv : i < vs.length := by omega
      refine ⟨vs[i], start_get (by simp [hv]), h (vs[i], s) ?_⟩
      refine List.mem_of_getElem? (i := i) ?_
      rw [List.getElem?_zip_eq_some]
      exact ⟨by simp [hv], hs⟩
    · rw [List.getElem?_append_right (by omega), List.getElem?_replicate] at hs
      split at hs
      · cases hs; exact absurd rfl hn
      · cases hs
  · have e : (startD N.length ss).flatMap owned = [] := by
      unfold startD
      rw [List.flatMap_append]
      have e1 : ∀ ss : List SV, ss.all argOk = true → ss.flatMap owned = [] := fun ss => by
        induction ss with
        | nil => intro _; rfl
        | cons s ss ih =>
          intro h
          simp only [List.all_cons, Bool.and_eq_true] at h
          rw [List.flatMap_cons, argOk_owned h.1, ih h.2]
          rfl
      have e2 : ∀ n : Nat, (List.replicate n SV.none).flatMap owned = [] := fun n => by
        induction n with
        | zero => rfl
        | succ n ih => rw [List.replicate_succ, List.flatMap_cons, ih]; rfl
      rw [e1 ss ok, e2]
      rfl
    rw [e]
    simp
section
variable {P : Program} {w : World} {K : PySem.W.Frag} {mg : Str → Option Value} {base : Heap}
theorem fnX_ok {x : Str} {st : Stmt} {N ps : List Str} {k : Nat} {Γ : Con} {f : Addr} {fd : FuncData} (F : Fun K x x st f fd) (S : FnScope N ps (defScope st))
    (len : ∀ ss Q X', Γ ss Q X' → ss.length = ps.length)
    (hbody : ∀ (f : Addr) (cdv : Value) (A : Around) (outer : List PySem.Env) (s : Shared) (H : Hp) (Y : XK) (E : Ent) (ss : List SV) (Q' : SV → Prop) (X' : Str → Prop), Room k (A.deeper (envOfC x (defScope st) s.heap.objs.size f cdv)) →
      XOk (cxOf (L2.CX P w) P w K mg base N x (defScope st) f cdv A outer s H Y) E (fun c _ => X' c) → PassesOwn (model P w) (A.deeper (envOfC x (defScope st) s.heap.objs.size f cdv)) (envOfC x (defScope st) s.heap.objs.size f cdv) (cxOf (L2.CX P w) P w K mg base N x (defScope st) f cdv A outer s H Y).xe →
      Γ ss Q' X' → ∃ T : TDS, DSs (cxOf (L2.CX P w) P w K mg base N x (defScope st) f cdv A outer s H Y) E (defBody st) T ∧ T { nx := fun _ => Q' (.val .none), rt := fun r _ => resOk r = true ∧ Q' r } (startD N.length ss)) : FnOk P w K mg base (L2.CX P w) (k + 1) f fd ps (spD K mg Γ) := by
  refine F.okX S (fun vs H Q Y ⟨G, M, ss, Q', X', g, el, ok, hr, hΓ, _⟩ => el.trans (len ss Q' X' hΓ)) (fun cdv A outer s H vs Q Y hr h => ?_)
  obtain ⟨G, M, ss, Q', X', g, el, ok, hrt, hΓ, hQ, hX⟩ := h
  have hpl : ps.length ≤ N.length := by
    have e := congrArg List.length S.pre
    rw [List.length_take] at e
    omega
  obtain ⟨T, d, t⟩ := hbody f cdv A outer s H Y ⟨G, M, H⟩ ss Q' X' hr ⟨_, takes_of rfl rfl rfl rfl, fun c C δ σ H' hc ⟨G', M', R⟩ hx => hX c hx G' M' H' C R.ext R.good hc⟩ (passes_of rfl) hΓ
  refine ⟨_, d, ?_⟩
  refine ⟨_, [], _, ⟨G, M, start_rep g el (by rw [el, len ss Q' X' hΓ]; exact hpl) ok hrt⟩, t, fun σ' H' δ' ⟨G', M', R⟩ q => ?_, fun σ' H' v r δ' ⟨G', M', R⟩ q => ?_, fun _ _ _ _ q => q, fun _ _ _ _ q => q⟩
  · exact hQ _ q rfl G' M' H' .non R.ext R.good .non
  · exact hQ _ q.2 q.1 G' M' H' v R.ext R.good R.top
theorem fnD_ok {x : Str} {st : Stmt} {N ps : List Str} {k : Nat} {Γ : Con} (F : TxtFn K mg x st) (S : FnScope N ps (defScope st))
    (hb : ∀ (kV doc pm : Value) (an : Option Addr) (cdv ct : Value) (us : List Value), us.length = ps.length → bindArgs (PySem.W.fnOf x x (defArgs st) (defBody st) (defScope st) .none kV doc pm an cdv ct) ⟨us, []⟩ = pure (ps.zip us))
    (len : ∀ ss Q X', Γ ss Q X' → ss.length = ps.length)
    (hbody : ∀ (f : Addr) (cdv : Value) (A : Around) (outer : List PySem.Env) (s : Shared) (H : Hp) (Y : XK) (E : Ent) (ss : List SV) (Q' : SV → Prop) (X' : Str → Prop), Room k (A.deeper (envOfC x (defScope st) s.heap.objs.size f cdv)) →
      XOk (cxOf (L2.CX P w) P w K mg base N x (defScope st) f cdv A outer s H Y) E (fun c _ => X' c) → PassesOwn (model P w) (A.deeper (envOfC x (defScope st) s.heap.objs.size f cdv)) (envOfC x (defScope st) s.heap.objs.size f cdv) (cxOf (L2.CX P w) P w K mg base N x (defScope st) f cdv A outer s H Y).xe →
      Γ ss Q' X' → ∃ T : TDS, DSs (cxOf (L2.CX P w) P w K mg base N x (defScope st) f cdv A outer s H Y) E (defBody st) T ∧ T { nx := fun _ => Q' (.val .none), rt := fun r _ => resOk r = true ∧ Q' r } (startD N.length ss)) : FnD P w K mg base (k + 1) x Γ := by
  obtain ⟨f, fd, F, hm⟩ := F.ex
  exact ⟨f, fd, ps, fnX_ok F S len hbody, hm, F.kp, F.binds hb⟩
/-! ### the law -/
def spL (K : PySem.W.Frag) : Sp := fun vs H Q _ => ∃ (a : Addr) (ns : List Int), vs = [.ref a] ∧ SqL K H a (ns.map V.int) ∧ Only H ∧ ns.length ≤ 63 ∧ ∀ H', Q (.bl true) H'
theorem law_fn {Γ : Con} {k : Nat} {f : Addr} {fd : FuncData} {ps : List Str} (F : FnOk P w K mg base (L2.CX P w) k f fd ps (spD K mg Γ)) (h : ∀ ns Q X, ns.length ≤ 63 → Q (.val (.bool true)) → Γ [.scr ns] Q X) : FnOk P w K mg base (L2.CX P w) k f fd ps (spL K) :=
  F.imp fun vs H Q E ⟨a, ns, e, hS, hO, hl, q⟩ => by
    subst e
    refine ⟨fun _ => False, fun _ => False, [.scr ns], fun r => r = .val (.bool true), fun _ => False, ⟨fun a z => z.elim, fun a z => z.elim, fun a z => z.elim⟩, rfl, rfl, fun y hy => ?_, h ns _ _ hl rfl, fun r hr _ G' M' H' v _ _ rt => ?_, fun c hc => hc.elim⟩
    · have : y = (.ref a, .scr ns) := by simpa using hy
      subst this
      refine ⟨a, rfl, ?_⟩
      rcases hS with (hS | hS) | hS
      · exact .inl ⟨hS, fun z => z⟩
      · exact .inr (.inl hS)
      · exact .inr (.inr hS)
    · subst hr
      have rt : Enc K M' H' v (.bool true) := rt
      cases rt
      exact q H'
end
end HR
namespace HR
open PySem PySem.Spec L2
open PyProof.Rows hiding St
theorem xo_blk {X : Cx} {E : Ent} {s : Shared} {H : Hp} {scope : Scope} {cenv : PySem.Env} {fp : List Addr} : XOk (X.blk s H scope cenv fp) E (fun _ _ => False) := ⟨_, takes0, fun _ _ _ _ _ _ _ h => h⟩
/-! ### built-in calls by values -/
abbrev RCD := List SV → Env → VD → Prop
def SndC (K : PySem.W.Frag) (E : Ent) (r : List V → Hp → VK → Prop) (R : RCD) : Prop := ∀ (σ : L2.St) (H : Hp) (vs : List V) (ss : List SV) (δ : Env) (π : Tmp) (Q : VK) (Q' : VD), vs.length = ss.length → Rep K E σ H δ (vs.zip ss ++ π) → R ss δ Q' →
  (∀ v H' u δ', Rep K E σ H' δ' ((v, u) :: π) → Q' u δ' → Q v H') → r vs H Q
def tdCB (R : RCD) (Ts : TDA) : TD := fun δ Q => Ts δ fun ss δ1 => R ss δ1 Q
theorem cb_ok {K : PySem.W.Frag} {E : Ent} {r : List V → Hp → VK → Prop} {R : RCD} {Ts : TDA} (h : SndC K E r R) : ∀ σ H Q, lE K E (tdCB R Ts) σ H Q → tCB r (lA K E Ts) σ H Q := fun σ H Q ⟨δ, π, Q', R1, t, k⟩ =>
  ⟨δ, π, _, R1, t, fun vs H1 ss δ1 el R2 q => h σ H1 vs ss δ1 π Q Q' el R2 q k⟩
section
variable {X : Cx} {E : Ent} {e : Expr} {es : List Expr} {Ts : TDA} {pos p : Pos} {x : Str} {id T : String} {r : List V → Hp → VK → Prop} {R : RCD}
theorem de_callB (hc : CallR X (.builtin id) r) (h : SndC X.K E r R) (hv : bootBuiltins x = some (.builtin id)) (hm : X.mg x = none) (ha : DA X E (e :: es) Ts) (hg : Gl X x := by rfl) (hn : x ≠ "__name__" := by decide) (hdb : (x == ("__debug__" : Str)) = false := by decide)
    (he : starEach (e :: es) X.env = (false, eval e X.env) :: starEach es X.env := by rfl) (hpl : (backTo pos (starEach es X.env)).any (·.1) = false := by rfl) : DE X E (.Call (.Name x p) (e :: es) [] pos) (tdCB R Ts) :=
  PE.imp (pe_callB hc hg hm hv ha hn hdb he hpl) (cb_ok h)
theorem de_callTy (hc : CallR X (.type T) r) (h : SndC X.K E r R) (hv : bootBuiltins x = some (.type T)) (hm : X.mg x = none) (ha : DA X E (e :: es) Ts) (hg : Gl X x := by rfl) (hn : x ≠ "__name__" := by decide) (hdb : (x == ("__debug__" : Str)) = false := by decide)
    (he : starEach (e :: es) X.env = (false, eval e X.env) :: starEach es X.env := by rfl) (hpl : (backTo pos (starEach es X.env)).any (·.1) = false := by rfl) : DE X E (.Call (.Name x p) (e :: es) [] pos) (tdCB R Ts) :=
  PE.imp (pe_callTy hc hg hm hv ha hn hdb he hpl) (cb_ok h)
end
section
variable {K : PySem.W.Frag} {E : Ent}
theorem snd1 {r : List V → Hp → VK → Prop} {R : SV → Env → VD → Prop} (h : ∀ (σ : L2.St) (H : Hp) (v : V) (s : SV) (δ : Env) (π : Tmp) (Q : VK) (Q' : VD), Rep K E σ H δ ((v, s) :: π) → R s δ Q' → (∀ v H' u δ', Rep K E σ H' δ' ((v, u) :: π) → Q' u δ' → Q v H') → r [v] H Q) : SndC K E r (fun ss δ Q => on1 (fun s δ => R s δ Q) ss δ) := by
  intro σ H vs ss δ π Q Q' el R1 q k
  obtain ⟨s, v, rfl, rfl, q⟩ := on1_iff q el
  exact h σ H v s δ π Q Q' R1 q k
theorem snd2 {r : List V → Hp → VK → Prop} {R : SV → SV → Env → VD → Prop} (h : ∀ (σ : L2.St) (H : Hp) (v w : V) (s t : SV) (δ : Env) (π : Tmp) (Q : VK) (Q' : VD), Rep K E σ H δ ((v, s) :: (w, t) :: π) → R s t δ Q' → (∀ v H' u δ', Rep K E σ H' δ' ((v, u) :: π) → Q' u δ' → Q v H') → r [v, w] H Q) : SndC K E r (fun ss δ Q => on2 (fun s t δ => R s t δ Q) ss δ) := by
  intro σ H vs ss δ π Q Q' el R1 q k
  obtain ⟨s, t, v, w, rfl, rfl, q⟩ := on2_iff q el
  exact h σ H v w s t δ π Q Q' R1 q k
/-- len -/
def lenD (s : SV) (δ : Env) (Q : VD) : Prop := match s with
  | .val (.tuple ds) => Q (.val (.int ds.length)) δ
  | .scr ns => Q (.val (.int ns.length)) δ
  | s => ∃ ds, View s δ ds ∧ Q (.val (.int ds.length)) δ
theorem snd_len : SndC K E (fun xs H Q => ∃ p ys, xs = [.ref p] ∧ (SqL K H p ys ∨ SqT K H p ys) ∧ Q (.int ys.length) H) (fun ss δ Q => on1 (fun s δ => lenD s δ Q) ss δ) := snd1 fun σ H v s δ π Q Q' R q k => by
  have RR := R.drop
  obtain ⟨G, M, R⟩ := R
  unfold lenD at q
  split at q
  · rename_i ds
    have z : Enc K M H v (.tuple ds) := R.top
    cases z with
    | tup a1 a2 a3 => exact ⟨_, _, rfl, .inr a1, by rw [a2.length]; exact k _ _ _ _ (RR.int _) q⟩
  · rename_i ns
    obtain ⟨a, rfl, hs⟩ : ∃ a, v = .ref a ∧ SqS K M H a (ns.map V.int) := R.top
    exact ⟨a, _, rfl, .inl hs.sq, by rw [List.length_map]; exact k _ _ _ _ (RR.int _) q⟩
  · obtain ⟨ds, e, q⟩ := q
    obtain ⟨a, vs, rfl, a1, a2⟩ := R.view List.mem_cons_self e
    exact ⟨a, vs, rfl, .inl (SqL.of a1), by rw [a2.length]; exact k _ _ _ _ (RR.int _) q⟩
/-- min, max of two, abs -/
def int2D (g : Int → Int → Int) (s t : SV) (δ : Env) (Q : VD) : Prop := match s, t with
  | .val (.int i), .val (.int j) => Q (.val (.int (g i j))) δ
  | _, _ => False
theorem snd_int2 {g : Int → Int → Int} : SndC K E (fun xs H Q => ∃ i j, xs = [.int i, .int j] ∧ Q (.int (g i j)) H) (fun ss δ Q => on2 (fun s t δ => int2D g s t δ Q) ss δ) := snd2 fun σ H v w s t δ π Q Q' R q k => by
  unfold int2D at q
  split at q
  · rename_i i j
    have e1 := R.isInt (π' := π) (v := v) (i := i) (by simp)
    have e2 := R.isInt (π' := π) (v := w) (i := j) (by simp)
    subst e1 e2
    exact ⟨i, j, rfl, k _ _ _ _ (R.drop.drop.int _) q⟩
  · exact q.elim
def absD (s : SV) (δ : Env) (Q : VD) : Prop := match s with
  | .val (.int i) => Q (.val (.int (if i < 0 then -i else i))) δ
  | _ => False
theorem snd_abs : SndC K E (fun xs H Q => ∃ i, xs = [.int i] ∧ Q (.int (if i < 0 then -i else i)) H) (fun ss δ Q => on1 (fun s δ => absD s δ Q) ss δ) := snd1 fun σ H v s δ π Q Q' R q k => by
  unfold absD at q
  split at q
  · rename_i i
    have e1 := R.isInt (π' := π) (v := v) (i := i) (by simp)
    subst e1
    exact ⟨i, rfl, k _ _ _ _ (R.drop.int _) q⟩
  · exact q.elim
/-- sum, all, any, max, min of a list -/
def sumD (s : SV) (δ : Env) (Q : VD) : Prop := ∃ ns : List Int, View s δ (ns.map .int) ∧ Q (.val (.int ns.sum)) δ
def allD (s : SV) (δ : Env) (Q : VD) : Prop := ∃ bs : List Bool, View s δ (bs.map .bool) ∧ Q (.val (.bool (bs.all id))) δ
def anyD (s : SV) (δ : Env) (Q : VD) : Prop := ∃ bs : List Bool, View s δ (bs.map .bool) ∧ Q (.val (.bool (bs.any id))) δ
def maxD (s : SV) (δ : Env) (Q : VD) : Prop := ∃ ns : List Int, View s δ (ns.map .int) ∧ 0 < ns.length ∧ ∀ m, m ∈ ns → (∀ y, y ∈ ns → y ≤ m) → Q (.val (.int m)) δ
def minD (s : SV) (δ : Env) (Q : VD) : Prop := ∃ ns : List Int, View s δ (ns.map .int) ∧ 0 < ns.length ∧ ∀ m, m ∈ ns → (∀ y, y ∈ ns → m ≤ y) → Q (.val (.int m)) δ
theorem snd_sum : SndC K E (rSum K) (fun ss δ Q => on1 (fun s δ => sumD s δ Q) ss δ) := snd1 fun σ H v s δ π Q Q' R ⟨ns, e, q⟩ k => by
  have RR := R.drop
  obtain ⟨G, M, R⟩ := R
  obtain ⟨a, vs, rfl, a1, a2⟩ := R.view List.mem_cons_self e
  exact ⟨a, ns, rfl, SqL.of (a2.ints ▸ a1), k _ _ _ _ (RR.int _) q⟩
theorem snd_all : SndC K E (rAll K) (fun ss δ Q => on1 (fun s δ => allD s δ Q) ss δ) := snd1 fun σ H v s δ π Q Q' R ⟨ns, e, q⟩ k => by
  have RR := R.drop
  obtain ⟨G, M, R⟩ := R
  obtain ⟨a, vs, rfl, a1, a2⟩ := R.view List.mem_cons_self e
  exact ⟨a, ns, rfl, SqL.of (a2.bls ▸ a1), k _ _ _ _ (RR.bl _) q⟩
theorem snd_any : SndC K E (rAny K) (fun ss δ Q => on1 (fun s δ => anyD s δ Q) ss δ) := snd1 fun σ H v s δ π Q Q' R ⟨ns, e, q⟩ k => by
  have RR := R.drop
  obtain ⟨G, M, R⟩ := R
  obtain ⟨a, vs, rfl, a1, a2⟩ := R.view List.mem_cons_self e
  exact ⟨a, ns, rfl, SqL.of (a2.bls ▸ a1), k _ _ _ _ (RR.bl _) q⟩
theorem snd_max : SndC K E (rMax K) (fun ss δ Q => on1 (fun s δ => maxD s δ Q) ss δ) := snd1 fun σ H v s δ π Q Q' R ⟨ns, e, hl, q⟩ k => by
  have RR := R.drop
  obtain ⟨G, M, R⟩ := R
  obtain ⟨a, vs, rfl, a1, a2⟩ := R.view List.mem_cons_self e
  exact ⟨a, ns, rfl, SqL.of (a2.ints ▸ a1), hl, fun m h1 h2 => k _ _ _ _ (RR.int _) (q m h1 h2)⟩
theorem snd_min : SndC K E (rMin K) (fun ss δ Q => on1 (fun s δ => minD s δ Q) ss δ) := snd1 fun σ H v s δ π Q Q' R ⟨ns, e, hl, q⟩ k => by
  have RR := R.drop
  obtain ⟨G, M, R⟩ := R
  obtain ⟨a, vs, rfl, a1, a2⟩ := R.view List.mem_cons_self e
  exact ⟨a, ns, rfl, SqL.of (a2.ints ▸ a1), hl, fun m h1 h2 => k _ _ _ _ (RR.int _) (q m h1 h2)⟩
/-- tuple(..), list(..) of a list or a tuple -/
def tupleD (s : SV) (δ : Env) (Q : VD) : Prop := ∃ ds, SeqR s δ ds ∧ Q (.val (.tuple ds)) δ
def listD (s : SV) (δ : Env) (Q : VD) : Prop := ∃ ds, SeqR s δ ds ∧ ∀ p, Q (.own p ds) δ
theorem snd_tuple : SndC K E (fun xs H Q => ∃ p ys, xs = [.ref p] ∧ ((SqL K H p ys ∧ ∀ l, H l = none → Q (.ref l) (upd H l (.tup ys))) ∨ (SqT K H p ys ∧ Q (.ref p) H))) (fun ss δ Q => on1 (fun s δ => tupleD s δ Q) ss δ) := snd1 fun σ H v s δ π Q Q' R ⟨ds, e, q⟩ k => by
  obtain ⟨G, M, R⟩ := R
  obtain ⟨a, vs, rfl, a2, z⟩ := R.seq List.mem_cons_self e
  refine ⟨a, vs, rfl, ?_⟩
  rcases z with ⟨z, _⟩ | ⟨z, rfl⟩
  · exact .inl ⟨z, fun l n => k _ _ _ _ ⟨_, _, R.drop.newTup n a2⟩ q⟩
  · exact .inr ⟨z, k _ _ _ _ ⟨_, _, R⟩ q⟩
theorem snd_list : SndC K E (fun xs H Q => ∃ p ys, xs = [.ref p] ∧ (SqL K H p ys ∨ SqT K H p ys) ∧ ∀ l, H l = none → Q (.ref l) (upd H l (.lst ys))) (fun ss δ Q => on1 (fun s δ => listD s δ Q) ss δ) := snd1 fun σ H v s δ π Q Q' R ⟨ds, e, q⟩ k => by
  obtain ⟨G, M, R⟩ := R
  obtain ⟨a, vs, rfl, a2, z⟩ := R.seq List.mem_cons_self e
  refine ⟨a, vs, rfl, ?_, fun l n => k _ _ _ _ ⟨_, _, R.drop.fresh n a2⟩ (q l)⟩
  rcases z with ⟨z, _⟩ | ⟨z, rfl⟩
  · exact .inl z
  · exact .inr z
/-- sorted of ints -/
def insI (x : Int) : List Int → List Int
  | [] => [x]
  | y :: ys => if x ≤ y then x :: y :: ys else y :: insI x ys
def sortI : List Int → List Int
  | [] => []
  | x :: xs => insI x (sortI xs)
theorem insI_perm (x : Int) : ∀ ys, (insI x ys).Perm (x :: ys)
  | [] => .refl _
  | y :: ys => by
    unfold insI
    split
    · exact .refl _
    · exact ((insI_perm x ys).cons y).trans (.swap _ _ _)
theorem sortI_perm : ∀ xs, (sortI xs).Perm xs
  | [] => .refl _
  | x :: xs => (insI_perm x (sortI xs)).trans ((sortI_perm xs).cons x)
theorem insI_sorted (x : Int) : ∀ ys : List Int, ys.Pairwise (· ≤ ·) → (insI x ys).Pairwise (· ≤ ·)
  | [], _ => by simp [insI]
  | y :: ys, h => by
    unfold insI
    obtain ⟨h1, h2⟩ := List.pairwise_cons.mp h
    split
    · rename_i hxy
      refine List.pairwise_cons.mpr ⟨fun z hz => ?_, h⟩
      rcases List.mem_cons.mp hz with rfl | hz
      · exact hxy
      · exact Int.le_trans hxy (h1 z hz)
    · rename_i hxy
      refine List.pairwise_cons.mpr ⟨fun z hz => ?_, insI_sorted x ys h2⟩
      rcases List.mem_cons.mp ((insI_perm x ys).mem_iff.mp hz) with rfl | hz
      · omega
      · exact h1 z hz
theorem sortI_sorted : ∀ xs, (sortI xs).Pairwise (· ≤ ·)
  | [] => .nil
  | x :: xs => insI_sorted x _ (sortI_sorted xs)
theorem sorted_unique {xs ys : List Int} (h : xs.Perm ys) (hx : xs.Pairwise (· ≤ ·)) (hy : ys.Pairwise (· ≤ ·)) : xs = ys :=
  h.eq_of_pairwise (fun a b _ _ h1 h2 => Int.le_antisymm h1 h2) hx hy
def sortedD (s : SV) (δ : Env) (Q : VD) : Prop := ∃ ns : List Int, View s δ (ns.map .int) ∧ ∀ p, Q (.own p ((sortI ns).map .int)) δ
theorem snd_sorted : SndC K E (rSortedI K) (fun ss δ Q => on1 (fun s δ => sortedD s δ Q) ss δ) := snd1 fun σ H v s δ π Q Q' R ⟨ns, e, q⟩ k => by
  obtain ⟨G, M, R⟩ := R
  obtain ⟨a, vs, rfl, a1, a2⟩ := R.view List.mem_cons_self e
  refine ⟨a, ns, rfl, SqL.of (a2.ints ▸ a1), fun ns' p h1 h2 n => ?_⟩
  have e' : ns' = sortI ns := sorted_unique (h1.trans (sortI_perm ns).symm) h2 (sortI_sorted ns)
  subst e'
  exact k _ _ _ _ ⟨_, _, R.drop.fresh n (EncS.of_ints _)⟩ (q p)
end
/-! ### isinstance with a built-in class -/
/-- the kinds of data, and isinstance with a class -/
inductive Ty where
  | none | bool | int | str | tuple | list
def Ty.name : Ty → String
  | .none => "NoneType"
  | .bool => "bool"
  | .int => "int"
  | .str => "str"
  | .tuple => "tuple"
  | .list => "list"
def isTy : Ty → Ty → Bool
  | .none, .none => true
  | .bool, .bool => true
  | .bool, .int => true
  | .int, .int => true
  | .str, .str => true
  | .tuple, .tuple => true
  | .list, .list => true
  | _, _ => false
def tyD (s : SV) (δ : Env) (Q : Ty → Prop) : Prop := match s with
  | .val .none => Q .none
  | .val (.bool _) => Q .bool
  | .val (.int _) => Q .int
  | .val (.str _) => Q .str
  | .val (.tuple _) => Q .tuple
  | s => ∃ ds, View s δ ds ∧ Q .list
def tdIsi (T : TD) (n : Ty) : TD := fun δ Q => T δ fun s δ1 => tyD s δ1 fun t => Q (.val (.bool (isTy t n))) δ1
theorem kit_all {K : PySem.W.Frag} (t n : Ty) (hn : n ≠ .none) : PySem.W.kitOne K (.type t.name) (.type n.name) = some (isTy t n) := by
  cases n with
  | none => exact absurd rfl hn
  | _ => cases t <;> exact kit_ty (by decide +kernel)
theorem ty_ok {K : PySem.W.Frag} {E : Ent} {G M : Addr → Prop} {σ : L2.St} {H1 : Hp} {δ1 : Env} {π : Tmp} {v : V} {s : SV} {Q : Ty → Prop} (R1 : RepG K E G M σ H1 δ1 ((v, s) :: π)) (ht : tyD s δ1 Q) : ∃ ty, TyX K H1 v (.type ty.name) ∧ Q ty := by
  have lists : (∃ ds, View s δ1 ds ∧ Q .list) → ∃ ty, TyX K H1 v (.type ty.name) ∧ Q ty := fun ⟨ds, z, q⟩ => by
    obtain ⟨a, vs, rfl, a1, a2⟩ := R1.view List.mem_cons_self z
    exact ⟨_, .base (.lst a1), q⟩
  unfold tyD at ht
  split at ht
  · have z : Enc K M H1 v .none := R1.top
    cases z
    exact ⟨.none, .base .non, ht⟩
  · rename_i b
    have z : Enc K M H1 v (.bool b) := R1.top
    cases z
    exact ⟨.bool, .base (.bl _), ht⟩
  · rename_i b
    have z : Enc K M H1 v (.int b) := R1.top
    cases z
    exact ⟨.int, .base (.int _), ht⟩
  · rename_i b
    have z : Enc K M H1 v (.str b) := R1.top
    cases z
    exact ⟨.str, .base (.str _), ht⟩
  · rename_i b
    have z : Enc K M H1 v (.tuple b) := R1.top
    cases z with
    | tup a1 a2 a3 =>
      rcases a1 with (a1 | ⟨o, a1⟩) | ⟨o, its, nn, h1, h2, _⟩
      · exact ⟨.tuple, .base (.tup a1), ht⟩
      · exact ⟨.tuple, .fTuple a1, ht⟩
      · exact ⟨.tuple, .kTuple h1 h2, ht⟩
  · exact lists ht
section
variable {X : Cx} {E : Ent} {e : Expr} {T : TD} {pos p p2 : Pos} {x : Str} {n : Ty}
theorem de_isi {x : Str} (hn : n ≠ .none) (hv : bootBuiltins x = some (.type n.name)) (hm : X.mg x = none) (hm0 : X.mg "isinstance" = none) (ha : DE X E e T) (hg : Gl X x := by rfl) (hg0 : Gl X "isinstance" := by rfl) (hn2 : x ≠ "__name__" := by decide) (hdb : (x == ("__debug__" : Str)) = false := by decide)
    (he1 : starEach [.Name x p2] X.env = (false, eval (.Name x p2) X.env) :: starEach [] X.env := by rfl)
    (he : starEach [e, .Name x p2] X.env = (false, eval e X.env) :: starEach [.Name x p2] X.env := by rfl) (hpl : (backTo pos (starEach [.Name x p2] X.env)).any (·.1) = false := by rfl) :
    DE X E (.Call (.Name "isinstance" p) [e, .Name x p2] [] pos) (tdIsi T n) :=
  PE.imp (pe_callB call_isi hg0 hm0 PyProof.Rows.boot_isinstance (pa_cons ha (pa_cons (pe_bltn (v := .ty n.name) hg hm hv rfl hn2 hdb) pa_nil he1) he) (he := he) (hpl := hpl)) fun σ H Q ⟨δ, π, Q', R, t, k⟩ =>
    ⟨δ, π, _, R, t, fun v H1 s δ1 R1 ht => by
      have RR := R1.drop
      obtain ⟨G, M, R1⟩ := R1
      obtain ⟨ty, h1, q⟩ := ty_ok R1 ht
      exact ⟨v, .ty n.name, _, _, _, rfl, .ty n.name, h1, kit_all ty n hn, k _ _ _ _ (RR.bl _) q⟩⟩
end
section
variable {X : Cx} {E : Ent} {e : Expr} {es : List Expr} {Ts : TDA} {pos p : Pos}
theorem de_len (hm : X.mg "len" = none) (ha : DA X E [e] Ts) (hg : Gl X "len" := by rfl) (he : starEach [e] X.env = (false, eval e X.env) :: starEach [] X.env := by rfl) :
    DE X E (.Call (.Name "len" p) [e] [] pos) (tdCB (fun ss δ Q => on1 (fun s δ => lenD s δ Q) ss δ) Ts) := de_callB call_len_seq snd_len PySem.boot_len hm ha hg (he := he) (hpl := rfl)
theorem de_min2 {f : Expr} (hc : X.calm = true) (hm : X.mg "min" = none) (ha : DA X E [e, f] Ts) (hg : Gl X "min" := by rfl) (he : starEach [e, f] X.env = (false, eval e X.env) :: starEach [f] X.env := by rfl) (hpl : (backTo pos (starEach [f] X.env)).any (·.1) = false := by rfl) :
    DE X E (.Call (.Name "min" p) [e, f] [] pos) (tdCB (fun ss δ Q => on2 (fun s t δ => int2D (fun i j => if j < i then j else i) s t δ Q) ss δ) Ts) := de_callB (call_min2 hc) snd_int2 PyProof.Rows.boot_min hm ha hg (he := he) (hpl := hpl)
theorem de_max2 {f : Expr} (hc : X.calm = true) (hm : X.mg "max" = none) (ha : DA X E [e, f] Ts) (hg : Gl X "max" := by rfl) (he : starEach [e, f] X.env = (false, eval e X.env) :: starEach [f] X.env := by rfl) (hpl : (backTo pos (starEach [f] X.env)).any (·.1) = false := by rfl) :
    DE X E (.Call (.Name "max" p) [e, f] [] pos) (tdCB (fun ss δ Q => on2 (fun s t δ => int2D (fun i j => if j > i then j else i) s t δ Q) ss δ) Ts) := de_callB (call_max2 hc) snd_int2 (by decide +kernel) hm ha hg (he := he) (hpl := hpl)
theorem de_abs (hm : X.mg "abs" = none) (ha : DA X E [e] Ts) (hg : Gl X "abs" := by rfl) (he : starEach [e] X.env = (false, eval e X.env) :: starEach [] X.env := by rfl) :
    DE X E (.Call (.Name "abs" p) [e] [] pos) (tdCB (fun ss δ Q => on1 (fun s δ => absD s δ Q) ss δ) Ts) := de_callB call_abs snd_abs (by decide +kernel) hm ha hg (he := he) (hpl := rfl)
theorem de_sum (hc : X.calm = true) (hm : X.mg "sum" = none) (ha : DA X E [e] Ts) (hg : Gl X "sum" := by rfl) (he : starEach [e] X.env = (false, eval e X.env) :: starEach [] X.env := by rfl) :
    DE X E (.Call (.Name "sum" p) [e] [] pos) (tdCB (fun ss δ Q => on1 (fun s δ => sumD s δ Q) ss δ) Ts) := de_callB (cr_sum hc) snd_sum (by decide +kernel) hm ha hg (he := he) (hpl := rfl)
theorem de_all (hc : X.calm = true) (hm : X.mg "all" = none) (ha : DA X E [e] Ts) (hg : Gl X "all" := by rfl) (he : starEach [e] X.env = (false, eval e X.env) :: starEach [] X.env := by rfl) :
    DE X E (.Call (.Name "all" p) [e] [] pos) (tdCB (fun ss δ Q => on1 (fun s δ => allD s δ Q) ss δ) Ts) := de_callB (cr_all hc) snd_all PyProof.Rows.boot_all hm ha hg (he := he) (hpl := rfl)
theorem de_any (hc : X.calm = true) (hm : X.mg "any" = none) (ha : DA X E [e] Ts) (hg : Gl X "any" := by rfl) (he : starEach [e] X.env = (false, eval e X.env) :: starEach [] X.env := by rfl) :
    DE X E (.Call (.Name "any" p) [e] [] pos) (tdCB (fun ss δ Q => on1 (fun s δ => anyD s δ Q) ss δ) Ts) := de_callB (cr_any hc) snd_any PyProof.Rows.boot_any hm ha hg (he := he) (hpl := rfl)
theorem de_max (hc : X.calm = true) (hm : X.mg "max" = none) (ha : DA X E [e] Ts) (hg : Gl X "max" := by rfl) (he : starEach [e] X.env = (false, eval e X.env) :: starEach [] X.env := by rfl) :
    DE X E (.Call (.Name "max" p) [e] [] pos) (tdCB (fun ss δ Q => on1 (fun s δ => maxD s δ Q) ss δ) Ts) := de_callB (cr_max hc) snd_max (by decide +kernel) hm ha hg (he := he) (hpl := rfl)
theorem de_min (hc : X.calm = true) (hm : X.mg "min" = none) (ha : DA X E [e] Ts) (hg : Gl X "min" := by rfl) (he : starEach [e] X.env = (false, eval e X.env) :: starEach [] X.env := by rfl) :
    DE X E (.Call (.Name "min" p) [e] [] pos) (tdCB (fun ss δ Q => on1 (fun s δ => minD s δ Q) ss δ) Ts) := de_callB (cr_min hc) snd_min PyProof.Rows.boot_min hm ha hg (he := he) (hpl := rfl)
theorem de_tuple (hm : X.mg "tuple" = none) (ha : DA X E [e] Ts) (hg : Gl X "tuple" := by rfl) (he : starEach [e] X.env = (false, eval e X.env) :: starEach [] X.env := by rfl) :
    DE X E (.Call (.Name "tuple" p) [e] [] pos) (tdCB (fun ss δ Q => on1 (fun s δ => tupleD s δ Q) ss δ) Ts) := de_callTy call_tuple_of snd_tuple (by decide +kernel) hm ha hg (he := he) (hpl := rfl)
theorem de_list (hm : X.mg "list" = none) (ha : DA X E [e] Ts) (hg : Gl X "list" := by rfl) (he : starEach [e] X.env = (false, eval e X.env) :: starEach [] X.env := by rfl) :
    DE X E (.Call (.Name "list" p) [e] [] pos) (tdCB (fun ss δ Q => on1 (fun s δ => listD s δ Q) ss δ) Ts) := de_callTy call_list_of snd_list (by decide +kernel) hm ha hg (he := he) (hpl := rfl)
theorem de_sorted (hm : X.mg "sorted" = none) (ha : DA X E [e] Ts) (hc : CallR X (.builtin "sorted") (rSortedI X.K) := by exact cr_sortedI) (hg : Gl X "sorted" := by rfl) (he : starEach [e] X.env = (false, eval e X.env) :: starEach [] X.env := by rfl) :
    DE X E (.Call (.Name "sorted" p) [e] [] pos) (tdCB (fun ss δ Q => on1 (fun s δ => sortedD s δ Q) ss δ) Ts) := de_callB hc snd_sorted (by decide +kernel) hm ha hg (he := he) (hpl := rfl)
end
end HR
namespace HR
open PySem PySem.Spec L2
open PyProof.Rows hiding St
/-! ### constants of the module -/
structure CstD (K : PySem.W.Frag) (mg : Str → Option Value) (x : Str) (d : D) : Prop where
  ex : ∃ u v, mg x = some u ∧ RelV v u ∧ ∀ M H, Enc K M H v d
theorem de_const {X : Cx} {E : Ent} {x : Str} {pos : Pos} {d : D} (c : CstD X.K X.mg x d) (hg : Gl X x := by rfl) (hd : (x == ("__debug__" : Str)) = false := by decide) : DE X E (.Name x pos) (tdC d) :=
  let ⟨_, _, h1, h2, h3⟩ := c.ex; de_glob h1 h2 h3 hg hd
theorem cst_int {K : PySem.W.Frag} {mg : Str → Option Value} {x : Str} {i : Int} {t : Tok} (h : mg x = some (.int i t)) : CstD K mg x (.int i) := ⟨_, .int i, h, ⟨t, rfl⟩, fun _ _ => .int i⟩
/-! ### no dict within data -/
mutual
def noDict : D → Bool
  | .dict _ => false
  | .list xs => noDicts xs
  | .tuple xs => noDicts xs
  | _ => true
def noDicts : List D → Bool
  | [] => true
  | x :: xs => noDict x && noDicts xs
end
theorem noDicts_mem : ∀ {xs : List D} {x : D}, noDicts xs = true → x ∈ xs → noDict x = true
  | y :: ys, x, h, m => by
    unfold noDicts at h
    rw [Bool.and_eq_true] at h
    rcases List.mem_cons.mp m with rfl | m
    · exact h.1
    · exact noDicts_mem h.2 m
mutual
theorem Enc.noDict {K : PySem.W.Frag} {M : Addr → Prop} {H : Hp} : ∀ {v : V} {d : D}, Enc K M H v d → HR.noDict d = true
  | _, _, .non => rfl
  | _, _, .bl _ => rfl
  | _, _, .int _ => rfl
  | _, _, .str _ => rfl
  | _, _, .lst _ _ r => EncS.noDicts r
  | _, _, .tup _ r _ => EncS.noDicts r
theorem EncS.noDicts {K : PySem.W.Frag} {M : Addr → Prop} {H : Hp} : ∀ {v : List V} {d : List D}, EncS K M H v d → HR.noDicts d = true
  | _, _, .nil => rfl
  | _, _, .cons h r => by
    show (HR.noDict _ && HR.noDicts _) = true
    rw [Enc.noDict h, EncS.noDicts r]
    rfl
end
/-! ### loops and comprehensions over typed lists -/
theorem compD_typed {α : Type} {g : TDG} {tt : TDT} {te : TD} {vs : List Nat} {chk : Env → Prop} {δ : Env} {Q : List D → Env → Prop} (enc : α → D) (p : α → Bool) (f : α → D) (hc : chk δ) : ∀ (xs : List α) (acc : List D),
    (∀ x ∈ xs, ∀ (K : List D → Env → Prop) (acc : List D), (if p x = true then K (acc ++ [f x]) δ else K acc δ) → (g (.val (enc x)) δ fun δ1 => tt δ1 fun b δ2 => if b = true then te δ2 fun s δ3 => asD s δ3 fun d δ4 => K (acc ++ [d]) (wipeE δ4 vs) else K acc (wipeE δ2 vs))) →
    Q (acc ++ (xs.filter p).map f) δ → compD g tt te vs chk (xs.map enc) acc δ Q
  | [], acc, _, q => ⟨hc, by simpa using q⟩
  | x :: xs, acc, h, q => by
    refine ⟨hc, h x List.mem_cons_self (fun acc δ => compD g tt te vs chk (xs.map enc) acc δ Q) acc ?_⟩
    by_cases hp : p x = true
    · rw [if_pos hp]
      refine compD_typed enc p f hc xs _ (fun y hy => h y (List.mem_cons_of_mem _ hy)) ?_
      rw [List.filter_cons, if_pos hp] at q
      simpa using q
    · rw [if_neg hp]
      refine compD_typed enc p f hc xs _ (fun y hy => h y (List.mem_cons_of_mem _ hy)) ?_
      rw [List.filter_cons, if_neg hp] at q
      exact q
theorem compD_map {α : Type} {g : TDG} {tt : TDT} {te : TD} {vs : List Nat} {chk : Env → Prop} {δ : Env} {Q : List D → Env → Prop} (enc : α → D) (f : α → D) (xs : List α) (hc : chk δ)
    (h : ∀ x ∈ xs, ∀ (K : List D → Env → Prop) (acc : List D), K (acc ++ [f x]) δ → (g (.val (enc x)) δ fun δ1 => tt δ1 fun b δ2 => if b = true then te δ2 fun s δ3 => asD s δ3 fun d δ4 => K (acc ++ [d]) (wipeE δ4 vs) else K acc (wipeE δ2 vs)))
    (q : Q (xs.map f) δ) : compD g tt te vs chk (xs.map enc) [] δ Q :=
  compD_typed enc (fun _ => true) f hc xs [] (fun x hx K acc k => h x hx K acc (by simpa using k)) (by rw [List.filter_eq_self.mpr (fun _ _ => rfl)]; exact q)
theorem forD_invR {α : Type} {g : TDG} {body : TDS} {chk : Env → Prop} {D : En} {δ : Env} (enc : α → HR.D) (xs : List α) (I : List α → Env → Prop) (h0 : I [] δ) (hc : ∀ done δ, I done δ → chk δ)
    (step : ∀ done x rest δ, xs = done ++ x :: rest → I done δ → ∀ K : Env → Prop, (∀ δ', I (done ++ [x]) δ' → K δ') → g (.val (enc x)) δ fun δ1 => body { D with nx := K, ct := K, bk := D.nx } δ1)
    (hend : ∀ δ, I xs δ → D.nx δ) : forD g body chk (xs.map enc) D δ := by
  have key : ∀ (rest done : List α) (δ : Env), xs = done ++ rest → I done δ → forD g body chk (rest.map enc) D δ := by
    intro rest
    induction rest with
    | nil =>
      intro done δ e i
      have e' : done = xs := by rw [e, List.append_nil]
      subst e'
      exact ⟨hc _ _ i, hend δ i⟩
    | cons x rest ih =>
      intro done δ e i
      exact ⟨hc _ _ i, step done x rest δ e i _ fun δ' i' => ih (done ++ [x]) δ' (by rw [e, List.append_assoc]; rfl) i'⟩
  exact key xs [] δ rfl h0
/-- a loop that is left at its end alone -/
theorem forD_inv {α : Type} {g : TDG} {body : TDS} {chk : Env → Prop} {D : En} {δ : Env} (enc : α → HR.D) (xs : List α) (I : List α → Env → Prop) (h0 : I [] δ) (hc : ∀ done δ, I done δ → chk δ)
    (step : ∀ done x rest δ, xs = done ++ x :: rest → I done δ → ∀ K : En, (∀ δ', I (done ++ [x]) δ' → K.nx δ') → g (.val (enc x)) δ (body K))
    (hend : ∀ δ, I xs δ → D.nx δ) : forD g body chk (xs.map enc) D δ :=
  forD_invR enc xs I h0 hc (fun done x rest δ e i K k => step done x rest δ e i _ k) hend
/-- a loop over data as it stands -/
theorem map_id_D (xs : List D) : xs.map (fun x => x) = xs := by simp
theorem zipD_map {α β : Type} (f : α → D) (g : β → D) : ∀ (xs : List α) (ys : List β), zipD (xs.map f) (ys.map g) = (xs.zip ys).map fun p => .tuple [f p.1, g p.2]
  | [], _ => by simp [zipD]
  | _ :: _, [] => by simp [zipD]
  | x :: xs, y :: ys => by
    have ih := zipD_map f g xs ys
    unfold zipD at ih ⊢
    simp only [List.map_cons, List.zip_cons_cons, List.cons.injEq, true_and]
    exact ih
theorem cutD_map {α β : Type} (f : α → β) (xs : List α) (lo hi : Option Int) : cutD (xs.map f) lo hi = (cutD xs lo hi).map f := by
  unfold cutD
  rw [List.length_map, List.map_take, List.map_drop]
theorem cutD_from {α : Type} (xs : List α) (k : Nat) : cutD xs (some (k : Int)) none = xs.drop k := by
  unfold cutD
  rw [HT.sIx_nat, HT.sIx_none]
  by_cases h : k ≤ xs.length
  · rw [Nat.min_eq_left h]
    exact List.take_of_length_le (by simp)
  · rw [Nat.min_eq_right (by omega), List.drop_of_length_le (by omega), List.drop_of_length_le (by omega)]
    simp
theorem cutD_to {α : Type} (xs : List α) (k : Nat) : cutD xs none (some (k : Int)) = xs.take k := by
  unfold cutD
  rw [HT.sIx_nat, HT.sIx_none]
  simp only [List.drop_zero, Nat.sub_zero]
  by_cases h : k ≤ xs.length
  · rw [Nat.min_eq_left h]
  · rw [Nat.min_eq_right (by omega), List.take_of_length_le (by omega), List.take_of_length_le (by omega)]
theorem cut1 {α : Type} (xs : List α) : cutD xs (some 1) none = xs.drop 1 := cutD_from xs 1
end HR
namespace HR
open PySem PySem.Spec L2
theorem room65 {k : Nat} {A : Around} (r : Room k A) : A.units + 65 < cLine := by have := r.un; omega
end HR
namespace HR
open PySem PySem.Spec L2
open PyProof.Rows hiding St
open PySem.W (Datum Tup T3 T4 SomeDatum)
/-! ### data with a Lean type -/
class Shp (α : Type) [DecidableEq α] [Datum α] : Prop where
  lay : ∀ a : α, (Datum.toD a).canLay0 = true
instance : Shp Int := ⟨fun _ => rfl⟩
instance : Shp Bool := ⟨fun _ => rfl⟩
instance : Shp Unit := ⟨fun _ => rfl⟩
section
variable {α β γ : Type} [DecidableEq α] [Datum α] [Shp α] [DecidableEq β] [Datum β] [Shp β] [DecidableEq γ] [Datum γ] [Shp γ]
theorem lay_map : ∀ xs : List α, PyData.canLayAll0 (xs.map Datum.toD) = true
  | [] => rfl
  | x :: xs => by
    show (PyData.canLay0 (Datum.toD x) && PyData.canLayAll0 (xs.map Datum.toD)) = true
    rw [Shp.lay x, lay_map xs]
    rfl
instance : Shp (List α) := ⟨fun xs => lay_map xs⟩
instance : Shp (Tup α) := ⟨fun t => lay_map t.items⟩
instance : Shp (α × β) := ⟨fun p => by
  show (PyData.canLay0 (Datum.toD p.1) && (PyData.canLay0 (Datum.toD p.2) && true)) = true
  rw [Shp.lay, Shp.lay]; rfl⟩
instance : Shp (T3 α β γ) := ⟨fun p => by
  show (PyData.canLay0 (Datum.toD p.a) && (PyData.canLay0 (Datum.toD p.b) && (PyData.canLay0 (Datum.toD p.c) && true))) = true
  rw [Shp.lay, Shp.lay, Shp.lay]; rfl⟩
instance [SomeDatum α] : Shp (Option α) := ⟨fun o => match o with
  | none => rfl
  | some a => Shp.lay a⟩
theorem shaped_dat (a : α) (h : Datum.depth α ≤ 64) : SeqAt.shaped (Datum.toD a) = true := by
  unfold SeqAt.shaped
  rw [Shp.lay a, Bool.true_and, decide_eq_true_eq]
  exact Nat.le_trans (Datum.depth_le a) h
/-- a == b, data of one type -/
theorem eqD_dat {s t : SV} {δ : Env} {Q : VD} (a b : α) (h1 : DataR s δ (Datum.toD a)) (h2 : DataR t δ (Datum.toD b)) (q : Q (.val (.bool (decide (a = b)))) δ) (h : Datum.depth α ≤ 64 := by decide) : eqD s t δ Q :=
  ⟨_, _, h1, h2, shaped_dat a h, shaped_dat b h, by rw [Datum.eqv]; exact q⟩
theorem neD_dat {s t : SV} {δ : Env} {Q : VD} (a b : α) (h1 : DataR s δ (Datum.toD a)) (h2 : DataR t δ (Datum.toD b)) (q : Q (.val (.bool (!decide (a = b)))) δ) (h : Datum.depth α ≤ 64 := by decide) : neD s t δ Q :=
  ⟨_, _, h1, h2, shaped_dat a h, shaped_dat b h, by rw [Datum.eqv]; exact q⟩
/-- a in xs, xs a list -/
theorem inD_dat {neg : Bool} {s t : SV} {δ : Env} {Q : VD} (a : α) (xs : List α) (h1 : DataR s δ (Datum.toD a)) (h2 : View t δ (xs.map Datum.toD)) (q : Q (.val (.bool (decide (a ∈ xs) != neg))) δ) (h : Datum.depth α ≤ 63 := by decide) : inD neg s t δ Q := by
  refine ⟨_, h1, ?_⟩
  have key : ∃ ds, View t δ ds ∧ SeqAt.shaped (Datum.toD a) = true ∧ SeqAt.shaped (.list ds) = true ∧ Q (.val (.bool ((ds.any fun e => PyData.eqv e (Datum.toD a)) != neg))) δ :=
    ⟨_, h2, shaped_dat a (by omega), shaped_dat (α := List α) xs (Nat.succ_le_succ h), by rw [W.any_datum]; exact q⟩
  cases t with
  | val d => cases d <;> first | exact key | exact absurd h2 (fun z => nomatch z)
  | _ => exact key
end
/-- a in a tuple of ints -/
theorem inD_tup {neg : Bool} {s : SV} {δ : Env} {Q : VD} (a : Int) (xs : List Int) (h1 : DataR s δ (.int a)) (q : Q (.val (.bool (decide (a ∈ xs) != neg))) δ) : inD neg s (.val (.tuple (xs.map .int))) δ Q := by
  refine ⟨_, h1, rfl, ?_, ?_⟩
  · rw [List.all_map]
    exact List.all_eq_true.mpr fun _ _ => rfl
  · have := W.any_datum xs a
    rw [show (((xs.map PyData.int).any fun e => PyData.eqv e (.int a))) = decide (a ∈ xs) from this]
    exact q
theorem eqv_bool (a b : Bool) : PyData.eqv (.bool a) (.bool b) = decide (a = b) := Datum.eqv a b
theorem eqv_int (a b : Int) : PyData.eqv (.int a) (.int b) = decide (a = b) := Datum.eqv a b
/-! ### readings made short -/
theorem getI_nat {α : Type} (xs : List α) (k : Nat) : getI xs (k : Int) = xs[k]? := by
  unfold getI
  rw [if_pos (Int.natCast_nonneg k)]
  rfl
theorem getI_in {α : Type} {xs : List α} {k : Int} (h0 : 0 ≤ k) (h1 : k.toNat < xs.length) : getI xs k = some (xs[k.toNat]'h1) := by
  unfold getI
  rw [if_pos h0, List.getElem?_eq_getElem h1]
theorem all_flat (xs : List Int) : (xs.map PyData.int).all flatD = true := by
  rw [List.all_map]
  exact List.all_eq_true.mpr fun _ _ => rfl
theorem any_int (xs : List Int) (a : Int) : ((xs.map PyData.int).any fun e => PyData.eqv e (.int a)) = decide (a ∈ xs) := W.any_datum xs a
theorem md {j : Int} (h : 0 < j) : 0 < j := h
theorem mulR {i j : Int} (h : -1000000000 ≤ j := by decide) (h' : j ≤ 1000000000 := by decide) : CMul i j := .inr ⟨by omega, by omega⟩
theorem mulL {i j : Int} (h : -1000000000 ≤ i := by decide) (h' : i ≤ 1000000000 := by decide) : CMul i j := .inl ⟨by omega, by omega⟩
/-! ### loops over ranges -/
theorem range_split {n x : Nat} {done rest : List Nat} (h : List.range n = done ++ x :: rest) : done.length = x ∧ x < n := by
  have h1 : (List.range n)[done.length]? = some x := by rw [h]; simp
  have h2 : done.length < n := by
    have := congrArg List.length h
    simp at this
    omega
  rw [List.getElem?_range h2] at h1
  cases h1
  exact ⟨rfl, h2⟩
theorem forD_rngR {g : TDG} {body : TDS} {chk : Env → Prop} {D : En} {δ : Env} {lo : Int} {n : Nat} (I : Nat → Env → Prop) (h0 : I 0 δ) (hc : ∀ i δ, I i δ → chk δ)
    (step : ∀ i δ, i < n → I i δ → ∀ K : Env → Prop, (∀ δ', I (i + 1) δ' → K δ') → g (.val (.int (lo + (i : Nat)))) δ fun δ1 => body { D with nx := K, ct := K, bk := D.nx } δ1)
    (hend : ∀ δ, I n δ → D.nx δ) : forD g body chk (rangeD lo n) D δ := by
  refine forD_invR (fun i : Nat => .int (lo + (i : Int))) (List.range n) (fun done δ => I done.length δ) h0 (fun _ _ i => hc _ _ i) (fun done x rest δ e i K k => ?_) (fun δ i => hend δ (by simpa using i))
  obtain ⟨h1, h2⟩ := range_split e
  rw [h1] at i
  exact step x δ h2 i K fun δ' i' => k δ' (by rw [List.length_append, h1]; exact i')
theorem forD_rng {g : TDG} {body : TDS} {chk : Env → Prop} {D : En} {δ : Env} {lo : Int} {n : Nat} (I : Nat → Env → Prop) (h0 : I 0 δ) (hc : ∀ i δ, I i δ → chk δ)
    (step : ∀ i δ, i < n → I i δ → ∀ K : En, (∀ δ', I (i + 1) δ' → K.nx δ') → g (.val (.int (lo + (i : Nat)))) δ (body K))
    (hend : ∀ δ, I n δ → D.nx δ) : forD g body chk (rangeD lo n) D δ :=
  forD_rngR I h0 hc (fun i δ hi h K k => step i δ hi h _ k) hend
end HR
namespace HR
open PySem PySem.Spec L2
open PyProof.Rows hiding St
/-! ### tuple(range(..)), list(range(..)) -/
def tdRg1 (Ta : TD) (k : List D → Env → VD → Prop) : TD := fun δ Q => Ta δ fun s δ1 => ∃ n, s = .val (.int n) ∧ n ≤ 16777216 ∧ -(2 ^ 62) ≤ n ∧ k (rangeD 0 n.toNat) δ1 Q
def tdRg2 (Ta Tb : TD) (k : List D → Env → VD → Prop) : TD := fun δ Q => Ta δ fun s δ1 => Tb δ1 fun t δ2 => ∃ i j, s = .val (.int i) ∧ t = .val (.int j) ∧ -(2 ^ 62) ≤ i ∧ i < 2 ^ 62 ∧ -(2 ^ 62) ≤ j ∧ j < 2 ^ 62 ∧ j - i ≤ 16777216 ∧ k (rangeD i (j - i).toNat) δ2 Q
def kTupD (ds : List D) (δ : Env) (Q : VD) : Prop := Q (.val (.tuple ds)) δ
def kLstD (ds : List D) (δ : Env) (Q : VD) : Prop := ∀ p, Q (.own p ds) δ
theorem enc_rg {K : PySem.W.Frag} {M : Addr → Prop} {H : Hp} (a b : Int) : EncS K M H (rgV a b) (rangeD a (b - a).toNat) := by
  have e1 : rgV a b = ((List.range (b - a).toNat).map fun i : Nat => a + (i : Int)).map V.int := by unfold rgV; rw [List.map_map]; rfl
  have e2 : rangeD a (b - a).toNat = ((List.range (b - a).toNat).map fun i : Nat => a + (i : Int)).map PyData.int := by unfold rangeD; rw [List.map_map]; rfl
  rw [e1, e2]
  exact EncS.of_ints _
section
variable {X : Cx} {E : Ent} {a b : Expr} {Ta Tb : TD} {p p2 pos pos2 : Pos}
theorem rg1_ok {K : PySem.W.Frag} {k : List D → Env → VD → Prop} {f : Int → Int → Hp → (V → Hp → Prop) → Prop}
    (hf : ∀ (σ : L2.St) (H : Hp) (δ : Env) (π : Tmp) (i j : Int) (Q : VK) (Q' : VD), Rep K E σ H δ π → RgOk i j → k (rangeD i (j - i).toNat) δ Q' → (∀ v H' u δ', Rep K E σ H' δ' ((v, u) :: π) → Q' u δ' → Q v H') → f i j H Q) :
    ∀ σ H Q, lE K E (tdRg1 Ta k) σ H Q → tRg1 (lE K E Ta) σ H fun i j H1 => f i j H1 Q := fun σ H Q ⟨δ, π, Q', R, t, kk⟩ =>
  ⟨δ, π, _, R, t, fun v H1 s δ1 R1 ⟨n, e, h1, h2, q⟩ => by
    subst e
    have e1 := R1.isInt (π' := π) (v := v) (i := n) List.mem_cons_self
    subst e1
    refine ⟨n, rfl, hf _ _ _ _ _ _ _ _ R1.drop ⟨by omega, by omega, by omega, by omega, by omega⟩ ?_ kk⟩
    rw [show n - 0 = n by omega]
    exact q⟩
theorem rg2_ok {K : PySem.W.Frag} {k : List D → Env → VD → Prop} {f : Int → Int → Hp → (V → Hp → Prop) → Prop}
    (hf : ∀ (σ : L2.St) (H : Hp) (δ : Env) (π : Tmp) (i j : Int) (Q : VK) (Q' : VD), Rep K E σ H δ π → RgOk i j → k (rangeD i (j - i).toNat) δ Q' → (∀ v H' u δ', Rep K E σ H' δ' ((v, u) :: π) → Q' u δ' → Q v H') → f i j H Q) :
    ∀ σ H Q, lE K E (tdRg2 Ta Tb k) σ H Q → tRg2 (lE K E Ta) (lE K E Tb) σ H fun i j H1 => f i j H1 Q := fun σ H Q ⟨δ, π, Q', R, t, kk⟩ =>
  ⟨δ, π, _, R, t, fun v H1 s δ1 R1 t1 => ⟨δ1, (v, s) :: π, _, R1, t1, fun w H2 u δ2 R2 ⟨i, j, e1, e2, h1, h2, h3, h4, h5, q⟩ => by
    subst e1 e2
    have f2 := R2.isInt (π' := (v, .val (.int i)) :: π) (v := w) (i := j) List.mem_cons_self
    have f1 := R2.drop.isInt (π' := π) (v := v) (i := i) List.mem_cons_self
    subst f1 f2
    exact ⟨i, j, rfl, rfl, hf _ _ _ _ _ _ _ _ R2.drop.drop ⟨h1, h2, h3, h4, by omega⟩ q kk⟩⟩⟩
theorem ktup_ok {K : PySem.W.Frag} (σ : L2.St) (H : Hp) (δ : Env) (π : Tmp) (i j : Int) (Q : VK) (Q' : VD) (R : Rep K E σ H δ π) (o : RgOk i j) (q : kTupD (rangeD i (j - i).toNat) δ Q') (k : ∀ v H' u δ', Rep K E σ H' δ' ((v, u) :: π) → Q' u δ' → Q v H') :
    RgOk i j ∧ ∀ q, H q = none → Q (.ref q) (upd H q (.tup (rgV i j))) := ⟨o, fun z n => by
  obtain ⟨G, M, R⟩ := R
  exact k _ _ _ _ ⟨_, _, R.newTup n (enc_rg i j)⟩ q⟩
theorem klst_ok {K : PySem.W.Frag} (σ : L2.St) (H : Hp) (δ : Env) (π : Tmp) (i j : Int) (Q : VK) (Q' : VD) (R : Rep K E σ H δ π) (o : RgOk i j) (q : kLstD (rangeD i (j - i).toNat) δ Q') (k : ∀ v H' u δ', Rep K E σ H' δ' ((v, u) :: π) → Q' u δ' → Q v H') :
    RgOk i j ∧ ∀ q, H q = none → Q (.ref q) (upd H q (.lst (rgV i j))) := ⟨o, fun z n => by
  obtain ⟨G, M, R⟩ := R
  exact k _ _ _ _ ⟨_, _, R.fresh n (enc_rg i j)⟩ (q z)⟩
theorem de_tupRg1 (hc : X.calm = true) (ht : X.mg "tuple" = none) (hr : X.mg "range" = none) (ha : DE X E a Ta) (hg : Gl X "tuple" := by rfl) (hg2 : Gl X "range" := by rfl)
    (na : starEach [a] X.env = (false, eval a X.env) :: starEach [] X.env := by rfl) (nr : starEach [.Call (.Name "range" p2) [a] [] pos2] X.env = (false, eval (.Call (.Name "range" p2) [a] [] pos2) X.env) :: starEach [] X.env := by rfl) :
    DE X E (.Call (.Name "tuple" p) [.Call (.Name "range" p2) [a] [] pos2] [] pos) (tdRg1 Ta kTupD) :=
  PE.imp (pe_tupRg hc hg ht (prg_1 hg2 hr ha na) nr) (rg1_ok ktup_ok)
theorem de_tupRg2 (hc : X.calm = true) (ht : X.mg "tuple" = none) (hr : X.mg "range" = none) (ha : DE X E a Ta) (hb : DE X E b Tb) (hg : Gl X "tuple" := by rfl) (hg2 : Gl X "range" := by rfl)
    (na : starEach [a, b] X.env = (false, eval a X.env) :: starEach [b] X.env := by rfl) (nb : starEach [b] X.env = (false, eval b X.env) :: starEach [] X.env := by rfl)
    (hp : (backTo pos2 (starEach [b] X.env)).any (·.1) = false := by rfl) (nr : starEach [.Call (.Name "range" p2) [a, b] [] pos2] X.env = (false, eval (.Call (.Name "range" p2) [a, b] [] pos2) X.env) :: starEach [] X.env := by rfl) :
    DE X E (.Call (.Name "tuple" p) [.Call (.Name "range" p2) [a, b] [] pos2] [] pos) (tdRg2 Ta Tb kTupD) :=
  PE.imp (pe_tupRg hc hg ht (prg_2 hg2 hr ha hb na nb hp) nr) (rg2_ok ktup_ok)
theorem de_listRg1 (hc : X.calm = true) (ht : X.mg "list" = none) (hr : X.mg "range" = none) (ha : DE X E a Ta) (hg : Gl X "list" := by rfl) (hg2 : Gl X "range" := by rfl)
    (na : starEach [a] X.env = (false, eval a X.env) :: starEach [] X.env := by rfl) (nr : starEach [.Call (.Name "range" p2) [a] [] pos2] X.env = (false, eval (.Call (.Name "range" p2) [a] [] pos2) X.env) :: starEach [] X.env := by rfl) :
    DE X E (.Call (.Name "list" p) [.Call (.Name "range" p2) [a] [] pos2] [] pos) (tdRg1 Ta kLstD) :=
  PE.imp (pe_listRg hc hg ht (prg_1 hg2 hr ha na) nr) (rg1_ok klst_ok)
theorem de_listRg2 (hc : X.calm = true) (ht : X.mg "list" = none) (hr : X.mg "range" = none) (ha : DE X E a Ta) (hb : DE X E b Tb) (hg : Gl X "list" := by rfl) (hg2 : Gl X "range" := by rfl)
    (na : starEach [a, b] X.env = (false, eval a X.env) :: starEach [b] X.env := by rfl) (nb : starEach [b] X.env = (false, eval b X.env) :: starEach [] X.env := by rfl)
    (hp : (backTo pos2 (starEach [b] X.env)).any (·.1) = false := by rfl) (nr : starEach [.Call (.Name "range" p2) [a, b] [] pos2] X.env = (false, eval (.Call (.Name "range" p2) [a, b] [] pos2) X.env) :: starEach [] X.env := by rfl) :
    DE X E (.Call (.Name "list" p) [.Call (.Name "range" p2) [a, b] [] pos2] [] pos) (tdRg2 Ta Tb kLstD) :=
  PE.imp (pe_listRg hc hg ht (prg_2 hg2 hr ha hb na nb hp) nr) (rg2_ok klst_ok)
end
/-! ### sorted(set(t)), t a tuple or a list of ints -/
/-- the ints of ns in order, each once -/
def Normal (ns out : List Int) : Prop := out.Pairwise (· < ·) ∧ ∀ k, k ∈ out ↔ k ∈ ns
def rSetTI (K : PySem.W.Frag) (w : World) : List V → Hp → VK → Prop := fun xs H Q => ∃ (p : Addr) (ns : List Int), xs = [.ref p] ∧ SqT K H p (ns.map V.int) ∧ ns.length ≤ 1000 ∧
  ∀ (a : Addr) (n : Nat) (ks : List Int), ks.Nodup → (∀ k, k ∈ ks ↔ k ∈ ns) → ks.length = n → H a = none → Q (.ref a) (upd H a (SetO w a (fun j => decide (j ∈ ns)) n))
theorem cr_setTI {X : Cx} (hc : X.calm = true) : CallR X (.type "set") (rSetTI X.K X.w) := by
  intro pn s σ H vs us Q I r h
  obtain ⟨p, ns, rfl, hp, hl, q⟩ := h
  rw [Vals.ref1 r]
  obtain ⟨its, rv, pt, hz⟩ := I.tuple hp
  have iA : IntsAre its.toArray.toList ns := ints_of_vals rv
  refine call_set_tupI ns (I.ok.hd hc) (show s.heap.IsTuple p its.toArray from pt) iA (by unfold scanBound; omega) fun h' tk c R1 hcn k => ?_
  have R2 := R1
  obtain ⟨_, es, _, _, _, _, _, _, nd, hm2, _, _, hn, _, _⟩ := R1
  have hfresh : H s.heap.objs.size = none := I.hok.fresh (Nat.le_refl _)
  refine ⟨.ref s.heap.objs.size, upd H s.heap.objs.size (SetO X.w s.heap.objs.size _ c), I.laid (t' := tk) k (Nat.le_refl _) (setO_new R2), rfl, q _ c (es.toList.map keyOf) nd (fun j => ?_) (by rw [List.length_map, Array.length_toList]; exact hn) hfresh⟩
  rw [← hm2 j, decide_eq_true_eq]
theorem nodup_len {xs ys : List Int} (h : xs.Nodup) (s : ∀ k, k ∈ xs → k ∈ ys) : xs.length ≤ ys.length := h.length_le_of_subset s
def tdSortSet (T : TD) : TD := fun δ Q => T δ fun s δ1 => ∃ ns bnd : List Int, s = .val (.tuple (ns.map .int)) ∧ ns.length ≤ 1000 ∧ bnd.length < 64 ∧ (∀ k ∈ ns, k ∈ bnd) ∧ ∀ out, Normal ns out → ∀ p, Q (.own p (out.map .int)) δ1
theorem de_sortSet {X : Cx} {E : Ent} {a : Expr} {T : TD} {p p2 pos pos2 : Pos} (hc : X.calm = true) (hs : X.mg "sorted" = none) (ht : X.mg "set" = none) (ha : DE X E a T) (hg : Gl X "sorted" := by rfl) (hg2 : Gl X "set" := by rfl)
    (na : starEach [a] X.env = (false, eval a X.env) :: starEach [] X.env := by rfl) (nr : starEach [.Call (.Name "set" p2) [a] [] pos2] X.env = (false, eval (.Call (.Name "set" p2) [a] [] pos2) X.env) :: starEach [] X.env := by rfl) :
    DE X E (.Call (.Name "sorted" p) [.Call (.Name "set" p2) [a] [] pos2] [] pos) (tdSortSet T) := by
  refine PE.imp (pe_callB (cr_sortedSet hc) hg hs rfl (pa_cons (pe_callTy (cr_setTI hc) hg2 ht rfl (pa_cons ha pa_nil na) (by decide) (by decide) na rfl) pa_nil nr) (by decide) (by decide) nr rfl) fun σ H Q ⟨δ, π, Q', R, t, k⟩ => ?_
  refine ⟨δ, π, _, R, t, fun v H1 s δ1 R1 ⟨ns, bnd, e, hl, hb, hsub, q⟩ => ?_⟩
  subst e
  obtain ⟨G, M, R1⟩ := R1
  have z : Enc X.K M H1 v (.tuple (ns.map .int)) := R1.top
  cases z with
  | tup a1 a2 a3 =>
    rename_i vs ad
    refine ⟨_, ns, rfl, by rw [← a2.ints]; exact a1, hl, fun a n ks nd mem len hn => ?_⟩
    refine ⟨a, _, n, rfl, upd_same, ?_, fun out z hp hm hz hn2 => ?_⟩
    · have := nodup_len nd (fun k hk => hsub k ((mem k).mp hk))
      omega
    · refine k _ _ _ _ ⟨_, _, ((R1.drop).laid hn).fresh hn2 (EncS.of_ints out)⟩ (q out ⟨hp, fun k => ?_⟩ z)
      rw [hm k, decide_eq_true_eq]
end HR
namespace HR
open PySem PySem.Spec L2
open PyProof.Rows hiding St
/-! ### list(zip(a, b)), a and b lists -/
/-- what stands behind i draws: the list made so far (at S), its tuples all there -/
structure LZ (h0 : Heap) (S z TI TO i1 i2 a b : Addr) (xs ys : Array Value) (i : Nat) (acc : Array Value) (h : Heap) : Prop where
  pr : IsPair h TI (.ref i1) (.ref i2)
  t1 : h.IsListIter i1 a i
  t2 : h.IsListIter i2 b i
  la : h.IsList a xs
  lb : h.IsList b ys
  zz : (IsZip h z TI TO .none ∧ ∃ u v, IsPair h TO u v) ∨ ∃ T f oT, IsZipHeld h z TI TO T f ∧ h.get? T = some oT ∧ T ≠ z ∧ T ≠ i1 ∧ T ≠ i2 ∧ T ≠ S
  to : ∃ o, h.get? TO = some o
  len : acc.size = i
  tup : ∀ (j : Nat) v, acc[j]? = some v → ∃ T x y, v = .ref T ∧ h0.objs.size ≤ T ∧ T ≠ z ∧ T ≠ TO ∧ T ≠ i1 ∧ T ≠ i2 ∧ T ≠ S ∧ IsPair h T x y ∧ xs[j]? = some x ∧ ys[j]? = some y
  nd : acc.toList.Nodup
  old : ∀ c o, h0.get? c = some o → h.get? c = some o
section
variable {h0 h h' : Heap} {S z TI TO i1 i2 a b : Addr} {xs ys acc : Array Value} {i : Nat}
/-- the list's own object may change -/
theorem LZ.frame (L : LZ h0 S z TI TO i1 i2 a b xs ys i acc h) (hs : h0.objs.size ≤ S) (n1 : TI ≠ S) (n2 : i1 ≠ S) (n3 : i2 ≠ S) (n4 : a ≠ S) (n5 : b ≠ S) (n6 : z ≠ S) (n7 : TO ≠ S) (k : ∀ c o, c ≠ S → h.get? c = some o → h'.get? c = some o) :
    LZ h0 S z TI TO i1 i2 a b xs ys i acc h' where
  pr := k _ _ n1 L.pr
  t1 := L.t1.at fun o e => k _ o n2 e
  t2 := L.t2.at fun o e => k _ o n3 e
  la := L.la.at fun o e => k _ o n4 e
  lb := L.lb.at fun o e => k _ o n5 e
  zz := by
    rcases L.zz with ⟨q, u, v, p⟩ | ⟨T, f, oT, q, e, m1, m2, m3, m4⟩
    · exact .inl ⟨k _ _ n6 q, u, v, k _ _ n7 p⟩
    · exact .inr ⟨T, f, oT, k _ _ n6 q, k _ _ m4 e, m1, m2, m3, m4⟩
  to := let ⟨o, e⟩ := L.to; ⟨o, k _ _ n7 e⟩
  len := L.len
  tup := fun j v e => by
    obtain ⟨T, x, y, e1, e2, m1, m2, m3, m4, m5, p, hx, hy⟩ := L.tup j v e
    exact ⟨T, x, y, e1, e2, m1, m2, m3, m4, m5, k _ _ m5 p, hx, hy⟩
  nd := L.nd
  old := fun c o e => k _ _ (fun z => by
    have := Heap.lt_size e
    rw [z] at this
    exact absurd this (Nat.not_lt.mpr hs)) (L.old c o e)
end
section
variable {prog : Program} {w : World} {A : Around} {R : Result → Shared → Prop} {h0 : Heap} {S z TI TO i1 i2 a b : Addr} {xs ys : Array Value}
theorem LZ.item {E : Value → Shared → Prop} {s : Shared} {i : Nat} {acc : Array Value} {Q : Option Value → Shared → Prop} (D : ZipApart z TI TO i1 i2 a b) (L : LZ h0 S z TI TO i1 i2 a b xs ys i acc s.heap) (hi : i < min xs.size ys.size)
    (h0s : h0.objs.size ≤ s.heap.objs.size) (hS : ∃ o, s.heap.get? S = some o) (hz0 : ∀ c o, h0.get? c = some o → c ≠ z ∧ c ≠ TO ∧ c ≠ i1 ∧ c ≠ i2) (hSz : S ≠ z ∧ S ≠ TO ∧ S ≠ i1 ∧ S ≠ i2)
    (h : ∀ h' v, (∀ acc', acc' = acc.push v → LZ h0 S z TI TO i1 i2 a b xs ys (i + 1) acc' h') → (∀ o, s.heap.get? S = some o → h'.get? S = some o) → s.heap.objs.size ≤ h'.objs.size → Q (some v) { s with heap := h' }) : wpAny (model prog w) A (pyNext (.ref z)) Q E s := by
  have hix : i < xs.size := Nat.lt_of_lt_of_le hi (Nat.min_le_left ..)
  have hiy : i < ys.size := Nat.lt_of_lt_of_le hi (Nat.min_le_right ..)
  have ex := Array.getElem?_eq_getElem hix
  have ey := Array.getElem?_eq_getElem hiy
  have lt : ∀ {c : Addr} {o}, s.heap.get? c = some o → s.heap.objs.size ≠ c := fun e => Nat.ne_of_gt (Heap.lt_size e)
  have m1 : s.heap.objs.size ≠ i1 := let ⟨_, e, _⟩ := L.t1; lt e
  have m2 : s.heap.objs.size ≠ i2 := let ⟨_, e, _⟩ := L.t2; lt e
  have mS : s.heap.objs.size ≠ S := let ⟨_, e⟩ := hS; lt e
  have fin : ∀ h' : Heap, h'.IsListIter i1 a (i + 1) → h'.IsListIter i2 b (i + 1) → IsPair h' s.heap.objs.size xs[i] ys[i] → h'.objs.size = s.heap.objs.size + 1 → s.heap.objs.size ≠ z → s.heap.objs.size ≠ TO →
      (∀ c o, c ≠ z → c ≠ TO → c ≠ i1 → c ≠ i2 → s.heap.get? c = some o → h'.get? c = some o) →
      ((IsZip h' z TI TO .none ∧ ∃ u v, IsPair h' TO u v) ∨ ∃ T f oT, IsZipHeld h' z TI TO T f ∧ h'.get? T = some oT ∧ T ≠ z ∧ T ≠ i1 ∧ T ≠ i2 ∧ T ≠ S) → (∃ o, h'.get? TO = some o) → Q (some (.ref s.heap.objs.size)) { s with heap := h' } := by
    intro h' a1 a2 a3 a4 a5 a6 hk hz hto
    refine h h' _ (fun acc' ea => ?_) (fun o e => hk _ o hSz.1 hSz.2.1 hSz.2.2.1 hSz.2.2.2 e) (by omega)
    subst ea
    refine ⟨hk _ _ D.TIz D.TITO D.TIi1 D.TIi2 L.pr, a1, a2, L.la.at fun o e => hk _ o D.l1z D.l1TO D.l1i1 D.l1i2 e, L.lb.at fun o e => hk _ o D.l2z D.l2TO D.l2i1 D.l2i2 e, hz, hto, by rw [Array.size_push, L.len], fun j v e => ?_, ?_, fun c o e => ?_⟩
    · by_cases hj : j < acc.size
      · rw [Array.getElem?_push_lt hj, ← Array.getElem?_eq_getElem hj] at e
        obtain ⟨T, x, y, e1, e2, m1, m2, m3, m4, m5, p, hx, hy⟩ := L.tup j v e
        exact ⟨T, x, y, e1, e2, m1, m2, m3, m4, m5, hk _ _ m1 m2 m3 m4 p, hx, hy⟩
      · have hj' : j = acc.size := by
          have := (Array.getElem?_eq_some_iff.mp e).1
          rw [Array.size_push] at this
          omega
        subst hj'
        rw [Array.getElem?_push_size] at e
        cases e
        refine ⟨s.heap.objs.size, xs[i], ys[i], rfl, h0s, a5, a6, m1, m2, mS, a3, ?_, ?_⟩
        · rw [L.len]; exact ex
        · rw [L.len]; exact ey
    · rw [Array.toList_push]
      refine List.nodup_append.mpr ⟨L.nd, (by simp), fun v hv u hu => ?_⟩
      rintro rfl
      have hv' := List.mem_singleton.mp hu
      obtain ⟨j, hj, ej⟩ := List.mem_iff_getElem.mp hv
      have e : acc[j]? = some v := by
        rw [← Array.getElem?_toList, List.getElem?_eq_getElem hj, ej]
      obtain ⟨T, x, y, e1, _, _, _, _, _, _, p, _⟩ := L.tup j v e
      rw [hv'] at e1
      cases e1
      exact lt p rfl
    · obtain ⟨c1, c2, c3, c4⟩ := hz0 c o e
      exact hk c o c1 c2 c3 c4 (L.old c o e)
  rcases L.zz with ⟨q, u, v, p⟩ | ⟨T, f, oT, q, e, r1, r2, r3, r4⟩
  · refine wpAny_pyNext_zip_item D q L.pr p L.t1 L.t2 L.la L.lb ex ey fun h' a1 a2 a3 a4 a5 a6 hk => ?_
    exact fin h' a3 a4 a5 a6 (lt q) (lt p) hk (.inr ⟨s.heap.objs.size, false, _, a1, a5, lt q, m1, m2, mS⟩) ⟨_, a2⟩
  · refine wpAny_pyNext_zip_item_held D q e L.pr L.t1 L.t2 L.la L.lb ex ey fun h' a1 a3 a4 a5 a6 hk => ?_
    obtain ⟨o, eo⟩ := L.to
    exact fin h' a3 a4 a5 a6 (lt q) (lt eo) (fun c o c1 _ c3 c4 e => hk c o c1 c3 c4 e) (.inr ⟨T, true, oT, a1, hk _ _ r1 r2 r3 e, r1, r2, r3, r4⟩) ⟨o, hk _ _ D.TOz D.TOi1 D.TOi2 eo⟩
theorem LZ.done {E : Value → Shared → Prop} {s : Shared} {acc : Array Value} {Q : Option Value → Shared → Prop} (hh : A.handled = none) (D : ZipApart z TI TO i1 i2 a b) (L : LZ h0 S z TI TO i1 i2 a b xs ys (min xs.size ys.size) acc s.heap)
    (hz0 : ∀ c o, h0.get? c = some o → c ≠ z ∧ c ≠ TO ∧ c ≠ i1 ∧ c ≠ i2) (hSz : S ≠ z ∧ S ≠ TO ∧ S ≠ i1 ∧ S ≠ i2)
    (h : ∀ h', (∀ c o, c ≠ z → c ≠ TO → c ≠ i1 → c ≠ i2 → s.heap.get? c = some o → h'.get? c = some o) → Q none { s with heap := h' }) : wpAny (model prog w) A (pyNext (.ref z)) Q E s := by
  have hend : xs[min xs.size ys.size]? = none ∨ ys[min xs.size ys.size]? = none := by
    rcases Nat.le_total xs.size ys.size with q | q
    · exact .inl (Array.getElem?_eq_none (by rw [Nat.min_eq_left q]; exact Nat.le_refl _))
    · exact .inr (Array.getElem?_eq_none (by rw [Nat.min_eq_right q]; exact Nat.le_refl _))
  rcases L.zz with ⟨q, u, v, p⟩ | ⟨T, f, oT, q, e, r1, r2, r3, r4⟩
  · exact wpAny_pyNext_zip_end hh D q L.pr p L.t1 L.t2 L.la L.lb hend fun h' hk => h h' fun c o c1 c2 c3 c4 e => hk c o c1 c2 c3 c4 e
  · exact wpAny_pyNext_zip_end_held hh D q e L.pr L.t1 L.t2 L.la L.lb hend fun h' hk => h h' fun c o c1 _ c3 c4 e => hk c o c1 c3 c4 e
theorem zip_loop (hh : A.handled = none) (D : ZipApart z TI TO i1 i2 a b) (hz0 : ∀ c o, h0.get? c = some o → c ≠ z ∧ c ≠ TO ∧ c ≠ i1 ∧ c ≠ i2) (hSz : S ≠ z ∧ S ≠ TO ∧ S ≠ i1 ∧ S ≠ i2) (hS0 : h0.objs.size ≤ S) (n1 : TI ≠ S) (n4 : a ≠ S) (n5 : b ≠ S)
    (hn : min xs.size ys.size ≤ sizeLine) (res : Value) : ∀ (k i : Nat) (s : Shared) (acc : Array Value) (c : Nat), min xs.size ys.size - i = k → i ≤ min xs.size ys.size → LZ h0 S z TI TO i1 i2 a b xs ys i acc s.heap → h0.objs.size ≤ s.heap.objs.size →
    s.heap.get? S = some { cls := .type "list", dict := none, data := .seq acc c, slots := #[] } →
    (∀ (h' : Heap) (acc' : Array Value) (c' : Nat), (∀ b' o, h0.get? b' = some o → h'.get? b' = some o) → (∀ (j : Nat) (v : Value), acc'[j]? = some v → ∃ T x y, v = .ref T ∧ h0.objs.size ≤ T ∧ T ≠ S ∧ IsPair h' T x y ∧ xs[j]? = some x ∧ ys[j]? = some y) → acc'.size = min xs.size ys.size → acc'.toList.Nodup →
      h'.get? S = some { cls := .type "list", dict := none, data := .seq acc' c', slots := #[] } → R (.ok (.ret res)) { s with heap := h' }) →
    codeAny (model prog w) A (.builtin "list.extend.loop" ⟨[.ref S, .ref z, res], []⟩) R s := by
  intro k
  induction k with
  | zero =>
    intro i s acc c hk hi L hs hS hR
    have hin : i = min xs.size ys.size := by omega
    subst hin
    refine codeAny_builtin F.entry_extend_loop ?_
    rw [Around.under_plainId F.plain_extend_loop _]
    show wpAny _ A.in1 (pyNext (.ref z) >>= _) _ _ s
    refine wpAny_bind (L.done (by first | exact hh | (show A.in1.handled = none; exact hh)) D hz0 hSz fun h' hk' => ?_)
    refine wpAny_pure (hR h' acc c (fun b' o e => let q := hz0 b' o e; hk' b' o q.1 q.2.1 q.2.2.1 q.2.2.2 (L.old b' o e)) (fun j v e => ?_) L.len L.nd (hk' S _ hSz.1 hSz.2.1 hSz.2.2.1 hSz.2.2.2 hS))
    obtain ⟨T, x, y, e1, e2, m1, m2, m3, m4, m5, p, hx, hy⟩ := L.tup j v e
    exact ⟨T, x, y, e1, e2, m5, hk' _ _ m1 m2 m3 m4 p, hx, hy⟩
  | succ k ih =>
    intro i s acc c hk hi L hs hS hR
    have hlt : i < min xs.size ys.size := by omega
    refine codeAny_builtin F.entry_extend_loop ?_
    rw [Around.under_plainId F.plain_extend_loop _]
    show wpAny _ A.in1 (pyNext (.ref z) >>= _) _ _ s
    refine wpAny_bind (L.item D hlt hs ⟨_, hS⟩ hz0 hSz fun h' v L' kS hs' => ?_)
    have hS' := kS _ hS
    have L' := L' _ rfl
    show wpAny _ A.in1 (updateSeq S (·.push v) >>= _) _ _ _
    refine wpAny_bind ?_
    refine wpAny_updateSeq hS' rfl (wpAny_pure ⟨plainId_quiet F.plain_extend_loop _, ih (i + 1) _ (acc.push v) _ (by omega) hlt (L'.frame hS0 n1 hSz.2.2.1.symm hSz.2.2.2.symm n4 n5 hSz.1.symm hSz.2.1.symm fun c o hc e => ?_) ?_ (Heap.get?_update_self _ hS' rfl) fun h'' acc' c' k1 k2 k3 k4 k5 => hR h'' acc' c' k1 k2 k3 k4 k5⟩)
      (by rw [L.len]; omega) (by show (acc.push v).size ≤ sizeLine + 1; rw [Array.size_push, L.len]; omega)
    · exact (Heap.get?_update_other _ _ (Ne.symm hc)).trans e
    · show h0.objs.size ≤ (h'.update S _).objs.size
      rw [Heap.size_update]
      omega
theorem nolen_zip : typeLookup (.type "zip") "__len__" = pure none := by rw [typeLookup_type, builtinLookup_eq_fast]; kernel_rfl
theorem nohint_zip : typeLookup (.type "zip") "__length_hint__" = pure none := by rw [typeLookup_type, builtinLookup_eq_fast]; kernel_rfl
/-- what the list's object is, behind it all -/
abbrev ZEnd (h0 : Heap) (S : Addr) (xs ys : Array Value) (h' : Heap) (acc' : Array Value) (c' : Nat) : Prop := (∀ b' o, h0.get? b' = some o → h'.get? b' = some o) ∧ (∀ (j : Nat) (v : Value), acc'[j]? = some v → ∃ T x y, v = .ref T ∧ h0.objs.size ≤ T ∧ T ≠ S ∧ IsPair h' T x y ∧ xs[j]? = some x ∧ ys[j]? = some y) ∧
  acc'.size = min xs.size ys.size ∧ acc'.toList.Nodup ∧ h'.get? S = some { cls := .type "list", dict := none, data := .seq acc' c', slots := #[] }
theorem zip_extend (hh : A.handled = none) (D : ZipApart z TI TO i1 i2 a b) (hz0 : ∀ c o, h0.get? c = some o → c ≠ z ∧ c ≠ TO ∧ c ≠ i1 ∧ c ≠ i2) (hSz : S ≠ z ∧ S ≠ TO ∧ S ≠ i1 ∧ S ≠ i2) (hS0 : h0.objs.size ≤ S) (n1 : TI ≠ S) (n4 : a ≠ S) (n5 : b ≠ S)
    (hn : min xs.size ys.size ≤ sizeLine) (res : Value) (s : Shared) (c₀ : Nat) (L : LZ h0 S z TI TO i1 i2 a b xs ys 0 #[] s.heap) (hfresh : IsZip s.heap z TI TO .none) (hs : h0.objs.size ≤ s.heap.objs.size) (hS : s.heap.get? S = some { cls := .type "list", data := .seq #[] c₀ })
    (hR : ∀ (h' : Heap) (acc' : Array Value) (c' : Nat), ZEnd h0 S xs ys h' acc' c' → R (.ok (.ret res)) { s with heap := h' }) :
    wpAny (model prog w) A.in1 (Builtin.List.listExtendWith (.ref S) (.ref z) res)
      (fun fin s' => match fin with | .done f => R (.ok f) s' | .again c' => c'.quiet = true ∧ codeAny (model prog w) A c' R s') (fun e s' => R (.error e) s') s := by
  unfold Builtin.List.listExtendWith
  refine wpAny_bind (wpAny_typeOf (T := "zip") ⟨_, hfresh, rfl⟩ ?_)
  have h1 : Builtin.List.listSameRef (.ref S) (.ref z) = false := by simp [Builtin.List.listSameRef, hSz.1]
  have h2 : (Value.type "zip" == Value.type "list") = false := by decide
  have h3 : (Value.type "zip" == Value.type "tuple") = false := by decide
  simp only [h1, h2, h3, Bool.or_false, Bool.false_eq_true, if_false]
  refine wpAny_bind (wpAny_pyIter_zip hfresh ?_)
  refine wpAny_bind (wpAny_holding ?_)
  unfold Builtin.List.listLengthHint
  refine wpAny_bind (wpAny_specialOf ⟨_, hfresh, rfl⟩ nolen_zip ?_)
  show wpAny _ A.in1 (specialOf (Value.ref z) (Str.ofString "__length_hint__") >>= _) _ _ _
  refine wpAny_bind (wpAny_specialOf ⟨_, hfresh, rfl⟩ nohint_zip ?_)
  refine wpAny_pure ?_
  show wpAny _ A.in1 (rule "list.extend.makes-room" >>= fun _ => Builtin.List.listTouch (.ref S) >>= fun _ => again (.builtin "list.extend.loop" ⟨[.ref S, .ref z, res], []⟩)) _ _ _
  refine wpAny_bind (wpAny_rule ?_)
  refine wpAny_bind ?_
  show wpAny _ A.in1 (updateSeq S (·.push .none) >>= fun _ => updateSeq S (·.pop)) _ _ _
  refine wpAny_bind (wpAny_updateSeq hS rfl ?_)
  have hS₂ := Heap.get?_update_self (Obj.mapSeq (·.push Value.none)) hS rfl
  refine wpAny_updateSeq (hz := by seq_fits) hS₂ rfl ?_
  have hS₃ := Heap.get?_update_self (Obj.mapSeq (·.pop)) hS₂ rfl
  have oth : ∀ c o, c ≠ S → s.heap.get? c = some o → ((s.heap.update S (Obj.mapSeq (·.push Value.none))).update S (Obj.mapSeq (·.pop))).get? c = some o :=
    fun c o hc e => (Heap.get?_update_other _ _ (Ne.symm hc)).trans ((Heap.get?_update_other _ _ (Ne.symm hc)).trans e)
  refine wpAny_pure ⟨plainId_quiet F.plain_extend_loop _, zip_loop hh D hz0 hSz hS0 n1 n4 n5 hn res _ 0 _ #[] _ rfl (Nat.zero_le _) (L.frame hS0 n1 hSz.2.2.1.symm hSz.2.2.2.symm n4 n5 hSz.1.symm hSz.2.1.symm oth) ?_ hS₃ fun h' acc' c' k1 k2 k3 k4 k5 => hR h' acc' c' ⟨k1, k2, k3, k4, k5⟩⟩
  show h0.objs.size ≤ ((s.heap.update S _).update S _).objs.size
  rw [Heap.size_update, Heap.size_update]
  exact hs
theorem zip_init (hh : A.handled = none) (D : ZipApart z TI TO i1 i2 a b) (hz0 : ∀ c o, h0.get? c = some o → c ≠ z ∧ c ≠ TO ∧ c ≠ i1 ∧ c ≠ i2) (hSz : S ≠ z ∧ S ≠ TO ∧ S ≠ i1 ∧ S ≠ i2) (hS0 : h0.objs.size ≤ S) (n1 : TI ≠ S) (n4 : a ≠ S) (n5 : b ≠ S)
    (hn : min xs.size ys.size ≤ sizeLine) (s : Shared) (L : LZ h0 S z TI TO i1 i2 a b xs ys 0 #[] s.heap) (hfresh : IsZip s.heap z TI TO .none) (hs : h0.objs.size ≤ s.heap.objs.size) (hS : s.heap.get? S = some { cls := .type "list", data := .seq #[] })
    (hR : ∀ (h' : Heap) (acc' : Array Value) (c' : Nat), ZEnd h0 S xs ys h' acc' c' → R (.ok (.ret .none)) { s with heap := h' }) :
    wpAny (model prog w) A.in1 (Builtin.«list.__init__» ⟨[.ref S, .ref z], []⟩)
      (fun fin s' => match fin with | .done f => R (.ok f) s' | .again c' => c'.quiet = true ∧ codeAny (model prog w) A c' R s') (fun e s' => R (.error e) s') s := by
  show wpAny _ _ (do let old ← Builtin.List.listItems (.ref S); Builtin.List.listUpdate (.ref S) (fun _ => #[]); letGo old.toList.reverse; Builtin.List.listExtendWith (.ref S) (.ref z) .none) _ _ s
  refine wpAny_bind ?_
  unfold Builtin.List.listItems
  refine wpAny_bind (wpAny_seqItems hS rfl (wpAny_pure ?_))
  show wpAny _ _ (updateSeq S (fun _ => #[]) >>= fun _ => letGo (#[] : Array Value).toList.reverse >>= fun _ => Builtin.List.listExtendWith (.ref S) (.ref z) .none) _ _ s
  refine wpAny_bind (wpAny_updateSeq hS rfl ?_)
  have hS₂ := Heap.get?_update_self (Obj.mapSeq (fun _ => (#[] : Array Value))) hS rfl
  have oth : ∀ c o, c ≠ S → s.heap.get? c = some o → (s.heap.update S (Obj.mapSeq (fun _ => (#[] : Array Value)))).get? c = some o :=
    fun c o hc e => (Heap.get?_update_other _ _ (Ne.symm hc)).trans e
  refine wpAny_bind (wpAny_letGo ?_)
  refine zip_extend hh D hz0 hSz hS0 n1 n4 n5 hn .none _ _ (L.frame hS0 n1 hSz.2.2.1.symm hSz.2.2.2.symm n4 n5 hSz.1.symm hSz.2.1.symm oth) (oth _ _ hSz.1.symm hfresh) ?_ hS₂ hR
  show h0.objs.size ≤ (s.heap.update S _).objs.size
  rw [Heap.size_update]
  exact hs
/-- list(zip(xs, ys)): the zip object is at hand -/
theorem call_list_zip {E : Value → Shared → Prop} {s : Shared} {Q : Value → Shared → Prop} (hh : A.handled = none) (D : ZipApart z TI TO i1 i2 a b) (hz0 : ∀ c o, h0.get? c = some o → c ≠ z ∧ c ≠ TO ∧ c ≠ i1 ∧ c ≠ i2) (h0s : h0.objs.size ≤ s.heap.objs.size) (hold : ∀ c o, h0.get? c = some o → s.heap.get? c = some o)
    (hn : min xs.size ys.size ≤ sizeLine) (hz : IsZip s.heap z TI TO .none) (hTI : IsPair s.heap TI (.ref i1) (.ref i2)) (hTO : ∃ u v, IsPair s.heap TO u v) (h1 : s.heap.IsListIter i1 a 0) (h2 : s.heap.IsListIter i2 b 0) (la : s.heap.IsList a xs) (lb : s.heap.IsList b ys)
    (hQ : ∀ (h' : Heap) (acc' : Array Value) (c' : Nat), ZEnd h0 s.heap.objs.size xs ys h' acc' c' → Q (.ref s.heap.objs.size) { s with heap := h' }) : wpAny (model prog w) A (call (.type "list") [.ref z]) Q E s := by
  have lt : ∀ {c : Addr} {o}, s.heap.get? c = some o → c ≠ s.heap.objs.size := fun e => Nat.ne_of_lt (Heap.lt_size e)
  obtain ⟨u, v, hTO⟩ := hTO
  have m1 : i1 ≠ s.heap.objs.size := let ⟨_, e, _⟩ := h1; lt e
  have m2 : i2 ≠ s.heap.objs.size := let ⟨_, e, _⟩ := h2; lt e
  have m3 : a ≠ s.heap.objs.size := let ⟨_, e, _⟩ := la; lt e
  have m4 : b ≠ s.heap.objs.size := let ⟨_, e, _⟩ := lb; lt e
  refine callType_codes (Q₁ := fun obj s₁ => obj = .ref s.heap.objs.size ∧ s₁ = { s with heap := s.heap.push { cls := .type "list", data := .seq #[] } }) F.called_list (F.typeCall_list_1 _) F.entry_list_init
    (code_list_new _ ⟨rfl, rfl⟩) fun obj s₁ hob => ?_
  obtain ⟨rfl, rfl⟩ := hob
  have hS : (s.heap.push { cls := .type "list", data := .seq #[] }).get? s.heap.objs.size = some { cls := .type "list", data := .seq #[] } := Heap.get?_push_size _ rfl
  have up : ∀ c o, s.heap.get? c = some o → (s.heap.push { cls := .type "list", data := .seq #[] }).get? c = some o := fun c o e => Heap.get?_push_of_some _ e
  refine ⟨⟨_, hS, rfl⟩, F.args_list_init_2 _ _, zip_init (A := A.in1) hh D hz0 ⟨(lt hz).symm, (lt hTO).symm, m1.symm, m2.symm⟩ h0s (lt hTI) m3 m4 hn _ ⟨up _ _ hTI, h1.at fun o e => up _ o e, h2.at fun o e => up _ o e, la.at fun o e => up _ o e, lb.at fun o e => up _ o e, .inl ⟨up _ _ hz, u, v, up _ _ hTO⟩, ⟨_, up _ _ hTO⟩, rfl, fun j v e => by simp at e, List.nodup_nil, fun c o e => up _ _ (hold c o e)⟩ (up _ _ hz) ?_ hS fun h' acc' c' ze => ?_⟩
  · show h0.objs.size ≤ (s.heap.push _).objs.size
    rw [Heap.size_push]
    omega
  · exact ⟨rfl, hQ h' acc' c' ze⟩
end
/-- tuples laid one behind the other -/
inductive Laid : Hp → List (V × V) → List Addr → Hp → Prop
  | nil {H : Hp} : Laid H [] [] H
  | cons {H H2 : Hp} {T : Addr} {x y : V} {r : List (V × V)} {ts : List Addr} : H T = none → Laid (upd H T (.tup [x, y])) r ts H2 → Laid H ((x, y) :: r) (T :: ts) H2
/-- the tuples that a walk left in the heap, brought into the abstract heap -/
theorem inv_pairs {X : Cx} {pins : List (Addr × Obj)} {σ : L2.St} {s : Shared} {h2 : Heap} : ∀ (ps : List (V × V)) (vs : List Value) (H : Hp) (G : Heap), Inv X pins σ H { s with heap := G } → (∀ b o, G.get? b = some o → h2.get? b = some o) → vs.length = ps.length →
    (∀ (j : Nat) (v : Value) (x y : V), vs[j]? = some v → ps[j]? = some (x, y) → ∃ T u u', v = .ref T ∧ G.get? T = none ∧ H T = none ∧ IsPair h2 T u u' ∧ RelV x u ∧ RelV y u') → vs.Nodup →
    ∃ ts H2 G2, vs = ts.map Value.ref ∧ Laid H ps ts H2 ∧ Inv X pins σ H2 { s with heap := G2 } ∧ (∀ b o, G2.get? b = some o → h2.get? b = some o) ∧ ∀ b, b ∉ ts → G2.get? b = G.get? b ∧ H2 b = H b
  | [], [], H, G, I, k, _, _, _ => ⟨[], H, G, rfl, .nil, I, k, fun _ _ => ⟨rfl, rfl⟩⟩
  | [], _ :: _, _, _, _, _, e, _, _ => by simp at e
  | _ :: _, [], _, _, _, _, e, _, _ => by simp at e
  | (x, y) :: ps, v :: vs, H, G, I, k, el, hp, nd => by
    obtain ⟨T, u, u', rfl, g0, hn, pr, r1, r2⟩ := hp 0 v x y rfl rfl
    obtain ⟨G1, g1, g2⟩ := restrict h2 fun b => (G.get? b).isSome || decide (b = T)
    have kG : ∀ b o, G.get? b = some o → G1.get? b = some o := fun b o e => by
      rw [g1 b (by rw [e]; rfl)]
      exact k b o e
    have kT : IsPair G1 T u u' := by
      show G1.get? T = _
      rw [g1 T (by simp)]
      exact pr
    have k2 : ∀ b o, G1.get? b = some o → h2.get? b = some o := fun b o e => by
      by_cases hb : ((G.get? b).isSome || decide (b = T)) = true
      · rw [← g1 b hb]; exact e
      · rw [g2 b (by simpa using hb)] at e; cases e
    have I1 : Inv X pins σ (upd H T (.tup [x, y])) { s with heap := G1 } := I.laidN (t' := s.toks) kG g0 hn ⟨by show 2 ≤ sizeLine; decide, [u, u'], .cons r1 (.cons r2 .nil), ⟨_, kT, rfl, _, rfl⟩⟩
    obtain ⟨nd1, nd2⟩ := List.nodup_cons.mp nd
    obtain ⟨ts, H2, G2, e1, L, I2, k3, fr⟩ := inv_pairs ps vs _ G1 I1 k2 (by simpa using el) (fun j v x y ev ep => by
      obtain ⟨T', w, w', rfl, a0, an, ap, b1, b2⟩ := hp (j + 1) v x y (by simpa using ev) (by simpa using ep)
      have ne : T' ≠ T := fun z => nd1 (by rw [← z]; exact List.mem_of_getElem? ev)
      refine ⟨T', w, w', rfl, ?_, by rw [upd_ne ne]; exact an, ap, b1, b2⟩
      exact g2 T' (by rw [a0]; simp [ne])) nd2
    refine ⟨T :: ts, H2, G2, by rw [e1]; rfl, .cons hn L, I2, k3, fun b hb => ?_⟩
    obtain ⟨n1, n2⟩ := not_or.mp (fun z => hb (List.mem_cons.mpr z))
    obtain ⟨q1, q2⟩ := fr b n2
    refine ⟨q1.trans ?_, q2.trans (upd_ne n1)⟩
    cases e : G.get? b with
    | none => exact g2 b (by rw [e]; simp [n1])
    | some o => exact kG b o e
def tLstZip (K : PySem.W.Frag) (ta : TA) : TE := fun σ H Q => ta σ H fun vs H1 => ∃ a b xs ys, vs = [.ref a, .ref b] ∧ SqL K H1 a xs ∧ SqL K H1 b ys ∧ ∀ (ts : List Addr) (H2 : Hp) (q : Addr), Laid H1 (xs.zip ys) ts H2 → H2 q = none → Q (.ref q) (upd H2 q (.lst (ts.map V.ref)))
theorem pe_listZip {X : Cx} {e e2 : Expr} {ta : TA} {p p2 pos pos2 : Pos} (hc : X.calm = true) (hm : X.mg "list" = none) (hm2 : X.mg "zip" = none) (ha : PA X [e, e2] ta) (hg : Gl X "list") (hg2 : Gl X "zip")
    (hs : starEach [e, e2] X.env = (false, eval e X.env) :: starEach [e2] X.env) (hpl : (backTo pos2 (starEach [e2] X.env)).any (·.1) = false) (nr : starEach [.Call (.Name "zip" p2) [e, e2] [] pos2] X.env = (false, eval (.Call (.Name "zip" p2) [e, e2] [] pos2) X.env) :: starEach [] X.env) :
    PE X (.Call (.Name "list" p) [.Call (.Name "zip" p2) [e, e2] [] pos2] [] pos) (tLstZip X.K ta) := by
  refine ⟨fun pn s σ H Q I h => ?_⟩
  refine Call_ (ld_blt I hg hm boot_list (PyProof.Rows.callWith_type1 (args_cons ?_ nr) nr))
  refine Call_ (ld_blt I hg2 hm2 PyProof.Rows.boot_zip (PyProof.Rows.callWith_type1 (thn (ha.run pos2 pn s σ H _ I h) fun us s1 ⟨vs, H1, I1, r1, q1⟩ => ?_) hs hpl))
  obtain ⟨a, b, xs, ys, ex, hqx, hqy, q⟩ := q1
  subst ex
  cases r1 with
  | cons r rr =>
    cases rr with
    | cons r' rr =>
      cases rr
      cases r
      cases r'
      obtain ⟨its, rv, p1, hz1⟩ := I1.list hqx
      obtain ⟨its2, rv2, p2', hz2⟩ := I1.list hqy
      refine call_zip_2 p1.isList p2'.isList fun h' hz hTI hTO h1 h2 hsz hk => args_nil ?_
      have oldlt : ∀ (c : Addr) (n : Nat) o, s1.heap.get? c = some o → c ≠ s1.heap.objs.size + n := fun c n o e => by
        have := Heap.lt_size e
        intro z
        rw [z] at this
        exact absurd this (Nat.not_lt.mpr (Nat.le_add_right _ _))
      refine call_list_zip (h0 := s1.heap) (I1.ok.hd hc) (PySem.W.ktu_apart s1.heap.objs.size a b p1.lt p2'.lt) (fun c o e => ⟨oldlt c 4 o e, oldlt c 3 o e, oldlt c 0 o e, oldlt c 1 o e⟩) (by show s1.heap.objs.size ≤ h'.objs.size; omega) hk
        (Nat.le_trans (Nat.min_le_left _ _) (by have := rv.length; simp; omega)) hz hTI ⟨_, _, hTO⟩ h1 h2 (p1.isList.at fun o e => hk _ o e) (p2'.isList.at fun o e => hk _ o e) fun h2' acc c ze => ?_
      obtain ⟨z1, z2, z3, z4, z5⟩ := ze
      have big : s1.heap.objs.size ≤ h'.objs.size := by omega
      have none_of : ∀ T : Addr, s1.heap.objs.size ≤ T → s1.heap.get? T = none := fun T hT => by
        cases e : s1.heap.get? T with
        | none => rfl
        | some o => exact absurd (Heap.lt_size e) (Nat.not_lt.mpr hT)
      have l1 := rv.length
      have l2 := rv2.length
      obtain ⟨ts, H2, G2, e1, L, I2, k3, fr⟩ := inv_pairs (h2 := h2') (xs.zip ys) acc.toList H1 s1.heap I1 z1 (by rw [Array.length_toList, z3, List.length_zip]; simp; omega) (fun j v x y ev ep => by
        obtain ⟨T, u, u', rfl, hT, _, pr, hx, hy⟩ := z2 j v (by rw [← Array.getElem?_toList]; exact ev)
        obtain ⟨ex, ey⟩ := List.getElem?_zip_eq_some.mp ep
        obtain ⟨w, hw, rw1⟩ := rv.get ex
        obtain ⟨w2, hw2, rw2⟩ := rv2.get ey
        have e3 : u = w := by
          have : its[j]? = some u := by simpa using hx
          rw [hw] at this; cases this; rfl
        have e4 : u' = w2 := by
          have : its2[j]? = some u' := by simpa using hy
          rw [hw2] at this; cases this; rfl
        subst e3 e4
        exact ⟨T, _, _, rfl, none_of T hT, I1.hok.fresh hT, pr, rw1, rw2⟩) z4
      have hSts : h'.objs.size ∉ ts := fun m => by
        have m' : Value.ref h'.objs.size ∈ acc.toList := by rw [e1]; exact List.mem_map.mpr ⟨_, m, rfl⟩
        obtain ⟨j, hj, ej⟩ := List.mem_iff_getElem.mp m'
        obtain ⟨T, u, u', eT, _, ne, _⟩ := z2 j (.ref h'.objs.size) (by rw [← Array.getElem?_toList, List.getElem?_eq_getElem hj, ej])
        cases eT
        exact ne rfl
      obtain ⟨f1, f2⟩ := fr _ hSts
      have hn2 : H2 h'.objs.size = none := f2.trans (I1.hok.fresh big)
      have vl : Vals (ts.map V.ref) acc.toList := by
        rw [e1]
        exact vals_refs ts
      refine ⟨.ref h'.objs.size, upd H2 h'.objs.size (.lst (ts.map V.ref)), I2.laidN (t' := s1.toks) k3 (f1.trans (none_of _ big)) hn2 ⟨?_, acc.toList, c, vl, ?_⟩, rfl, q ts H2 _ L hn2⟩
      · show (ts.map V.ref).length ≤ sizeLine
        have : acc.toList.length = ts.length := by rw [e1, List.length_map]
        rw [List.length_map, ← this, Array.length_toList, z3]
        exact Nat.le_trans (Nat.min_le_left _ _) (by simp; omega)
      · rw [Array.toArray_toList]; exact z5
theorem laid_rep {K : PySem.W.Frag} {E : Ent} {G M : Addr → Prop} {σ : L2.St} {δ : Env} {π : Tmp} : ∀ {ps : List (V × V)} {ts : List Addr} {H H2 : Hp}, Laid H ps ts H2 → ∀ {xs ys : List V} {ds es : List D}, ps = xs.zip ys → EncS K M H xs ds → EncS K M H ys es → RepG K E G M σ H δ π →
    RepG K E G M σ H2 δ π ∧ EncS K M H2 (ts.map V.ref) (zipD ds es) ∧ ∀ vs cs, EncS K M H vs cs → EncS K M H2 vs cs
  | _, _, _, _, .nil, xs, ys, ds, es, e, h1, h2, R => by
    refine ⟨R, ?_, fun _ _ h => h⟩
    cases h1 with
    | nil => exact .nil
    | cons a b =>
      cases h2 with
      | nil => exact .nil
      | cons c d => cases e
  | _, _, _, _, .cons (H := H) (T := T) (x := x) (y := y) hn L, xs, ys, ds, es, e, h1, h2, R => by
    cases h1 with
    | nil => cases e
    | cons a b =>
      cases h2 with
      | nil => cases e
      | cons c d =>
        simp only [List.zip_cons_cons, List.cons.injEq, Prod.mk.injEq] at e
        obtain ⟨⟨rfl, rfl⟩, e⟩ := e
        have X : Ext G M H G M (upd H T (.tup [x, y])) := ⟨fun a u q _ => by rw [upd_ne (ne_of_none q hn)]; exact q, fun _ h => h, fun _ h => .inl h, fun _ h => h, fun _ h => .inl h⟩
        have S := X.stay R.good
        have R1 := R.pair hn a c
        obtain ⟨R2, q, st⟩ := laid_rep L e (EncS.stay S b) (EncS.stay S d) R1.drop
        have t1 : EncS K M (upd H T (.tup [x, y])) [V.ref T] [_] := .cons R1.top .nil
        have t2 := st _ _ t1
        cases t2 with
        | cons u _ => exact ⟨R2, .cons u q, fun vs cs h => st _ _ (EncS.stay S h)⟩
/-- list(zip(a, b)), a and b lists -/
def tdListZip (Ts : TDA) : TD := fun δ Q => Ts δ (on2 fun s t δ2 => ∃ xs ys, View s δ2 xs ∧ View t δ2 ys ∧ ∀ p, Q (.own p (zipD xs ys)) δ2)
theorem de_listZip {X : Cx} {E : Ent} {a b : Expr} {Ts : TDA} {p p2 pos pos2 : Pos} (hc : X.calm = true) (hm : X.mg "list" = none) (hm2 : X.mg "zip" = none) (ha : DA X E [a, b] Ts) (hg : Gl X "list" := by rfl) (hg2 : Gl X "zip" := by rfl)
    (hs : starEach [a, b] X.env = (false, eval a X.env) :: starEach [b] X.env := by rfl) (hpl : (backTo pos2 (starEach [b] X.env)).any (·.1) = false := by rfl) (nr : starEach [.Call (.Name "zip" p2) [a, b] [] pos2] X.env = (false, eval (.Call (.Name "zip" p2) [a, b] [] pos2) X.env) :: starEach [] X.env := by rfl) :
    DE X E (.Call (.Name "list" p) [.Call (.Name "zip" p2) [a, b] [] pos2] [] pos) (tdListZip Ts) :=
  PE.imp (pe_listZip hc hm hm2 ha hg hg2 hs hpl nr) fun σ H Q ⟨δ, π, Q', R0, t, k⟩ =>
    ⟨δ, π, _, R0, t, fun vs H1 ss δ1 el R1 q => by
      obtain ⟨s, t, v, w, rfl, rfl, ds, es, e1, e2, q⟩ := on2_iff q el
      obtain ⟨G, M, R1⟩ := R1
      obtain ⟨ad, us, rfl, f1, g1⟩ := R1.view (v := v) (s := s) (by simp) e1
      obtain ⟨bd, ws, rfl, f2, g2⟩ := R1.view (v := w) (s := t) (by simp) e2
      refine ⟨ad, bd, us, ws, rfl, SqL.of f1, SqL.of f2, fun ts H2 z L hn => ?_⟩
      have R2 : RepG X.K E G M σ H1 δ1 π := R1.drop.drop
      obtain ⟨R3, g3, _⟩ := laid_rep L rfl g1 g2 R2
      exact k _ _ _ _ ⟨_, _, R3.fresh hn g3⟩ (q z)⟩
end HR
namespace HR
open PySem PySem.Spec L2
open PyProof.Rows hiding St
open PySem.W PySem.SeqAt
/-! ### sorted of tuples, the empty one among them -/
section
variable {prog : Program} {w : World} {A : Around} {E : Value → Shared → Prop} {s : Shared}
/-- the call of tuple's own __lt__ -/
theorem call_tupLt {Q : Value → Shared → Prop} {l b : Addr} {items items2 : Array Value} {e r : Nat → Bool} (hl : s.heap.IsTuple l items) (hb : s.heap.IsTuple b items2)
    (he : ∀ j (h1 : j < items.size) (h2 : j < items2.size), EqAt A.in1 s items[j] items2[j] (e j)) (hr : ∀ j (h1 : j < items.size) (h2 : j < items2.size), e j = false → RcLt A.in1 s items[j] items2[j] (r j))
    (h : Q (.bool (firstLt e r (decide (items.size < items2.size)) (List.range (min items.size items2.size)))) s) : wpAny (model prog w) A (call (.builtin "tuple.__lt__") [.ref l, .ref b]) Q E s := by
  obtain ⟨⟨c1, dd, d1, sl⟩, ho, hc, n, hd⟩ := id hl
  obtain ⟨⟨c2, dd2, d2, sl2⟩, ho2, hc2, n2, hd2⟩ := id hb
  simp only at hc hd hc2 hd2
  subst hc hd hc2 hd2
  exact call_meets F.slot_tuple_lt ⟨_, ho, rfl⟩ F.entry_tuple_lt (F.args_tuple_lt_2 _ _) (tuple_ltAt l b items items2 n n2 dd dd2 sl sl2 e r) ⟨ho, ho2, he, hr, h⟩
theorem oneLt_tups {xs ys : List PyData} {a b : Value} {as bs : List Addr} {Q : Bool → Shared → Prop} (ra : Reads s.heap a (.tuple xs) as) (rb : Reads s.heap b (.tuple ys) bs) (h : alike (.tuple xs) (.tuple ys) = true)
    (hu : A.units + min (PyData.tuple xs).depth (PyData.tuple ys).depth < cLine) (hq : Q (dataLt (.tuple xs) (.tuple ys)) s) : wpAny (model prog w) A (oneLt' true a b) Q E s := by
  have hal : alikeAll xs ys = true := by simpa [alike] using h
  cases ra with
  | @tuple l o vs n _ as₁ h1 h2 h3 h4 =>
    cases rb with
    | @tuple l' o' vs' n' _ bs₁ k1 k2 k3 k4 =>
      have n1 : vs.size = xs.length := by simpa using ReadsAll.length _ _ _ h4
      have n2 : vs'.size = ys.length := by simpa using ReadsAll.length _ _ _ k4
      rw [dataLt_tuple, ← firstLt_toks xs ys hal, ← n1, ← n2] at hq
      rw [oneLt'_eq]
      simp only [if_true]
      refine wpAny_bind (wpAny_cRoomFor (room_here hu) ?_)
      refine wpAny_bind (wpAny_callSpecialIfBound?_slot (T := "tuple") ⟨_, h1, h2⟩ F.slot_tuple_lt (call_tupLt (e := pairEq xs ys) (r := fun j => dataLt (xs.getD j .none) (ys.getD j .none)) ⟨_, h1, h2, _, h3⟩ ⟨_, k1, k2, _, k3⟩ (fun j j1 j2 => ?_) (fun j j1 j2 hj => ?_) ?_))
      · have q := eqAt_alikeAll xs ys A.in1 s vs.toList vs'.toList _ _ h4 k4 hal (room_in hu) j (by simpa using j1) (by simpa using j2)
        simpa using q
      · have q := rcLt_alikeAll xs ys A.in1 s vs.toList vs'.toList _ _ h4 k4 hal (room_in hu) j (by simpa using j1) (by simpa using j2) hj
        simpa using q
      · exact wpAny_truthy_bool hq
/-- tuples, with their first items (if they have one) -/
def TupOpts (h : Heap) : List Value → List (Option Value) → Prop
  | [], [] => True
  | v :: vs, f :: fs => (∃ a o xs n, v = .ref a ∧ h.get? a = some o ∧ o.cls = .type "tuple" ∧ o.data = .seq xs n ∧ xs[0]? = f) ∧ TupOpts h vs fs
  | _, _ => False
theorem firsts_opts {M : Model} : ∀ (vs : List Value) (fs : List (Option Value)) {Q : List (Option Value) → Shared → Prop}, TupOpts s.heap vs fs → Q fs s → wpAny M A (vs.mapM firstOfTuple') Q E s
  | [], [], _, _, h => by rw [List.mapM_nil]; exact wpAny_pure h
  | [], _ :: _, _, t, _ => t.elim
  | _ :: _, [], _, t, _ => t.elim
  | v :: vs, f :: fs, Q, t, h => by
    obtain ⟨⟨a, o, xs, n, rfl, ho, hc, hd, hf⟩, t⟩ := t
    rw [List.mapM_cons]
    refine wpAny_bind ?_
    rw [kas_first_eq]
    refine wpAny_bind (Looks.here (show Looks M s.heap (typeOf (.ref a)) o.cls from (Looks.ld ho).andThen .now) ?_)
    rw [hc, if_neg (by first | decide | simp)]
    refine wpAny_bind (listItems_at ho hd (wpAny_pure ?_))
    rw [hf]
    exact wpAny_bind (firsts_opts vs fs (Q := fun bs s' => wpAny M A (pure (f :: bs)) Q E s') t (wpAny_pure h))
theorem tupOpts_type {M : Model} : ∀ {vs : List Value} {fs : List (Option Value)} {h : Heap}, TupOpts h vs fs → ∀ v ∈ vs, Looks M h (typeOf v) (.type "tuple")
  | [], _, _, _, v, hv => by cases hv
  | v :: vs, [], _, t, _, _ => t.elim
  | v :: vs, f :: fs, h, ⟨⟨a, o, xs, n, e, ho, hc, _, _⟩, t⟩, u, hu => by
    rcases List.mem_cons.mp hu with rfl | hu
    · subst e
      exact hc ▸ (show Looks M h (typeOf (.ref a)) o.cls from (Looks.ld ho).andThen .now)
    · exact tupOpts_type t u hu
/-- the first tuple is empty -/
theorem kind_opts {M : Model} {v : Value} {vs : List Value} {fs : List (Option Value)} {Q : SortKind → Shared → Prop} (t : TupOpts s.heap (v :: vs) (none :: fs)) (h : Q oneType' s) : wpAny M A (keyKind' (v :: vs).toArray) Q E s := by
  rw [kat_kind_eq, List.mapM_toArray, map_eq_pure_bind]
  refine wpAny_bind (wpAny_bind (firsts_opts (v :: vs) (none :: fs) t (wpAny_pure ?_)))
  rw [if_neg (by simp), if_neg (by simp)]
  rw [oneTypeOnly'_eq, List.mapM_toArray, map_eq_pure_bind]
  refine wpAny_bind (wpAny_bind (wpAny_bind (kas_mapM (r := Value.type "tuple") _ (fun u hu Q' hq => (tupOpts_type t u hu).here hq) (wpAny_pure ?_))))
  have hall : ((List.map (fun _ => Value.type "tuple") (v :: vs)).toArray.all fun x => x == Value.type "tuple") = true := by
    simp only [List.all_toArray, List.all_map, List.all_eq_true]
    intro _ _
    exact beq_self_eq_true _
  have h0 : (List.map (fun _ => Value.type "tuple") (v :: vs)).toArray[0]? = some (Value.type "tuple") := by simp
  rw [h0]
  simp only [hall, if_true]
  exact wpAny_pure (wpAny_pure h)
theorem opts_of : ∀ {vs : List Value} {ds : List PyData} {h : Heap}, EachIs (fun v d => ∃ as, Reads h v d as) vs ds → (∀ d ∈ ds, ∃ xs, d = .tuple xs) → ∃ fs, TupOpts h vs fs ∧ ∀ r, ds = .tuple [] :: r → ∃ fr, fs = none :: fr
  | _, _, h, .nil, _ => ⟨[], trivial, fun _ e => by cases e⟩
  | _, _, h, .cons (b := d) ⟨as, r⟩ t, ht => by
    obtain ⟨fs, h1, _⟩ := opts_of t fun d hd => ht d (List.mem_cons_of_mem _ hd)
    obtain ⟨xs, rfl⟩ := ht d List.mem_cons_self
    cases r with
    | @tuple a o ws n _ _ ho hc hd hr =>
      refine ⟨ws[0]? :: fs, ⟨⟨a, o, ws, n, rfl, ho, hc, hd, rfl⟩, h1⟩, fun q e => ?_⟩
      injection e with e1 e2
      injection e1 with e1
      subst e1
      have : ws.toList = [] := by cases q : ws.toList with
        | nil => rfl
        | cons u r => rw [q] at hr; cases hr
      have : ws = #[] := by simpa using this
      subst this
      exact ⟨fs, rfl⟩
/-- alike tuples, the first of them empty, can be sorted -/
theorem sortsAt_opts {vs : List Value} {ds : List PyData} (e : EachIs (fun v d => ∃ as, Reads s.heap v d as) vs ds) (hal : AllAlike ds) (ht : ∀ d ∈ ds, ∃ xs, d = .tuple xs) (h0 : ∃ r, ds = .tuple [] :: r) (hu : ∀ d, d ∈ ds → A.units + d.depth < cLine) : SortsAt prog w A s (dataKind s.heap ds) vs := by
  refine ⟨fun v hv => ?_, oneType', ?_, fun h2 E Q hq => ?_⟩
  · obtain ⟨d, hd, as, r⟩ := e.left v hv
    exact ⟨_, dataKind_some hal hd r⟩
  · intro E x y a b Q ha hb hq
    obtain ⟨d, as, hd, ra, rfl⟩ := dataKind_inv ha
    obtain ⟨d', as', hd', rb, rfl⟩ := dataKind_inv hb
    obtain ⟨xs, rfl⟩ := ht d hd
    obtain ⟨ys, rfl⟩ := ht d' hd'
    rw [keyLt'_oneType]
    exact oneLt_tups ra rb (hal _ hd _ hd') (Nat.lt_of_le_of_lt (Nat.add_le_add_left (Nat.min_le_left _ _) _) (hu _ hd)) hq
  · obtain ⟨fs, t, hf⟩ := opts_of e ht
    obtain ⟨r, rfl⟩ := h0
    obtain ⟨fr, rfl⟩ := hf r rfl
    cases e with
    | cons h1 h3 => exact kind_opts t hq
end
/-- what sorted asks of the items' data -/
def SortOk (ds : List PyData) : Prop := Sortable ds ∨ ((∀ d ∈ ds, ∃ xs, d = .tuple xs) ∧ ∃ r, ds = .tuple [] :: r)
theorem sorted_dat {prog : Program} {w : World} {A : Around} {E : Value → Shared → Prop} {s : Shared} {β : Type} {vs : List Value} {bs : List β} {enc : β → PyData} {R : Value → β → Prop} {l : Addr} {Q : Value → Shared → Prop} (hl : s.heap.IsList l vs.toArray) (e : EachIs R vs bs) (er : EachIs (fun v b => ∃ as, Reads s.heap v (enc b) as) vs bs)
    (hal : AllAlike (bs.map enc)) (hk : SortOk (bs.map enc)) (hL : bs.length ≤ sizeLine) (hu : ∀ b, b ∈ bs → A.units + 2 + (enc b).depth < cLine)
    (h : ∀ out, out.length = bs.length → EachIs R out (bs.mergeSort (dataLe false enc)) → Q (.ref (s.heap.objs.size + 1)) { s with heap := sortedAll s.heap vs (List.toArray out) }) : wpAny (model prog w) A (call (.builtin "sorted") [.ref l]) Q E s := by
  rcases hk with hk | ⟨h1, h2⟩
  · exact sorted_data hl e er hal hk hL hu h
  · have er' : EachIs (fun v b => ∃ as, Reads (sortingHeap (copyHeap s.heap vs) (s.heap.objs.size + 1) vs) v (enc b) as) vs bs := er.mono fun _ _ ⟨as, r⟩ => ⟨as, PyProof.Rows.Reads.keeps (fun _ _ => sorting_copy_old) r⟩
    exact sorted_vals hl (sortsAt_opts (s := { s with heap := sortingHeap (copyHeap s.heap vs) (s.heap.objs.size + 1) vs }) (each_map (R := fun v d => ∃ as, Reads (sortingHeap (copyHeap s.heap vs) (s.heap.objs.size + 1) vs) v d as) enc er') hal h1 h2 (bound_map hu)) (by rw [e.length]; exact hL)
      (h _ (by rw [sortVals_length false rfl]; exact e.length) (sortVals_data false e er' hal))
theorem each_of_dp {X : Cx} {pins : List (Addr × Obj)} {σ : L2.St} {H : Hp} {s : Shared} (I : Inv X pins σ H s) : ∀ {vs : List V} {us : List Value} {ds : List PyData}, Vals vs us → DpAll X.K H vs ds → EachIs (fun u (b : V × PyData) => RelV b.1 u) us (vs.zip ds) ∧ EachIs (fun u (b : V × PyData) => ∃ as, Reads s.heap u b.2 as) us (vs.zip ds)
  | _, _, _, .nil, .nil => ⟨.nil, .nil⟩
  | _, _, _, .cons r rs, .cons h hs => by
    obtain ⟨e1, e2⟩ := each_of_dp I rs hs
    exact ⟨.cons r e1, .cons (Dp.reads I _ _ _ h r) e2⟩
theorem vals_of_each : ∀ {us : List Value} {bs : List (V × PyData)}, EachIs (fun u (b : V × PyData) => RelV b.1 u) us bs → Vals (bs.map (·.1)) us
  | _, _, .nil => .nil
  | _, _, .cons r rs => .cons r (vals_of_each rs)
/-- sorted(xs), xs a list of alike data -/
def rSortDat (K : PySem.W.Frag) : List V → Hp → VK → Prop := fun vs H Q => ∃ (a : Addr) (xs : List V) (ds : List PyData), vs = [.ref a] ∧ SqL K H a xs ∧ DpAll K H xs ds ∧ AllAlike ds ∧ SortOk ds ∧ (∀ d ∈ ds, d.depth ≤ 60) ∧
  ∀ (zs : List (V × PyData)) (q : Addr), zs = (xs.zip ds).mergeSort (dataLe false (fun b : V × PyData => b.2)) → H q = none → Q (.ref q) (upd H q (.lst (zs.map (·.1))))
theorem dpAll_len {K : PySem.W.Frag} {H : Hp} : ∀ {vs : List V} {ds : List PyData}, DpAll K H vs ds → vs.length = ds.length
  | _, _, .nil => rfl
  | _, _, .cons _ hs => by simp [dpAll_len hs]
theorem map_snd_zip {K : PySem.W.Frag} {H : Hp} {vs : List V} {ds : List PyData} (h : DpAll K H vs ds) : (vs.zip ds).map (fun b : V × PyData => b.2) = ds := List.map_snd_zip (by rw [dpAll_len h]; exact Nat.le_refl _)
theorem cr_sortDat {X : Cx} (hu : X.A.units + 64 < cLine) : CallR X (.builtin "sorted") (rSortDat X.K) := by
  intro pn s σ H vs us Q I r h
  obtain ⟨a, xs, ds, rfl, hs, hd, hal, hk, hdep, q⟩ := h
  obtain ⟨its, rv, hl, hz⟩ := I.list hs
  rw [Vals.ref1 r]
  obtain ⟨e1, e2⟩ := each_of_dp I rv hd
  have em := map_snd_zip hd
  refine sorted_dat (enc := fun b : V × PyData => b.2) hl.isList e1 e2 (by rw [em]; exact hal) (by rw [em]; exact hk) ?_ (fun b hb => ?_) fun out ho eo => ?_
  · rw [List.length_zip]
    exact Nat.le_trans (Nat.min_le_left _ _) hz
  · have := hdep b.2 (by rw [← em]; exact List.mem_map.mpr ⟨b, hb, rfl⟩)
    omega
  · obtain ⟨ep, he'⟩ := PyProof.Rows.sortedAll_at s.heap its (List.toArray out)
    have hp : ((xs.zip ds).mergeSort (dataLe false fun b : V × PyData => b.2)).length ≤ sizeLine := by
      rw [List.length_mergeSort, List.length_zip]
      exact Nat.le_trans (Nat.min_le_left _ _) hz
    refine ⟨.ref _, upd H (s.heap.objs.size + 1) (.lst (((xs.zip ds).mergeSort (dataLe false fun b : V × PyData => b.2)).map (·.1))), I.laid (t' := s.toks) (fun _ _ => PyProof.Rows.sortedAll_old) (Nat.le_succ _) ⟨by rw [List.length_map]; exact hp, out, ep, vals_of_each eo, he'⟩, rfl, q _ _ rfl (I.hok.fresh (Nat.le_succ _))⟩
/-! the rule -/
theorem encS_zip {K : PySem.W.Frag} {M : Addr → Prop} {H : Hp} : ∀ {vs : List V} {ds : List D}, EncS K M H vs ds → ∀ b ∈ vs.zip ds, Enc K M H b.1 b.2
  | _, _, .nil, b, h => by cases h
  | _, _, .cons h r, b, m => by
    rw [List.zip_cons_cons] at m
    rcases List.mem_cons.mp m with rfl | m
    · exact h
    · exact encS_zip r b m
theorem encS_of {K : PySem.W.Frag} {M : Addr → Prop} {H : Hp} : ∀ {bs : List (V × D)}, (∀ b ∈ bs, Enc K M H b.1 b.2) → EncS K M H (bs.map (·.1)) (bs.map (·.2))
  | [], _ => .nil
  | b :: bs, h => .cons (h b List.mem_cons_self) (encS_of fun c m => h c (List.mem_cons_of_mem _ m))
theorem encS_dpAll {K : PySem.W.Frag} {M : Addr → Prop} {H : Hp} : ∀ {vs : List V} {ds : List D}, EncS K M H vs ds → DpAll K H vs ds
  | _, _, .nil => .nil
  | _, _, .cons h r => .cons (Enc.dp h) (encS_dpAll r)
def sortDatD (s : SV) (δ : Env) (Q : VD) : Prop := ∃ ds, View s δ ds ∧ AllAlike ds ∧ SortOk ds ∧ (∀ d ∈ ds, d.depth ≤ 60) ∧ ∀ p, Q (.own p (ds.mergeSort (dataLe false fun d : D => d))) δ
theorem sort_snd {vs : List V} {ds : List D} (el : vs.length = ds.length) : ((vs.zip ds).mergeSort (dataLe false fun b : V × D => b.2)).map (fun b => b.2) = ds.mergeSort (dataLe false fun d : D => d) := by
  refine (sort_maps (r := dataLe false fun b : V × D => b.2) (s := dataLe false fun d : D => d) (fun b : V × D => b.2) (fun _ _ _ _ => rfl)).trans ?_
  rw [List.map_snd_zip (by rw [el]; exact Nat.le_refl _)]
theorem snd_sortDat {K : PySem.W.Frag} {E : Ent} : SndC K E (rSortDat K) (fun ss δ Q => on1 (fun s δ => sortDatD s δ Q) ss δ) := snd1 fun σ H v s δ π Q Q' R ⟨ds, e, ha, hk, hd, q⟩ k => by
  obtain ⟨G, M, R⟩ := R
  obtain ⟨a, vs, rfl, a1, a2⟩ := R.view List.mem_cons_self e
  refine ⟨a, vs, ds, rfl, SqL.of a1, encS_dpAll a2, ha, hk, hd, fun zs z hz hn => ?_⟩
  subst hz
  have en : EncS K M H (((vs.zip ds).mergeSort (dataLe false fun b : V × D => b.2)).map (·.1)) (ds.mergeSort (dataLe false fun d : D => d)) := by
    rw [← sort_snd a2.length]
    exact encS_of fun b m => encS_zip a2 b (List.mem_mergeSort.mp m)
  exact k _ _ _ _ ⟨_, _, R.drop.fresh hn en⟩ (q z)
theorem de_sortDat {X : Cx} {E : Ent} {e : Expr} {Ts : TDA} {pos p : Pos} (hu : X.A.units + 64 < cLine) (hm : X.mg "sorted" = none) (ha : DA X E [e] Ts) (hg : Gl X "sorted" := by rfl)
    (he : starEach [e] X.env = (false, eval e X.env) :: starEach [] X.env := by rfl) : DE X E (.Call (.Name "sorted" p) [e] [] pos) (tdCB (fun ss δ Q => on1 (fun s δ => sortDatD s δ Q) ss δ) Ts) :=
  de_callB (cr_sortDat hu) snd_sortDat rfl hm ha hg (by decide) (by decide) he rfl
/-- typed data -/
theorem sortDat_typed {α : Type} [DecidableEq α] [DatumOrd α] {s : SV} {δ : Env} {Q : VD} (as : List α) (h : View s δ (as.map Datum.toD)) (hk : SortOk (as.map Datum.toD)) (hd : Datum.depth α ≤ 60)
    (q : ∀ zs : List α, zs = as.mergeSort (dataLe false fun x : α => Datum.toD x) → zs.Perm as → zs.Pairwise (fun x y => DatumOrd.lt y x = false) → ∀ p, Q (.own p (zs.map Datum.toD)) δ) : sortDatD s δ Q := by
  refine ⟨_, h, fun d m d' m' => ?_, hk, fun d m => ?_, fun p => ?_⟩
  · obtain ⟨x, _, rfl⟩ := List.mem_map.mp m
    obtain ⟨y, _, rfl⟩ := List.mem_map.mp m'
    exact DatumOrd.alike x y
  · obtain ⟨x, _, rfl⟩ := List.mem_map.mp m
    exact Nat.le_trans (Datum.depth_le x) hd
  · have e : (as.map Datum.toD).mergeSort (dataLe false fun d : D => d) = (as.mergeSort (dataLe false fun x : α => Datum.toD x)).map Datum.toD :=
      (sort_maps (Datum.toD : α → D) (fun _ _ _ _ => rfl)).symm
    rw [e]
    refine q _ rfl (List.mergeSort_perm _ _) ?_ p
    refine (sort_pairwise (sortLe_total (listOrd itemOrd) false _) as).imp fun {x y} h => ?_
    have h' : (!dataLt (Datum.toD y) (Datum.toD x)) = true := h
    rw [DatumOrd.lt_eq] at h'
    simpa using h'
theorem sortDat_rest {α : Type} [DecidableEq α] [DatumOrd α] {Z : List D → Prop} (as : List α) (hk : SortOk (as.map Datum.toD)) (hd : Datum.depth α ≤ 60)
    (q : ∀ zs : List α, zs = as.mergeSort (dataLe false fun x : α => Datum.toD x) → zs.Perm as → zs.Pairwise (fun x y => DatumOrd.lt y x = false) → Z (zs.map Datum.toD)) :
    AllAlike (as.map Datum.toD) ∧ SortOk (as.map Datum.toD) ∧ (∀ d ∈ as.map Datum.toD, d.depth ≤ 60) ∧ Z ((as.map Datum.toD).mergeSort (dataLe false fun d : D => d)) := by
  obtain ⟨ds, h1, h2, h3, h4, h5⟩ := sortDat_typed (s := .own 0 (as.map Datum.toD)) (δ := []) (Q := fun r _ => match r with
    | .own _ es => Z es
    | _ => True) as rfl hk hd fun zs e1 e2 e3 _ => q zs e1 e2 e3
  have e : as.map Datum.toD = ds := by
    have z : some (tagOf (.own 0 (as.map Datum.toD)), as.map Datum.toD) = some (tagOf (.own 0 (as.map Datum.toD)), ds) := h1
    injection z with z
    exact congrArg Prod.snd z
  subst e
  exact ⟨h2, h3, h4, h5 0⟩
end HR
namespace HR
open PySem PySem.Spec L2
open PyProof.Rows hiding St
/-! ### the scopes of a def's comprehensions, in the order of the text -/
def lcsE : Nat → Expr → List Scope
  | 0, _ => []
  | n + 1, e => match e with
    | .BoolOp _ vs _ => vs.flatMap (lcsE n)
    | .BinOp a _ b _ => lcsE n a ++ lcsE n b
    | .UnaryOp _ a _ => lcsE n a
    | .IfExp a b c _ => lcsE n a ++ lcsE n b ++ lcsE n c
    | .ListComp e gs s _ => s :: ((gs.flatMap fun g => lcsE n g.iter ++ g.ifs.flatMap (lcsE n)) ++ lcsE n e)
    | .Compare a _ bs _ => lcsE n a ++ bs.flatMap (lcsE n)
    | .Call f as _ _ => lcsE n f ++ as.flatMap (lcsE n)
    | .Attribute a _ _ => lcsE n a
    | .Subscript a b _ => lcsE n a ++ lcsE n b
    | .Starred a _ => lcsE n a
    | .List es _ => es.flatMap (lcsE n)
    | .Tuple es _ _ => es.flatMap (lcsE n)
    | .Yield (some a) _ => lcsE n a
    | _ => []
def lcsS : Nat → Stmt → List Scope
  | 0, _ => []
  | n + 1, st => match st with
    | .FunctionDef _ _ b _ _ _ _ _ _ _ => b.flatMap (lcsS n)
    | .Return (some e) _ => lcsE n e
    | .Assign ts e _ => ts.flatMap (lcsE n) ++ lcsE n e
    | .AugAssign t _ e _ => lcsE n t ++ lcsE n e
    | .For t i b o _ => lcsE n t ++ lcsE n i ++ b.flatMap (lcsS n) ++ o.flatMap (lcsS n)
    | .While t b o _ => lcsE n t ++ b.flatMap (lcsS n) ++ o.flatMap (lcsS n)
    | .If t b o _ => lcsE n t ++ b.flatMap (lcsS n) ++ o.flatMap (lcsS n)
    | .Expr e _ => lcsE n e
    | .Try b _ _ _ _ => b.flatMap (lcsS n)
    | _ => []
/-- the k-th comprehension's scope -/
abbrev lcK (st : Stmt) (k : Nat) : Scope := (lcsS 30 st).getD k (defScope st)
/-- the scope of a comprehension's block within a scope -/
abbrev relab (s fs : Scope) : Scope := { s with names := s.names.map fun (n, k) => if (k == NameKind.free && fs.kind == .function && fs.names.lookup n == some .cell) then (n, NameKind.cell) else (n, k) }
end HR
namespace HR
open PySem PySem.Spec L2
open PyProof.Rows hiding St
/-! ### a pair of own lists -/
section
variable {K : PySem.W.Frag} {E : Ent} {G M : Addr → Prop} {σ : L2.St} {H : Hp} {δ : Env} {π : Tmp} {v w : V}
theorem RepG.twoT {p q t : Addr} {ds es : List D} (R : RepG K E G M σ H δ ((v, .own p ds) :: (w, .own q es) :: π)) (n : H t = none) :
    RepG K E G M σ (upd H t (.tup [v, w])) δ ((.ref t, .two t p q ds es) :: π) := by
  have R' := R.laid (o := .tup [v, w]) n
  obtain ⟨rfl, m1, l1⟩ := R'.top
  obtain ⟨rfl, m2, l2⟩ := R'.drop.top
  refine ⟨R'.g0, R'.ext, R'.good, R'.len, R'.slot, fun x hx => ?_, R'.nd⟩
  rcases List.mem_cons.mp hx with rfl | hx
  · exact ⟨rfl, upd_same, m1, m2, l1, l2⟩
  · exact R'.tmp x (List.mem_cons_of_mem _ (List.mem_cons_of_mem _ hx))
theorem RepG.twoFree {p q t : Addr} {ds es : List D} (R : RepG K E G M σ H δ ((v, .two t p q ds es) :: π)) :
    RepG K E G (but (but M p) q) σ H δ ((v, .val (.tuple [.list ds, .list es])) :: π) := by
  obtain ⟨rfl, rd, m1, m2, l1, l2⟩ := R.top
  have R2 : RepG K E G M σ H δ ((.ref p, .own p ds) :: (.ref q, .own q es) :: π) := by
    refine ⟨R.g0, R.ext, R.good, R.len, R.slot, fun x hx => ?_, R.nd⟩
    rcases List.mem_cons.mp hx with rfl | hx
    · exact ⟨rfl, m1, l1⟩
    rcases List.mem_cons.mp hx with rfl | hx
    · exact ⟨rfl, m2, l2⟩
    · exact R.tmp x (List.mem_cons_of_mem _ hx)
  have R3 := (R2.freezeT.perm (List.Perm.swap _ _ _)).freezeT
  have e2 : Enc K (but (but M p) q) H (.ref q) (.list es) := R3.top
  have e1 : Enc K (but (but M p) q) H (.ref p) (.list ds) := R3.drop.top
  have rt := R.top
  exact R3.drop.drop.push (s := .val (.tuple [.list ds, .list es])) (.tup (.inl (.inl rd)) (.cons e1 (.cons e2 .nil)) (.inl rd)) rfl
/-- one of the two is written -/
theorem RepG.writeTwo (R : RepG K E G M σ H δ π) {i : Nat} {t p q : Addr} {ds es : List D} (h : δ[i]? = some (.two t p q ds es)) (a : Bool) {us : List V} {fs : List D} (hu : EncS K M H us fs) :
    RepG K E G M σ (upd H (if a then p else q) (.lst us)) (δ.set i (if a then .two t p q fs es else .two t p q ds fs)) π := by
  have pq : p ≠ q := fun z => by
    have nd := R.nd
    subst z
    have hm : SV.two t p p ds es ∈ δ := List.mem_of_getElem? h
    have h1 := (List.nodup_append.mp nd).1
    obtain ⟨a, b, rfl⟩ := List.append_of_mem hm
    rw [List.flatMap_append, List.flatMap_cons] at h1
    have h2 := (List.nodup_append.mp (List.nodup_append.mp h1).2.1).1
    have h2 : [p, p].Nodup := h2
    simp at h2
  cases a with
  | true =>
    exact R.writeO (s := .two t p q ds es) (t := .two t p q fs es) h (by simp [owned]) rfl (fun z => nomatch z) fun v r m S => by
      obtain ⟨e, rd, m1, m2, l1, vs, l2, l3⟩ := r
      exact ⟨e, S.tup _ _ rd, m1, m2, ⟨us, upd_same, EncS.stay S hu⟩, vs, by rw [if_pos rfl, upd_ne (Ne.symm pq)]; exact l2, EncS.stay S l3⟩
  | false =>
    exact R.writeO (s := .two t p q ds es) (t := .two t p q ds fs) h (by simp [owned]) rfl (fun z => nomatch z) fun v r m S => by
      obtain ⟨e, rd, m1, m2, ⟨vs, l1, l3⟩, l2⟩ := r
      exact ⟨e, S.tup _ _ rd, m1, m2, ⟨vs, by rw [if_neg Bool.false_ne_true, upd_ne pq]; exact l1, EncS.stay S l3⟩, us, upd_same, EncS.stay S hu⟩
end
def tdTwo : TD := fun δ Q => ∀ t p q, Q (.two t p q [] []) δ
def tdAppTwo (i : Nat) (Ti T : TD) : TD := fun δ Q => ∃ t p q, (∃ ds es, δ[i]? = some (.two t p q ds es)) ∧ Ti δ fun s δ1 => ∃ k, s = .val (.int k) ∧ (∃ ds es, δ1[i]? = some (.two t p q ds es)) ∧ (k = 0 ∨ k = 1) ∧
  T δ1 fun s δ2 => asD s δ2 fun d δ3 => ∃ ds es, δ3[i]? = some (.two t p q ds es) ∧ ds.length < 16777216 ∧ es.length < 16777216 ∧ Q (.val .none) (δ3.set i (if k = 0 then .two t p q (ds ++ [d]) es else .two t p q ds (es ++ [d])))
def tsRetTwo (i : Nat) : TDS := fun D δ => ∃ t p q ds es, δ[i]? = some (.two t p q ds es) ∧ D.rt (.val (.tuple [.list ds, .list es])) (δ.set i .none)
section
variable {X : Cx} {E : Ent} {e k : Expr} {T Ti : TD} {pos p1 p2 p3 cpos : Pos} {x : Str} {i : Nat}
theorem de_two {x1} (hs : ∀ (e : Expr) (es : List Expr), e = .List [] p1 ∨ e = .List [] p2 → starEach (e :: es) X.env = (false, eval e X.env) :: starEach es X.env := by rintro e es (rfl | rfl) <;> rfl) : DE X E (.Tuple [.List [] p1, .List [] p2] x1 pos) tdTwo := by
  refine PE.imp (pe_tup (da_cons (E := E) (de_lst da_nil) (da_cons (de_lst da_nil) da_nil (hs _ _ (.inr rfl))) (hs _ _ (.inl rfl)))) fun σ H Q ⟨δ, π, Q', R, t, k⟩ => ?_
  refine ⟨δ, π, fun ss δ' => ∃ p q, ss = [.own p [], .own q []] ∧ ∀ t, Q' (.two t p q [] []) δ', R, ⟨Nat.zero_le _, fun p => ⟨Nat.zero_le _, fun q => ⟨p, q, rfl, fun z => t z p q⟩⟩⟩, fun vs H1 ss δ1 el R1 q => ?_⟩
  obtain ⟨p, q, rfl, hq⟩ := q
  match vs, el with
  | [v, w], _ =>
    refine ⟨small_line (by simp), fun z n => ?_⟩
    obtain ⟨G, M, R1⟩ := R1
    exact k _ _ _ _ ⟨G, M, R1.twoT n⟩ (hq z)
theorem de_appTwo (hk : DE X E k Ti) (he : DE X E e T) (hN : X.N[i]? = some x := by rfl) (hv : Vis X.env.scope x := by first | exact Or.inl rfl | exact Or.inr (Or.inl rfl) | exact Or.inr (Or.inr rfl)) (hd : (x == ("__debug__" : Str)) = false := by decide) (hcd : (x == ("__classdict__" : Str)) = false := by decide)
    (hs : starEach [e] X.env = (false, eval e X.env) :: starEach [] X.env := by rfl) (hpi : PlainIx k := by exact fun _ _ => rfl)
    (hx : ∀ {t : TE} {ta : TA}, PE X (.Subscript (.Name x p1) k p3) t → PA X [e] ta → PE X (.Call (.Attribute (.Subscript (.Name x p1) k p3) "append" p2) [e] [] cpos) (tBM X.K "list" rAppend t ta) := by intro t ta h1 h2; exact pe_bm PySem.F.plainAttrs_list PySem.F.slot_list_append PySem.F.type_list_append mt_append h1 h2) :
    DE X E (.Call (.Attribute (.Subscript (.Name x p1) k p3) "append" p2) [e] [] cpos) (tdAppTwo i Ti T) :=
  PE.imp (hx (pe_ix ix_tup (pv i hN hv hd hcd) hk hpi) (pa_cons he pa_nil hs)) fun σ H Q ⟨δ, π, Q', R, ⟨t, p, q, ⟨ds, es, h0⟩, ti⟩, kk⟩ => by
    have RR := R
    obtain ⟨G, M, R⟩ := R
    obtain ⟨v, e1, rfl, rd, m1, m2, l1, l2⟩ := R.slotv h0 (fun z => nomatch z)
    refine ⟨.ref t, e1, δ, π, _, RR, ti, fun y H1 s δ1 R1 ⟨c, hc, ⟨ds1, es1, h1⟩, hc01, tt⟩ => ?_⟩
    subst hc
    have ey := R1.isInt (π' := π) (v := y) (i := c) List.mem_cons_self
    subst ey
    have RR1 := R1.drop
    obtain ⟨G1, M1, R1⟩ := R1
    obtain ⟨v1, e2, rfl, rd1, n1, n2, k1, k2⟩ := R1.slotv h1 (fun z => nomatch z)
    have hsel : ∃ a : Bool, (a = true ↔ c = 0) ∧ atI [V.ref p, V.ref q] c = some (.ref (if a then p else q)) := by
      rcases hc01 with rfl | rfl
      · exact ⟨true, by simp, rfl⟩
      · exact ⟨false, by simp, rfl⟩
    obtain ⟨a, ha, hat⟩ := hsel
    refine ⟨t, _, c, _, rfl, rfl, .inl (.inl rd1), hat, ?_⟩
    have hty : ∃ xs, SqL X.K H1 (if a then p else q) xs := by
      obtain ⟨us, f1, _⟩ := k1
      obtain ⟨ws, f2, _⟩ := k2
      cases a with
      | true => exact ⟨us, SqL.of f1⟩
      | false => exact ⟨ws, SqL.of f2⟩
    refine ⟨.inl ⟨rfl, hty⟩, δ1, π, _, RR1, tt, fun w H2 s δ2 R2 q2 => ?_⟩
    obtain ⟨d, δ3, ⟨G3, M3, R3⟩, ds3, es3, h3, z1, z2, q3⟩ := asD_ok R2 q2
    obtain ⟨v3, e3, ev, rd3, o1, o2, ⟨us, f1, f2⟩, ⟨ws, f3, f4⟩⟩ := R3.slotv h3 (fun z => nomatch z)
    have hw : Enc X.K M3 H2 w d := R3.top
    cases a with
    | true =>
      have hc0 : c = 0 := ha.mp rfl
      refine ⟨p, us, w, rfl, rfl, f1, by rw [f2.length, ← line_eq]; exact z1, ?_⟩
      rw [if_pos hc0] at q3
      exact kk _ _ _ _ ⟨G3, M3, (R3.drop.writeTwo h3 true (f2.append (.cons hw .nil))).push (s := .val .none) .non rfl⟩ q3
    | false =>
      have hc0 : ¬ c = 0 := fun z => by have := ha.mpr z; cases this
      refine ⟨q, ws, w, rfl, rfl, f3, by rw [f4.length, ← line_eq]; exact z2, ?_⟩
      rw [if_neg hc0] at q3
      exact kk _ _ _ _ ⟨G3, M3, (R3.drop.writeTwo h3 false (f4.append (.cons hw .nil))).push (s := .val .none) .non rfl⟩ q3
theorem ds_retTwo {pos' : Pos} (hN : X.N[i]? = some x := by rfl) (hv : Vis X.env.scope x := by first | exact Or.inl rfl | exact Or.inr (Or.inl rfl) | exact Or.inr (Or.inr rfl)) (hd : (x == ("__debug__" : Str)) = false := by decide) (hcd : (x == ("__classdict__" : Str)) = false := by decide) :
    DS X E (.Return (some (.Name x pos')) pos) (tsRetTwo i) := PS.imp (ps_ret (pv i hN hv hd hcd)) fun D σ H ⟨δ, π, D', ⟨G, M, R⟩, ⟨t, p, q, ds, es, h0, tt⟩, n, r, _⟩ => by
  obtain ⟨v, e, R2⟩ := R.take h0 (fun z => nomatch z)
  exact ⟨v, e, r σ H v _ _ ⟨_, _, R2.twoFree⟩ tt⟩
end
end HR
/-! ### sorted(t), t a tuple of ints -/
namespace PyProof.Rows
open PySem
section
variable {prog : Program} {w : World} {A : Around} {E : Value → Shared → Prop} {s : Shared}
theorem hr_collect_tuple {l : Addr} {vs : List Value} {Q : List Value → Shared → Prop} (hl : s.heap.IsTuple l vs.toArray)
    (h : Q vs { s with heap := (s.heap.push (seqObj "list" #[] 0)).update s.heap.objs.size (Obj.mapSeq (· ++ vs.toArray)) }) (hsz : vs.length ≤ sizeLine := by size_fits) :
    wpAny (model prog w) A (collect (.ref l)) Q E s := by
  obtain ⟨o, ho, hc, n, hd⟩ := id hl
  unfold collect
  refine wpAny_bind (wpAny_runValue (codeAny_builtin entry_proto_collect' ?_))
  show wpAny _ _ (do again (.builtin "list.__iadd__" ⟨[← newList [], .ref l], []⟩)) _ _ s
  refine wpAny_bind (wpAny_newList (wpAny_pure ⟨Code.quiet_builtin _ (by decide +kernel), codeAny_builtin entry_list_iadd' ?_⟩))
  show wpAny _ _ (Builtin.List.listExtendWith (.ref s.heap.objs.size) (.ref l) (.ref s.heap.objs.size)) _ _ { s with heap := s.heap.push (seqObj "list" #[] 0) }
  unfold Builtin.List.listExtendWith
  have ho' : (s.heap.push (seqObj "list" #[] 0)).get? l = some o := Heap.get?_push_of_some _ ho
  refine wpAny_bind (wpAny_typeOf (T := "tuple") ⟨o, ho', hc⟩ ?_)
  have ht : (Value.type "tuple" == Value.type "tuple") = true := by rfl
  rw [if_pos (by rw [ht]; simp)]
  refine wpAny_bind (listItems_at ho' hd ?_)
  refine wpAny_bind (listItems_at (xs := #[]) (n := 0) (Heap.get?_push_size _ rfl) rfl ?_)
  rw [if_neg (by simp)]
  refine wpAny_bind (listUpdate_at (xs := #[]) (n := 0) (Heap.get?_push_size _ rfl) rfl ?_ (Nat.zero_le _) (by show (#[] ++ vs.toArray).size ≤ sizeLine + 1; simp only [Array.size_append, List.size_toArray, List.length_nil]; omega))
  refine wpAny_pure ?_
  show wpAny (model prog w) A (do
      let o ← load s.heap.objs.size
      match o.data with
      | .seq xs _ => pure xs.toList
      | _ => unsupported "internal:collect") Q E { s with heap := (s.heap.push (seqObj "list" #[] 0)).update s.heap.objs.size (Obj.mapSeq (· ++ vs.toArray)) }
  refine wpAny_bind (wpAny_load (get?_update_seq (Heap.get?_push_size _ rfl) _) ?_)
  show wpAny _ _ (pure ((#[] : Array Value) ++ vs.toArray).toList) Q E _
  rw [show ((#[] : Array Value) ++ vs.toArray).toList = vs by simp]
  exact wpAny_pure h
end
end PyProof.Rows
namespace SrtO
open PySem PyProof.Rows Srt
theorem hr_sorted_ordT {prog : Program} {w : World} {A : Around} {E : Value → Shared → Prop} {s : Shared} {l : Addr} {vs : List Value} {ltv : Value → Value → Bool} {Q : Value → Shared → Prop} (O : Swo ltv) (hl : s.heap.IsTuple l vs.toArray) (hz : vs.length ≤ sizeLine)
    (hS : 2 ≤ vs.length → ∀ (h₁ : Heap) (a : Addr), h₁.get? a = some (seqObj "list" vs.toArray 0) → (∀ b o, s.heap.get? b = some o → b ≠ a ∧ h₁.get? b = some o) → SortableO prog w A.in1.in1 { s with heap := h₁ } a vs ltv)
    (h : ∀ out : List Value, Srtd ltv out → Stb ltv out vs → Q (.ref (s.heap.objs.size + 1)) { s with heap := sortedAll s.heap vs out.toArray }) :
    wpAny (model prog w) A (call (.builtin "sorted") [.ref l]) Q E s := by
  refine Calls.call_function_entry kind_sorted plain_sorted entry_sorted (args_sorted1 _) ?_
  unfold Builtin.«sorted»
  refine wpAny_bind (m := checkCount "sorted" 1 1 _) (wpAny_pure ?_)
  refine wpAny_bind (hr_collect_tuple hl ?_ hz)
  refine wpAny_bind (wpAny_newList ?_ hz)
  have hsz : ((s.heap.push (seqObj "list" #[] 0)).update s.heap.objs.size (Obj.mapSeq (· ++ vs.toArray))).objs.size = s.heap.objs.size + 1 := by
    rw [Heap.size_update, size_push']
  have hoL : (((s.heap.push (seqObj "list" #[] 0)).update s.heap.objs.size (Obj.mapSeq (· ++ vs.toArray))).push (seqObj "list" vs.toArray 0)).get? (s.heap.objs.size + 1) = some (seqObj "list" vs.toArray 0) := by
    rw [← hsz]; exact Heap.get?_push_size _ rfl
  have keep : ∀ b o, s.heap.get? b = some o → b ≠ s.heap.objs.size + 1 ∧ (((s.heap.push (seqObj "list" #[] 0)).update s.heap.objs.size (Obj.mapSeq (· ++ vs.toArray))).push (seqObj "list" vs.toArray 0)).get? b = some o := fun b o q => by
    have hlt : b < s.heap.objs.size := Heap.lt_size q
    refine ⟨Nat.ne_of_lt (Nat.lt_succ_of_lt hlt), Heap.get?_push_of_some _ ?_⟩
    rw [Heap.get?_update_ne _ _ _ _ (Nat.ne_of_lt hlt)]
    exact Heap.get?_push_of_some _ q
  show wpAny _ _ _ _ _ { s with heap := ((s.heap.push (seqObj "list" #[] 0)).update s.heap.objs.size (Obj.mapSeq (· ++ vs.toArray))).push (seqObj "list" vs.toArray 0) }
  rw [hsz]
  refine wpAny_bind (wpAny_holding (wpAny_call_entry slot_list_sort ⟨_, hoL, rfl⟩ entry_list_sort (list_sort_ord O hoL hz (fun h2 => hS h2 _ _ hoL keep) fun out hs hb => ⟨_, rfl, ?_⟩) (args_list_sort _)))
  exact wpAny_pure ⟨_, rfl, h out hs hb⟩
end SrtO
namespace HR
open PySem PySem.Spec L2
open PyProof.Rows hiding St
def rSortTI (K : PySem.W.Frag) : List V → Hp → VK → Prop := fun vs H Q => ∃ (a : Addr) (ns : List Int), vs = [V.ref a] ∧ SqT K H a (ns.map V.int) ∧
  ∀ (ns' : List Int) (p : Addr), ns'.Perm ns → ns'.Pairwise (· ≤ ·) → H p = none → Q (.ref p) (upd H p (.lst (ns'.map V.int)))
theorem cr_sortTI {X : Cx} : CallR X (.builtin "sorted") (rSortTI X.K) := by
  intro pins s σ H vs us Q I r h
  obtain ⟨a, ns, rfl, hs, q⟩ := h
  obtain ⟨its, rv, hl, hz⟩ := I.tuple hs
  rw [Vals.ref1 r]
  have hi := rv.ints
  have hl' : s.heap.IsTuple a its.toArray := hl
  refine SrtO.hr_sorted_ordT SrtO.swo_int hl' (by rw [← rv.length]; exact hz) (fun h2 h₁ a' _ _ => SrtO.ints_sortable hi h2) fun out h1 h2 => ?_
  obtain ⟨k1, k2, k3⟩ := SrtO.ints_out hi h1 h2
  obtain ⟨ep, he'⟩ := PyProof.Rows.sortedAll_at s.heap its out.toArray
  have hlen : ((out.map SrtO.iv).map V.int).length ≤ sizeLine := by
    rw [List.length_map, k2.length_eq]
    rw [List.length_map] at hz
    exact hz
  exact ⟨.ref _, upd H (s.heap.objs.size + 1) (.lst ((out.map SrtO.iv).map V.int)), I.laid (t' := s.toks) (fun _ _ => PyProof.Rows.sortedAll_old) (Nat.le_succ _) ⟨hlen, out, ep, vals_of_ints k1, he'⟩, rfl, q _ _ k2 k3 (I.hok.fresh (Nat.le_succ _))⟩
/-- sorted of a list or a tuple of ints -/
def sortAnyD (s : SV) (δ : Env) (Q : VD) : Prop := ∃ ns : List Int, SeqR s δ (ns.map .int) ∧ ∀ p, Q (.own p ((sortI ns).map .int)) δ
theorem sortI_is {ns ns' : List Int} (h1 : ns'.Perm ns) (h2 : ns'.Pairwise (· ≤ ·)) : ns' = sortI ns :=
  (h1.trans (sortI_perm ns).symm).eq_of_pairwise (fun a b _ _ x y => Int.le_antisymm x y) h2 (sortI_sorted ns)
theorem snd_sortAny {K : PySem.W.Frag} {E : Ent} : SndC K E (fun xs H Q => rSortedI K xs H Q ∨ rSortTI K xs H Q) (fun ss δ Q => on1 (fun s δ => sortAnyD s δ Q) ss δ) := snd1 fun σ H v s δ π Q Q' R ⟨ns, e, q⟩ k => by
  obtain ⟨G, M, R⟩ := R
  obtain ⟨a, vs, rfl, a2, z⟩ := R.seq List.mem_cons_self e
  have ev : vs = ns.map V.int := a2.ints
  subst ev
  rcases z with ⟨z, _⟩ | ⟨z, rfl⟩
  · refine .inl ⟨a, ns, rfl, z, fun ns' p h1 h2 n => ?_⟩
    rw [sortI_is h1 h2]
    exact k _ _ _ _ ⟨_, _, R.drop.fresh n (EncS.of_ints _)⟩ (q p)
  · refine .inr ⟨a, ns, rfl, z, fun ns' p h1 h2 n => ?_⟩
    rw [sortI_is h1 h2]
    exact k _ _ _ _ ⟨_, _, R.drop.fresh n (EncS.of_ints _)⟩ (q p)
theorem cr_or {X : Cx} {f : Value} {r r' : List V → Hp → VK → Prop} (h : CallR X f r) (h' : CallR X f r') : CallR X f (fun xs H Q => r xs H Q ∨ r' xs H Q) := fun pins s σ H vs us Q I rr hq =>
  hq.elim (h pins s σ H vs us Q I rr) (h' pins s σ H vs us Q I rr)
theorem de_sortAny {X : Cx} {E : Ent} {e : Expr} {Ts : TDA} {pos p : Pos} (hm : X.mg "sorted" = none) (ha : DA X E [e] Ts) (hg : Gl X "sorted" := by rfl) (he : starEach [e] X.env = (false, eval e X.env) :: starEach [] X.env := by rfl) :
    DE X E (.Call (.Name "sorted" p) [e] [] pos) (tdCB (fun ss δ Q => on1 (fun s δ => sortAnyD s δ Q) ss δ) Ts) := de_callB (cr_or cr_sortedI cr_sortTI) snd_sortAny (by decide +kernel) hm ha hg (he := he) (hpl := rfl)
end HR
namespace HR
open PySem PySem.Spec L2
open PyProof.Rows hiding St
/-! ### statements of a def's top: nothing in hand -/
def lS0 (K : PySem.W.Frag) (E : Ent) (T : TDS) : TS := fun D σ H => ∃ δ D', Rep K E σ H δ [] ∧ T D' δ ∧ (∀ σ' H' δ', Rep K E σ' H' δ' [] → D'.nx δ' → D.nx σ' H') ∧
  (∀ σ' H' v r δ', Rep K E σ' H' δ' [(v, r)] → D'.rt r δ' → D.rt v H') ∧ (∀ σ' H' δ', Rep K E σ' H' δ' [] → D'.bk δ' → D.bk σ' H') ∧ (∀ σ' H' δ', Rep K E σ' H' δ' [] → D'.ct δ' → D.ct σ' H')
abbrev DS0 (X : Cx) (E : Ent) (st : Stmt) (T : TDS) : Prop := PS X st (lS0 X.K E T)
abbrev DSs0 (X : Cx) (E : Ent) (st : List Stmt) (T : TDS) : Prop := PSs X st (lS0 X.K E T)
section
variable {X : Cx} {E : Ent} {st : Stmt} {rest : List Stmt} {U W : TDS}
theorem ds0_of (h : DS X E st U) : DS0 X E st U := PS.imp h fun D σ H ⟨δ, D', R, t, q⟩ => ⟨δ, [], D', R, t, q⟩
theorem dss0_of (h : DSs X E rest U) : DSs0 X E rest U := PSs.imp h fun D σ H ⟨δ, D', R, t, q⟩ => ⟨δ, [], D', R, t, q⟩
theorem dss0_cons (h1 : DS0 X E st U) (h2 : DSs0 X E rest W) : DSs0 X E (st :: rest) (tsSeq U W) := PSs.imp (pss_cons h1 h2) fun D σ H ⟨δ, ⟨n', r', b', c'⟩, R, t, n, r, b, c⟩ =>
  ⟨δ, _, R, t, fun σ' H' δ' R' q => ⟨δ', ⟨n', r', b', c'⟩, R', q, n, r, b, c⟩, r, b, c⟩
theorem dss0_one (h1 : DS0 X E st U) : DSs0 X E [st] U := pss_one h1
end
/-! ### try .. except C as e -/
/-- an error of class c is caught by 'except d' -/
def SubX (K : PySem.W.Frag) (mg : Str → Option Value) (c d : Str) : Prop := ∀ C D, mg c = some (.ref C) → mg d = some (.ref D) → PySem.W.exmOne K (.ref C) (.ref D) = some true
/-- isinstance(e, d), e of class c -/
def IsX (K : PySem.W.Frag) (mg : Str → Option Value) (c d : Str) (b : Bool) : Prop := ∃ C D, mg c = some (.ref C) ∧ mg d = some (.ref D) ∧ PySem.W.kitOne K (.ref C) (.ref D) = some b ∧ ExcC K C
def tsTry (K : PySem.W.Frag) (mg : Str → Option Value) (i : Nat) (cx : Str) (tb : (Str → Env → Prop) → TDS) (ts : Str → Addr → TDS) : TDS := fun D δ =>
  tb (fun c δ1 => SubX K mg c cx ∧ ∀ a, setC δ1 i (.exc a) (ts c a { nx := fun δ' => D.nx (δ'.set i .none), rt := D.rt, bk := fun δ' => D.bk (δ'.set i .none), ct := fun δ' => D.ct (δ'.set i .none) })) D δ
section
variable {X : Cx} {E : Ent} {i : Nat} {cx n : Str} {body suite : List Stmt} {b₀ : Stmt} {np pos pos' : Pos} {tb : (Str → Env → Prop) → TDS} {ts : Str → Addr → TDS} {Ex : Str → Env → Prop}
theorem ds_try (hN : X.N.Nodup) (xo : XOk X E Ex) (hm : ∃ C0, X.mg cx = some (.ref C0)) (hb : ∀ (Ex' : Str → Env → Prop) (pn : List (Addr × Obj)) (xe : Value → Shared → Prop), XOk (X.tr pn xe) E Ex' → PassesOwn (model X.prog X.w) X.A X.env xe → DSs0 (X.tr pn xe) E body (tb Ex'))
    (hsu : ∀ (a : Addr) (oe : Obj) (c : Str) (C : Addr) (pn : List (Addr × Obj)), X.mg c = some (.ref C) → Zc (.ref C) none oe → (∃ vs, oe.data = .fields vs) → DSs0 (X.suite a ((a, oe) :: pn)) E (b₀ :: suite) (ts c a))
    (hi : X.N[i]? = some n := by rfl) (hs : X.stack = X.env :: X.outer := by rfl) (hf : X.env.frame = some X.env.locals := by rfl) (hln : X.env.kindOf n = some .local := by rfl) (hgl : Gl X cx := by rfl) (hdb : (cx == ("__debug__" : Str)) = false := by decide) :
    DS0 X E (.Try body [.ExceptHandler (some (.Name cx np)) (some n) (b₀ :: suite) pos'] [] [] pos) (tsTry X.K X.mg i cx tb ts) := by
  obtain ⟨C0, hC0⟩ := hm
  obtain ⟨W0, tk0, _⟩ := xo.tk
  let tbW : WX → TS := fun W D σ H => ∃ Ex', (∀ c C δ σ H, X.mg c = some (.ref C) → Rep X.K E σ H δ [] → Ex' c δ → W (.ref C) none σ H) ∧ lS0 X.K E (tb Ex') D σ H
  let tsW : Addr → Value → Option Addr → TS := fun a cls d D σ H => ∃ c C, cls = .ref C ∧ d = none ∧ X.mg c = some (.ref C) ∧ lS0 X.K E (ts c a) D σ H
  refine PS.imp (ps_try_as (tb := tbW) (ts := tsW) hs hf hN hi hln ⟨hgl, hdb, .inl hC0⟩ tk0 (fun W pn xe tk po => ?_) (fun a oe cls d pn hz hfl => ?_)) ?_
  · exact ⟨fun pins s σ H D I ⟨Ex', hW, q⟩ => (hb Ex' pn xe ⟨W, tk, hW⟩ po).run pins s σ H D I q⟩
  · refine ⟨fun pins s σ H D I ⟨c, C, e1, e2, hm, q⟩ => ?_⟩
    subst e1 e2
    exact (hsu a oe c C pn hm hz hfl).run pins s σ H D I q
  · rintro D σ H ⟨δ, D', R, t, n, r, b, ct⟩
    refine ⟨_, ?_, δ, D', R, t, n, r, b, ct⟩
    rintro c C δ1 σ1 H1 hm1 R1 ⟨sub, q⟩
    refine ⟨true, sub C C0 hm1 hC0, fun _ a na => ?_, fun z => nomatch z⟩
    obtain ⟨hl, q⟩ := setC_ok (q a)
    obtain ⟨G, M, R1⟩ := R1
    refine ⟨c, C, rfl, rfl, hm1, _, _, ⟨G, M, (R1.push (v := .ref a) (s := .exc a) rfl rfl).store hl⟩, q, ?_, fun σ' H' v r' δ' R' z => r σ' H' v r' δ' R' z, ?_, ?_⟩
    · rintro σ' H' δ' ⟨G', M', R'⟩ z
      exact n _ _ _ ⟨G', M', R'.wipe1 i⟩ z
    · rintro σ' H' δ' ⟨G', M', R'⟩ z
      exact b _ _ _ ⟨G', M', R'.wipe1 i⟩ z
    · rintro σ' H' δ' ⟨G', M', R'⟩ z
      exact ct _ _ _ ⟨G', M', R'.wipe1 i⟩ z
end
def tdIsE (K : PySem.W.Frag) (mg : Str → Option Value) (i : Nat) (a : Addr) (c d : Str) : TD := fun δ Q => δ[i]? = some (.exc a) ∧ ∃ b, IsX K mg c d b ∧ Q (.val (.bool b)) δ
/-- isinstance(e, d) in the suite that holds e -/
theorem de_isE {X : Cx} {E : Ent} {a C : Addr} {oe : Obj} {pn : List (Addr × Obj)} {c d x : Str} {i : Nat} {p pe pd pos : Pos} (hm : X.mg c = some (.ref C)) (hz : Zc (.ref C) none oe) (hf : ∃ vs, oe.data = .fields vs) (hm0 : X.mg "isinstance" = none) (hD : ∃ D0, X.mg d = some (.ref D0)) (hN : X.N[i]? = some x := by rfl)
    (hv : Vis X.env.scope x := by first | exact Or.inl rfl | exact Or.inr (Or.inl rfl) | exact Or.inr (Or.inr rfl)) (hd : (x == ("__debug__" : Str)) = false := by decide) (hcd : (x == ("__classdict__" : Str)) = false := by decide) (hgd : Gl X d := by rfl) (hgi : Gl X "isinstance" := by rfl)
    (hdd : (d == ("__debug__" : Str)) = false := by decide)
    (hs1 : starEach [.Name d pd] X.env = (false, eval (.Name d pd) X.env) :: starEach [] X.env := by rfl) (hs2 : starEach [.Name x pe, .Name d pd] X.env = (false, eval (.Name x pe) X.env) :: starEach [.Name d pd] X.env := by rfl)
    (hpl : (backTo pos (starEach [.Name d pd] X.env)).any (·.1) = false := by rfl) :
    DE (X.suite a ((a, oe) :: pn)) E (.Call (.Name "isinstance" p) [.Name x pe, .Name d pd] [] pos) (tdIsE X.K X.mg i a c d) := by
  obtain ⟨D0, hD⟩ := hD
  refine ⟨fun pins s σ H Q I ⟨δ, π, Q', ⟨G, M, R⟩, ⟨h0, b, ⟨C', D', hc', hd', hk, ex⟩, q⟩, k⟩ => ?_⟩
  have e1 : C' = C := by rw [hm] at hc'; cases hc'; rfl
  have e2 : D' = D0 := by rw [hD] at hd'; cases hd'; rfl
  subst e1 e2
  obtain ⟨v, ev, rv⟩ := R.slotv h0 (fun z => nomatch z)
  have hv' : v = .ref a := rv
  subst hv'
  have rD : RelV (.ref D') (.ref D') := rfl
  have PA2 := pa_cons (X := X.suite a ((a, oe) :: pn)) (pv (X := X.suite a ((a, oe) :: pn)) (pos := pe) i hN hv hd hcd) (pa_cons (pe_glob (X := X.suite a ((a, oe) :: pn)) (pos := pd) hgd hD rD hdd) pa_nil hs1) hs2
  exact (pe_callB (X := X.suite a ((a, oe) :: pn)) (call_isE (X := X) ex hz hf) hgi hm0 PyProof.Rows.boot_isinstance PA2 (by decide) (by decide) hs2 hpl).run pins s σ H Q I
    ⟨.ref a, ev, .ref D', .ref D', b, rfl, fun u r => r, hk, k _ _ _ _ ⟨G, M, R.push (s := .val (.bool b)) (.bl b) rfl⟩ q⟩
section
variable {P : Program} {w : World} {K : PySem.W.Frag} {mg : Str → Option Value} {base : Heap}
theorem ClsX.mgOf {c : Str} (h : ClsX K mg c) : ∃ C, mg c = some (.ref C) := let ⟨C, h, _⟩ := h.ex; ⟨C, h⟩
theorem xo_suite {X : Cx} {E : Ent} {a : Addr} {pn : List (Addr × Obj)} : XOk (X.suite a pn) E (fun _ _ => False) := ⟨fun _ _ _ _ => False, fun u s' ⟨_, _, _, _, _, _, _, _, _, _, _, _, _, _, _, _, w⟩ => w, fun _ _ _ _ _ _ _ h => h⟩
theorem fnX_ok0 {x : Str} {st : Stmt} {N ps : List Str} {k : Nat} {Γ : Con} {f : Addr} {fd : FuncData} (F : Fun K x x st f fd) (S : FnScope N ps (defScope st))
    (len : ∀ ss Q X', Γ ss Q X' → ss.length = ps.length)
    (hbody : ∀ (f : Addr) (cdv : Value) (A : Around) (outer : List PySem.Env) (s : Shared) (H : Hp) (Y : XK) (E : Ent) (ss : List SV) (Q' : SV → Prop) (X' : Str → Prop), Room k (A.deeper (envOfC x (defScope st) s.heap.objs.size f cdv)) →
      XOk (cxOf (L2.CX P w) P w K mg base N x (defScope st) f cdv A outer s H Y) E (fun c _ => X' c) → PassesOwn (model P w) (A.deeper (envOfC x (defScope st) s.heap.objs.size f cdv)) (envOfC x (defScope st) s.heap.objs.size f cdv) (cxOf (L2.CX P w) P w K mg base N x (defScope st) f cdv A outer s H Y).xe →
      Γ ss Q' X' → ∃ T : TDS, DSs0 (cxOf (L2.CX P w) P w K mg base N x (defScope st) f cdv A outer s H Y) E (defBody st) T ∧ T { nx := fun _ => Q' (.val .none), rt := fun r _ => resOk r = true ∧ Q' r } (startD N.length ss)) : FnOk P w K mg base (L2.CX P w) (k + 1) f fd ps (spD K mg Γ) := by
  refine F.okX S (fun vs H Q Y ⟨G, M, ss, Q', X', g, el, ok, hr, hΓ, _⟩ => el.trans (len ss Q' X' hΓ)) (fun cdv A outer s H vs Q Y hr h => ?_)
  obtain ⟨G, M, ss, Q', X', g, el, ok, hrt, hΓ, hQ, hX⟩ := h
  have hpl : ps.length ≤ N.length := by
    have e := congrArg List.length S.pre
    rw [List.length_take] at e
    omega
  obtain ⟨T, d, t⟩ := hbody f cdv A outer s H Y ⟨G, M, H⟩ ss Q' X' hr ⟨_, takes_of rfl rfl rfl rfl, fun c C δ σ H' hc ⟨G', M', R⟩ hx => hX c hx G' M' H' C R.ext R.good hc⟩ (passes_of rfl) hΓ
  refine ⟨_, d, ?_⟩
  refine ⟨_, _, ⟨G, M, start_rep g el (by rw [el, len ss Q' X' hΓ]; exact hpl) ok hrt⟩, t, fun σ' H' δ' ⟨G', M', R⟩ q => ?_, fun σ' H' v r δ' ⟨G', M', R⟩ q => ?_, fun _ _ _ _ q => q, fun _ _ _ _ q => q⟩
  · exact hQ _ q rfl G' M' H' .non R.ext R.good .non
  · exact hQ _ q.2 q.1 G' M' H' v R.ext R.good R.top
theorem fnD_ok0 {x : Str} {st : Stmt} {N ps : List Str} {k : Nat} {Γ : Con} (F : TxtFn K mg x st) (S : FnScope N ps (defScope st))
    (hb : ∀ (kV doc pm : Value) (an : Option Addr) (cdv ct : Value) (us : List Value), us.length = ps.length → bindArgs (PySem.W.fnOf x x (defArgs st) (defBody st) (defScope st) .none kV doc pm an cdv ct) ⟨us, []⟩ = pure (ps.zip us))
    (len : ∀ ss Q X', Γ ss Q X' → ss.length = ps.length)
    (hbody : ∀ (f : Addr) (cdv : Value) (A : Around) (outer : List PySem.Env) (s : Shared) (H : Hp) (Y : XK) (E : Ent) (ss : List SV) (Q' : SV → Prop) (X' : Str → Prop), Room k (A.deeper (envOfC x (defScope st) s.heap.objs.size f cdv)) →
      XOk (cxOf (L2.CX P w) P w K mg base N x (defScope st) f cdv A outer s H Y) E (fun c _ => X' c) → PassesOwn (model P w) (A.deeper (envOfC x (defScope st) s.heap.objs.size f cdv)) (envOfC x (defScope st) s.heap.objs.size f cdv) (cxOf (L2.CX P w) P w K mg base N x (defScope st) f cdv A outer s H Y).xe →
      Γ ss Q' X' → ∃ T : TDS, DSs0 (cxOf (L2.CX P w) P w K mg base N x (defScope st) f cdv A outer s H Y) E (defBody st) T ∧ T { nx := fun _ => Q' (.val .none), rt := fun r _ => resOk r = true ∧ Q' r } (startD N.length ss)) : FnD P w K mg base (k + 1) x Γ := by
  obtain ⟨f, fd, F, hm⟩ := F.ex
  exact ⟨f, fd, ps, fnX_ok0 F S len hbody, hm, F.kp, F.binds hb⟩
/-- the facts of an error's class -/
theorem isX_mk {c d : Str} {C D : Addr} {b : Bool} (hc : mg c = some (.ref C)) (hd : mg d = some (.ref D)) (hk : PySem.W.kitOne K (.ref C) (.ref D) = some b) (ex : ExcC K C) : IsX K mg c d b := ⟨C, D, hc, hd, hk, ex⟩
theorem subX_mk {c d : Str} {C D : Addr} (hc : mg c = some (.ref C)) (hd : mg d = some (.ref D)) (h : PySem.W.exmOne K (.ref C) (.ref D) = some true) : SubX K mg c d := fun C' D' h1 h2 => by
  rw [hc] at h1
  rw [hd] at h2
  cases h1
  cases h2
  exact h
end
end HR
namespace HR
open PySem PySem.Spec L2
open PyProof.Rows hiding St
/-! ### a def of the text with one star parameter alone -/
/-- from what is in hand to a promise's premise -/
theorem spD_of {K : PySem.W.Frag} {E : Ent} {σ : L2.St} {H1 : Hp} {mg : Str → Option Value} {Γ : Con} {Ex : Str → Env → Prop} {W : WX} (hW : ∀ c C δ σ H, mg c = some (.ref C) → Rep K E σ H δ [] → Ex c δ → W (.ref C) none σ H)
    {vs : List V} {rs : List SV} {δ2 : Env} {π : Tmp} {Q : VK} {Q' : VD} (e2 : vs.length = rs.length) (ok : rs.all argOk = true) (R : Rep K E σ H1 δ2 (vs.zip rs ++ π))
    (q2 : Γ rs (fun r => (match r with | .own _ ds => ∀ p, Q' (.own p ds) δ2 | .dic _ kv => ∀ p, Q' (.dic p kv) δ2 | r => Q' r δ2)) (fun c => Ex c δ2)) (kk : ∀ v H' r δ', Rep K E σ H' δ' ((v, r) :: π) → Q' r δ' → Q v H') : spD K mg Γ vs H1 Q (WE W σ) := by
  obtain ⟨G, M, R2⟩ := R
  refine ⟨G, M, rs, _, _, R2.good, e2, ok, fun y hy => ?_, q2, fun r hr ro G' M' H' v X1 g1 rt => ?_, fun c hc G' M' H' C X1 g1 hm => ?_⟩
  · have a : argOk y.2 = true := List.all_eq_true.mp ok _ (List.of_mem_zip hy).2
    exact argOk_RT a (R2.tmp y (List.mem_append_left _ hy))
  · have R3 := (R2.sub).ext_to X1 g1
    cases r with
    | val d => exact kk _ _ _ _ ⟨_, _, R3.push (s := .val d) rt rfl⟩ hr
    | bag => exact kk _ _ _ _ ⟨_, _, R3.push (s := .bag) rt rfl⟩ hr
    | own a ds =>
      obtain ⟨rfl, ⟨m1, m2, m3⟩, l⟩ := rt
      refine kk _ _ (.own a ds) _ ⟨G', M', ?_⟩ (hr a)
      refine ⟨R3.g0, R3.ext, R3.good, R3.len, R3.slot, fun y hy => ?_, ?_⟩
      · rcases List.mem_cons.mp hy with rfl | hy
        · exact ⟨rfl, ⟨m1, m2, R2.ext.back R2.good m3⟩, l⟩
        · exact R3.tmp y hy
      · rw [List.flatMap_cons]
        refine nd_push (c := []) R3.nd fun z => ?_
        obtain ⟨_, mu⟩ := (R2.sub).mine z
        have m3' : H1 a = none := m3
        rw [m3'] at mu
        exact mu
    | dic a ds =>
      obtain ⟨rfl, ⟨m1, m2, m3⟩, l⟩ := rt
      refine kk _ _ (.dic a ds) _ ⟨G', M', ?_⟩ (hr a)
      refine ⟨R3.g0, R3.ext, R3.good, R3.len, R3.slot, fun y hy => ?_, ?_⟩
      · rcases List.mem_cons.mp hy with rfl | hy
        · exact ⟨rfl, ⟨m1, m2, R2.ext.back R2.good m3⟩, l⟩
        · exact R3.tmp y hy
      · rw [List.flatMap_cons]
        refine nd_push (c := []) R3.nd fun z => ?_
        obtain ⟨_, mu⟩ := (R2.sub).mine z
        have m3' : H1 a = none := m3
        rw [m3'] at mu
        exact mu
    | _ => cases ro
  · have R3 := (R2.sub).ext_to X1 g1
    exact hW c C δ2 σ H' hm ⟨G', M', RepG.sub (π' := π) (π := []) (by simpa using R3)⟩ hc
def spV (K : PySem.W.Frag) (mg : Str → Option Value) (Γ : Con) : Sp := fun vs H Q E => ∃ ws rest, vs = ws ++ rest ∧ ws.length = ([] : List Str).length ∧ rest.length ≤ sizeLine ∧ ∀ p, H p = Option.none → spD K mg Γ (ws ++ [V.ref p]) (upd H p (.tup rest)) Q E
structure FnV (P : Program) (w : World) (K : PySem.W.Frag) (mg : Str → Option Value) (base : Heap) (k : Nat) (x : Str) (Γ : Con) : Prop where
  ex : ∃ (f : Addr), FnR P w K mg base (L2.CX P w) k f (spV K mg Γ) ∧ mg x = some (.ref f) ∧ PySem.W.keepIn K (.ref f) = true
def tdCallV (Γ : Con) (Ex : Str → Env → Prop) (Ts : TDA) : TD := fun δ Q => Ts δ fun ss δ1 => ss.length ≤ 1000 ∧ asDs ss δ1 fun ds δ2 => Γ [.val (.tuple ds)] (fun r => (match r with | .own _ ds => ∀ p, Q (.own p ds) δ2 | .dic _ kv => ∀ p, Q (.dic p kv) δ2 | r => Q r δ2)) (fun c => Ex c δ2)
section
variable {X : Cx} {E : Ent} {e : Expr} {es : List Expr} {Ts : TDA} {pos p : Pos} {x : Str} {k : Nat} {Γ : Con} {Ex : Str → Env → Prop}
theorem run_fnRS {pins : List (Addr × Obj)} {σ : L2.St} {H : Hp} {s : Shared} {CX : CXT} {f : Addr} {sp : Sp} {E : XK} {Q : VK} {us : List Value} {vs : List V} (F : FnR X.prog X.w X.K X.mg X.base CX k f sp) (hr : Room k X.A) (hx : PassesAt CX X σ E) (I : Inv X pins σ H s) (r : Vals vs us) (h : sp vs H Q E) :
    codeAny (model X.prog X.w) X.A (.call (.ref f) ⟨us, []⟩) (fun r s' => match r with | .ok (.ret v) => EP X pins σ Q v s' | .ok _ => False | .error e => X.xe e s') s := by
  refine codeAny_mono (F X.A X.stack s H us vs Q E hr I.env0 r h) fun r s' hq => ?_
  cases r with
  | error e => exact hx pins H s e s' I hq
  | ok fl =>
    cases fl with
    | ret u =>
      obtain ⟨v, H', I3, rv, q3⟩ := I.after hq
      exact ⟨v, H', I3, rv, q3⟩
    | next => exact False.elim hq
    | brk => exact False.elim hq
    | cont => exact False.elim hq
theorem de_callV (F : FnV X.prog X.w X.K X.mg X.base k x Γ) (hr : Room k X.A) (xo : XOk X E Ex) (ha : DA X E (e :: es) Ts) (hg : Gl X x := by rfl) (hdb : (x == ("__debug__" : Str)) = false := by decide) (he : starEach (e :: es) X.env = (false, eval e X.env) :: starEach es X.env := by rfl)
    (hpl : (backTo pos (starEach es X.env)).any (·.1) = false := by rfl) : DE X E (.Call (.Name x p) (e :: es) [] pos) (tdCallV Γ Ex Ts) := by
  obtain ⟨f, F, hm, hk⟩ := F.ex
  obtain ⟨W, tk, hW⟩ := xo.tk
  have base : PE X (.Call (.Name x p) (e :: es) [] pos) (fun σ H Q => lA X.K E Ts σ H fun vs H1 => spV X.K X.mg Γ vs H1 Q (WE W σ)) := by
    refine ⟨fun pins s σ H Q I h => ?_⟩
    refine wpAny_Call_Name_kw (ld_glob I hg hm ?_ hdb)
    refine PySem.W.callWith_K (h₀ := X.base) I.ok.mod.kin hk (thn (ha.run pos pins s σ H _ I h) fun us s1 ⟨vs, H1, I1, r, q⟩ => ⟨I1.kIn, ?_⟩) he hpl
    exact wpAny_call (run_fnRS F hr (passAt tk σ) I1 r q)
  refine PE.imp base fun σ H Q ⟨δ, π, Q', R, t, kk⟩ => ⟨δ, π, _, R, t, fun vs H1 ss δ1 el R1 ⟨hz, q⟩ => ?_⟩
  obtain ⟨ds, δ2, e2, R2, q2⟩ := asDs_ok el R1 q
  refine ⟨[], vs, rfl, rfl, small_line (by rw [el]; exact hz), fun p n => ?_⟩
  obtain ⟨G, M, R2⟩ := R2
  have R3 := R2.sub.newTup n (R2.encs e2)
  exact spD_of hW (vs := [.ref p]) (rs := [.val (.tuple ds)]) rfl rfl ⟨G, M, R3⟩ q2 kk
end
section
variable {P : Program} {w : World} {K : PySem.W.Frag} {mg : Str → Option Value} {base : Heap}
theorem fnV_ok {x pv : Str} {st : Stmt} {N : List Str} {k : Nat} {Γ : Con} (F : TxtFn K mg x st) (S : FnScope N [pv] (defScope st))
    (hb0 : ∀ (kV doc pm : Value) (an : Option Addr) (cdv ct : Value), bindArgs (PySem.W.fnOf x x (defArgs st) (defBody st) (defScope st) .none kV doc pm an cdv ct) ⟨[], []⟩ = (newTuple [] >>= fun t => pure [(pv, t)]))
    (hb1 : ∀ (kV doc pm : Value) (an : Option Addr) (cdv ct : Value) (r : Value) (rs : List Value), bindArgs (PySem.W.fnOf x x (defArgs st) (defBody st) (defScope st) .none kV doc pm an cdv ct) ⟨r :: rs, []⟩ = (newTuple (r :: rs) >>= fun t => pure [(pv, t)]))
    (len : ∀ ss Q X', Γ ss Q X' → ss.length = [pv].length)
    (hbody : ∀ (f : Addr) (cdv : Value) (A : Around) (outer : List PySem.Env) (s : Shared) (H : Hp) (Y : XK) (E : Ent) (ss : List SV) (Q' : SV → Prop) (X' : Str → Prop), Room k (A.deeper (envOfC x (defScope st) s.heap.objs.size f cdv)) →
      XOk (cxOf (L2.CX P w) P w K mg base N x (defScope st) f cdv A outer s H Y) E (fun c _ => X' c) → PassesOwn (model P w) (A.deeper (envOfC x (defScope st) s.heap.objs.size f cdv)) (envOfC x (defScope st) s.heap.objs.size f cdv) (cxOf (L2.CX P w) P w K mg base N x (defScope st) f cdv A outer s H Y).xe →
      Γ ss Q' X' → ∃ T : TDS, DSs (cxOf (L2.CX P w) P w K mg base N x (defScope st) f cdv A outer s H Y) E (defBody st) T ∧ T { nx := fun _ => Q' (.val .none), rt := fun r _ => resOk r = true ∧ Q' r } (startD N.length ss)) : FnV P w K mg base (k + 1) x Γ := by
  obtain ⟨f, fd, F, hm⟩ := F.ex
  refine ⟨f, ?_, hm, F.kp⟩
  obtain ⟨oc, od, kV, doc, pm, an, cdv, ct, osl, rfl, lk, hcd⟩ := F.ex
  refine StX.fn_star (ps := []) (pv := pv) lk hcd S StX.cxUp (fun us rest hl => ?_) (fun A outer s H vs Q Y hr h => ?_)
  · have : us = [] := List.eq_nil_of_length_eq_zero hl
    subst this
    cases rest with
    | nil => exact hb0 kV doc pm an cdv ct
    | cons r rs => exact hb1 kV doc pm an cdv ct r rs
  · obtain ⟨G, M, ss, Q', X', g, el, ok, hrt, hΓ, hQ, hX⟩ := h
    have hpl : [pv].length ≤ N.length := by
      have e := congrArg List.length S.pre
      rw [List.length_take] at e
      omega
    obtain ⟨T, d, t⟩ := hbody f cdv A outer s H Y ⟨G, M, H⟩ ss Q' X' hr ⟨_, takes_of rfl rfl rfl rfl, fun c C δ σ H' hc ⟨G', M', R⟩ hx => hX c hx G' M' H' C R.ext R.good hc⟩ (passes_of rfl) hΓ
    refine ⟨_, d, ?_⟩
    refine ⟨_, [], _, ⟨G, M, start_rep g el (by rw [el, len ss Q' X' hΓ]; exact hpl) ok hrt⟩, t, fun σ' H' δ' ⟨G', M', R⟩ q => ?_, fun σ' H' v r δ' ⟨G', M', R⟩ q => ?_, fun _ _ _ _ q => q, fun _ _ _ _ q => q⟩
    · exact hQ _ q rfl G' M' H' .non R.ext R.good .non
    · exact hQ _ q.2 q.1 G' M' H' v R.ext R.good R.top
end
end HR
namespace HR
open PySem PySem.Spec L2
open PyProof.Rows hiding St
/-! ### own dicts -/
section
variable {κ : Type} [DecidableEq κ] {α : Type}
def dGet (kvs : List (κ × α)) (k : κ) : Option α := (kvs.find? fun kv => decide (kv.1 = k)).map (·.2)
def dPut (kvs : List (κ × α)) (k : κ) (v : α) : List (κ × α) := if (kvs.any fun kv => decide (kv.1 = k)) = true then kvs.map (fun kv => if kv.1 = k then (kv.1, v) else kv) else kvs ++ [(k, v)]
end
section
variable {K : PySem.W.Frag} {M : Addr → Prop} {H : Hp}
theorem pair_get {κ κ' : Type} [DecidableEq κ] [DecidableEq κ'] {f : κ' → κ} (hf : ∀ a b, f a = f b → a = b) {k : κ'} : ∀ {ks : List (κ × V)} {kvs : List (κ' × D)}, Paired (fun (a : κ × V) (b : κ' × D) => a.1 = f b.1 ∧ Enc K M H a.2 b.2) ks kvs →
    (valV ks (f k) = none ∧ dGet kvs k = none) ∨ ∃ v d, valV ks (f k) = some v ∧ dGet kvs k = some d ∧ Enc K M H v d
  | _, _, .nil => .inl ⟨rfl, rfl⟩
  | a :: ks, b :: kvs, .cons h r => by
    have ih := pair_get hf (k := k) r
    by_cases e : b.1 = k
    · refine .inr ⟨a.2, b.2, valV_pos (by rw [h.1, e]), ?_, h.2⟩
      unfold dGet
      rw [List.find?_cons_of_pos (by simpa using e)]
      rfl
    · have e1 : valV (a :: ks) (f k) = valV ks (f k) := valV_neg (by rw [h.1]; exact fun z => e (hf _ _ z))
      have e2 : dGet (b :: kvs) k = dGet kvs k := by unfold dGet; rw [List.find?_cons_of_neg (by simpa using e)]
      rw [e1, e2]
      exact ih
theorem pair_any {κ κ' : Type} [DecidableEq κ] [DecidableEq κ'] {f : κ' → κ} (hf : ∀ a b, f a = f b → a = b) {k : κ'} : ∀ {ks : List (κ × V)} {kvs : List (κ' × D)}, Paired (fun (a : κ × V) (b : κ' × D) => a.1 = f b.1 ∧ Enc K M H a.2 b.2) ks kvs →
    (ks.any fun kv => decide (kv.1 = f k)) = kvs.any fun kv => decide (kv.1 = k)
  | _, _, .nil => rfl
  | a :: ks, b :: kvs, .cons h r => by
    rw [List.any_cons, List.any_cons, pair_any hf r, h.1]
    congr 1
    exact decide_eq_decide.mpr ⟨hf _ _, fun z => by rw [z]⟩
theorem pair_map {κ κ' : Type} [DecidableEq κ] [DecidableEq κ'] {f : κ' → κ} (hf : ∀ a b, f a = f b → a = b) {k : κ'} {v : V} {d : D} (hv : Enc K M H v d) : ∀ {ks : List (κ × V)} {kvs : List (κ' × D)}, Paired (fun (a : κ × V) (b : κ' × D) => a.1 = f b.1 ∧ Enc K M H a.2 b.2) ks kvs →
    Paired (fun (a : κ × V) (b : κ' × D) => a.1 = f b.1 ∧ Enc K M H a.2 b.2) (ks.map fun kv => if kv.1 = f k then (kv.1, v) else kv) (kvs.map fun kv => if kv.1 = k then (kv.1, d) else kv)
  | _, _, .nil => .nil
  | a :: ks, b :: kvs, .cons h r => by
    refine .cons ?_ (pair_map hf hv r)
    by_cases e : b.1 = k
    · have e2 : a.1 = f k := by rw [h.1, e]
      dsimp only
      rw [if_pos e, if_pos e2]
      exact ⟨h.1, hv⟩
    · have e2 : ¬ a.1 = f k := by rw [h.1]; exact fun z => e (hf _ _ z)
      dsimp only
      rw [if_neg e, if_neg e2]
      exact h
theorem pair_snoc {α β : Type} {R : α → β → Prop} {a : α} {b : β} (h : R a b) : ∀ {xs : List α} {ys : List β}, Paired R xs ys → Paired R (xs ++ [a]) (ys ++ [b])
  | _, _, .nil => .cons h .nil
  | _, _, .cons q r => .cons q (pair_snoc h r)
theorem pair_put {κ κ' : Type} [DecidableEq κ] [DecidableEq κ'] {f : κ' → κ} (hf : ∀ a b, f a = f b → a = b) {k : κ'} {v : V} {d : D} (hv : Enc K M H v d) {ks : List (κ × V)} {kvs : List (κ' × D)} (h : Paired (fun (a : κ × V) (b : κ' × D) => a.1 = f b.1 ∧ Enc K M H a.2 b.2) ks kvs) :
    Paired (fun (a : κ × V) (b : κ' × D) => a.1 = f b.1 ∧ Enc K M H a.2 b.2) (putK ks (f k) v) (dPut kvs k d) := by
  unfold putK dPut
  rw [pair_any hf h]
  split
  · exact pair_map hf hv h
  · exact pair_snoc ⟨rfl, hv⟩ h
theorem pair_len {α β : Type} {R : α → β → Prop} : ∀ {xs : List α} {ys : List β}, Paired R xs ys → xs.length = ys.length
  | _, _, .nil => rfl
  | _, _, .cons _ r => by rw [List.length_cons, List.length_cons, pair_len r]
theorem inl_inj : ∀ a b : Int, (Sum.inl a : Key) = Sum.inl b → a = b := fun a b h => by cases h; rfl
theorem inls_inj : ∀ a b : List Int, (a.map Sum.inl : List Key) = b.map Sum.inl → a = b
  | [], [], _ => rfl
  | [], _ :: _, h => by cases h
  | _ :: _, [], h => by cases h
  | x :: a, y :: b, h => by
    rw [List.map_cons, List.map_cons] at h
    injection h with h1 h2
    rw [inl_inj _ _ h1, inls_inj a b h2]
/-- a key in hand -/
theorem enc_tupI {v : V} {ns : List Int} (h : Enc K M H v (.tuple (ns.map .int))) : ∃ b, v = .ref b ∧ H b = some (.tup ((ns.map Sum.inl : List Key).map kV)) := by
  cases h with
  | tup h1 h2 h3 =>
    have e := h2.ints
    subst e
    refine ⟨_, rfl, ?_⟩
    rcases h3 with h3 | ⟨s, r, h3⟩
    · rw [h3, List.map_map]
      rfl
    · cases ns with
      | nil => cases h3
      | cons n ns => cases h3
end
/-- what stands at a key -/
def dctGet (kv : Dct) (s : SV) (o : Option D) : Prop := match kv with
  | .I kvs => ∃ k, s = .val (.int k) ∧ dGet kvs k = o
  | .T kvs => ∃ k, s = .val (.tuple (k.map .int)) ∧ dGet kvs k = o
  | .L _ kvs => ∃ k, s = .val (.tuple (k.map .int)) ∧ dGet kvs k = o
/-- a key is written -/
def dctPut (kv : Dct) (s : SV) (d : D) (kv' : Dct) : Prop := match kv with
  | .I kvs => ∃ k, s = .val (.int k) ∧ kvs.length < 16777216 ∧ kv' = .I (dPut kvs k d)
  | .T kvs => ∃ k, s = .val (.tuple (k.map .int)) ∧ kvs.length < 16777216 ∧ kv' = .T (dPut kvs k d)
  | .L _ _ => False
section
variable {K : PySem.W.Frag} {M : Addr → Prop} {H : Hp}
theorem dct_get {kv : Dct} {p : Addr} {s : SV} {v : V} {o : Option D} (h : DicO K M H p kv) (hg : dctGet kv s o) (hv : ∀ d, s = .val d → Enc K M H v d) : ∃ r, DGet H p v r ∧ ((r = none ∧ o = none) ∨ ∃ u d, r = some u ∧ o = some d ∧ Enc K M H u d) := by
  cases kv with
  | I kvs =>
    obtain ⟨ks, h1, h2⟩ := h
    obtain ⟨k, rfl, e⟩ := hg
    have z := hv _ rfl
    cases z
    refine ⟨_, DGet.k (k := .inl k) h1, ?_⟩
    rw [← e]
    exact (pair_get (f := Sum.inl) inl_inj (k := k) h2).imp id fun ⟨u, d, a, b, c⟩ => ⟨u, d, a, b, c⟩
  | T kvs =>
    obtain ⟨ks, h1, h2⟩ := h
    obtain ⟨k, rfl, e⟩ := hg
    obtain ⟨b, rfl, hb⟩ := enc_tupI (hv _ rfl)
    refine ⟨_, DGet.t h1 hb, ?_⟩
    rw [← e]
    exact (pair_get (f := List.map Sum.inl) inls_inj (k := k) h2).imp id fun ⟨u, d, a, b, c⟩ => ⟨u, d, a, b, c⟩
  | L w kvs =>
    obtain ⟨o, ks, hw, h1, h2⟩ := h
    rw [hw] at h1
    obtain ⟨k, rfl, e⟩ := hg
    obtain ⟨b, rfl, hb⟩ := enc_tupI (hv _ rfl)
    refine ⟨_, .inr ⟨_, _, _, .inr ⟨o, h1⟩, rfl, hb, rfl⟩, ?_⟩
    rw [← e]
    exact (pair_get (f := List.map Sum.inl) inls_inj (k := k) h2).imp id fun ⟨u, d, a, b, c⟩ => ⟨u, d, a, b, c⟩
theorem dct_put {kv kv' : Dct} {p : Addr} {s : SV} {v u : V} {d : D} (h : DicO K M H p kv) (hg : dctPut kv s d kv') (hv : ∀ d, s = .val d → Enc K M H v d) (hu : Enc K M H u d) :
    ∃ o, DPut H p v u (upd H p o) ∧ ∀ M', Stay M M' H (upd H p o) → DicO K M' (upd H p o) p kv' := by
  cases kv with
  | I kvs =>
    obtain ⟨ks, h1, h2⟩ := h
    obtain ⟨k, rfl, hz, rfl⟩ := hg
    have z := hv _ rfl
    cases z
    refine ⟨_, DPut.k (k := .inl k) h1 (by rw [pair_len h2, ← line_eq]; exact hz), fun M' S => ⟨_, upd_same, ?_⟩⟩
    exact Paired.mapP (pair_put (f := Sum.inl) inl_inj hu h2) fun a b h => ⟨h.1, Enc.stay S h.2⟩
  | T kvs =>
    obtain ⟨ks, h1, h2⟩ := h
    obtain ⟨k, rfl, hz, rfl⟩ := hg
    obtain ⟨b, rfl, hb⟩ := enc_tupI (hv _ rfl)
    refine ⟨_, DPut.t h1 hb (by rw [pair_len h2, ← line_eq]; exact hz), fun M' S => ⟨_, upd_same, ?_⟩⟩
    exact Paired.mapP (pair_put (f := List.map Sum.inl) inls_inj hu h2) fun a b h => ⟨h.1, Enc.stay S h.2⟩
  | L w kvs => exact hg.elim
theorem DicO.isD {kv : Dct} {p : Addr} (h : DicO K M H p kv) : IsD H p := by
  cases kv with
  | I kvs => obtain ⟨ks, h1, _⟩ := h; exact .inl ⟨ks, .inl h1⟩
  | T kvs => obtain ⟨ks, h1, _⟩ := h; exact .inr ⟨ks, .inl h1⟩
  | L w kvs => obtain ⟨o, ks, hw, h1, _⟩ := h; rw [hw] at h1; exact .inr ⟨ks, .inr ⟨o, h1⟩⟩
end
def isDicS (s : SV) (p : Addr) : Prop := ∃ kv, s = .dic p kv
def tdDNew (b : Bool) : TD := fun δ Q => ∀ p, Q (.dic p (if b then .I [] else .T [])) δ
def tdDGet (i : Nat) (Tk : TD) : TD := fun δ Q => ∃ p kv0, δ[i]? = some (.dic p kv0) ∧ Tk δ fun s δ1 => ∃ kv d, δ1[i]? = some (.dic p kv) ∧ dctGet kv s (some d) ∧ Q (.val d) δ1
def tdDGet2 (i : Nat) (Tk Tx : TD) : TD := fun δ Q => ∃ p kv0, δ[i]? = some (.dic p kv0) ∧ Tk δ fun s δ1 => ∃ k, s = .val k ∧ Tx δ1 fun t δ2 => ∃ kv d o, t = .val d ∧ δ2[i]? = some (.dic p kv) ∧ dctGet kv (.val k) o ∧ Q (.val (o.getD d)) δ2
def tdInDic (neg : Bool) (i : Nat) (Tk : TD) : TD := fun δ Q => Tk δ fun s δ1 => ∃ p kv o, δ1[i]? = some (.dic p kv) ∧ dctGet kv s o ∧ Q (.val (.bool (o.isSome != neg))) δ1
def tsDPut (i : Nat) (Tv Tk : TD) : TDS := fun D δ => Tv δ fun t δ1 => ∃ d, t = .val d ∧ (∃ p kv, δ1[i]? = some (.dic p kv)) ∧ Tk δ1 fun s δ2 => ∃ k, s = .val k ∧ ∃ p kv kv', δ2[i]? = some (.dic p kv) ∧ dctPut kv s d kv' ∧ D.nx (δ2.set i (.dic p kv'))
section
variable {K : PySem.W.Frag} {E : Ent} {G M : Addr → Prop} {σ : L2.St} {H : Hp} {δ : Env} {π : Tmp} {v : V}
theorem RepG.writeD (R : RepG K E G M σ H δ π) {i : Nat} {p : Addr} {kv kv' : Dct} {o : HO} (h : δ[i]? = some (.dic p kv)) (hd : ∀ M', Stay M M' H (upd H p o) → DicO K M' (upd H p o) p kv') : RepG K E G M σ (upd H p o) (δ.set i (.dic p kv')) π :=
  R.writeO (s := .dic p kv) (t := .dic p kv') h (by simp [owned]) rfl (fun z => nomatch z) fun v r m S => ⟨r.1, m, hd M S⟩
end
section
variable {X : Cx} {E : Ent} {e k a b : Expr} {op : CmpOp} {T Tk Tx : TD} {pos p1 p2 cpos : Pos} {x : Str} {i : Nat}
theorem hu1 (hu : X.A.units + 65 < cLine) : X.A.units + 1 < cLine := by omega
theorem de_dnewK : DE X E (.Dict [] [] pos) (tdDNew true) := PE.imp pe_dnewK fun σ H Q ⟨δ, π, Q', ⟨G, M, R⟩, t, k⟩ p n => k _ _ _ _ ⟨_, _, R.freshD n true⟩ (t p)
theorem de_dnewT : DE X E (.Dict [] [] pos) (tdDNew false) := PE.imp pe_dnewT fun σ H Q ⟨δ, π, Q', ⟨G, M, R⟩, t, k⟩ p n => k _ _ _ _ ⟨_, _, R.freshD n false⟩ (t p)
theorem de_dget (hu : X.A.units + 65 < cLine) (hk : DE X E k Tk) (hN : X.N[i]? = some x := by rfl) (hv : Vis X.env.scope x := by first | exact Or.inl rfl | exact Or.inr (Or.inl rfl) | exact Or.inr (Or.inr rfl)) (hd : (x == ("__debug__" : Str)) = false := by decide) (hcd : (x == ("__classdict__" : Str)) = false := by decide)
    (hs : NoSl k := by exact fun _ _ => rfl) : DE X E (.Subscript (.Name x p1) k pos) (tdDGet i Tk) :=
  PE.imp (pe_dget (hu1 hu) (pv i hN hv hd hcd) hk hs) fun σ H Q ⟨δ, π, Q', R, ⟨p, kv0, h0, t⟩, kk⟩ => by
    have RR := R
    obtain ⟨G, M, R⟩ := R
    obtain ⟨v, e1, rfl, m, l⟩ := R.slotv h0 (fun z => nomatch z)
    refine ⟨.ref p, e1, δ, π, _, RR, t, fun y H1 s δ1 R1 ⟨kv, d, h1, hg, q⟩ => ?_⟩
    obtain ⟨G1, M1, R1⟩ := R1
    obtain ⟨v1, e2, rfl, m1, l1⟩ := R1.slotv h1 (fun z => nomatch z)
    obtain ⟨r, hr, z⟩ := dct_get l1 hg (v := y) (fun d e => by subst e; exact R1.top)
    rcases z with ⟨_, z⟩ | ⟨u, d', rfl, e3, en⟩
    · cases z
    · cases e3
      exact ⟨p, u, rfl, hr, kk _ _ _ _ ⟨G1, M1, R1.drop.push (s := .val d) en rfl⟩ q⟩
theorem de_dget2 (hu : X.A.units + 65 < cLine) (hk : DE X E k Tk) (he : DE X E e Tx) (hN : X.N[i]? = some x := by rfl) (hv : Vis X.env.scope x := by first | exact Or.inl rfl | exact Or.inr (Or.inl rfl) | exact Or.inr (Or.inr rfl)) (hd : (x == ("__debug__" : Str)) = false := by decide) (hcd : (x == ("__classdict__" : Str)) = false := by decide)
    (m : M2 X (.Name x p1) "get" p2 k e cpos := by exact ⟨rfl, rfl, rfl, rfl⟩) : DE X E (.Call (.Attribute (.Name x p1) "get" p2) [k, e] [] cpos) (tdDGet2 i Tk Tx) :=
  PE.imp (pe_dget2 (hu1 hu) (pv i hN hv hd hcd) hk he m) fun σ H Q ⟨δ, π, Q', R, ⟨p, kv0, h0, t⟩, kk⟩ => by
    have RR := R
    obtain ⟨G, M, R⟩ := R
    obtain ⟨v, e1, rfl, m, l⟩ := R.slotv h0 (fun z => nomatch z)
    refine ⟨.ref p, e1, p, rfl, l.isD, δ, π, _, RR, t, fun y H1 s δ1 R1 ⟨kd, es, t1⟩ => ?_⟩
    subst es
    refine ⟨δ1, (y, .val kd) :: π, _, R1, t1, fun z H2 u δ2 R2 ⟨kv, d, o, eu, h1, hg, q⟩ => ?_⟩
    subst eu
    obtain ⟨G1, M1, R2⟩ := R2
    obtain ⟨v1, e2, rfl, m1, l1⟩ := R2.slotv h1 (fun z => nomatch z)
    have ez : Enc X.K M1 H2 z d := R2.top
    obtain ⟨r, hr, w⟩ := dct_get l1 hg (v := y) (fun d' e => by cases e; exact R2.drop.top)
    refine ⟨r, hr, ?_⟩
    rcases w with ⟨rfl, rfl⟩ | ⟨u, d', rfl, rfl, en⟩
    · exact kk _ _ _ _ ⟨G1, M1, R2.drop.drop.push (s := .val d) ez rfl⟩ q
    · exact kk _ _ _ _ ⟨G1, M1, R2.drop.drop.push (s := .val d') en rfl⟩ q
theorem inDic_ok {neg : Bool} (hu : X.A.units + 65 < cLine) (hk : DE X E k Tk) (hN : X.N[i]? = some x) (hv : Vis X.env.scope x) (hd : (x == ("__debug__" : Str)) = false) (hcd : (x == ("__classdict__" : Str)) = false) : PC X (if neg then .NotIn else .In) k (.Name x p1) (lE X.K E (tdInDic neg i Tk)) := by
  have key : ∀ σ H Q, lE X.K E (tdInDic neg i Tk) σ H Q → lE X.K E Tk σ H fun y H1 => ∃ v, σ[i]? = some (some v) ∧ ∃ a o, v = .ref a ∧ DGet H1 a y o ∧ Q (.bl (o.isSome != neg)) H1 := fun σ H Q ⟨δ, π, Q', R, t, kk⟩ =>
    ⟨δ, π, _, R, t, fun y H1 s δ1 R1 ⟨p, kv, o, h1, hg, q⟩ => by
      have RR := R1.drop
      obtain ⟨G1, M1, R1⟩ := R1
      obtain ⟨v1, e2, rfl, m1, l1⟩ := R1.slotv h1 (fun z => nomatch z)
      obtain ⟨r, hr, w⟩ := dct_get l1 hg (v := y) (fun d e => by subst e; exact R1.top)
      have eo : r.isSome = o.isSome := by
        rcases w with ⟨rfl, rfl⟩ | ⟨u, d', rfl, rfl, _⟩ <;> rfl
      exact ⟨.ref p, e2, p, r, rfl, hr, by rw [eo]; exact kk _ _ _ _ (RR.bl _) q⟩⟩
  cases neg with
  | true =>
    have h := pc_dnotin (hu1 hu) hk (pv (pos := p1) i hN hv hd hcd)
    refine ⟨fun pins s σ H Q I q => h.run pins s σ H Q I ?_⟩
    obtain ⟨δ, π, Q', R, t, kk⟩ := key σ H Q q
    exact ⟨δ, π, Q', R, t, fun y H1 s δ1 R1 q1 => by
      obtain ⟨v, e, a, o, rfl, g, q2⟩ := kk y H1 s δ1 R1 q1
      exact ⟨_, e, a, o, rfl, g, by simpa using q2⟩⟩
  | false =>
    have h := pc_din (hu1 hu) hk (pv (pos := p1) i hN hv hd hcd)
    refine ⟨fun pins s σ H Q I q => h.run pins s σ H Q I ?_⟩
    obtain ⟨δ, π, Q', R, t, kk⟩ := key σ H Q q
    exact ⟨δ, π, Q', R, t, fun y H1 s δ1 R1 q1 => by
      obtain ⟨v, e, a, o, rfl, g, q2⟩ := kk y H1 s δ1 R1 q1
      exact ⟨_, e, a, o, rfl, g, by simpa using q2⟩⟩
theorem de_inDic (hu : X.A.units + 65 < cLine) (hk : DE X E k Tk) (hN : X.N[i]? = some x := by rfl) (hv : Vis X.env.scope x := by first | exact Or.inl rfl | exact Or.inr (Or.inl rfl) | exact Or.inr (Or.inr rfl)) (hd : (x == ("__debug__" : Str)) = false := by decide) (hcd : (x == ("__classdict__" : Str)) = false := by decide)
    : DE X E (.Compare k [.In] [.Name x p1] pos) (tdInDic false i Tk) := pe_cmp (inDic_ok (neg := false) (X := X) hu hk hN hv hd hcd) rfl
theorem de_notinDic (hu : X.A.units + 65 < cLine) (hk : DE X E k Tk) (hN : X.N[i]? = some x := by rfl) (hv : Vis X.env.scope x := by first | exact Or.inl rfl | exact Or.inr (Or.inl rfl) | exact Or.inr (Or.inr rfl)) (hd : (x == ("__debug__" : Str)) = false := by decide) (hcd : (x == ("__classdict__" : Str)) = false := by decide)
    : DE X E (.Compare k [.NotIn] [.Name x p1] pos) (tdInDic true i Tk) := pe_cmp (inDic_ok (neg := true) (X := X) hu hk hN hv hd hcd) rfl
theorem testB {T : TD} (h : PC X op a b (lE X.K E T)) (h1 : behindInMarks op b = false) : DT X E (.Compare a [op] [b] pos) (tdTest T) := PT.imp (pt_cmp h h1) fun σ H Q ⟨δ, π, Q', R, t, k⟩ => ⟨δ, π, _, R, t, fun v H' r δ' R' q => by
  obtain ⟨c, rfl, q⟩ := q
  have e : v = .bl c := by
    obtain ⟨G, M, R1⟩ := R'
    have := R1.top (s := .val (.bool c))
    cases this
    rfl
  obtain ⟨G, M, R1⟩ := R'
  exact ⟨c, e, k c H' δ' ⟨G, M, R1.drop⟩ q⟩⟩
theorem dt_inDic (hu : X.A.units + 65 < cLine) (hk : DE X E k Tk) (hN : X.N[i]? = some x := by rfl) (hv : Vis X.env.scope x := by first | exact Or.inl rfl | exact Or.inr (Or.inl rfl) | exact Or.inr (Or.inr rfl)) (hd : (x == ("__debug__" : Str)) = false := by decide) (hcd : (x == ("__classdict__" : Str)) = false := by decide)
    : DT X E (.Compare k [.In] [.Name x p1] pos) (tdTest (tdInDic false i Tk)) := testB (inDic_ok (neg := false) (X := X) hu hk hN hv hd hcd) rfl
theorem dt_notinDic (hu : X.A.units + 65 < cLine) (hk : DE X E k Tk) (hN : X.N[i]? = some x := by rfl) (hv : Vis X.env.scope x := by first | exact Or.inl rfl | exact Or.inr (Or.inl rfl) | exact Or.inr (Or.inr rfl)) (hd : (x == ("__debug__" : Str)) = false := by decide) (hcd : (x == ("__classdict__" : Str)) = false := by decide)
    : DT X E (.Compare k [.NotIn] [.Name x p1] pos) (tdTest (tdInDic true i Tk)) := testB (inDic_ok (neg := true) (X := X) hu hk hN hv hd hcd) rfl
theorem ds_dput (hu : X.A.units + 65 < cLine) (hk : DE X E k Tk) (he : DE X E e T) (hN : X.N[i]? = some x := by rfl) (hv : Vis X.env.scope x := by first | exact Or.inl rfl | exact Or.inr (Or.inl rfl) | exact Or.inr (Or.inr rfl)) (hd : (x == ("__debug__" : Str)) = false := by decide) (hcd : (x == ("__classdict__" : Str)) = false := by decide)
    (hs : swapsWith e (some (.Subscript (.Name x p1) k p2)) pos.line X.env = pure false := by rfl) : DS X E (.Assign [.Subscript (.Name x p1) k p2] e pos) (tsDPut i T Tk) :=
  PS.imp (ps_dput (hu1 hu) (pv i hN hv hd hcd) hk he hs) fun D σ H ⟨δ, π, D', R, t, n, r, b, c⟩ => ⟨δ, π, _, R, t, fun w H1 s δ1 R1 ⟨d, es, ⟨p0, kv0, h0⟩, t1⟩ => by
    subst es
    have RR := R1
    obtain ⟨G, M, R1⟩ := R1
    obtain ⟨v0, e0, rfl, _, _⟩ := R1.slotv h0 (fun z => nomatch z)
    refine ⟨.ref p0, e0, δ1, _, _, RR, t1, fun y H2 s2 δ2 R2 ⟨kd, e2, p, kv, kv', h2, hp, q⟩ => ?_⟩
    subst e2
    obtain ⟨G2, M2, R2⟩ := R2
    obtain ⟨v2, e3, rfl, m2, l2⟩ := R2.slotv h2 (fun z => nomatch z)
    rw [e0] at e3
    cases e3
    have ew : Enc X.K M2 H2 w d := R2.drop.top
    obtain ⟨o, hput, hdic⟩ := dct_put l2 hp (v := y) (u := w) (fun d' e => by cases e; exact R2.top) ew
    exact ⟨_, _, rfl, hput, n _ _ _ ⟨G2, M2, (R2.writeD h2 hdic).drop.drop⟩ q⟩⟩
end
end HR
namespace HR
open PySem PySem.Spec L2
open PyProof.Rows hiding St
/-! ### a display with one tuple key -/
def oneP (R : V → V → Hp → Prop) : List (V × V) → Hp → Prop
  | [(x, y)], H => R x y H
  | _, _ => False
theorem oneP_some {R : V → V → Hp → Prop} : ∀ {ps : List (V × V)} {H : Hp}, oneP R ps H → ∃ x y, ps = [(x, y)] ∧ R x y H
  | [(x, y)], _, h => ⟨x, y, rfl, h⟩
  | [], _, h => h.elim
  | _ :: _ :: _, _, h => h.elim
theorem pe_dispT {X : Cx} {pos : Pos} {k v : Expr} {tk tv : TE} (hu : X.A.units + 1 < cLine) (hk : PE X k tk) (hv : PE X v tv) : PE X (.Dict [some k] [v] pos) (fun σ H Q => ∀ p, H p = none → tk σ (upd H p (.dT [])) fun x H1 => tv σ H1 fun y H2 =>
    H2 p = some (.dT []) ∧ ∃ (ks : List Key) (q : Addr), x = .ref q ∧ H2 q = some (.tup (ks.map kV)) ∧ Q (.ref p) (upd H2 p (.dT [(ks, y)]))) := by
  refine ⟨fun pins s σ H Q I q => ?_⟩
  have hn := I.hok.fresh (Nat.le_refl s.heap.objs.size)
  have I1 := I.laid (a := s.heap.objs.size) (o := .dT []) (h' := s.heap.push { cls := .type "dict", data := .dict #[] }) (t' := s.toks) (fun _ _ q => Heap.get?_push_of_some _ q) (Nat.le_refl _) (dt_empty s.heap I.big)
  have hp := pps_cons (pos := pos) hk hv (pps_nil (X := X) (pos := pos))
  have hl := pairTrees_length [some k] [v] X.env pos rfl rfl
  rw [arm_eval_Dict, zip_pairTrees [some k] [v] X.env pos rfl rfl, dictDisplay_pairs _ (by intro z; rw [z] at hl; cases hl) (by rw [hl]; exact Nat.le_of_ble_eq_true rfl)]
  refine wpAny_bind (wpAny_standAt (wpAny_bind (wpAny_subDictH (knd := tupleKind (mixKind X.prog X.w)) (show X.A.units < cLine by omega) (by rw [hl]; exact Nat.le_of_ble_eq_true rfl) (thn (hp.run pins _ σ _ (oneP fun x y H2 => H2 s.heap.objs.size = some (.dT []) ∧ ∃ (ks : List Key) (q : Addr), x = .ref q ∧ H2 q = some (.tup (ks.map kV)) ∧ Q (.ref s.heap.objs.size) (upd H2 s.heap.objs.size (.dT [(ks, y)]))) I1 (q _ hn)) fun ws s2 ⟨ps, H2, I2, rel, hq⟩ => ?_))))
  · obtain ⟨x, y, ep, e, ks, q, ex, eq, hQ⟩ := oneP_some hq
    subst ep ex
    obtain ⟨z, hd, xs, r0, dd⟩ := dt_of I2.hok e
    cases r0
    cases rel with
    | @cons a b as bs h t =>
      obtain ⟨b1, b2⟩ := b
      cases t
      obtain ⟨hb1, hb2⟩ := h
      cases (show b1 = Value.ref q from hb1)
      refine ⟨[(ks, q, b2)], ⟨rfl, rfl, key_of I2.hok eq, trivial⟩, dd, fun h' tk dd' hs => wpAny_pure ⟨.ref s.heap.objs.size, _, ?_, rfl, hQ⟩⟩
      obtain ⟨o, es, ep, hq, h2, h3, h4, _, h5⟩ := dd'
      refine d_write I2 (by rw [e]; exact True.intro) hs ⟨o, hq⟩ ⟨by rw [sizeLine_eq]; exact Nat.le_of_ble_eq_true rfl, hd, [(ks, q, b2)], .cons ⟨rfl, ?_, hb2⟩ .nil, o, es, ep, hq, h2, h3, h4, h5⟩
      rw [upd_ne (ne_of eq e (fun z => nomatch z))]
      exact eq
/-- an own dict in hand is written -/
theorem RepG.writeTD {K : PySem.W.Frag} {E : Ent} {G M : Addr → Prop} {σ : L2.St} {H : Hp} {δ : Env} {π : Tmp} {v : V} {p : Addr} {kv kv' : Dct} {o : HO} (R : RepG K E G M σ H δ ((v, .dic p kv) :: π)) (hd : ∀ M', Stay M M' H (upd H p o) → DicO K M' (upd H p o) p kv') : RepG K E G M σ (upd H p o) δ ((v, .dic p kv') :: π) := by
  obtain ⟨rfl, m, l⟩ := R.top
  have S : Stay M M H (upd H p o) := stay_upd m.1 l.mut
  have ap := R.apartT (p := p) (by simp [owned])
  refine ⟨R.g0, ext_upd R.ext m.2.2, good_upd R.good m.2.1, R.len, fun j t hj n => ?_, fun x hx => ?_, R.nd⟩
  · obtain ⟨w, e', r⟩ := R.slot j t hj n
    refine ⟨w, e', r.stay S (fun _ z => z) fun a ha m => ⟨m, ?_⟩⟩
    exact upd_ne fun z => ap (List.mem_append_left _ (List.mem_flatMap.mpr ⟨t, List.mem_of_getElem? hj, z ▸ ha⟩))
  · rcases List.mem_cons.mp hx with rfl | hx
    · exact ⟨rfl, m, hd M S⟩
    · refine (R.tmp x (List.mem_cons_of_mem _ hx)).stay S (fun _ z => z) fun a ha m => ⟨m, ?_⟩
      exact upd_ne fun z => ap (List.mem_append_right _ (List.mem_flatMap.mpr ⟨x, hx, z ▸ ha⟩))
def tdDisp (Tk Tv : TD) : TD := fun δ Q => Tk δ fun s δ1 => ∃ ks : List Int, s = .val (.tuple (ks.map .int)) ∧ Tv δ1 fun t δ2 => ∃ d, t = .val d ∧ ∀ p, Q (.dic p (.T [(ks, d)])) δ2
theorem de_disp {X : Cx} {E : Ent} {pos : Pos} {k v : Expr} {Tk Tv : TD} (hu : X.A.units + 65 < cLine) (hk : DE X E k Tk) (hv : DE X E v Tv) : DE X E (.Dict [some k] [v] pos) (tdDisp Tk Tv) :=
  PE.imp (pe_dispT (hu1 hu) hk hv) fun σ H Q ⟨δ, π, Q', ⟨G, M, R⟩, t, kk⟩ p n => by
    have R1 := R.freshD n false
    refine ⟨δ, (.ref p, .dic p (.T [])) :: π, _, ⟨_, _, R1⟩, t, fun x H1 s δ1 R2 ⟨ks, es, t2⟩ => ?_⟩
    refine ⟨δ1, (x, s) :: (.ref p, .dic p (.T [])) :: π, _, R2, t2, fun y H2 u δ2 R3 ⟨d, eu, q⟩ => ?_⟩
    subst es eu
    obtain ⟨G3, M3, R3⟩ := R3
    have ey : Enc X.K M3 H2 y d := R3.top
    obtain ⟨b, rfl, hb⟩ := enc_tupI (R3.drop.top : Enc X.K M3 H2 x (.tuple (ks.map .int)))
    have R4 := R3.drop.drop
    obtain ⟨_, m, ks0, h1, h2⟩ := R4.top
    cases h2
    exact ⟨h1, ks.map Sum.inl, b, rfl, hb, kk _ _ _ _ ⟨G3, M3, R4.writeTD (kv' := .T [(ks, d)]) fun M' S => ⟨[(ks.map Sum.inl, y)], upd_same, .cons ⟨rfl, Enc.stay S ey⟩ .nil⟩⟩ (q p)⟩
/-! ### a walk over a dict's keys: the dict is locked meanwhile -/
def tsLock (i : Nat) (T : TDS) : TDS := fun D δ => ∃ p kvs, δ[i]? = some (.dic p (.T kvs)) ∧ ∀ w, T { nx := fun δ' => δ'[i]? = some (.dic p (.L w kvs)) ∧ D.nx (δ'.set i (.dic p (.T kvs))), rt := fun r δ' => δ'[i]? = some (.dic p (.L w kvs)) ∧ D.rt r (δ'.set i (.dic p (.T kvs))), bk := fun δ' => δ'[i]? = some (.dic p (.L w kvs)) ∧ D.bk (δ'.set i (.dic p (.T kvs))), ct := fun δ' => δ'[i]? = some (.dic p (.L w kvs)) ∧ D.ct (δ'.set i (.dic p (.T kvs))) } (δ.set i (.dic p (.L w kvs)))
def tdLock (i : Nat) (T : TD) : TD := fun δ Q => ∃ p kvs, δ[i]? = some (.dic p (.T kvs)) ∧ ∀ w, T (δ.set i (.dic p (.L w kvs))) fun r δ' => δ'[i]? = some (.dic p (.L w kvs)) ∧ Q r (δ'.set i (.dic p (.T kvs)))
section
variable {K : PySem.W.Frag} {E : Ent} {σ : L2.St} {H : Hp} {δ : Env} {π : Tmp}
theorem Rep.unlock {i : Nat} {p : Addr} {od : Obj} {ks : List (List Key × V)} {kvs : List (List Int × D)} (R : Rep K E σ H δ π) (h : δ[i]? = some (.dic p (.L (fun _ => some (.frz od (.dT ks))) kvs))) :
    H p = some (.frz od (.dT ks)) ∧ Rep K E σ (upd H p (.dT ks)) (δ.set i (.dic p (.T kvs))) π := by
  obtain ⟨G, M, R⟩ := R
  obtain ⟨v, e, rfl, m, o2, ks2, hw, h1, h2⟩ := R.slotv h (fun z => nomatch z)
  cases hw
  exact ⟨h1, G, M, R.writeD h fun M' S => ⟨ks, upd_same, Paired.mapP h2 fun a b h => ⟨h.1, Enc.stay S h.2⟩⟩⟩
theorem Rep.lock {i : Nat} {p : Addr} {kvs : List (List Int × D)} (R : Rep K E σ H δ π) (h : δ[i]? = some (.dic p (.T kvs))) :
    ∃ ks : List (List Key × V), H p = some (.dT ks) ∧ ∀ od, Rep K E σ (upd H p (.frz od (.dT ks))) (δ.set i (.dic p (.L (fun _ => some (.frz od (.dT ks))) kvs))) π := by
  obtain ⟨G, M, R⟩ := R
  obtain ⟨v, e, rfl, m, ks, h1, h2⟩ := R.slotv h (fun z => nomatch z)
  exact ⟨ks, h1, fun od => ⟨G, M, R.writeD h fun M' S => ⟨od, ks, rfl, upd_same, Paired.mapP h2 fun a b h => ⟨h.1, Enc.stay S h.2⟩⟩⟩⟩
end
section
variable {X : Cx} {E : Ent} {st : Stmt} {e tg : Expr} {T : TD} {U : TDS} {pos p1 : Pos} {x : Str} {i : Nat}
theorem ds_lock (h : DS X E st U) : DS X E st (tsLock i U) := PS.imp (ps_lock h) fun D σ H ⟨δ, π, D', R, ⟨p, kvs, h0, t⟩, n, r, b, c⟩ => by
  obtain ⟨ks, hp, R1⟩ := R.lock h0
  refine ⟨p, .dT ks, hp, trivial, fun od => ⟨_, π, _, R1 od, t _, fun σ' H' δ' R' ⟨e, q⟩ => ?_, fun σ' H' v r' δ' R' ⟨e, q⟩ => ?_, fun σ' H' δ' R' ⟨e, q⟩ => ?_, fun σ' H' δ' R' ⟨e, q⟩ => ?_⟩⟩
  · obtain ⟨a, R2⟩ := R'.unlock e
    exact ⟨a, n _ _ _ R2 q⟩
  · obtain ⟨a, R2⟩ := R'.unlock e
    exact ⟨a, r _ _ _ _ _ R2 q⟩
  · obtain ⟨a, R2⟩ := R'.unlock e
    exact ⟨a, b _ _ _ R2 q⟩
  · obtain ⟨a, R2⟩ := R'.unlock e
    exact ⟨a, c _ _ _ R2 q⟩
theorem de_lock (h : DE X E e T) : DE X E e (tdLock i T) := PE.imp (pe_lock h) fun σ H Q ⟨δ, π, Q', R, ⟨p, kvs, h0, t⟩, k⟩ => by
  obtain ⟨ks, hp, R1⟩ := R.lock h0
  refine ⟨p, .dT ks, hp, trivial, fun od => ⟨_, π, _, R1 od, t _, fun v H' r δ' R' ⟨e, q⟩ => ?_⟩⟩
  obtain ⟨a, R2⟩ := R'.unlock e
  exact ⟨a, k _ _ _ _ R2 q⟩
def keyD (kv : List Int × D) : D := .tuple (kv.1.map .int)
def tdKeys (i : Nat) : TDI := fun δ Q => ∃ p w kvs, δ[i]? = some (.dic p (.L w kvs)) ∧ kvs.length ≤ 16777216 ∧ Q (kvs.map keyD) (fun δ' => δ'[i]? = some (.dic p (.L w kvs))) δ
theorem wk_keys {K : PySem.W.Frag} {E : Ent} {p : Addr} {od : Obj} {ks : List (List Key × V)} {w : Unit → Option HO} {kvs : List (List Int × D)} (hw : w () = some (.frz od (.dT ks))) (hl : kvs.length ≤ 16777216) : Wk K E (Itkt p od ks) [] (fun δ => δ[i]? = some (.dic p (.L w kvs))) (kvs.map keyD) := by
  have key : ∀ {σ : L2.St} {H : Hp} {δ : Env} {π : Tmp}, Rep K E σ H δ π → δ[i]? = some (.dic p (.L w kvs)) → ∃ G M, RepG K E G M σ H δ π ∧ H p = some (.frz od (.dT ks)) ∧ Paired (fun (a : List Key × V) (b : List Int × D) => a.1 = b.1.map .inl ∧ Enc K M H a.2 b.2) ks kvs := fun {σ H δ π} ⟨G, M, R⟩ c => by
    obtain ⟨v, e, rfl, m, o2, ks2, hw2, h1, h2⟩ := R.slotv c (fun z => nomatch z)
    rw [hw] at hw2 h1
    cases hw2
    exact ⟨G, M, R, h1, h2⟩
  refine ⟨fun σ H δ π i hi R c => ?_, fun σ H δ π R c => ?_, fun σ H δ π i x H' hi R c y => ?_, by rw [List.length_map, sizeLine_eq]; exact hl⟩
  · obtain ⟨G, M, R, h1, h2⟩ := key R c
    exact ⟨h1, by rw [pair_len h2]; simpa using hi⟩
  · obtain ⟨G, M, R, h1, h2⟩ := key R c
    exact ⟨h1, by rw [pair_len h2]; simp⟩
  · obtain ⟨G, M, R, h1, h2⟩ := key R c
    obtain ⟨rfl, k, v, q, e1, rfl, e2⟩ := y
    obtain ⟨b, e3, e4, _⟩ := paired_get h2 e1
    refine ⟨keyD b, by rw [List.getElem?_map, e3]; rfl, G, M, R.push (s := .val (keyD b)) ?_ rfl⟩
    have e5 : H' q = some (.tup (b.1.map V.int)) := by
      have e6 : k = b.1.map Sum.inl := e4
      rw [e2, e6, List.map_map]
      rfl
    exact Enc.tup (.inl (.inl e5)) (EncS.of_ints _) (.inl e5)
theorem di_keys (hN : X.N[i]? = some x := by rfl) (hv : Vis X.env.scope x := by first | exact Or.inl rfl | exact Or.inr (Or.inl rfl) | exact Or.inr (Or.inr rfl)) (hd : (x == ("__debug__" : Str)) = false := by decide) (hcd : (x == ("__classdict__" : Str)) = false := by decide) : DI X E tg (.Name x p1) (tdKeys i) :=
  PI.imp (pi_keys (pv i hN hv hd hcd)) fun σ H Q ⟨δ, π, Q', R, ⟨p, w, kvs, h0, hl, q⟩, k⟩ => by
    have RR := R
    obtain ⟨G, M, R⟩ := R
    obtain ⟨v, e, rfl, m, od, ks, hw, h1, h2⟩ := R.slotv h0 (fun z => nomatch z)
    refine ⟨.ref p, e, p, od, rfl, .inr ⟨ks, by rw [h1, hw], k _ _ _ [] _ _ RR (wk_keys hw hl) q⟩⟩
/-- return of an own dict -/
def tsRetDic (i : Nat) : TDS := fun D δ => ∃ p kv, δ[i]? = some (.dic p kv) ∧ D.rt (.dic p kv) (δ.set i .none)
theorem ds_retDic {pos' : Pos} (hN : X.N[i]? = some x := by rfl) (hv : Vis X.env.scope x := by first | exact Or.inl rfl | exact Or.inr (Or.inl rfl) | exact Or.inr (Or.inr rfl)) (hd : (x == ("__debug__" : Str)) = false := by decide) (hcd : (x == ("__classdict__" : Str)) = false := by decide) :
    DS X E (.Return (some (.Name x pos')) pos) (tsRetDic i) := PS.imp (ps_ret (pv i hN hv hd hcd)) fun D σ H ⟨δ, π, D', ⟨G, M, R⟩, ⟨p, kv, h0, tt⟩, n, r, _⟩ => by
  obtain ⟨v, e, R2⟩ := R.take h0 (fun z => nomatch z)
  exact ⟨v, e, r σ H v _ _ ⟨_, _, R2⟩ tt⟩
end
end HR
namespace HR
open PySem PySem.Spec L2
open PyProof.Rows hiding St
/-- a, b, c = x, y, z -/
def tsPar3 (i j l : Nat) (Ts : TDA) : TDS := fun D δ => Ts δ (on3 fun s t u δ1 => stD s δ1 fun s' δ2 => stD t δ2 fun t' δ3 => stD u δ3 fun u' δ4 => putD i s' δ4 fun δ5 => putD j t' δ5 fun δ6 => putD l u' δ6 D.nx)
section
variable {X : Cx} {E : Ent} {pos : Pos}
theorem ds_par3 {i j l : Nat} {x y z : Str} {a b c : Expr} {Ts : TDA} {px py pz pt : Pos} {kt k2 pt2} (hc : X.calm = true) (hN : X.N.Nodup) (ha : DA X E [a, b, c] Ts) (hi : X.N[i]? = some x := by rfl) (hj : X.N[j]? = some y := by rfl) (hl : X.N[l]? = some z := by rfl) (hij : i ≠ j := by decide) (hil : i ≠ l := by decide) (hjl : j ≠ l := by decide)
    (hx : X.env.scope.names.lookup x = some .local := by rfl) (hy : X.env.scope.names.lookup y = some .local := by rfl) (hz : X.env.scope.names.lookup z = some .local := by rfl)
    (hw : swappedStores [.Tuple [.Name x px, .Name y py, .Name z pz] kt pt] (.Tuple [a, b, c] k2 pt2) X.env = pure (some [x, y, z]) := by rfl)
    (hs : swapsWithSole [.Tuple [.Name x px, .Name y py, .Name z pz] kt pt] (.Tuple [a, b, c] k2 pt2) pos.line X.env = pure false := by rfl) :
    DS X E (.Assign [.Tuple [.Name x px, .Name y py, .Name z pz] kt pt] (.Tuple [a, b, c] k2 pt2) pos) (tsPar3 i j l Ts) :=
  PS.imp (ps_par3 hc hN hi hj hl hij hil hjl hx hy hz ha hw hs) fun D σ H ⟨δ, π, D', R, t, n, r, b, c⟩ => ⟨δ, π, _, R, t, fun vs H' ss δ' el R' q => by
    obtain ⟨s, t, u, v, w, o, rfl, rfl, q⟩ := on3_iff q el
    have R1 : Rep X.K E σ H' δ' ((v, s) :: (w, t) :: (o, u) :: π) := R'
    obtain ⟨s', δ2, _, R2, q2⟩ := stD_ok R1 q
    obtain ⟨t', δ3, _, R3, q3⟩ := stD_ok (R2.perm (List.Perm.swap _ _ _)) q2
    have R3' : Rep X.K E σ H' δ3 ((o, u) :: (w, t') :: (v, s') :: π) := R3.perm (((List.Perm.swap _ _ _).cons _).trans (List.Perm.swap _ _ _))
    obtain ⟨u', δ4, _, R4, q4⟩ := stD_ok R3' q3
    obtain ⟨l1, q4⟩ := putD_ok q4
    obtain ⟨l2, q4⟩ := putD_ok q4
    obtain ⟨l3, q4⟩ := putD_ok q4
    refine ⟨v, w, o, rfl, ?_⟩
    have R5 : Rep X.K E σ H' δ4 ((v, s') :: (w, t') :: (o, u') :: π) := R4.perm ((List.Perm.swap _ _ _).trans (((List.Perm.swap _ _ _).cons _).trans (List.Perm.swap _ _ _)))
    obtain ⟨G, M, R6⟩ := R5
    exact n _ _ _ ⟨G, M, ((R6.store l1).store l2).store l3⟩ q4⟩
end
end HR
/-! ### t += u, tuples -/
namespace PyProof.Rows
open PySem
theorem hr_iaddT_road {M : Model} {A : Around} {E : Value → Shared → Prop} {s : Shared} {a b : Value} {Q : Value → Shared → Prop} (ha : s.TypeIs a "tuple") (hb : s.TypeIs b "tuple") (hc : wpAny M A (call (.builtin "tuple.__add__") [a, b]) Q E s) : wpAny M A (inplaceOp .Add a b) Q E s := by
  have hno : typeLookup (.type "tuple") (dunderI "add") = pure none := by rw [typeLookup_type, builtinLookup_eq_fast]; kernel_rfl
  have hfi : fillsInplaceSlot (.type "tuple") "add" (Operator.Add == .Add) = pure false := by
    unfold fillsInplaceSlot
    show (typeLookup (.type "tuple") (dunderI "add") >>= fun fi => pure (fi.isSome && !isSeqSlot fi)) = pure false
    rw [hno]
    rfl
  have hsi : seqSlot? (.type "tuple") (dunderI "add") = pure none := by
    unfold seqSlot?
    rw [hno]
    rfl
  unfold inplaceOp
  refine wpAny_holding ?_
  refine wpAny_bind (wpAny_typeOf ha (wpAny_bind (wpAny_of_eq hfi ?_)))
  show wpAny M A (if false = true then _ else _) Q E s
  rw [if_neg Bool.false_ne_true]
  refine wpAny_bind (wpAny_binaryOp1_none (nm := "add") ha hb noFill_tuple_add ?_)
  refine wpAny_bind (wpAny_of_eq hsi ?_)
  refine wpAny_bind (wpAny_of_eq seq_tuple_add ?_)
  exact wpAny_bind (wpAny_rule hc)
section
variable {prog : Program} {w : World} {A : Around} {E : Value → Shared → Prop} {s : Shared}
theorem hr_iaddT {t b : Addr} {vs ws : List Value} {Q : Value → Shared → Prop} (ht : IsTup s.heap t vs.toArray) (hb : IsTup s.heap b ws.toArray)
    (h0 : vs = [] → Q (.ref b) s) (h1 : vs ≠ [] → ws = [] → Q (.ref t) s)
    (h2 : vs ≠ [] → ws ≠ [] → Q (.ref s.heap.objs.size) { s with heap := s.heap.push { cls := .type "tuple", data := .seq (vs ++ ws).toArray } })
    (hsz : vs.length + ws.length ≤ sizeLine) :
    wpAny (model prog w) A (inplaceOp .Add (.ref t) (.ref b)) Q E s := by
  obtain ⟨⟨cls, dd, data, sl⟩, ho, hc, n, hd⟩ := id ht
  obtain ⟨⟨cls2, dd2, data2, sl2⟩, ho2, hc2, n2, hd2⟩ := id hb
  simp only at hc hd hc2 hd2
  subst hc hd hc2 hd2
  have e : vs.toArray ++ ws.toArray = (vs ++ ws).toArray := by simp
  refine hr_iaddT_road ⟨_, ho, rfl⟩ ⟨_, ho2, rfl⟩ ?_
  by_cases hv : vs = []
  · exact call_meets PySem.F.slot_tuple_add ⟨_, ho, rfl⟩ PySem.F.entry_tuple_add (PySem.F.args_tuple_add_2 _ _)
      (tuple_addW0 t b vs.toArray ws.toArray n n2 dd dd2 sl sl2 (by simp [hv])) ⟨ho, ho2, h0 hv⟩
  · by_cases hw : ws = []
    · exact call_meets PySem.F.slot_tuple_add ⟨_, ho, rfl⟩ PySem.F.entry_tuple_add (PySem.F.args_tuple_add_2 _ _)
        (tuple_addW1 t b vs.toArray ws.toArray n n2 dd dd2 sl sl2 (by simpa using hv) (by simp [hw])) ⟨ho, ho2, h1 hv hw⟩
    · refine call_meets PySem.F.slot_tuple_add ⟨_, ho, rfl⟩ PySem.F.entry_tuple_add (PySem.F.args_tuple_add_2 _ _)
        (tuple_addW2 t b vs.toArray ws.toArray n n2 dd dd2 sl sl2 (by simpa using hv) (by simpa using hw) (by rw [List.size_toArray, List.size_toArray]; exact hsz)) ⟨ho, ho2, ?_⟩
      rw [e]
      exact h2 hv hw
end
end PyProof.Rows
namespace HR
open PySem PySem.Spec L2
open PyProof.Rows hiding St
theorem iop_catA {X : Cx} : OpR X (inplaceOp .Add) (rCatA X.K) := by
  intro pins s σ H x y v u Q I rx ry h
  obtain ⟨a, b, xs, ys, rfl, rfl, ha, hb, hz, q0, q1, q2⟩ := h
  cases rx
  cases ry
  obtain ⟨its, r1, p1, _⟩ := I.tuple ha
  obtain ⟨its2, r2, p2, _⟩ := I.tuple hb
  refine hr_iaddT p1 p2 (fun z => ⟨.ref b, H, I, rfl, q0 (r1.nil_iff.mp z)⟩) (fun z z2 => ⟨.ref a, H, I, rfl, q1 (fun w => z (r1.nil_iff.mpr w)) (r2.nil_iff.mp z2)⟩) (fun z z2 => ?_) (by rw [← r1.length, ← r2.length]; exact hz)
  refine ⟨.ref s.heap.objs.size, _, I.laid (t' := s.toks) (o := .tup (xs ++ ys)) (fun b ob q => Heap.get?_push_of_some _ q) (Nat.le_refl _) ?_, rfl, q2 (fun w => z (r1.nil_iff.mpr w)) (fun w => z2 (r2.nil_iff.mpr w)) _ (I.hok.fresh (Nat.le_refl _))⟩
  exact ⟨by rw [List.length_append]; exact hz, _, r1.append r2, IsTup.new _ _⟩
/-- x += e, a tuple -/
def tsAugT (i : Nat) (T : TD) : TDS := fun D δ => (∃ s, δ[i]? = some s ∧ s ≠ .none) ∧ T δ fun s δ1 => match δ1[i]? with
  | some (.val (.tuple xs)) => ∃ ys, s = .val (.tuple ys) ∧ xs.length + ys.length ≤ 16777216 ∧ D.nx (δ1.set i (.val (.tuple (xs ++ ys))))
  | _ => False
section
variable {X : Cx} {E : Ent} {e : Expr} {T : TD} {pos p1 : Pos} {x : Str} {i : Nat}
theorem ds_augTup (hN : X.N.Nodup) (he : DE X E e T) (hi : X.N[i]? = some x := by rfl) (hx : Loc X.env.scope x := by first | exact Or.inl rfl | exact Or.inr rfl) (hf : X.fn x = true ∨ X.env.scope.names.lookup x = some .local := by first | exact .inl rfl | exact .inr rfl | assumption) :
    DS X E (.AugAssign (.Name x p1) .Add e pos) (tsAugT i T) :=
  PS.imp (ps_aug hN hi hx he (fun pins s σ H x y v u Q I r1 r2 h => iop_catA pins s σ H x y v u Q I r1 r2 h) hf) fun D σ H ⟨δ, π, D', R, ⟨⟨s0, g0, g1⟩, t⟩, n, r, b, c⟩ => by
    have RR := R
    obtain ⟨G, M, R⟩ := R
    obtain ⟨v0, e0, r0⟩ := R.slotv g0 g1
    refine ⟨v0, e0, δ, π, _, RR, t, fun w H1 s δ1 R1 q => ?_⟩
    obtain ⟨G1, M1, R1⟩ := R1
    split at q
    · rename_i xs ha
      obtain ⟨ys, rfl, hz, q⟩ := q
      obtain ⟨v1, e1, r1⟩ := R1.slotv ha (fun z => nomatch z)
      rw [e0] at e1
      cases e1
      have z1 : Enc X.K M1 H1 v0 (.tuple xs) := r1
      have z2 : Enc X.K M1 H1 w (.tuple ys) := R1.top
      have hi' := lt_of_get ha
      cases z1 with
      | tup a1 a2 a3 =>
        cases z2 with
        | tup b1 b2 b3 =>
          rename_i a vs bd us
          refine ⟨a, bd, vs, us, rfl, rfl, a1, b1, by rw [a2.length, b2.length, ← line_eq]; exact hz, fun ez => ?_, fun _ ez => ?_, fun _ _ p np => ?_⟩
          · subst ez
            cases a2
            exact n _ _ _ ⟨G1, M1, (R1.drop.push (s := .val (.tuple ys)) (.tup b1 b2 b3) rfl).store hi'⟩ (by simpa using q)
          · subst ez
            cases b2
            exact n _ _ _ ⟨G1, M1, (R1.drop.push (s := .val (.tuple xs)) (.tup a1 a2 a3) rfl).store hi'⟩ (by simpa using q)
          · exact n _ _ _ ⟨G1, M1, (R1.drop.newTup np (a2.append b2)).store hi'⟩ q
    · exact q.elim
end
/-! ### >= of data -/
def rGeD (K : PySem.W.Frag) : R2 := fun x y H Q => (∃ i j, x = .int i ∧ y = .int j ∧ Q (.bl (decide (j ≤ i))) H) ∨ ∃ d e, Dp K H x d ∧ Dp K H y e ∧ PySem.W.alike d e = true ∧ d ≠ .none ∧ d.depth ≤ 60 ∧ Q (.bl (!PySem.W.dataLt d e)) H
theorem op_geD {X : Cx} (hu : X.A.units + 64 < cLine) : OpR X (compareOp .GtE) (rGeD X.K) := by
  intro pins s σ H x y v u Q I rx ry h
  rcases h with h | ⟨d, e, hd, he, ha, hn, hz, q⟩
  · exact op_ge pins s σ H x y v u Q I rx ry h
  · obtain ⟨as, ra⟩ := Dp.reads I _ _ _ hd rx
    obtain ⟨bs, rb⟩ := Dp.reads I _ _ _ he ry
    refine PySem.W.ge_data ra rb ha hn ?_ ⟨.bl _, H, I, rfl, q⟩
    have : min d.depth e.depth ≤ d.depth := Nat.min_le_left _ _
    omega
def geAD : R2D := fun s t δ Q => match s, t with
  | .val (.int i), .val (.int j) => Q (.val (.bool (decide (j ≤ i)))) δ
  | s, t => ∃ d e, DataR s δ d ∧ DataR t δ e ∧ PySem.W.alike d e = true ∧ d ≠ .none ∧ d.depth ≤ 60 ∧ Q (.val (.bool (!PySem.W.dataLt d e))) δ
theorem snd_geA {K : PySem.W.Frag} {E : Ent} : SndP K E (rGeD K) geAD := by
  intro σ H x y s t δ π Q Q' R h k
  have R0 := R
  unfold geAD at h
  split at h
  · rename_i i j
    have e1 := R.isInt (π' := π) (List.mem_cons_of_mem _ List.mem_cons_self)
    have e2 := R.isInt (π' := π) List.mem_cons_self
    exact .inl ⟨i, j, e1, e2, k _ _ (R0.bl _) h⟩
  · obtain ⟨d, e, h1, h2, h3, h4, h5, q⟩ := h
    obtain ⟨G, M, R⟩ := R
    exact .inr ⟨d, e, R.data (List.mem_cons_of_mem _ List.mem_cons_self) h1, R.data List.mem_cons_self h2, h3, h4, h5, k _ _ (R0.bl _) q⟩
theorem c_geA {X : Cx} {E : Ent} (hu : X.A.units + 64 < cLine) : CR2 X E .GtE geAD := ⟨_, op_geD hu, snd_geA⟩
/-- typed data -/
theorem geAD_typed {α : Type} [DecidableEq α] [PySem.W.DatumOrd α] {d e : D} {δ : Env} {Q : VD} (a b : α) (h1 : d = PySem.W.Datum.toD a) (h2 : e = PySem.W.Datum.toD b) (hd : (PySem.W.Datum.toD a).depth ≤ 60) (ni : ∀ i, d ≠ .int i) (q : Q (.val (.bool (!PySem.W.DatumOrd.lt a b))) δ) : geAD (.val d) (.val e) δ Q := by
  subst h1 h2
  have key : ∃ d e, DataR (.val (PySem.W.Datum.toD a)) δ d ∧ DataR (.val (PySem.W.Datum.toD b)) δ e ∧ PySem.W.alike d e = true ∧ d ≠ .none ∧ d.depth ≤ 60 ∧ Q (.val (.bool (!PySem.W.dataLt d e))) δ :=
    ⟨_, _, rfl, rfl, PySem.W.DatumOrd.alike a b, PySem.W.DatumOrd.notNone a, hd, by rw [PySem.W.DatumOrd.lt_eq]; exact q⟩
  generalize PySem.W.Datum.toD a = d at *
  cases d with
  | int i => exact absurd rfl (ni i)
  | _ => exact key
end HR
namespace HR
open PySem PySem.Spec L2
open PyProof.Rows hiding St
/-! ### x, y, .. = a, b, .., by a tuple: own lists stay own -/
theorem Rep.grow {K : PySem.W.Frag} {E : Ent} {σ : L2.St} {H : Hp} {δ : Env} {π : Tmp} (R : Rep K E σ H δ π) {p : Addr} {o : HO} (n : H p = Option.none) : Rep K E σ (upd H p o) δ π := by
  obtain ⟨G, M, R⟩ := R
  obtain ⟨X, g, _, _⟩ := R.freshO (o := o) n
  exact ⟨_, _, R.ext_to X g⟩
def stDs : List SV → Env → (List SV → Env → Prop) → Prop
  | [], δ, Q => Q [] δ
  | s :: ss, δ, Q => stD s δ fun r δ1 => stDs ss δ1 fun rs δ2 => Q (r :: rs) δ2
theorem stDs_ok {K : PySem.W.Frag} {E : Ent} {σ : L2.St} {H : Hp} : ∀ {vs : List V} {ss : List SV} {δ : Env} {π : Tmp} {Q : List SV → Env → Prop}, vs.length = ss.length → Rep K E σ H δ (vs.zip ss ++ π) → stDs ss δ Q → ∃ rs δ', vs.length = rs.length ∧ Rep K E σ H δ' (vs.zip rs ++ π) ∧ Q rs δ'
  | [], [], δ, π, Q, _, R, h => ⟨[], δ, rfl, R, h⟩
  | [], _ :: _, _, _, _, e, _, _ => by simp at e
  | _ :: _, [], _, _, _, e, _, _ => by simp at e
  | v :: vs, s :: ss, δ, π, Q, e, R, h => by
    obtain ⟨d, δ1, _, R1, h1⟩ := stD_ok (π := vs.zip ss ++ π) R h
    have R2 := R1.perm (show ((v, d) :: (vs.zip ss ++ π)).Perm (vs.zip ss ++ ((v, d) :: π)) from List.perm_middle.symm)
    obtain ⟨ds, δ2, e2, R3, h2⟩ := stDs_ok (by simpa using e) R2 h1
    exact ⟨d :: ds, δ2, by simp [e2], R3.perm List.perm_middle, h2⟩
def putDs : List Nat → List SV → Env → (Env → Prop) → Prop
  | [], [], δ, Q => Q δ
  | i :: is, r :: rs, δ, Q => putD i r δ fun δ' => putDs is rs δ' Q
  | _, _, _, _ => False
def gNamesL : List Nat → TGs
  | [] => L2.gNil
  | i :: is => L2.gCons (L2.gName i) (gNamesL is)
theorem putDs_ok {K : PySem.W.Frag} {E : Ent} {H : Hp} {π : Tmp} {W : L2.St → Hp → Prop} {Q : Env → Prop} (n : ∀ σ δ, Rep K E σ H δ π → Q δ → W σ H) : ∀ {is : List Nat} {vs : List V} {rs : List SV} {δ : Env} {σ : L2.St}, vs.length = rs.length → Rep K E σ H δ (vs.zip rs ++ π) → putDs is rs δ Q → gNamesL is vs σ H W
  | [], [], [], δ, σ, _, R, h => ⟨rfl, n σ δ R h⟩
  | i :: is, v :: vs, r :: rs, δ, σ, e, R, h => by
    obtain ⟨l1, h⟩ := putD_ok h
    obtain ⟨G, M, R⟩ := R
    exact ⟨v, vs, rfl, putDs_ok n (by simpa using e) ⟨G, M, R.store l1⟩ h⟩
  | [], [], _ :: _, _, _, _, _, h => h.elim
  | _ :: _, [], [], _, _, _, _, h => h.elim
  | [], _ :: _, [], _, _, e, _, _ => by simp at e
  | [], _ :: _, _ :: _, _, _, _, _, h => h.elim
  | _ :: _, [], _ :: _, _, _, e, _, _ => by simp at e
  | _ :: _, _ :: _, [], _, _, e, _, _ => by simp at e
def tsParN (is : List Nat) (Ts : TDA) : TDS := fun D δ => Ts δ fun ss δ1 => ss.length = is.length ∧ ss.length ≤ 1000 ∧ stDs ss δ1 fun rs δ2 => putDs is rs δ2 D.nx
section
variable {X : Cx} {E : Ent} {pos : Pos}
theorem ds_parN {is : List Nat} {gs es : List Expr} {Ts : TDA} {pt : Pos} {kt x1 pt2} (hc : X.calm = true) (ha : DA X E es Ts) (hg : PGs X gs (gNamesL is)) (hl : (assignEach gs X.env).length = is.length := by rfl) (hst : (assignEach gs X.env).findIdx? (·.1) = none := by rfl)
    (hs : swapsWithSole [.Tuple gs kt pt] (.Tuple es x1 pt2) pos.line X.env = pure false := by rfl) (hw : swappedStores [.Tuple gs kt pt] (.Tuple es x1 pt2) X.env = pure none := by rfl) :
    DS X E (.Assign [.Tuple gs kt pt] (.Tuple es x1 pt2) pos) (tsParN is Ts) :=
  PS.imp (ps_asg (pe_tup ha) (pg_tup hc hg hl hst) hs hw) fun D σ H ⟨δ, π, D', R, t, n, r, b, c⟩ => ⟨δ, π, _, R, t, fun vs H' ss δ' el R' ⟨hl, hz, q⟩ => by
    refine ⟨small_line (by rw [el]; exact hz), fun p np => ⟨p, vs, rfl, .inl (.inl upd_same), by rw [el, hl], ?_⟩⟩
    obtain ⟨rs, δ2, e2, R2, q2⟩ := stDs_ok el (R'.grow (o := .tup vs) np) q
    exact putDs_ok (fun σ δ R q => n σ _ δ R q) e2 R2 q2⟩
end
end HR
namespace HR
open PySem PySem.Spec L2
open PyProof.Rows hiding St
/-! ### [f, g, ..][i](e, ..): defs out of a written list -/
/-- an index that is read without a change: a name, a name less a number -/
structure PickI (X : Cx) (E : Ent) (b : Expr) (Ti : Env → Int → Prop) : Prop where
  ex : ∃ tb : TE, PE X b tb ∧ ∀ σ δ π H k, Rep X.K E σ H δ π → Ti δ k → ∀ (H' : Hp) (Q : VK), Q (.int k) H' → tb σ H' Q
section
variable {X : Cx} {E : Ent} {pos p p2 p3 p4 : Pos}
theorem slot_int {K : PySem.W.Frag} {σ : L2.St} {H : Hp} {δ : Env} {π : Tmp} {i : Nat} {k : Int} (R : Rep K E σ H δ π) (h : δ[i]? = some (.val (.int k))) : σ[i]? = some (some (.int k)) := by
  obtain ⟨G, M, R⟩ := R
  obtain ⟨v, e, r⟩ := R.slot i _ h (fun z => nomatch z)
  have r : Enc K M H v (.int k) := r
  cases r
  exact e
theorem pick_var {i : Nat} {x : Str} (hN : X.N[i]? = some x := by rfl) (hv : Vis X.env.scope x := by first | exact Or.inl rfl | exact Or.inr (Or.inl rfl) | exact Or.inr (Or.inr rfl)) (hd : (x == ("__debug__" : Str)) = false := by decide)
    (hcd : (x == ("__classdict__" : Str)) = false := by decide) : PickI X E (.Name x p) (fun δ k => δ[i]? = some (.val (.int k))) :=
  ⟨_, pe_var hN hv hd hcd, fun σ δ π H k R h H' Q q => ⟨_, slot_int R h, q⟩⟩
theorem pick_sub {i : Nat} {x : Str} {c : Int} {j : Nat} (hN : X.N[i]? = some x := by rfl) (hv : Vis X.env.scope x := by first | exact Or.inl rfl | exact Or.inr (Or.inl rfl) | exact Or.inr (Or.inr rfl)) (hd : (x == ("__debug__" : Str)) = false := by decide)
    (hcd : (x == ("__classdict__" : Str)) = false := by decide) : PickI X E (.BinOp (.Name x p) .Sub (.Constant (.int c) j p2) p3) (fun δ k => δ[i]? = some (.val (.int (k + c)))) :=
  ⟨_, pe_sub (pe_var hN hv hd hcd) pe_int, fun σ δ π H k R h H' Q q => by
    refine ⟨_, slot_int R h, k + c, c, rfl, rfl, ?_⟩
    show Q (V.int (k + c - c)) H'
    rw [show k + c - c = k by omega]
    exact q⟩
/-- the defs of the list, with their promises -/
inductive Fns (X : Cx) : List Expr → List Con → Prop
  | nil : Fns X [] []
  | cons {x : Str} {k : Nat} {Γ : Con} {p : Pos} {es : List Expr} {Γs : List Con} : FnD X.prog X.w X.K X.mg X.base k x Γ → Room k X.A → Gl X x → (x == ("__debug__" : Str)) = false → Fns X es Γs → Fns X (.Name x p :: es) (Γ :: Γs)
structure FnAt (X : Cx) (f : Addr) (Γ : Con) : Prop where
  ex : ∃ (fd : FuncData) (ps : List Str) (k : Nat), FnOk X.prog X.w X.K X.mg X.base (L2.CX X.prog X.w) k f fd ps (spD X.K X.mg Γ) ∧ Room k X.A ∧ PySem.W.keepIn X.K (.ref f) = true ∧ Binds X.K fd ps []
theorem Fns.run : ∀ {es : List Expr} {Γs : List Con}, Fns X es Γs → ∃ fs : List Addr, PA X es (fun _ H Q => Q (fs.map V.ref) H) ∧ Paired (FnAt X) fs Γs
  | _, _, .nil => ⟨[], pa_nil, .nil⟩
  | _, _, .cons F hr hg hd r => by
    obtain ⟨fs, h1, h2⟩ := r.run
    obtain ⟨f, fd, ps, F, hm, hk, hb⟩ := F.ex
    exact ⟨f :: fs, PA.imp (pa_cons (pe_glob (v := .ref f) hg hm rfl hd) h1) fun σ H Q q => q, .cons ⟨fd, ps, _, F, hr, hk, hb⟩ h2⟩
theorem paired_len {α β : Type} {R : α → β → Prop} : ∀ {xs : List α} {ys : List β}, Paired R xs ys → xs.length = ys.length
  | _, _, .nil => rfl
  | _, _, .cons _ r => by simp [paired_len r]
theorem paired_at {α β : Type} {R : α → β → Prop} : ∀ {xs : List α} {ys : List β} {n : Nat} {y : β}, Paired R xs ys → ys[n]? = some y → ∃ x, xs[n]? = some x ∧ R x y
  | _, _, _, _, .nil, e => by simp at e
  | _, _, 0, _, .cons h _, e => by
    simp at e
    subst e
    exact ⟨_, rfl, h⟩
  | _, _, n + 1, y, .cons _ r, e => by
    obtain ⟨x, a, b⟩ := paired_at (n := n) (y := y) r (by simpa using e)
    exact ⟨x, by simpa using a, b⟩
def tdPick (Γs : List Con) (Ti : Env → Int → Prop) (Ex : Str → Env → Prop) (Ts : TDA) : TD := fun δ Q => ∃ (k : Nat) (Γ : Con), Ti δ (k : Int) ∧ Γs[k]? = some Γ ∧ tdCall Γ Ex Ts δ Q
theorem pe_pick {ns : List Expr} {b e : Expr} {es : List Expr} {tb : TE} {t : TA} {fs : List Addr} {Γs : List Con} {W : WX} (tk : Takes X W) (hf : PA X ns (fun _ H Q => Q (fs.map V.ref) H)) (hF : Paired (FnAt X) fs Γs) (hl : Γs.length ≤ 1000) (hb : PE X b tb) (hs : PlainIx b) (ha : PA X (e :: es) t)
    (he : starEach (e :: es) X.env = (false, eval e X.env) :: starEach es X.env) (hpl : (backTo pos (starEach es X.env)).any (·.1) = false) :
    PE X (.Call (.Subscript (.List ns p) b p2) (e :: es) [] pos) (fun σ H Q => ∃ (k : Nat) (Γ : Con), Γs[k]? = some Γ ∧ (∀ H' Q, Q (.int k) H' → tb σ H' Q) ∧ ∀ l o, H l = none → tCallS (spD X.K X.mg Γ) (WE W) t σ (upd H l o) Q) := by
  refine ⟨fun pins s σ H Q I ⟨k, Γ, hk, hi, q⟩ => ?_⟩
  obtain ⟨f, hf1, ⟨fd, ps, kk, F, hr, kp, bd⟩⟩ := paired_at hF hk
  have key := (pe_ix (pos := p2) ix_list (pe_lst (pos := p) hf) hb hs).run pins s σ H (fun v H1 => v = .ref f ∧ ∃ l o, H l = none ∧ H1 = upd H l o) I ⟨by rw [List.length_map, paired_len hF, sizeLine_eq]; omega, fun l hn => hi _ _ ⟨l, _, _, _, rfl, rfl, .inl (.inl upd_same), atI_nat (v := V.ref f) (by rw [List.getElem?_map, hf1]; rfl), rfl, l, _, hn, rfl⟩⟩
  show wpAny _ _ (do callWith pos (← eval (.Subscript (.List ns p) b p2) X.env) [] (backTo pos (starEach (e :: es) X.env)) (backToKw pos (keywordEach [] X.env))) _ _ s
  refine wpAny_bind (thn key fun u s1 ⟨v, H1, I1, r1, ev, l, o, hn, eH⟩ => ?_)
  subst ev
  obtain rfl : u = Value.ref f := r1
  subst eH
  refine PySem.W.callWith_K (h₀ := X.base) I1.ok.mod.kin kp (thn (ha.run pos pins s1 σ _ _ I1 (q l o hn)) fun us s2 ⟨vs, H2, I2, r, q⟩ => ⟨I2.kIn, ?_⟩) he hpl
  exact run_fnS F hr bd (passAt tk σ) I2 r q
theorem de_pick {ns : List Expr} {b e : Expr} {es : List Expr} {Γs : List Con} {Ti : Env → Int → Prop} {Ex : Str → Env → Prop} {Ts : TDA} (hF : Fns X ns Γs) (hi : PickI X E b Ti) (xo : XOk X E Ex) (ha : DA X E (e :: es) Ts) (hl : Γs.length ≤ 1000 := by decide) (hs : PlainIx b := by exact fun _ _ => rfl)
    (he : starEach (e :: es) X.env = (false, eval e X.env) :: starEach es X.env := by rfl) (hpl : (backTo pos (starEach es X.env)).any (·.1) = false := by rfl) : DE X E (.Call (.Subscript (.List ns p) b p2) (e :: es) [] pos) (tdPick Γs Ti Ex Ts) := by
  obtain ⟨W, tk, hW⟩ := xo.tk
  obtain ⟨fs, hf, hp⟩ := hF.run
  obtain ⟨tb, hb, hq⟩ := hi.ex
  refine PE.imp (pe_pick tk hf hp hl hb hs ha he hpl) ?_
  rintro σ H Q ⟨δ, π, Q', R, ⟨k, Γ, h1, h2, t⟩, kk⟩
  refine ⟨k, Γ, h2, fun H' Q q => hq σ δ π H _ R h1 H' Q q, fun l o hn => ?_⟩
  refine call_ok hW σ _ Q ⟨δ, π, Q', ?_, t, kk⟩
  obtain ⟨G, M, R⟩ := R
  exact ⟨G, M, R.laid hn⟩
end
/-! ### a def that is never reached -/
theorem fnD_void {P : Program} {w : World} {K : PySem.W.Frag} {mg : Str → Option Value} {base : Heap} {x : Str} {st : Stmt} {ps : List Str} {k : Nat} (F : TxtFn K mg x st)
    (hb : ∀ (kV doc pm : Value) (an : Option Addr) (cdv ct : Value) (us : List Value), us.length = ps.length → bindArgs (PySem.W.fnOf x x (defArgs st) (defBody st) (defScope st) .none kV doc pm an cdv ct) ⟨us, []⟩ = pure (ps.zip us)) : FnD P w K mg base k x (fun _ _ _ => False) := by
  obtain ⟨f, fd, F, hm⟩ := F.ex
  refine ⟨f, fd, ps, ⟨fun vs H Q E h => ?_, fun A outer s H args us vs Q E _ _ _ _ h => ?_⟩, hm, F.kp, F.binds hb⟩
  · obtain ⟨_, _, _, _, _, _, _, _, _, h, _⟩ := h
    exact h.elim
  · obtain ⟨_, _, _, _, _, _, _, _, _, h, _⟩ := h
    exact h.elim
theorem FnD.mono {P : Program} {w : World} {K : PySem.W.Frag} {mg : Str → Option Value} {base : Heap} {x : Str} {j k : Nat} {Γ : Con} (F : FnD P w K mg base j x Γ) (h : j ≤ k) : FnD P w K mg base k x Γ := by
  obtain ⟨f, fd, ps, F, r⟩ := F.ex
  exact ⟨f, fd, ps, F.mono h, r⟩
theorem FnD.imp {P : Program} {w : World} {K : PySem.W.Frag} {mg : Str → Option Value} {base : Heap} {x : Str} {k : Nat} {Γ Γ' : Con} (F : FnD P w K mg base k x Γ) (h : ∀ ss Q X, Γ' ss Q X → Γ ss Q X) : FnD P w K mg base k x Γ' := by
  obtain ⟨f, fd, ps, F, r⟩ := F.ex
  refine ⟨f, fd, ps, F.imp fun vs H Q E z => ?_, r⟩
  obtain ⟨G, M, ss, Q', X', g, el, ok, hrt, hΓ, q⟩ := z
  exact ⟨G, M, ss, Q', X', g, el, ok, hrt, h _ _ _ hΓ, q⟩
end HR
namespace HR
open PySem PySem.Spec L2
open PyProof.Rows hiding St
/-! ### t[::-1] of a tuple -/
theorem rev_places (n : Nat) : Builtin.Slice.slicePlaces ((n : Int) - 1) (-1) (-1) = n := by
  unfold Builtin.Slice.slicePlaces
  rw [if_neg (by omega)]
  by_cases h : n = 0
  · subst h; rfl
  · rw [if_pos (by omega)]
    show (((n : Int) - 1 - -1 - 1) / 1 + 1).toNat = n
    omega
theorem rev_pick (xs : Array Value) : ((List.range xs.size).filterMap fun (k : Nat) => xs[(((xs.size : Nat) : Int) - 1 + (k : Int) * (-1)).toNat]?).toArray = xs.toList.reverse.toArray := by
  congr 1
  have e : ∀ k, k < xs.size → xs[(((xs.size : Nat) : Int) - 1 + (k : Int) * (-1)).toNat]? = xs.toList.reverse[k]? := fun k hk => by
    rw [List.getElem?_reverse (by simpa using hk), ← Array.getElem?_toList]
    congr 1
    simp
    omega
  have cg : ∀ (l : List Nat) (f g : Nat → Option Value), (∀ k ∈ l, f k = g k) → l.filterMap f = l.filterMap g := fun l f g h => by
    induction l with
    | nil => rfl
    | cons k l ih => rw [List.filterMap_cons, List.filterMap_cons, h k List.mem_cons_self, ih fun j hj => h j (List.mem_cons_of_mem _ hj)]
  rw [cg _ _ (fun k => xs.toList.reverse[k]?) fun k hk => e k (List.mem_range.mp hk)]
  have key : ∀ ys : List Value, (List.range ys.length).filterMap (fun k => ys[k]?) = ys := fun ys => by
    induction ys with
    | nil => rfl
    | cons y ys ih =>
      rw [List.length_cons, List.range_succ_eq_map, List.filterMap_cons]
      simp only [List.getElem?_cons_zero]
      rw [List.filterMap_map]
      congr 1
  have := key xs.toList.reverse
  rw [List.length_reverse, Array.length_toList] at this
  exact this
section
variable {prog : Program} {w : World} {A : Around} {s : Shared} {E : Value → Shared → Prop}
theorem sliceApplied_rev {sl : Addr} {ut : Tok} {n : Nat} {Q : Int × Int × Nat → Shared → Prop} (hs : s.heap.IsSliceOf sl .none .none (.int (-1) ut))
    (h : Q ((n : Int) - 1, -1, n) s) : wpAny (model prog w) A (Builtin.Slice.sliceApplied (.ref sl) (pure (n : Int))) Q E s := by
  obtain ⟨os, hos, hcs, hds⟩ := id hs
  unfold Builtin.Slice.sliceApplied Builtin.Slice.sliceFields
  refine wpAny_bind (wpAny_bind (wpAny_field hos hds (x := .none) rfl (wpAny_bind (wpAny_field hos hds (x := .none) rfl (wpAny_bind (wpAny_field hos hds (x := .int (-1) ut) rfl (wpAny_pure ?_)))))))
  refine wpAny_bind (slicePart_int ?_)
  show wpAny _ _ (if ((-1 : Int) == 0) = true then _ else _) _ _ s
  rw [if_neg (by decide)]
  refine wpAny_bind (slicePart_none (wpAny_bind (slicePart_none (wpAny_bind (wpAny_pure ?_)))))
  show wpAny _ _ (pure (((n : Int) - 1, (-1 : Int), Builtin.Slice.slicePlaces ((n : Int) - 1) (-1) (-1)) : Int × Int × Nat)) _ _ s
  rw [rev_places]
  exact wpAny_pure h
theorem getItem_tuple_rev {t sl : Addr} {items : Array Value} {ut : Tok} {Q : Value → Shared → Prop} (ht : IsTup s.heap t items) (hs : s.heap.IsSliceOf sl .none .none (.int (-1) ut))
    (h : Q (.ref s.heap.objs.size) { s with heap := s.heap.push { cls := .type "tuple", data := .seq items.toList.reverse.toArray } })
    (hsz : items.size ≤ sizeLine) : wpAny (model prog w) A (getItem (.ref t) (.ref sl)) Q E s := by
  have htake : sizeOk (.seq items.toList.reverse.toArray) := by
    show items.toList.reverse.toArray.size ≤ sizeLine
    rw [List.size_toArray, List.length_reverse, Array.length_toList]
    omega
  obtain ⟨os, hos, hcs, hds⟩ := id hs
  have hTs : s.TypeIs (.ref sl) "slice" := ⟨os, hos, hcs⟩
  unfold getItem
  try with_reducible refine wpAny_holding ?_
  first | refine wpAny_bind (wpAny_pure ?_) | skip
  refine wpAny_bind (wpAny_sequenceKey ht.typeIs (by decide) ?_)
  refine wpAny_bind (wpAny_callSpecial?_slot (name := Str.ofString "__getitem__") ht.typeIs PyProof.Rows.slot_tuple_getitem
    (wpAny_call_entry PyProof.Rows.slot_tuple_getitem ht.typeIs entry_tuple_getitem ?_ (args_tuple_getitem _ _)))
  show wpAny _ _ (Builtin.Tuple.tupleItemsOf (.ref t) >>= _) _ _ s
  refine wpAny_bind (tupleItemsOf_ ht ?_)
  refine wpAny_bind (wpAny_typeOf hTs ?_)
  rw [if_pos (by decide)]
  refine wpAny_bind (sliceApplied_rev hs ?_)
  have hno : ¬ ((((items.size : Nat) : Int) - 1 == 0 && (-1 : Int) == 1 && items.size == items.size) = true) := by
    intro q
    rw [Bool.and_eq_true, Bool.and_eq_true] at q
    exact absurd q.1.2 (by decide)
  show wpAny _ _ (if (((items.size : Nat) : Int) - 1 == 0 && (-1 : Int) == 1 && items.size == items.size) = true then _ else _) _ _ s
  rw [if_neg hno, rev_pick]
  first
    | exact wpAny_bind (m := Builtin.Tuple.tupleExact _) (wpAny_newObj_type (wpAny_pure ⟨_, rfl, wpAny_pure h⟩) htake)
    | exact wpAny_bind (m := Builtin.Tuple.tupleExact _) (wpAny_newObj_type (wpAny_bind (wpAny_pure (wpAny_pure ⟨_, rfl, wpAny_pure h⟩))) htake)
    | exact wpAny_bind (wpAny_bind (m := Builtin.Tuple.tupleExact _) (wpAny_newObj_type (wpAny_pure (wpAny_pure ⟨_, rfl, wpAny_pure h⟩)) htake))
    | exact wpAny_bind (wpAny_bind (m := Builtin.Tuple.tupleExact _) (wpAny_newObj_type (wpAny_pure ⟨_, rfl, wpAny_pure h⟩) htake))
end
theorem vals_rev {xs : List V} {us : List Value} (h : Vals xs us) : Vals xs.reverse us.reverse := by
  induction h with
  | nil => exact .nil
  | cons a r ih =>
    rw [List.reverse_cons, List.reverse_cons]
    exact ih.append (.cons a .nil)
section
variable {X : Cx} {E : Ent} {e : Expr} {T : TD} {te : TE} {pos p2 p3 p4 : Pos}
theorem pe_rev {st : Expr} (he : PE X e te) (hst : PE X st (tC (.int (-1)))) :
    PE X (.Subscript e (.Slice none none (some st) p2) pos) (fun σ H Q => te σ H fun x H1 => ∃ a xs, x = .ref a ∧ SqT X.K H1 a xs ∧ ∀ p, H1 p = none → Q (.ref p) (upd H1 p (.tup xs.reverse))) := by
  refine ⟨fun pins s σ H Q I h => ?_⟩
  refine Subscript_ (thn (he.run pins s σ H _ I h) fun v s1 ⟨x, H1, I1, r1, a, xs, ex, hx, q⟩ => ?_)
  subst ex
  cases r1
  refine wpAny_Slice ?_
  rw [evalPart_none]
  refine wpAny_pure (wpAny_pure ?_)
  rw [evalPart_some]
  refine thn (hst.run pins s1 σ H1 (fun v H' => v = .int (-1) ∧ H' = H1) I1 ⟨rfl, rfl⟩) fun u s2 ⟨y, H2, I2, r2, e1, e2⟩ => ?_
  subst e1 e2
  obtain ⟨ut, rfl⟩ : ∃ t, u = .int (-1) t := r2
  have I4 : Inv X pins σ H2 { s2 with heap := s2.heap.push { cls := .type "slice", data := .fields #[.none, .none, .int (-1) ut] } } := I2.kept (t' := s2.toks) fun b ob q => Heap.get?_push_of_some _ q
  obtain ⟨its, r, ht, hz⟩ := I4.tuple hx
  refine tail_any (ops := [.ref a, .ref s2.heap.objs.size]) ht.typeIs PyProof.Rows.slot_tuple_getitem.lookup ?_ (by with_unfolding_all rfl)
  refine getItem_tuple_rev ht (Heap.IsSliceOf.new ..) ?_ (by rw [List.size_toArray, ← r.length]; exact hz)
  refine ⟨.ref _, _, I4.laid (t' := s2.toks) (o := .tup xs.reverse) (fun b ob q => Heap.get?_push_of_some _ q) (Nat.le_refl _) ?_, rfl, q _ (I4.hok.fresh (Nat.le_refl _))⟩
  refine ⟨by rw [List.length_reverse]; exact hz, _, vals_rev r, ?_⟩
  have := IsTup.new ({ s2 with heap := s2.heap.push { cls := .type "slice", data := .fields #[.none, .none, .int (-1) ut] } } : Shared).heap its.reverse.toArray
  simpa using this
def revD (s : SV) (δ : Env) (Q : VD) : Prop := match s with
  | .val (.tuple ds) => Q (.val (.tuple ds.reverse)) δ
  | _ => False
def tdRev (T : TD) : TD := fun δ Q => T δ fun s δ1 => revD s δ1 Q
theorem de_rev (he : DE X E e T) : DE X E (.Subscript e (.Slice none none (some (.UnaryOp .USub (.Constant (.int 1) 0 p4) p3)) p2) pos) (tdRev T) := by
  refine PE.imp (pe_rev he (PE.imp (pe_un un_neg pe_int) fun σ H Q q => ?_)) fun σ H Q ⟨δ, π, Q', R, t, k⟩ => ⟨δ, π, _, R, t, fun v H1 s δ1 R1 q => ?_⟩
  · exact ⟨1, rfl, q⟩
  · unfold revD at q
    split at q
    · obtain ⟨G, M, R1⟩ := R1
      rename_i ds
      have z : Enc X.K M H1 v (.tuple ds) := R1.top
      cases z with
      | tup a1 a2 a3 => exact ⟨_, _, rfl, a1, fun p n => k _ _ _ _ ⟨_, _, R1.drop.newTup n a2.reverse⟩ q⟩
    · exact q.elim
end
end HR
namespace HR
open PySem PySem.Spec L2
open PyProof.Rows hiding St
/-! the mathematics of states -/
theorem get_last1 {α : Type} {xs : List α} (h : xs ≠ []) : getI xs (-1) = xs.getLast? := by
  unfold getI
  rw [if_neg (by decide), if_pos (by cases xs with | nil => exact absurd rfl h | cons a r => simp), List.getLast?_eq_getElem?]
  rfl
def asInts : List D → Option (List Int)
  | [] => some []
  | .int i :: r => (asInts r).map (i :: ·)
  | _ :: _ => none
theorem asInts_map : ∀ xs : List Int, asInts (xs.map .int) = some xs
  | [] => rfl
  | x :: xs => by simp [asInts, asInts_map xs]
theorem asInts_some : ∀ {ds : List D} {xs : List Int}, asInts ds = some xs → ds = xs.map .int
  | [], xs, h => by cases h; rfl
  | .int i :: r, xs, h => by
    simp only [asInts, Option.map_eq_some_iff] at h
    obtain ⟨ys, h1, rfl⟩ := h
    rw [asInts_some h1]
    rfl
  | .none :: r, xs, h => by cases h
  | .bool _ :: r, xs, h => by cases h
  | .str _ :: r, xs, h => by cases h
  | .list _ :: r, xs, h => by cases h
  | .tuple _ :: r, xs, h => by cases h
  | .dict _ :: r, xs, h => by cases h
def mInt (d : D) (lo hi : Int) : Bool := match d with
  | .int i => decide (lo ≤ i) && decide (i ≤ hi)
  | _ => false
def asc : List Int → Bool
  | [] => true
  | [_] => true
  | x :: y :: r => decide (x < y) && asc (y :: r)
def isRows (n : Int) (xs : List Int) : Bool := (xs.all fun x => decide (1 ≤ x) && decide (x ≤ n)) && asc xs
def mRowsT (n : Int) (o : Option (List Int)) : Bool := match o with
  | some xs => isRows n xs
  | none => false
def mRows (n : Int) (d : D) : Bool := match d with
  | .tuple ds => mRowsT n (asInts ds)
  | _ => false
def mState (d : D) : Bool := match d with
  | .tuple [.int n, h] => decide (1 ≤ n) && decide (n ≤ 40) && mRows n h
  | _ => false
theorem all_mInt {n : Int} : ∀ {ds : List D}, (ds.all fun d => mInt d 1 n) = true → ∃ xs : List Int, ds = xs.map .int ∧ (xs.all fun x => decide (1 ≤ x) && decide (x ≤ n)) = true
  | [], _ => ⟨[], rfl, rfl⟩
  | d :: ds, h => by
    simp only [List.all_cons, Bool.and_eq_true] at h
    obtain ⟨xs, rfl, hx⟩ := all_mInt h.2
    cases d with
    | int i => exact ⟨i :: xs, rfl, by simp only [List.all_cons, Bool.and_eq_true]; exact ⟨by simpa [mInt] using h.1, hx⟩⟩
    | _ => cases h.1
theorem not_all_mInt {n : Int} {ds : List D} (h : (ds.all fun d => mInt d 1 n) = false) : mRows n (.tuple ds) = false := by
  show mRowsT n (asInts ds) = false
  cases e : asInts ds with
  | none => rfl
  | some xs =>
    have := asInts_some e
    subst this
    have : (xs.all fun x => decide (1 ≤ x) && decide (x ≤ n)) = false := by rw [← h, List.all_map]; rfl
    show isRows n xs = false
    unfold isRows
    rw [this, Bool.false_and]
theorem asc_zip : ∀ xs : List Int, ((xs.zip (xs.drop 1)).all fun p => decide (p.1 < p.2)) = asc xs
  | [] => rfl
  | [_] => rfl
  | x :: y :: r => by
    have ih := asc_zip (y :: r)
    simp only [List.drop_succ_cons, List.drop_zero] at ih ⊢
    rw [List.zip_cons_cons, List.all_cons, ih]
    rfl
theorem asc_pw : ∀ {xs : List Int}, asc xs = true ↔ xs.Pairwise (· < ·)
  | [] => by simp [asc]
  | [_] => by simp [asc]
  | x :: y :: r => by
    have ih := asc_pw (xs := y :: r)
    show (decide (x < y) && asc (y :: r)) = true ↔ _
    rw [Bool.and_eq_true, ih, List.pairwise_cons (a := x), decide_eq_true_eq]
    constructor
    · rintro ⟨h1, h2⟩
      refine ⟨fun z hz => ?_, h2⟩
      rcases List.mem_cons.mp hz with rfl | hz
      · exact h1
      · exact Int.lt_trans h1 ((List.pairwise_cons.mp h2).1 z hz)
    · rintro ⟨h1, h2⟩
      exact ⟨h1 y List.mem_cons_self, h2⟩
/-- a state -/
structure IsSt (n : Int) (xs : List Int) : Prop where
  n1 : 1 ≤ n
  n2 : n ≤ 40
  rows : ∀ x ∈ xs, 1 ≤ x ∧ x ≤ n
  asc : xs.Pairwise (· < ·)
abbrev tupI (xs : List Int) : D := .tuple (xs.map .int)
abbrev stD' (n : Int) (xs : List Int) : D := .tuple [.int n, tupI xs]
theorem isRows_iff {n : Int} {xs : List Int} : isRows n xs = true ↔ (∀ x ∈ xs, 1 ≤ x ∧ x ≤ n) ∧ xs.Pairwise (· < ·) := by
  unfold isRows
  rw [Bool.and_eq_true, asc_pw, List.all_eq_true]
  simp
theorem mState_iff {n : Int} {xs : List Int} : mState (stD' n xs) = true ↔ IsSt n xs := by
  show (decide (1 ≤ n) && decide (n ≤ 40) && mRows n (tupI xs)) = true ↔ _
  have : mRows n (tupI xs) = isRows n xs := by
    show mRowsT n (asInts (xs.map .int)) = _
    rw [asInts_map]; rfl
  rw [this, Bool.and_eq_true, Bool.and_eq_true, isRows_iff, decide_eq_true_eq, decide_eq_true_eq]
  exact ⟨fun ⟨⟨a, b⟩, c, d⟩ => ⟨a, b, c, d⟩, fun ⟨a, b, c, d⟩ => ⟨⟨a, b⟩, c, d⟩⟩
theorem IsSt.ok {n : Int} {xs : List Int} (h : IsSt n xs) : mState (stD' n xs) = true := mState_iff.mpr h
theorem mState_some {d : D} (h : mState d = true) : ∃ n xs, d = stD' n xs ∧ IsSt n xs := by
  unfold mState at h
  split at h
  · rename_i n e
    have h' := h
    rw [Bool.and_eq_true] at h'
    have h2 := h'.2
    cases e with
    | tuple ds =>
      have h3 : mRowsT n (asInts ds) = true := h2
      cases hy : asInts ds with
      | none => rw [hy] at h3; cases h3
      | some ys =>
        have := asInts_some hy
        subst this
        exact ⟨n, ys, rfl, mState_iff.mp h⟩
    | _ => cases h2
  · cases h
theorem noDicts_int : ∀ xs : List Int, noDicts (xs.map .int) = true
  | [] => rfl
  | x :: xs => by simp [noDicts, noDict, noDicts_int xs]
theorem noDict_st (n : Int) (xs : List Int) : noDict (stD' n xs) = true := by simp [noDict, noDicts, noDicts_int]
/-- the length of ascending rows -/
theorem asc_len : ∀ {xs : List Int} {a b : Int}, xs.Pairwise (· < ·) → (∀ x ∈ xs, a ≤ x ∧ x ≤ b) → a ≤ b + 1 → (xs.length : Int) ≤ b - a + 1
  | [], a, b, _, _, h => by simp; omega
  | x :: xs, a, b, h, hx, hab => by
    obtain ⟨h1, h2⟩ := List.pairwise_cons.mp h
    have hx0 := hx x List.mem_cons_self
    have ih := asc_len (a := x + 1) (b := b) h2 (fun y hy => ⟨by have := h1 y hy; omega, (hx y (List.mem_cons_of_mem _ hy)).2⟩) (by omega)
    simp only [List.length_cons]
    omega
theorem IsSt.len {n : Int} {xs : List Int} (h : IsSt n xs) : xs.length ≤ 40 := by
  have := asc_len h.asc h.rows (by have := h.n1; omega)
  have := h.n2
  omega
/-- the blocks -/
def blkStep (acc : List (Int × Int)) (x : Int) : List (Int × Int) := match acc.getLast? with
  | some (a, b) => if b = x - 1 then acc.dropLast ++ [(a, x)] else acc ++ [(x, x)]
  | none => acc ++ [(x, x)]
def blocksOf (xs : List Int) : List (Int × Int) := xs.foldl blkStep []
theorem blkStep_len (acc : List (Int × Int)) (x : Int) : (blkStep acc x).length ≤ acc.length + 1 := by
  unfold blkStep
  split
  · split <;> simp <;> omega
  · simp
theorem blkFold_len : ∀ (xs : List Int) (acc : List (Int × Int)), (xs.foldl blkStep acc).length ≤ acc.length + xs.length
  | [], acc => by simp
  | x :: xs, acc => by
    have h1 := blkFold_len xs (blkStep acc x)
    have h2 := blkStep_len acc x
    simp only [List.foldl_cons, List.length_cons] at *
    omega
theorem blocksOf_len (xs : List Int) : (blocksOf xs).length ≤ xs.length := by
  have := blkFold_len xs []
  unfold blocksOf
  simpa using this
abbrev prD (q : Int × Int) : D := .tuple [.int q.1, .int q.2]
abbrev prsD (ps : List (Int × Int)) : List D := ps.map prD
abbrev intsD (xs : List Int) : List D := xs.map .int
def optD : Option Int → D
  | none => .none
  | some i => .int i
/-- the visible rows -/
def seenOf (n : Int) (xs : List Int) : List Int := ((List.range n.toNat).map fun i : Nat => (1 + (i : Int))).filter fun r => decide (r ∉ xs)
/-! blocks, by their tops and ends -/
def topsI (xs : List Int) : List Int := xs.filter fun r => decide (r - 1 ∉ xs)
def endsI (xs : List Int) : List Int := xs.filter fun r => decide (r + 1 ∉ xs)
theorem snoc_ind {α : Type} {P : List α → Prop} (h0 : P []) (h1 : ∀ xs x, P xs → P (xs ++ [x])) : ∀ xs, P xs := by
  have key : ∀ n (xs : List α), xs.length = n → P xs := by
    intro n
    induction n with
    | zero => intro xs h; rw [List.eq_nil_of_length_eq_zero h]; exact h0
    | succ n ih =>
      intro xs h
      rcases List.eq_nil_or_concat xs with rfl | ⟨ys, y, rfl⟩
      · exact h0
      · rw [List.concat_eq_append] at *
        exact h1 ys y (ih ys (by simpa using h))
  exact fun xs => key _ xs rfl
theorem asc_snoc {xs : List Int} {x : Int} (h : (xs ++ [x]).Pairwise (· < ·)) : xs.Pairwise (· < ·) ∧ ∀ y ∈ xs, y < x := by
  obtain ⟨h1, _, h2⟩ := List.pairwise_append.mp h
  exact ⟨h1, fun y hy => h2 y hy x (by simp)⟩
theorem asc_last {xs : List Int} {l x : Int} (h : xs.Pairwise (· < ·)) (hl : xs.getLast? = some l) (hx : x ∈ xs) : x ≤ l := by
  rcases List.eq_nil_or_concat xs with rfl | ⟨ys, y, rfl⟩
  · cases hx
  · rw [List.concat_eq_append] at *
    rw [List.getLast?_append] at hl
    cases hl
    rcases List.mem_append.mp hx with hx | hx
    · exact Int.le_of_lt ((asc_snoc h).2 x hx)
    · rw [List.mem_singleton.mp hx]; exact Int.le_refl _
theorem tops_snoc {xs : List Int} {x : Int} (hx : ∀ y ∈ xs, y < x) : topsI (xs ++ [x]) = topsI xs ++ if x - 1 ∈ xs then [] else [x] := by
  unfold topsI
  rw [List.filter_append, List.filter_cons, List.filter_nil]
  congr 1
  · refine List.filter_congr fun r hr => ?_
    have := hx r hr
    refine decide_eq_decide.mpr (not_congr ?_)
    rw [List.mem_append, List.mem_singleton]
    exact ⟨fun h => h.elim id fun e => by omega, .inl⟩
  · by_cases h : x - 1 ∈ xs
    · rw [if_pos h, if_neg (by simp [h])]
    · rw [if_neg h, if_pos (by simp [h]; omega)]
theorem blocks_zip : ∀ xs : List Int, xs.Pairwise (· < ·) → blocksOf xs = (topsI xs).zip (endsI xs) ∧ (topsI xs).length = (endsI xs).length ∧ ∀ l, xs.getLast? = some l → (endsI xs).getLast? = some l := by
  refine snoc_ind (fun _ => ⟨rfl, rfl, fun _ h => by cases h⟩) fun xs x ih h => ?_
  obtain ⟨h1, h2⟩ := asc_snoc h
  obtain ⟨e1, e2, e3⟩ := ih h1
  have et := tops_snoc h2
  have en : endsI (xs ++ [x]) = xs.filter (fun r => decide (r + 1 ∉ xs ++ [x])) ++ [x] := by
    unfold endsI
    rw [List.filter_append, List.filter_cons, List.filter_nil]
    congr 1
    rw [if_pos]
    refine decide_eq_true fun m => ?_
    rcases List.mem_append.mp m with m | m
    · have := h2 _ m; omega
    · have := List.mem_singleton.mp m; omega
  have eb : blocksOf (xs ++ [x]) = blkStep (blocksOf xs) x := by simp [blocksOf]
  rw [eb, e1, et, en]
  by_cases hm : x - 1 ∈ xs
  · -- the last block grows
    rw [if_pos hm, List.append_nil]
    rcases List.eq_nil_or_concat xs with rfl | ⟨ys, l, rfl⟩
    · cases hm
    rw [List.concat_eq_append] at *
    have hl : l = x - 1 := by
      have a1 := asc_last h1 (l := l) (by simp) hm
      have a2 := h2 l (by simp)
      omega
    have e3 := e3 l (by simp)
    obtain ⟨es, ee⟩ : ∃ es, endsI (ys ++ [l]) = es ++ [l] := by
      rcases List.eq_nil_or_concat (endsI (ys ++ [l])) with e | ⟨es, y, e⟩
      · rw [e] at e3; cases e3
      · rw [List.concat_eq_append] at e
        rw [e, List.getLast?_append] at e3
        cases e3
        exact ⟨es, e⟩
    have ef : (ys ++ [l]).filter (fun r => decide (r + 1 ∉ ys ++ [l] ++ [x])) = es := by
      have a1 : (ys ++ [l]).filter (fun r => decide (r + 1 ∉ ys ++ [l] ++ [x])) = (endsI (ys ++ [l])).filter fun r => decide (r ≠ l) := by
        unfold endsI
        rw [List.filter_filter]
        refine List.filter_congr fun r hr => ?_
        rw [Bool.eq_iff_iff, Bool.and_eq_true, decide_eq_true_eq, decide_eq_true_eq, decide_eq_true_eq, List.mem_append (t := [x]), List.mem_singleton]
        constructor
        · intro z
          exact ⟨fun e => z (.inr (by omega)), fun m => z (.inl m)⟩
        · rintro ⟨z1, z2⟩ (m | m)
          · exact z2 m
          · exact z1 (by omega)
      rw [a1, ee, List.filter_append, List.filter_cons, List.filter_nil, if_neg (by simp), List.append_nil]
      refine List.filter_eq_self.mpr fun r hr => decide_eq_true ?_
      rintro rfl
      have nd : (endsI (ys ++ [r])).Pairwise (· < ·) := h1.filter _
      rw [ee] at nd
      have := (asc_snoc nd).2 r hr
      omega
    rw [ef]
    rw [ee] at e2 ⊢
    rcases List.eq_nil_or_concat (topsI (ys ++ [l])) with e | ⟨ts, t, e⟩
    · rw [e] at e2; simp at e2
    rw [List.concat_eq_append] at e
    rw [e] at e2 ⊢
    have len : ts.length = es.length := by simpa using e2
    refine ⟨?_, by simpa using e2, fun m hm => by simpa using hm⟩
    rw [List.zip_append len, List.zip_append len]
    show blkStep (ts.zip es ++ [(t, l)]) x = _
    unfold blkStep
    rw [List.getLast?_append]
    show (if l = x - 1 then (ts.zip es ++ [(t, l)]).dropLast ++ [(t, x)] else _) = _
    rw [if_pos hl, List.dropLast_concat]
    rfl
  · rw [if_neg hm]
    have ef : xs.filter (fun r => decide (r + 1 ∉ xs ++ [x])) = endsI xs := by
      refine List.filter_congr fun r hr => decide_eq_decide.mpr (not_congr ?_)
      rw [List.mem_append, List.mem_singleton]
      exact ⟨fun h => h.elim id fun e => absurd (show x - 1 ∈ xs by rw [show x - 1 = r by omega]; exact hr) hm, .inl⟩
    rw [ef]
    refine ⟨?_, by simp [e2], fun m hm => by simpa using hm⟩
    rw [List.zip_append e2]
    unfold blkStep
    cases hl : ((topsI xs).zip (endsI xs)).getLast? with
    | none => rfl
    | some p =>
      obtain ⟨u, v⟩ := p
      have hv : v ∈ xs := by
        have m := List.mem_of_getLast? hl
        have := (List.of_mem_zip m).2
        exact (List.mem_filter.mp this).1
      show (if v = x - 1 then _ else _) = _
      rw [if_neg (fun z : v = x - 1 => hm (z ▸ hv))]
      rfl
theorem st_inj {n m : Int} {xs ys : List Int} (e : stD' n xs = stD' m ys) : n = m ∧ xs = ys := by
  have h1 : PyData.eqv (PySem.W.Datum.toD ((n, ⟨xs⟩) : Int × PySem.W.Tup Int)) (PySem.W.Datum.toD ((m, ⟨ys⟩) : Int × PySem.W.Tup Int)) = true := by
    rw [show PySem.W.Datum.toD ((m, ⟨ys⟩) : Int × PySem.W.Tup Int) = PySem.W.Datum.toD ((n, ⟨xs⟩) : Int × PySem.W.Tup Int) from e.symm, PySem.W.Datum.eqv]
    exact decide_eq_true rfl
  rw [PySem.W.Datum.eqv, decide_eq_true_eq] at h1
  exact ⟨congrArg Prod.fst h1, congrArg (fun p : Int × PySem.W.Tup Int => p.2.items) h1⟩
theorem shaped_prs (ps : List (Int × Int)) : SeqAt.shaped (.list (prsD ps)) = true := shaped_dat (α := List (Int × Int)) ps (by decide)
theorem eqv_prs (ps qs : List (Int × Int)) : PyData.eqv (.list (prsD ps)) (.list (prsD qs)) = decide (ps = qs) := PySem.W.Datum.eqv (α := List (Int × Int)) ps qs
theorem shaped_ints (xs : List Int) : SeqAt.shaped (.list (intsD xs)) = true := shaped_dat (α := List Int) xs (by decide)
theorem eqv_ints (xs ys : List Int) : PyData.eqv (.list (intsD xs)) (.list (intsD ys)) = decide (xs = ys) := PySem.W.Datum.eqv (α := List Int) xs ys
theorem seenOf_len (n : Int) (xs : List Int) : (seenOf n xs).length ≤ n.toNat := by
  refine Nat.le_trans (List.length_filter_le _ _) ?_
  simp
end HR
namespace HR
open PySem PySem.Spec L2
open PyProof.Rows hiding St
open PySem.W (Datum Tup T3 T4 SomeDatum)
/-! the mathematics of actions -/
theorem layAll_mem : ∀ {xs : List D} {x : D}, PyData.canLayAll0 xs = true → x ∈ xs → x.canLay0 = true
  | y :: ys, x, h, m => by
    have h' : (y.canLay0 && PyData.canLayAll0 ys) = true := h
    rw [Bool.and_eq_true] at h'
    rcases List.mem_cons.mp m with rfl | m
    · exact h'.1
    · exact layAll_mem h'.2 m
mutual
theorem noDict_lay : ∀ d : D, d.canLay0 = true → noDict d = true
  | .none, _ => rfl
  | .bool _, _ => rfl
  | .int _, _ => rfl
  | .str _, _ => rfl
  | .list xs, h => noDicts_lay xs h
  | .tuple xs, h => noDicts_lay xs h
  | .dict _, h => by cases h
theorem noDicts_lay : ∀ ds : List D, PyData.canLayAll0 ds = true → noDicts ds = true
  | [], _ => rfl
  | d :: ds, h => by
    have h' : (d.canLay0 && PyData.canLayAll0 ds) = true := h
    rw [Bool.and_eq_true] at h'
    show (noDict d && noDicts ds) = true
    rw [noDict_lay d h'.1, noDicts_lay ds h'.2]
    rfl
end
theorem shaped_str {s : Str} (h : (PyData.str s).canLay0 = true) : SeqAt.shaped (.str s) = true := by
  unfold SeqAt.shaped
  rw [h]
  rfl
theorem eqv_str (a b : Str) : PyData.eqv (.str a) (.str b) = decide (a = b) := Datum.eqv a b
structure Act where
  hide : Bool
  x : Int
  y : Int
  deriving DecidableEq
abbrev wordD (k : Bool) : D := match k with
  | true => .str "hide"
  | false => .str "show"
abbrev actD (a : Act) : D := .tuple [wordD a.hide, .int a.x, .int a.y]
abbrev scrD (as : List Act) : D := .tuple (as.map actD)
def optH : Option (List Int) → D
  | none => .none
  | some xs => tupI xs
/-- an action of a sheet of n rows -/
def isAct (n : Int) (a : Act) : Bool := if a.hide = true then decide (1 ≤ a.x) && decide (a.x ≤ n) && (decide (a.x ≤ a.y) && decide (a.y ≤ n)) else decide (0 ≤ a.x) && decide (a.x ≤ n) && (decide (a.x + 1 ≤ a.y) && decide (a.y ≤ n + 1))
def mSpan (b c : D) (lo hi more : Int) : Bool := mInt b lo hi && (match b with
  | .int x => mInt c (x + more) (hi + more)
  | _ => false)
def mAct (n : Int) (d : D) : Bool := match d with
  | .tuple [.str s, b, c] => if decide (s = "hide") = true then mSpan b c 1 n 0 else if decide (s = "show") = true then mSpan b c 0 n 1 else false
  | _ => false
def mScr (n : Int) (m : Int) (d : D) : Bool := match d with
  | .tuple ds => decide ((ds.length : Int) ≤ m) && ds.all (mAct n)
  | _ => false
theorem mAct_act (n : Int) (a : Act) : mAct n (actD a) = isAct n a := by
  obtain ⟨k, x, y⟩ := a
  cases k
  · show (if decide (("show" : Str) = "hide") = true then mSpan (.int x) (.int y) 1 n 0 else if decide (("show" : Str) = "show") = true then mSpan (.int x) (.int y) 0 n 1 else false) = _
    rw [if_neg (by decide), if_pos (by decide)]
    rfl
  · show (if decide (("hide" : Str) = "hide") = true then mSpan (.int x) (.int y) 1 n 0 else if decide (("hide" : Str) = "show") = true then mSpan (.int x) (.int y) 0 n 1 else false) = _
    rw [if_pos (by decide)]
    simp [mSpan, isAct, mInt]
theorem mSpan_some {b c : D} {lo hi more : Int} (h : mSpan b c lo hi more = true) : ∃ x y, b = .int x ∧ c = .int y := by
  unfold mSpan at h
  rw [Bool.and_eq_true] at h
  obtain ⟨h1, h2⟩ := h
  cases b with
  | int x =>
    cases c with
    | int y => exact ⟨x, y, rfl, rfl⟩
    | _ => cases h2
  | _ => cases h1
theorem mAct_some {n : Int} {d : D} (h : mAct n d = true) : ∃ a, d = actD a ∧ isAct n a = true := by
  have h0 := h
  unfold mAct at h
  split at h
  · rename_i s b c
    split at h
    · rename_i e
      obtain ⟨x, y, rfl, rfl⟩ := mSpan_some h
      cases of_decide_eq_true e
      exact ⟨⟨true, x, y⟩, rfl, by rw [← mAct_act]; exact h0⟩
    · split at h
      · rename_i e
        obtain ⟨x, y, rfl, rfl⟩ := mSpan_some h
        cases of_decide_eq_true e
        exact ⟨⟨false, x, y⟩, rfl, by rw [← mAct_act]; exact h0⟩
      · cases h
  · cases h
theorem acts_some {n : Int} : ∀ {ds : List D}, ds.all (mAct n) = true → ∃ as : List Act, ds = as.map actD ∧ as.all (isAct n) = true
  | [], _ => ⟨[], rfl, rfl⟩
  | d :: ds, h => by
    simp only [List.all_cons, Bool.and_eq_true] at h
    obtain ⟨a, rfl, ha⟩ := mAct_some h.1
    obtain ⟨as, rfl, has⟩ := acts_some h.2
    exact ⟨a :: as, rfl, by simp only [List.all_cons, ha, has, Bool.and_self]⟩
theorem mScr_some {n m : Int} {d : D} (h : mScr n m d = true) : ∃ as, d = scrD as ∧ as.all (isAct n) = true ∧ (as.length : Int) ≤ m := by
  unfold mScr at h
  split at h
  · rename_i ds
    rw [Bool.and_eq_true, decide_eq_true_eq] at h
    obtain ⟨as, rfl, ha⟩ := acts_some h.2
    exact ⟨as, rfl, ha, by simpa using h.1⟩
  · cases h
theorem mScr_scr {n m : Int} {as : List Act} : mScr n m (scrD as) = (decide ((as.length : Int) ≤ m) && as.all (isAct n)) := by
  show (decide (((as.map actD).length : Int) ≤ m) && (as.map actD).all (mAct n)) = _
  rw [List.length_map, List.all_map]
  congr 1
  congr 1
  exact funext fun a => mAct_act n a
/-- hidden rows after an action -/
def uniI (h : List Int) (x y : Int) : List Int := h.filter (fun r => decide (r < x)) ++ ((List.range (y + 1 - x).toNat).map fun i : Nat => (x + (i : Int))) ++ h.filter fun r => decide (y < r)
def aft (h : List Int) (a : Act) : Option (List Int) := if a.x ∈ h ∨ a.y ∈ h then none else if a.hide = true then some (uniI h a.x a.y) else some (h.filter fun r => !(decide (a.x < r) && decide (r < a.y)))
def runA (o : Option (List Int)) (as : List Act) : Option (List Int) := as.foldl (fun o a => o.bind (aft · a)) o
theorem mem_rng {x : Int} {n : Nat} {r : Int} : r ∈ (List.range n).map (fun i : Nat => (x + (i : Int))) ↔ x ≤ r ∧ r < x + n := by
  rw [List.mem_map]
  constructor
  · rintro ⟨i, hi, rfl⟩
    have := List.mem_range.mp hi
    omega
  · intro h
    exact ⟨(r - x).toNat, List.mem_range.mpr (by omega), by omega⟩
theorem rng_asc (x : Int) (n : Nat) : ((List.range n).map fun i : Nat => (x + (i : Int))).Pairwise (· < ·) := by
  rw [List.pairwise_map]
  exact List.pairwise_lt_range.imp fun h => by omega
theorem mem_uni {h : List Int} {x y r : Int} : r ∈ uniI h x y ↔ (r ∈ h ∧ (r < x ∨ y < r)) ∨ (x ≤ r ∧ r ≤ y) := by
  unfold uniI
  rw [List.mem_append, List.mem_append, mem_rng, List.mem_filter, List.mem_filter, decide_eq_true_eq, decide_eq_true_eq]
  by_cases hr : r ∈ h <;> simp only [hr, true_and, false_and, or_false, false_or] <;> omega
theorem uni_asc {h : List Int} {x y : Int} (a : h.Pairwise (· < ·)) (xy : x ≤ y) : (uniI h x y).Pairwise (· < ·) := by
  unfold uniI
  refine List.pairwise_append.mpr ⟨List.pairwise_append.mpr ⟨a.filter _, rng_asc _ _, fun u hu v hv => ?_⟩, a.filter _, fun u hu v hv => ?_⟩
  · have h1 := of_decide_eq_true (List.mem_filter.mp hu).2
    have h2 := mem_rng.mp hv
    omega
  · have h2 := of_decide_eq_true (List.mem_filter.mp hv).2
    rcases List.mem_append.mp hu with hu | hu
    · have h1 := of_decide_eq_true (List.mem_filter.mp hu).2
      omega
    · have h1 := mem_rng.mp hu
      omega
/-- two ascending lists of the same members are one -/
theorem asc_ext {xs ys : List Int} (hx : xs.Pairwise (· < ·)) (hy : ys.Pairwise (· < ·)) (h : ∀ r, r ∈ xs ↔ r ∈ ys) : xs = ys := by
  have n1 : xs.Nodup := hx.imp (fun h => by omega)
  have n2 : ys.Nodup := hy.imp (fun h => by omega)
  exact ((List.perm_ext_iff_of_nodup n1 n2).mpr h).eq_of_pairwise (fun a b _ _ h1 h2 => by omega) hx hy
theorem normal_uni {h : List Int} {x y : Int} {out : List Int} (a : h.Pairwise (· < ·)) (xy : x ≤ y) (o : Normal (h ++ (List.range (y + 1 - x).toNat).map fun i : Nat => (x + (i : Int))) out) : out = uniI h x y :=
  asc_ext o.1 (uni_asc a xy) fun r => by
    rw [o.2 r, mem_uni, List.mem_append, mem_rng]
    have : ((y + 1 - x).toNat : Int) = y + 1 - x := by omega
    rw [this]
    by_cases hr : r ∈ h <;> simp only [hr, true_and, false_and, or_false, false_or, true_or, true_iff] <;> omega
theorem isAct_hide {n x y : Int} : isAct n ⟨true, x, y⟩ = true ↔ 1 ≤ x ∧ x ≤ y ∧ y ≤ n := by
  simp only [isAct, if_true, Bool.and_eq_true, decide_eq_true_eq]
  omega
theorem isAct_show {n x y : Int} : isAct n ⟨false, x, y⟩ = true ↔ 0 ≤ x ∧ x < y ∧ y ≤ n + 1 := by
  simp only [isAct, Bool.false_eq_true, if_false, Bool.and_eq_true, decide_eq_true_eq]
  omega
theorem isAct_bound {n : Int} {a : Act} (h : isAct n a = true) : 0 ≤ a.x ∧ a.x ≤ a.y ∧ a.y ≤ n + 1 ∧ (a.hide = true → 1 ≤ a.x ∧ a.y ≤ n) := by
  obtain ⟨k, x, y⟩ := a
  cases k
  · have := isAct_show.mp h
    exact ⟨this.1, by show x ≤ y; omega, this.2.2, fun h => by cases h⟩
  · have := isAct_hide.mp h
    exact ⟨by show 0 ≤ x; omega, this.2.1, by show y ≤ n + 1; omega, fun _ => ⟨this.1, this.2.2⟩⟩
theorem aft_st {n : Int} {h h' : List Int} {a : Act} (s : IsSt n h) (ha : isAct n a = true) (e : aft h a = some h') : IsSt n h' := by
  have b := isAct_bound ha
  unfold aft at e
  split at e
  · cases e
  · split at e
    · rename_i hk
      cases e
      refine ⟨s.n1, s.n2, fun r hr => ?_, uni_asc s.asc b.2.1⟩
      rcases mem_uni.mp hr with ⟨h1, _⟩ | h1
      · exact s.rows r h1
      · have := b.2.2.2 hk
        omega
    · cases e
      exact ⟨s.n1, s.n2, fun r hr => s.rows r (List.mem_filter.mp hr).1, s.asc.filter _⟩
theorem runA_none : ∀ as : List Act, runA none as = none
  | [] => rfl
  | _ :: as => runA_none as
theorem runA_cons (o : Option (List Int)) (a : Act) (as : List Act) : runA o (a :: as) = runA (o.bind (aft · a)) as := rfl
theorem runA_app (o : Option (List Int)) (as bs : List Act) : runA o (as ++ bs) = runA (runA o as) bs := List.foldl_append ..
theorem runA_st {n : Int} : ∀ {as : List Act} {h h' : List Int}, IsSt n h → as.all (isAct n) = true → runA (some h) as = some h' → IsSt n h'
  | [], h, h', s, _, e => by cases e; exact s
  | a :: as, h, h', s, ha, e => by
    simp only [List.all_cons, Bool.and_eq_true] at ha
    rw [runA_cons] at e
    cases e1 : aft h a with
    | none =>
      rw [show (some h).bind (aft · a) = aft h a from rfl, e1, runA_none] at e
      cases e
    | some h1 =>
      rw [show (some h).bind (aft · a) = aft h a from rfl, e1] at e
      exact runA_st (aft_st s ha.1 e1) ha.2 e
/-- the states behind each action -/
def scanA : Option (List Int) → List Act → List (Option (List Int))
  | _, [] => []
  | o, a :: as => (o.bind (aft · a)) :: scanA (o.bind (aft · a)) as
theorem scanA_last : ∀ (o : Option (List Int)) (as : List Act), (o :: scanA o as).getLast? = some (runA o as)
  | o, [] => rfl
  | o, a :: as => by
    rw [show scanA o (a :: as) = (o.bind (aft · a)) :: scanA (o.bind (aft · a)) as from rfl, List.getLast?_cons_cons, scanA_last]
    rfl
theorem scanA_len : ∀ (o : Option (List Int)) (as : List Act), (scanA o as).length = as.length
  | _, [] => rfl
  | o, a :: as => by
    show (scanA _ as).length + 1 = _
    rw [scanA_len]
    rfl
theorem scanA_snoc : ∀ (o : Option (List Int)) (as : List Act) (a : Act), scanA o (as ++ [a]) = scanA o as ++ [(runA o as).bind (aft · a)]
  | _, [], _ => rfl
  | o, b :: as, a => by
    show _ :: scanA _ (as ++ [a]) = _ :: (scanA _ as ++ _)
    rw [scanA_snoc]
    rfl
abbrev natsD (xs : List Nat) : List D := xs.map fun i => .int (i : Nat)
/-- the actions that may be left out -/
def needA (h : List Int) (as : List Act) : List Nat := (List.range as.length).filter fun i => decide (runA (some h) (as.take i ++ as.drop (i + 1)) = runA (some h) as)
theorem optH_dat (o : Option (List Int)) : optH o = Datum.toD (o.map Tup.mk) := by cases o <;> rfl
theorem shaped_optH (o : Option (List Int)) : SeqAt.shaped (optH o) = true := by rw [optH_dat]; exact shaped_dat _ (by decide)
theorem eqv_optH (a b : Option (List Int)) : PyData.eqv (optH a) (optH b) = decide (a = b) := by
  rw [optH_dat, optH_dat, Datum.eqv]
  exact decide_eq_decide.mpr ⟨fun h => by cases a <;> cases b <;> simp_all, fun h => by rw [h]⟩
theorem eqv_word (k k' : Bool) : PyData.eqv (wordD k) (wordD k') = decide (k = k') := by
  cases k <;> cases k' <;> exact (eqv_str _ _).trans (by decide)
theorem lay_act (a : Act) : (actD a).canLay0 = true := by
  obtain ⟨k, x, y⟩ := a
  have e1 : PyData.canLay0 (.str "hide") = true := by decide +kernel
  have e2 : PyData.canLay0 (.str "show") = true := by decide +kernel
  cases k
  · show (PyData.canLay0 (.str "show") && (true && (true && true))) = true
    rw [e2]; rfl
  · show (PyData.canLay0 (.str "hide") && (true && (true && true))) = true
    rw [e1]; rfl
instance : Datum Act where
  toD := actD
  plain a := by obtain ⟨k, x, y⟩ := a; cases k <;> rfl
  eqv a b := by
    show (PyData.eqv (wordD a.hide) (wordD b.hide) && (PyData.eqv (.int a.x) (.int b.x) && (PyData.eqv (.int a.y) (.int b.y) && true))) = decide (a = b)
    rw [eqv_word, eqv_int, eqv_int, Bool.and_true, ← Bool.decide_and, ← Bool.decide_and]
    obtain ⟨k, x, y⟩ := a
    obtain ⟨k', x', y'⟩ := b
    exact decide_eq_decide.mpr (by simp)
  depth := 1
  depth_le a := by obtain ⟨k, x, y⟩ := a; cases k <;> exact Nat.le_refl _
instance : Shp Act := ⟨lay_act⟩
theorem acts_inj {as bs : List Act} (e : scrD as = scrD bs) : as = bs := by
  have h1 : PyData.eqv (Datum.toD (⟨as⟩ : Tup Act)) (Datum.toD (⟨bs⟩ : Tup Act)) = true := by
    rw [show Datum.toD (⟨bs⟩ : Tup Act) = Datum.toD (⟨as⟩ : Tup Act) from e.symm, Datum.eqv]
    exact decide_eq_true rfl
  rw [Datum.eqv, decide_eq_true_eq] at h1
  exact congrArg Tup.items h1
theorem lay_acts : ∀ as : List Act, PyData.canLayAll0 (as.map actD) = true
  | [] => rfl
  | a :: as => by
    show (PyData.canLay0 (actD a) && PyData.canLayAll0 (as.map actD)) = true
    rw [lay_acts as, Bool.and_true]
    exact lay_act a
theorem lay_scr (as : List Act) : (scrD as).canLay0 = true := lay_acts as
theorem mScr_ok {n : Int} {as : List Act} (ha : as.all (isAct n) = true) (hl : as.length ≤ 60) : mScr n 60 (scrD as) = true := by
  rw [mScr_scr, ha, Bool.and_true, decide_eq_true_eq]
  omega
def comA (h : List Int) (a b : Act) : Bool := (runA (some h) [a, b]).isSome && decide (runA (some h) [a, b] = runA (some h) [b, a])
theorem natsD_snoc (xs : List Nat) (a : Nat) : natsD (xs ++ [a]) = natsD xs ++ [.int (0 + (a : Int))] := by
  rw [natsD, List.map_append, Int.zero_add]
  rfl
theorem nats_dat (xs : List Nat) : PyData.list (natsD xs) = Datum.toD (xs.map fun i : Nat => (i : Int)) := by
  show PyData.list _ = PyData.list _
  rw [List.map_map]
  rfl
theorem shaped_nats (xs : List Nat) : SeqAt.shaped (.list (natsD xs)) = true := by rw [nats_dat]; exact shaped_dat _ (by decide)
theorem eqv_nats (xs ys : List Nat) : PyData.eqv (.list (natsD xs)) (.list (natsD ys)) = decide (xs = ys) := by
  rw [nats_dat, nats_dat, Datum.eqv]
  exact decide_eq_decide.mpr ⟨fun h => List.map_inj_right (fun _ _ e => by omega) |>.mp h, fun h => by rw [h]⟩
theorem comA_symm (h : List Int) (a b : Act) : comA h b a = comA h a b := by
  unfold comA
  by_cases e : runA (some h) [a, b] = runA (some h) [b, a]
  · rw [e]
  · rw [decide_eq_false e, decide_eq_false (fun z => e z.symm), Bool.and_false, Bool.and_false]
theorem needA_snoc {h : List Int} {as : List Act} (i : Nat) : (List.range (i + 1)).filter (fun i => decide (runA (some h) (as.take i ++ as.drop (i + 1)) = runA (some h) as)) =
    (List.range i).filter (fun i => decide (runA (some h) (as.take i ++ as.drop (i + 1)) = runA (some h) as)) ++ if runA (some h) (as.take i ++ as.drop (i + 1)) = runA (some h) as then [i] else [] := by
  rw [List.range_succ, List.filter_append, List.filter_cons, List.filter_nil]
  by_cases e : runA (some h) (as.take i ++ as.drop (i + 1)) = runA (some h) as
  · rw [decide_eq_true e, if_pos rfl, if_pos e]
  · rw [decide_eq_false e, if_neg (by decide), if_neg e]
theorem all_cut {n : Int} {as : List Act} (ha : as.all (isAct n) = true) (i : Nat) : (as.take i ++ as.drop (i + 1)).all (isAct n) = true := by
  refine List.all_eq_true.mpr fun a m => List.all_eq_true.mp ha a ?_
  rcases List.mem_append.mp m with m | m
  · exact List.mem_of_mem_take m
  · exact List.mem_of_mem_drop m
theorem min_le {a b : Int} (ha : 0 ≤ a) (hb : 0 ≤ b) : 0 ≤ (fun i j : Int => if j < i then j else i) a b ∧ (fun i j : Int => if j < i then j else i) a b ≤ b := by
  dsimp only
  split <;> omega
/-- the actions of a sheet, in order -/
def hidesOf (n : Int) (m : Nat) : List Act := (List.range m).flatMap fun i : Nat => (List.range (n - (i : Int)).toNat).map fun j : Nat => ⟨true, 1 + (i : Int), 1 + (i : Int) + (j : Int)⟩
def showsOf (n : Int) (m : Nat) : List Act := (List.range m).flatMap fun i : Nat => (List.range (n + 1 - (i : Int)).toNat).map fun j : Nat => ⟨false, (i : Int), (i : Int) + 1 + (j : Int)⟩
def actsOf (n : Int) : List Act := hidesOf n n.toNat ++ showsOf n (n + 1).toNat
theorem hidesOf_succ (n : Int) (m : Nat) : hidesOf n (m + 1) = hidesOf n m ++ (List.range (n - (m : Int)).toNat).map fun j : Nat => ⟨true, 1 + (m : Int), 1 + (m : Int) + (j : Int)⟩ := by
  unfold hidesOf
  rw [List.range_succ, List.flatMap_append]
  simp
theorem showsOf_succ (n : Int) (m : Nat) : showsOf n (m + 1) = showsOf n m ++ (List.range (n + 1 - (m : Int)).toNat).map fun j : Nat => ⟨false, (m : Int), (m : Int) + 1 + (j : Int)⟩ := by
  unfold showsOf
  rw [List.range_succ, List.flatMap_append]
  simp
theorem hidesOf_len {n : Int} (n2 : n ≤ 40) : ∀ m : Nat, (hidesOf n m).length ≤ 40 * m
  | 0 => Nat.le_refl _
  | m + 1 => by
    have := hidesOf_len n2 m
    rw [hidesOf_succ, List.length_append, List.length_map, List.length_range]
    omega
theorem showsOf_len {n : Int} (n2 : n ≤ 40) : ∀ m : Nat, (showsOf n m).length ≤ 41 * m
  | 0 => Nat.le_refl _
  | m + 1 => by
    have := showsOf_len n2 m
    rw [showsOf_succ, List.length_append, List.length_map, List.length_range]
    omega
theorem actsOf_len {n : Int} (n2 : n ≤ 40) : (actsOf n).length ≤ 10000 := by
  have h1 := hidesOf_len n2 n.toNat
  have h2 := showsOf_len n2 (n + 1).toNat
  unfold actsOf
  rw [List.length_append]
  omega
theorem mem_acts {n : Int} (n1 : 1 ≤ n) (a : Act) : a ∈ actsOf n ↔ isAct n a = true := by
  obtain ⟨k, x, y⟩ := a
  unfold actsOf hidesOf showsOf
  simp only [List.mem_append, List.mem_flatMap, List.mem_map, List.mem_range]
  cases k
  · rw [isAct_show]
    constructor
    · rintro (⟨i, hi, j, hj, e⟩ | ⟨i, hi, j, hj, e⟩)
      · cases e
      · injection e with e1 e2 e3
        omega
    · intro h
      exact .inr ⟨x.toNat, by omega, (y - x - 1).toNat, by omega, by congr 1 <;> omega⟩
  · rw [isAct_hide]
    constructor
    · rintro (⟨i, hi, j, hj, e⟩ | ⟨i, hi, j, hj, e⟩)
      · injection e with e1 e2 e3
        omega
      · cases e
    · intro h
      exact .inl ⟨(x - 1).toNat, by omega, (y - x).toNat, by omega, by congr 1 <;> omega⟩
/-- the actions that may have stood at place i -/
def missA (n : Int) (h : List Int) (as : List Act) (i : Nat) (r : List Int) : List Act := match runA (some h) (as.take i) with
  | none => []
  | some here => (actsOf n).filter fun a => (aft here a).isSome && decide (runA (aft here a) (as.drop i) = some r)
theorem shaped_act (a : Act) : SeqAt.shaped (actD a) = true := shaped_dat a (by decide)
theorem shaped_acts (as : List Act) : SeqAt.shaped (.list (as.map actD)) = true := shaped_dat (α := List Act) as (by decide)
theorem eqv_acts (as bs : List Act) : PyData.eqv (.list (as.map actD)) (.list (bs.map actD)) = decide (as = bs) := Datum.eqv (α := List Act) as bs
theorem any_act (as : List Act) (a : Act) : ((as.map actD).any fun e => PyData.eqv e (actD a)) = decide (a ∈ as) := W.any_datum as a
theorem missA_eq {n : Int} {h : List Int} {as : List Act} {i : Nat} {r : List Int} : missA n h as i r = (actsOf n).filter fun a => decide (runA (some h) (as.take i ++ [a] ++ as.drop i) = some r) := by
  unfold missA
  cases e : runA (some h) (as.take i) with
  | none =>
    refine (List.filter_eq_nil_iff.mpr fun a _ => ?_).symm
    rw [runA_app, runA_app, e, runA_none, runA_none]
    exact fun z => nomatch of_decide_eq_true z
  | some g =>
    refine List.filter_congr fun a _ => ?_
    rw [runA_app, runA_app, e, show runA (some g) [a] = aft g a from rfl]
    cases e2 : aft g a with
    | none => rw [runA_none]; rfl
    | some g2 => rw [Option.isSome_some, Bool.true_and]
theorem cut_back {α : Type} {as : List α} {i : Nat} (h : i < as.length) : (as.take i ++ as.drop (i + 1)).take i ++ [as[i]] ++ (as.take i ++ as.drop (i + 1)).drop i = as := by
  have h1 : (as.take i).length = i := by rw [List.length_take]; omega
  have e1 : (as.take i ++ as.drop (i + 1)).take i = as.take i := by
    rw [List.take_append_of_le_length (by omega), List.take_of_length_le (by omega)]
  have e2 : (as.take i ++ as.drop (i + 1)).drop i = as.drop (i + 1) := by
    rw [List.drop_append_of_le_length (by omega), List.drop_of_length_le (by omega), List.nil_append]
  rw [e1, e2, List.append_assoc, List.singleton_append, ← List.drop_eq_getElem_cons h, List.take_append_drop]
theorem shaped_scr (as : List Act) : SeqAt.shaped (scrD as) = true := shaped_dat (α := Tup Act) ⟨as⟩ (by decide)
theorem eqv_scr (as bs : List Act) : PyData.eqv (scrD as) (scrD bs) = decide (as = bs) := by
  refine (Datum.eqv (⟨as⟩ : Tup Act) ⟨bs⟩).trans ?_
  exact decide_eq_decide.mpr ⟨fun h => congrArg Tup.items h, fun h => by rw [h]⟩
end HR
namespace HR
open PySem PySem.Spec L2
open PyProof.Rows hiding St
open PySem.W (Datum Tup T3 T4 SomeDatum DatumOrd dataLe dataLt listLt Sortable)
/-! all sets of hidden rows -/
abbrev tupT (t : Tup Int) : D := tupI t.items
def subsI : Nat → List (Tup Int)
  | 0 => [⟨[]⟩]
  | k + 1 => subsI k ++ (subsI k).map fun t => ⟨t.items ++ [1 + (k : Int)]⟩
def allH (n : Nat) : List (Tup Int) := (subsI n).mergeSort (dataLe false fun x : Tup Int => Datum.toD x)
theorem subsI_len : ∀ n, (subsI n).length = 2 ^ n
  | 0 => rfl
  | n + 1 => by
    show (subsI n ++ _).length = _
    rw [List.length_append, List.length_map, subsI_len n]
    omega
theorem subsI_asc : ∀ (n : Nat) (t : Tup Int), t ∈ subsI n → (∀ x ∈ t.items, 1 ≤ x ∧ x ≤ n) ∧ t.items.Pairwise (· < ·)
  | 0, t, h => by
    have : t = ⟨[]⟩ := by simpa [subsI] using h
    subst this
    exact ⟨fun x hx => (by cases hx), List.Pairwise.nil⟩
  | n + 1, t, h => by
    rcases List.mem_append.mp (show t ∈ subsI n ++ (subsI n).map fun t => ⟨t.items ++ [1 + (n : Int)]⟩ from h) with h | h
    · obtain ⟨h1, h2⟩ := subsI_asc n t h
      exact ⟨fun x hx => ⟨(h1 x hx).1, by have := (h1 x hx).2; omega⟩, h2⟩
    · obtain ⟨u, hu, rfl⟩ := List.mem_map.mp h
      obtain ⟨h1, h2⟩ := subsI_asc n u hu
      refine ⟨fun x hx => ?_, List.pairwise_append.mpr ⟨h2, List.pairwise_singleton _ _, fun a ha b hb => ?_⟩⟩
      · rcases List.mem_append.mp hx with hx | hx
        · have := h1 x hx; omega
        · have := List.mem_singleton.mp hx; omega
      · have := h1 a ha
        have := List.mem_singleton.mp hb
        omega
theorem allH_st {n : Nat} (h1 : 1 ≤ n) (h2 : n ≤ 40) {t : Tup Int} (h : t ∈ allH n) : IsSt n t.items := by
  have h' := List.mem_mergeSort.mp h
  obtain ⟨a, b⟩ := subsI_asc n t h'
  exact ⟨by omega, by omega, a, b⟩
theorem subsI_first : ∀ n, ∃ r, subsI n = ⟨[]⟩ :: r
  | 0 => ⟨[], rfl⟩
  | n + 1 => by
    obtain ⟨r, e⟩ := subsI_first n
    exact ⟨r ++ (subsI n).map fun t => ⟨t.items ++ [1 + (n : Int)]⟩, by show subsI n ++ _ = _; rw [e]; rfl⟩
theorem subsI_ok (n : Nat) : SortOk ((subsI n).map fun t : Tup Int => Datum.toD t) := by
  refine .inr ⟨fun d hd => ?_, ?_⟩
  · obtain ⟨t, _, rfl⟩ := List.mem_map.mp hd
    exact ⟨_, rfl⟩
  · obtain ⟨r, e⟩ := subsI_first n
    exact ⟨r.map fun t : Tup Int => Datum.toD t, by rw [e]; rfl⟩
/-- the first state on which two scripts differ -/
def diffA (n : Nat) (as bs : List Act) : Option (Tup Int) := (allH n).find? fun t => decide (runA (some t.items) as ≠ runA (some t.items) bs)
/-- a comprehension whose items are told by an invariant -/
theorem compD_inv {α β : Type} {g : TDG} {tt : TDT} {te : TD} {vs : List Nat} {chk : Env → Prop} {δ : Env} {Q : List D → Env → Prop} (enc : α → D) (encb : β → D) (I : Nat → List β → Prop) (hc : chk δ) : ∀ (xs : List α) (i : Nat) (acc : List β), I i acc →
    (∀ x ∈ xs, ∀ i acc, I i acc → ∀ K : List D → Env → Prop, (∀ acc', I (i + 1) acc' → K (acc'.map encb) δ) → (g (.val (enc x)) δ fun δ1 => tt δ1 fun b δ2 => if b = true then te δ2 fun s δ3 => asD s δ3 fun d δ4 => K (acc.map encb ++ [d]) (wipeE δ4 vs) else K (acc.map encb) (wipeE δ2 vs))) →
    (∀ acc, I (i + xs.length) acc → Q (acc.map encb) δ) → compD g tt te vs chk (xs.map enc) (acc.map encb) δ Q
  | [], i, acc, h0, _, q => ⟨hc, q acc h0⟩
  | x :: xs, i, acc, h0, h, q => by
    refine ⟨hc, h x List.mem_cons_self i acc h0 (fun acc δ => compD g tt te vs chk (xs.map enc) acc δ Q) fun acc' h' => ?_⟩
    refine compD_inv enc encb I hc xs (i + 1) acc' h' (fun y hy => h y (List.mem_cons_of_mem _ hy)) fun acc'' h'' => q acc'' ?_
    rw [List.length_cons, show i + (xs.length + 1) = i + 1 + xs.length by omega]
    exact h''
theorem diffA_symm (n : Nat) (as bs : List Act) : diffA n bs as = diffA n as bs := by
  unfold diffA
  congr 1
  funext t
  exact decide_eq_decide.mpr ⟨fun h e => h e.symm, fun h e => h e.symm⟩
theorem diffA_self (n : Nat) (as : List Act) : diffA n as as = none := List.find?_eq_none.mpr fun t _ => (by simp)
theorem diffA_head (n : Nat) (as bs : List Act) : diffA n as bs = ((allH n).filter fun t => decide (runA (some t.items) as ≠ runA (some t.items) bs)).head? := List.head?_filter.symm
theorem shaped_tups (ts : List (Tup Int)) : SeqAt.shaped (.list (ts.map tupT)) = true := shaped_dat (α := List (Tup Int)) ts (by decide)
theorem eqv_tups (ts us : List (Tup Int)) : PyData.eqv (.list (ts.map tupT)) (.list (us.map tupT)) = decide (ts = us) := Datum.eqv (α := List (Tup Int)) ts us
theorem listLt_anti : ∀ xs ys : List Int, listLt xs ys = false → listLt ys xs = false → xs = ys
  | [], [], _, _ => rfl
  | [], _ :: _, h, _ => by simp [listLt] at h
  | _ :: _, [], _, h => by simp [listLt] at h
  | x :: xs, y :: ys, h1, h2 => by
    simp only [listLt] at h1 h2
    by_cases e : x = y
    · subst e
      rw [if_pos rfl] at h1 h2
      rw [listLt_anti xs ys h1 h2]
    · rw [if_neg e] at h1
      rw [if_neg (fun z => e z.symm)] at h2
      have a1 : ¬ x < y := of_decide_eq_false h1
      have a2 : ¬ y < x := of_decide_eq_false h2
      omega
theorem allH_is {n : Nat} {ts : List (Tup Int)} (h1 : (subsI n).Perm ts) (h2 : ts.Pairwise fun x y => listLt y.items x.items = false) : allH n = ts := by
  have p : (allH n).Perm ts := (List.mergeSort_perm _ _).trans h1
  have hs : (allH n).Pairwise fun x y : Tup Int => listLt y.items x.items = false := (PySem.W.sort_pairwise (PySem.W.sortLe_total (listOrd itemOrd) false _) _).imp fun {x y} h => by
    have h' : (!dataLt (Datum.toD y) (Datum.toD x)) = true := h
    rw [DatumOrd.lt_eq] at h'
    have h2 : DatumOrd.lt y x = false := by simpa using h'
    exact h2
  exact p.eq_of_pairwise (fun a b _ _ a1 a2 => by
    have := listLt_anti _ _ a2 a1
    cases a; cases b; exact congrArg Tup.mk this) hs h2
theorem allH3 : allH 3 = [⟨[]⟩, ⟨[1]⟩, ⟨[1, 2]⟩, ⟨[1, 2, 3]⟩, ⟨[1, 3]⟩, ⟨[2]⟩, ⟨[2, 3]⟩, ⟨[3]⟩] := allH_is (by decide) (by decide)
theorem allH2 : allH 2 = [⟨[]⟩, ⟨[1]⟩, ⟨[1, 2]⟩, ⟨[2]⟩] := allH_is (by decide) (by decide)
theorem diff_a : diffA 2 [⟨true, 1, 2⟩] [⟨true, 1, 1⟩, ⟨true, 2, 2⟩] = none := by unfold diffA; rw [allH2]; decide
theorem diff_b : diffA 3 [⟨false, 0, 4⟩] [⟨false, 0, 2⟩, ⟨false, 1, 4⟩] = some ⟨[1, 2]⟩ := by unfold diffA; rw [allH3]; decide
theorem diff_c : diffA 2 [⟨true, 1, 1⟩] [] = some ⟨[]⟩ := by unfold diffA; rw [allH2]; decide
/-- the rows of a block -/
def blkRows (c : Int × Int) : List Int := (List.range (c.2 + 1 - c.1).toNat).map fun i : Nat => c.1 + (i : Int)
end HR
namespace HR
/-! blocks by their rows -/
/-- a block -/
structure IsBlk (h : List Int) (c : Int × Int) : Prop where
  le : c.1 ≤ c.2
  all : ∀ r, c.1 ≤ r → r ≤ c.2 → r ∈ h
  lo : c.1 - 1 ∉ h
  hi : c.2 + 1 ∉ h
theorem IsBlk.meet {h : List Int} {c d : Int × Int} (a : IsBlk h c) (b : IsBlk h d) (h1 : c.1 ≤ d.2) (h2 : d.1 ≤ c.2) : c = d := by
  have := a.le; have := b.le
  have e1 : c.1 = d.1 := by
    rcases Int.lt_trichotomy c.1 d.1 with z | z | z
    · exact absurd (a.all (d.1 - 1) (by omega) (by omega)) b.lo
    · exact z
    · exact absurd (b.all (c.1 - 1) (by omega) (by omega)) a.lo
  have e2 : c.2 = d.2 := by
    rcases Int.lt_trichotomy c.2 d.2 with z | z | z
    · exact absurd (b.all (c.2 + 1) (by omega) (by omega)) a.hi
    · exact z
    · exact absurd (a.all (d.2 + 1) (by omega) (by omega)) b.hi
  exact Prod.ext e1 e2
theorem IsBlk.sep {h : List Int} {c d : Int × Int} (a : IsBlk h c) (b : IsBlk h d) (h1 : c.1 < d.1) : c.2 + 1 < d.1 := by
  by_cases q : d.1 ≤ c.2
  · have := a.meet b (by have := b.le; omega) q
    subst this; omega
  · have : d.1 ≠ c.2 + 1 := fun z => b.lo (by rw [z]; simpa using a.all c.2 a.le (Int.le_refl _))
    omega
theorem blocks_pw0 : ∀ xs : List Int, xs.Pairwise (· < ·) → (blocksOf xs).Pairwise (fun c d => c.2 + 1 < d.1) ∧ (∀ c ∈ blocksOf xs, IsBlk xs c) ∧ (∀ r ∈ xs, ∃ c ∈ blocksOf xs, c.1 ≤ r ∧ r ≤ c.2) ∧
    (∀ l, xs.getLast? = some l → ∃ i a, blocksOf xs = i ++ [(a, l)]) := by
  refine snoc_ind (fun _ => ⟨.nil, fun _ h => (by cases h), fun _ h => (by cases h), fun _ h => (by cases h)⟩) fun xs x ih h => ?_
  obtain ⟨h1, h2⟩ := asc_snoc h
  obtain ⟨p1, p2, p3, p4⟩ := ih h1
  have eb : blocksOf (xs ++ [x]) = blkStep (blocksOf xs) x := by simp [blocksOf]
  rw [eb]
  -- the blocks that stay
  have stay : ∀ c, IsBlk xs c → c.2 + 1 ≠ x → IsBlk (xs ++ [x]) c := fun c b ne => by
    refine ⟨b.le, fun r a1 a2 => List.mem_append_left _ (b.all r a1 a2), fun m => ?_, fun m => ?_⟩
    · rcases List.mem_append.mp m with m | m
      · exact b.lo m
      · have e := List.mem_singleton.mp m
        have := h2 _ (b.all c.1 (Int.le_refl _) b.le)
        omega
    · rcases List.mem_append.mp m with m | m
      · exact b.hi m
      · exact ne (List.mem_singleton.mp m)
  have fresh : x - 1 ∉ xs → (blocksOf xs ++ [(x, x)]).Pairwise (fun c d => c.2 + 1 < d.1) ∧ (∀ c ∈ blocksOf xs ++ [(x, x)], IsBlk (xs ++ [x]) c) ∧ (∀ r ∈ xs ++ [x], ∃ c ∈ blocksOf xs ++ [(x, x)], c.1 ≤ r ∧ r ≤ c.2) ∧
    (∀ l, (xs ++ [x]).getLast? = some l → ∃ i a, blocksOf xs ++ [(x, x)] = i ++ [(a, l)]) := fun hx => by
    have sep : ∀ c ∈ blocksOf xs, c.2 + 1 < x := fun c hc => by
      have b := p2 c hc
      have m := b.all c.2 b.le (Int.le_refl _)
      have a1 := h2 _ m
      have a2 : c.2 ≠ x - 1 := fun z => hx (z ▸ m)
      omega
    refine ⟨List.pairwise_append.mpr ⟨p1, List.pairwise_singleton _ _, fun c hc d hd => ?_⟩, fun c hc => ?_, fun r hr => ?_, fun l hl => ?_⟩
    · rw [List.mem_singleton.mp hd]; exact sep c hc
    · rcases List.mem_append.mp hc with hc | hc
      · exact stay c (p2 c hc) (by have := sep c hc; omega)
      · rw [List.mem_singleton.mp hc]
        refine ⟨Int.le_refl _, fun r a1 a2 => ?_, fun m => ?_, fun m => ?_⟩
        · have : r = x := Int.le_antisymm a2 a1
          subst this; simp
        · rcases List.mem_append.mp m with m | m
          · exact hx m
          · have : x - 1 = x := by simpa using m
            omega
        · rcases List.mem_append.mp m with m | m
          · have : x + 1 < x := h2 _ m
            omega
          · have : x + 1 = x := by simpa using m
            omega
    · rcases List.mem_append.mp hr with hr | hr
      · obtain ⟨c, hc, q⟩ := p3 r hr
        exact ⟨c, List.mem_append_left _ hc, q⟩
      · have : r = x := by simpa using hr
        subst this
        exact ⟨(r, r), by simp, Int.le_refl _, Int.le_refl _⟩
    · have : l = x := by simpa using hl.symm
      subst this
      exact ⟨_, _, rfl⟩
  rcases List.eq_nil_or_concat xs with rfl | ⟨ys, l, rfl⟩
  · exact fresh (fun z => by cases z)
  rw [List.concat_eq_append] at *
  obtain ⟨i, a, e⟩ := p4 l (by simp)
  have bl : blkStep (blocksOf (ys ++ [l])) x = if l = x - 1 then i ++ [(a, x)] else blocksOf (ys ++ [l]) ++ [(x, x)] := by
    unfold blkStep
    rw [e, List.getLast?_append]
    show (if l = x - 1 then (i ++ [(a, l)]).dropLast ++ [(a, x)] else _) = _
    rw [List.dropLast_concat]
  rw [bl]
  by_cases hl : l = x - 1
  · rw [if_pos hl]
    rw [e] at p1 p2 p3
    obtain ⟨q1, _, q2⟩ := List.pairwise_append.mp p1
    have ba := p2 (a, l) (by simp)
    have bae : a ≤ l := ba.le
    refine ⟨List.pairwise_append.mpr ⟨q1, List.pairwise_singleton _ _, fun c hc d hd => ?_⟩, fun c hc => ?_, fun r hr => ?_, fun m hm => ?_⟩
    · rw [List.mem_singleton.mp hd]; exact q2 c hc (a, l) (by simp)
    · rcases List.mem_append.mp hc with hc | hc
      · refine stay c (p2 c (List.mem_append_left _ hc)) ?_
        have : c.2 + 1 < a := q2 c hc (a, l) (by simp)
        omega
      · rw [List.mem_singleton.mp hc]
        refine ⟨show a ≤ x by omega, fun r a1 a2 => ?_, fun m => ?_, fun m => ?_⟩
        · by_cases z : r = x
          · subst z; simp
          · exact List.mem_append_left _ (ba.all r a1 (show r ≤ l by have : r ≤ x := a2; omega))
        · rcases List.mem_append.mp m with m | m
          · exact ba.lo m
          · have : a - 1 = x := by simpa using m
            omega
        · rcases List.mem_append.mp m with m | m
          · have : x + 1 < x := h2 _ m
            omega
          · have : x + 1 = x := by simpa using m
            omega
    · rcases List.mem_append.mp hr with hr | hr
      · obtain ⟨c, hc, c1, c2⟩ := p3 r hr
        rcases List.mem_append.mp hc with hc | hc
        · exact ⟨c, List.mem_append_left _ hc, c1, c2⟩
        · rw [List.mem_singleton.mp hc] at c1 c2
          exact ⟨(a, x), by simp, c1, show r ≤ x by have : r ≤ l := c2; omega⟩
      · have : r = x := by simpa using hr
        subst this
        exact ⟨(a, r), by simp, show a ≤ r by omega, Int.le_refl _⟩
    · have : m = x := by simpa using hm.symm
      subst this
      exact ⟨_, _, rfl⟩
  · rw [if_neg hl]
    refine fresh fun z => ?_
    have a1 := asc_last h1 (l := l) (by simp) z
    have a2 := h2 l (by simp)
    omega
section
variable {h : List Int} (a : h.Pairwise (· < ·))
include a
theorem blocks_pw : (blocksOf h).Pairwise (fun c d => c.2 + 1 < d.1) := (blocks_pw0 h a).1
theorem mem_blocks {c : Int × Int} : c ∈ blocksOf h ↔ IsBlk h c := by
  obtain ⟨_, p2, p3, _⟩ := blocks_pw0 h a
  refine ⟨p2 c, fun b => ?_⟩
  obtain ⟨d, hd, d1, d2⟩ := p3 c.1 (b.all _ (Int.le_refl _) b.le)
  have := b.meet (p2 d hd) (by have := (p2 d hd).le; omega) (by have := b.le; omega)
  rw [this]; exact hd
theorem blk_of {r : Int} (m : r ∈ h) : ∃ c, IsBlk h c ∧ c.1 ≤ r ∧ r ≤ c.2 := by
  obtain ⟨_, p2, p3, _⟩ := blocks_pw0 h a
  obtain ⟨d, hd, d1, d2⟩ := p3 r m
  exact ⟨d, p2 d hd, d1, d2⟩
/-- the ascending list of the blocks is one alone -/
theorem blocks_is {L : List (Int × Int)} (pw : L.Pairwise (fun c d => c.1 < d.1)) (mem : ∀ c, c ∈ L ↔ IsBlk h c) : L = blocksOf h := by
  have pw2 : (blocksOf h).Pairwise (fun c d => c.1 < d.1) := by
    have q : ∀ c ∈ blocksOf h, c.1 ≤ c.2 := fun c hc => ((mem_blocks a).mp hc).le
    exact (blocks_pw a).imp_of_mem fun {c d} hc _ z => by have := q c hc; omega
  have n1 : L.Nodup := pw.imp (fun {c d} z e => by subst e; omega)
  have n2 : (blocksOf h).Nodup := pw2.imp (fun {c d} z e => by subst e; omega)
  exact ((List.perm_ext_iff_of_nodup n1 n2).mpr fun c => (mem c).trans (mem_blocks a).symm).eq_of_pairwise (fun c d _ _ z1 z2 => by omega) pw pw2
end
theorem mem_blkRows {c : Int × Int} {r : Int} : r ∈ blkRows c ↔ c.1 ≤ r ∧ r ≤ c.2 := by
  unfold blkRows
  rw [mem_rng]
  omega
end HR
namespace HR
/-! prices -/
def rng (n : Int) : List Int := (List.range n.toNat).map fun i : Nat => (1 + (i : Int))
theorem mem_rng1 {n r : Int} : r ∈ rng n ↔ 1 ≤ r ∧ r ≤ n := by
  unfold rng
  rw [mem_rng]
  omega
def ndl (h w : List Int) : List (Int × Int) := (blocksOf h).filter fun c => !(blkRows c).all fun r => decide (r ∈ w)
def freedL (h w : List Int) : List Int := (ndl h w).flatMap blkRows
def tch (h w : List Int) (c : Int × Int) : Bool := (blkRows c).any fun r => decide (r ∉ h) || decide (r ∈ freedL h w)
def hotL (h w : List Int) : List (Int × Int) := (blocksOf w).filter (tch h w)
def coldL (h w : List Int) : List (Int × Int) := (blocksOf w).filter fun c => !tch h w c
def gapN (cold : List (Int × Int)) (one other : Int × Int) : Nat := (cold.filter fun run => decide (one.2 < run.1) && decide (run.2 < other.1)).length
def gapSum (p q : Int) (cold : List (Int × Int)) : List (Int × Int) → Int
  | x :: y :: r => min q (p * gapN cold x y) + gapSum p q cold (y :: r)
  | _ => 0
def price (h w : List Int) (p q : Int) : Int := p * (hotL h w).length + if ndl h w = [] then 0 else q + gapSum p q (coldL h w) (ndl h w)
def costA (p q : Int) (as : List Act) : Int := (as.map fun a => if a.hide = true then p else q).sum
theorem costA_app (p q : Int) (as bs : List Act) : costA p q (as ++ bs) = costA p q as + costA p q bs := by
  unfold costA; rw [List.map_append, List.sum_append]
theorem mem_ndl {h w : List Int} (a : h.Pairwise (· < ·)) {c : Int × Int} : c ∈ ndl h w ↔ IsBlk h c ∧ ∃ r, c.1 ≤ r ∧ r ≤ c.2 ∧ r ∉ w := by
  unfold ndl
  rw [List.mem_filter, mem_blocks a]
  refine and_congr_right fun _ => ?_
  rw [Bool.not_eq_true', ← Bool.not_eq_true, List.all_eq_true]
  constructor
  · intro z
    exact Classical.byContradiction fun y => z fun r hr => by
      have := mem_blkRows.mp hr
      exact decide_eq_true (Classical.byContradiction fun hw => y ⟨r, this.1, this.2, hw⟩)
  · rintro ⟨r, h1, h2, h3⟩ z
    exact h3 (of_decide_eq_true (z r (mem_blkRows.mpr ⟨h1, h2⟩)))
theorem mem_freed {h w : List Int} {r : Int} : r ∈ freedL h w ↔ ∃ c ∈ ndl h w, c.1 ≤ r ∧ r ≤ c.2 := by
  unfold freedL
  rw [List.mem_flatMap]
  exact ⟨fun ⟨c, h1, h2⟩ => ⟨c, h1, mem_blkRows.mp h2⟩, fun ⟨c, h1, h2⟩ => ⟨c, h1, mem_blkRows.mpr h2⟩⟩
theorem tch_iff {h w : List Int} {c : Int × Int} : tch h w c = true ↔ ∃ r, c.1 ≤ r ∧ r ≤ c.2 ∧ (r ∉ h ∨ r ∈ freedL h w) := by
  unfold tch
  rw [List.any_eq_true]
  constructor
  · rintro ⟨r, h1, h2⟩
    have := mem_blkRows.mp h1
    refine ⟨r, this.1, this.2, ?_⟩
    simpa using h2
  · rintro ⟨r, h1, h2, h3⟩
    exact ⟨r, mem_blkRows.mpr ⟨h1, h2⟩, by simpa using h3⟩
theorem not_tch {h w : List Int} {c : Int × Int} (z : tch h w c = false) {r : Int} (h1 : c.1 ≤ r) (h2 : r ≤ c.2) : r ∈ h ∧ r ∉ freedL h w := by
  have := mt tch_iff.mpr (by rw [z]; decide)
  constructor
  · exact Classical.byContradiction fun q => this ⟨r, h1, h2, .inl q⟩
  · exact fun q => this ⟨r, h1, h2, .inr q⟩
theorem ndl_pw {h : List Int} (a : h.Pairwise (· < ·)) (w : List Int) : (ndl h w).Pairwise (fun c d => c.2 + 1 < d.1) := (blocks_pw a).filter _
/-- a cold run lies beside every needed block -/
theorem cold_beside {h w : List Int} (a : h.Pairwise (· < ·)) {k y : Int × Int} (hk : tch h w k = false) (hy : y ∈ ndl h w) (hle : k.1 ≤ k.2) : k.2 < y.1 ∨ y.2 < k.1 := by
  by_cases z : k.2 < y.1
  · exact .inl z
  · by_cases z2 : y.2 < k.1
    · exact .inr z2
    · exfalso
      have yl := ((mem_ndl a).mp hy).1.le
      by_cases z3 : k.1 ≤ y.1
      · exact (not_tch hk (r := y.1) z3 (by omega)).2 (mem_freed.mpr ⟨y, hy, Int.le_refl _, yl⟩)
      · exact (not_tch hk (r := k.1) (Int.le_refl _) hle).2 (mem_freed.mpr ⟨y, hy, by omega, by omega⟩)
/-! counting -/
theorem cnt_add {α : Type} {P Q R : α → Bool} : ∀ {l : List α}, (∀ a ∈ l, (P a = true → R a = true ∧ Q a = false) ∧ (Q a = true → R a = true)) → l.countP P + l.countP Q ≤ l.countP R
  | [], _ => by simp
  | x :: l, h => by
    have ih := cnt_add (l := l) fun a ha => h a (List.mem_cons_of_mem _ ha)
    obtain ⟨h1, h2⟩ := h x List.mem_cons_self
    rw [List.countP_cons, List.countP_cons, List.countP_cons]
    cases hp : P x with
    | true =>
      obtain ⟨e1, e2⟩ := h1 hp
      rw [e1, e2]; simp; omega
    | false =>
      cases hq : Q x with
      | true => rw [h2 hq]; simp; omega
      | false => cases R x <;> simp <;> omega
theorem cnt_pos {α : Type} {P : α → Bool} {l : List α} {a : α} (h : a ∈ l) (p : P a = true) : 1 ≤ l.countP P := List.countP_pos_iff.mpr ⟨a, h, p⟩
theorem cnt_mono {α : Type} {P Q : α → Bool} {l : List α} (h : ∀ a ∈ l, P a = true → Q a = true) : l.countP P ≤ l.countP Q := List.countP_mono_left h
/-- at most one block has the row -/
theorem cnt_one {x : Int} : ∀ {L : List (Int × Int)}, L.Pairwise (fun c d => c.2 + 1 < d.1) → L.countP (fun c => decide (c.1 ≤ x) && decide (x ≤ c.2)) ≤ 1
  | [], _ => by simp
  | c :: L, h => by
    obtain ⟨h1, h2⟩ := List.pairwise_cons.mp h
    have ih := cnt_one (x := x) h2
    rw [List.countP_cons]
    split
    · rename_i z
      rw [Bool.and_eq_true, decide_eq_true_eq, decide_eq_true_eq] at z
      have : L.countP (fun c => decide (c.1 ≤ x) && decide (x ≤ c.2)) = 0 := List.countP_eq_zero.mpr fun d hd => by
        have := h1 d hd
        simp; omega
      omega
    · omega
/-! plans: rows that are shown -/
structure Plan (n : Int) (A B : List Int) (c : Int → Bool) : Prop where
  v1 : ∀ r, c r = true → c (r + 1) = false → r + 1 ∉ A
  v2 : ∀ r, c r = false → c (r + 1) = true → r ∉ A
  v3 : ∀ r, r ∈ A → c r = false → r ∈ B
  v4 : ∀ r, c r = true → 1 ≤ r ∧ r ≤ n
def strt (c : Int → Bool) (r : Int) : Bool := c r && !c (r - 1)
def segs (n : Int) (c : Int → Bool) : Nat := (rng n).countP (strt c)
def hotP (A : List Int) (c : Int → Bool) (k : Int × Int) : Bool := (blkRows k).any fun r => decide (r ∉ A) || c r
def hotc (A B : List Int) (c : Int → Bool) : Nat := (blocksOf B).countP (hotP A c)
theorem hotP_iff {A : List Int} {c : Int → Bool} {k : Int × Int} : hotP A c k = true ↔ ∃ r, k.1 ≤ r ∧ r ≤ k.2 ∧ (r ∉ A ∨ c r = true) := by
  unfold hotP
  rw [List.any_eq_true]
  constructor
  · rintro ⟨r, h1, h2⟩
    have := mem_blkRows.mp h1
    exact ⟨r, this.1, this.2, by simpa using h2⟩
  · rintro ⟨r, h1, h2, h3⟩
    exact ⟨r, mem_blkRows.mpr ⟨h1, h2⟩, by simpa using h3⟩
theorem plan_nil {n : Int} {A : List Int} (a : A.Pairwise (· < ·)) : Plan n A A (fun _ => false) ∧ segs n (fun _ => false) = 0 ∧ hotc A A (fun _ => false) = 0 := by
  refine ⟨⟨fun _ h => (by cases h), fun _ _ h => (by cases h), fun _ h _ => h, fun _ h => (by cases h)⟩, List.countP_eq_zero.mpr fun _ _ h => (by cases h), List.countP_eq_zero.mpr fun k hk h => ?_⟩
  obtain ⟨r, h1, h2, h3⟩ := hotP_iff.mp h
  rcases h3 with h3 | h3
  · exact h3 (((mem_blocks a).mp hk).all r h1 h2)
  · cases h3
theorem plan_show {n x y : Int} {A A' B : List Int} {c : Int → Bool} (ha : isAct n ⟨false, x, y⟩ = true) (e : aft A ⟨false, x, y⟩ = some A') (pl : Plan n A' B c) :
    ∃ d, Plan n A B d ∧ segs n d ≤ segs n c + 1 ∧ hotc A B d = hotc A' B c := by
  have hb := isAct_show.mp ha
  unfold aft at e
  split at e
  · cases e
  rename_i hx
  rw [if_neg (by simp)] at e
  cases e
  simp only at *
  have hx1 : x ∉ A := fun z => hx (.inl z)
  have hy1 : y ∉ A := fun z => hx (.inr z)
  have mA : ∀ r, r ∈ A.filter (fun r => !(decide (x < r) && decide (r < y))) ↔ r ∈ A ∧ ¬ (x < r ∧ r < y) := fun r => by simp [List.mem_filter]; omega
  let d : Int → Bool := fun r => c r || (decide (x < r) && decide (r < y))
  have hd : ∀ r, d r = true ↔ c r = true ∨ (x < r ∧ r < y) := fun r => by simp [d]
  have hd' : ∀ r, d r = false ↔ c r = false ∧ ¬ (x < r ∧ r < y) := fun r => by
    rw [← Bool.not_eq_true, hd, not_or, Bool.not_eq_true]
  refine ⟨d, ⟨fun r h1 h2 => ?_, fun r h1 h2 => ?_, fun r h1 h2 => ?_, fun r h1 => ?_⟩, ?_, ?_⟩
  · obtain ⟨h3, h4⟩ := (hd' _).mp h2
    rcases (hd _).mp h1 with h1 | h1
    · have := pl.v1 r h1 h3
      rw [mA] at this
      exact fun z => this ⟨z, h4⟩
    · have : r + 1 = y := by omega
      rw [this]; exact hy1
  · obtain ⟨h3, h4⟩ := (hd' _).mp h1
    rcases (hd _).mp h2 with h2 | h2
    · have := pl.v2 r h3 h2
      rw [mA] at this
      exact fun z => this ⟨z, h4⟩
    · have : r = x := by omega
      rw [this]; exact hx1
  · obtain ⟨h3, h4⟩ := (hd' _).mp h2
    exact pl.v3 r ((mA r).mpr ⟨h1, h4⟩) h3
  · rcases (hd _).mp h1 with h1 | h1
    · exact pl.v4 r h1
    · omega
  · unfold segs
    have e1 : (rng n).countP (strt d) ≤ (rng n).countP (strt c) + (rng n).countP (fun r => decide (r = x + 1)) := by
      have h0 : ∀ l : List Int, l.countP (strt d) ≤ l.countP (strt c) + l.countP (fun r => decide (r = x + 1)) := fun l => by
        induction l with
        | nil => simp
        | cons r l ih =>
          rw [List.countP_cons, List.countP_cons, List.countP_cons]
          have key : strt d r = true → strt c r = true ∨ r = x + 1 := fun z => by
            unfold strt at z ⊢
            rw [Bool.and_eq_true, Bool.not_eq_true', hd, hd'] at z
            obtain ⟨z1, z2, z3⟩ := z
            rcases z1 with z1 | z1
            · rw [z1, z2]; exact .inl rfl
            · exact .inr (by omega)
          by_cases z : strt d r = true
          · rcases key z with k | k
            · rw [if_pos z, if_pos k]; omega
            · rw [if_pos z, if_pos (decide_eq_true k)]; omega
          · rw [if_neg z]; split <;> split <;> omega
      exact h0 _
    have e2 : (rng n).countP (fun r => decide (r = x + 1)) ≤ 1 := by
      have nd : (rng n).Nodup := (rng_asc 1 n.toNat).imp (fun h => by omega)
      have := List.nodup_iff_count.mp nd (x + 1)
      have e3 : (rng n).countP (fun r => decide (r = x + 1)) = (rng n).count (x + 1) := by
        unfold List.count
        congr 1
      omega
    omega
  · unfold hotc
    refine congrArg (fun f => List.countP f (blocksOf B)) (funext fun k => ?_)
    rw [Bool.eq_iff_iff, hotP_iff, hotP_iff]
    refine exists_congr fun r => and_congr_right fun _ => and_congr_right fun _ => ?_
    rw [hd, mA]
    by_cases h1 : r ∈ A <;> by_cases h2 : x < r ∧ r < y <;> simp [h1, h2]
/-- where the rows are all hidden the plan is constant -/
theorem Plan.const {n : Int} {A B : List Int} {c : Int → Bool} (pl : Plan n A B c) {x : Int} : ∀ (m : Nat), (∀ r, x ≤ r → r ≤ x + m → r ∈ A) → c (x + m) = c x
  | 0, _ => by rw [show x + ((0 : Nat) : Int) = x by omega]
  | m + 1, h => by
    have ih := pl.const m (fun r a b => h r a (by omega))
    rw [← ih, show x + ((m + 1 : Nat) : Int) = x + m + 1 by omega]
    cases h1 : c (x + m) with
    | true =>
      cases h2 : c (x + m + 1) with
      | true => rfl
      | false => exact absurd (h _ (by omega) (by omega)) (pl.v1 _ h1 h2)
    | false =>
      cases h2 : c (x + m + 1) with
      | false => rfl
      | true => exact absurd (h _ (by omega) (by omega)) (pl.v2 _ h1 h2)
theorem Plan.const2 {n : Int} {A B : List Int} {c : Int → Bool} (pl : Plan n A B c) {x y : Int} (xy : x ≤ y) (h : ∀ r, x ≤ r → r ≤ y → r ∈ A) : c y = c x := by
  have := pl.const (x := x) (y - x).toNat (fun r a b => h r a (by omega))
  rwa [show x + ((y - x).toNat : Int) = y by omega] at this
theorem plan_hide {n x y : Int} {A A' B : List Int} {c : Int → Bool} (b : B.Pairwise (· < ·)) (ha : isAct n ⟨true, x, y⟩ = true) (e : aft A ⟨true, x, y⟩ = some A') (pl : Plan n A' B c) :
    Plan n A B c ∧ hotc A B c ≤ hotc A' B c + 1 := by
  have hb := isAct_hide.mp ha
  unfold aft at e
  split at e
  · cases e
  rw [if_pos rfl] at e
  cases e
  simp only at *
  have mA : ∀ r, r ∈ uniI A x y ↔ (r ∈ A ∧ (r < x ∨ y < r)) ∨ (x ≤ r ∧ r ≤ y) := fun r => mem_uni
  have sub : ∀ r, r ∈ A → r ∈ uniI A x y := fun r h => (mA r).mpr (by
    by_cases z : x ≤ r ∧ r ≤ y
    · exact .inr z
    · exact .inl ⟨h, by omega⟩)
  refine ⟨⟨fun r h1 h2 z => pl.v1 r h1 h2 (sub _ z), fun r h1 h2 z => pl.v2 r h1 h2 (sub _ z), fun r h1 h2 => pl.v3 r (sub _ h1) h2, pl.v4⟩, ?_⟩
  have key : ∀ k ∈ blocksOf B, hotP A c k = true → hotP (uniI A x y) c k = true ∨ (k.1 ≤ x ∧ x ≤ k.2) := fun k hk z => by
    have kb := (mem_blocks b).mp hk
    by_cases z2 : hotP (uniI A x y) c k = true
    · exact .inl z2
    right
    obtain ⟨r, h1, h2, h3⟩ := hotP_iff.mp z
    have no : ∀ r, k.1 ≤ r → r ≤ k.2 → r ∈ uniI A x y ∧ c r = false := fun r a1 a2 => by
      constructor
      · exact Classical.byContradiction fun q => z2 (hotP_iff.mpr ⟨r, a1, a2, .inl q⟩)
      · exact Bool.eq_false_iff.mpr fun q => z2 (hotP_iff.mpr ⟨r, a1, a2, .inr q⟩)
    obtain ⟨n1, n2⟩ := no r h1 h2
    have hr : r ∉ A := by
      rcases h3 with h3 | h3
      · exact h3
      · rw [n2] at h3; cases h3
    have xr : x ≤ r ∧ r ≤ y := by
      rcases (mA r).mp n1 with q | q
      · exact absurd q.1 hr
      · exact q
    have inA : ∀ t, x ≤ t → t ≤ r → t ∈ uniI A x y := fun t a1 a2 => (mA t).mpr (.inr ⟨a1, by omega⟩)
    have inB : ∀ t, x ≤ t → t ≤ r → t ∈ B := fun t a1 a2 => by
      have e1 : c r = c t := pl.const2 a2 (fun u b1 b2 => inA u (by omega) b2)
      exact pl.v3 t (inA t a1 a2) (by rw [← e1]; exact n2)
    refine ⟨?_, by omega⟩
    by_cases q : k.1 ≤ x
    · exact q
    · exact absurd (inB (k.1 - 1) (by omega) (by omega)) kb.lo
  unfold hotc
  have h0 : ∀ l : List (Int × Int), (∀ k ∈ l, hotP A c k = true → hotP (uniI A x y) c k = true ∨ (k.1 ≤ x ∧ x ≤ k.2)) → l.countP (hotP A c) ≤ l.countP (hotP (uniI A x y) c) + l.countP (fun k => decide (k.1 ≤ x) && decide (x ≤ k.2)) := fun l => by
    induction l with
    | nil => intro _; simp
    | cons k l ih =>
      intro q
      have ih := ih fun d hd => q d (List.mem_cons_of_mem _ hd)
      rw [List.countP_cons, List.countP_cons, List.countP_cons]
      by_cases z : hotP A c k = true
      · rcases q k List.mem_cons_self z with k1 | k1
        · rw [if_pos z, if_pos k1]; omega
        · rw [if_pos z, if_pos (show (decide (k.1 ≤ x) && decide (x ≤ k.2)) = true by simp [k1])]; omega
      · rw [if_neg z]; split <;> split <;> omega
  have := h0 _ key
  have := cnt_one (x := x) (blocks_pw b)
  omega
theorem plan_run {n p q : Int} (hp : 0 ≤ p) (hq : 0 ≤ q) : ∀ {as : List Act} {A B : List Int}, IsSt n A → as.all (isAct n) = true → runA (some A) as = some B → ∃ c, Plan n A B c ∧ p * hotc A B c + q * segs n c ≤ costA p q as
  | [], A, B, st, _, e => by
    cases e
    obtain ⟨h1, h2, h3⟩ := plan_nil (n := n) st.asc
    refine ⟨_, h1, ?_⟩
    rw [h2, h3]
    simp [costA]
  | a :: as, A, B, st, ha, e => by
    simp only [List.all_cons, Bool.and_eq_true] at ha
    rw [runA_cons] at e
    cases e1 : aft A a with
    | none =>
      rw [show (some A).bind (aft · a) = aft A a from rfl, e1, runA_none] at e
      cases e
    | some A1 =>
      rw [show (some A).bind (aft · a) = aft A a from rfl, e1] at e
      have st1 := aft_st st ha.1 e1
      obtain ⟨c, pl, hc⟩ := plan_run hp hq st1 ha.2 e
      have stB := runA_st st1 ha.2 e
      obtain ⟨k, x, y⟩ := a
      have ec : costA p q (⟨k, x, y⟩ :: as) = (if k = true then p else q) + costA p q as := by simp [costA]
      rw [ec]
      cases k with
      | true =>
        obtain ⟨h1, h2⟩ := plan_hide stB.asc ha.1 e1 pl
        refine ⟨c, h1, ?_⟩
        have : p * (hotc A B c : Int) ≤ p * (hotc A1 B c : Int) + p := by
          have := Int.mul_le_mul_of_nonneg_left (show (hotc A B c : Int) ≤ (hotc A1 B c : Int) + 1 by omega) hp
          rw [Int.mul_add, Int.mul_one] at this
          exact this
        rw [if_pos rfl]
        omega
      | false =>
        obtain ⟨d, h1, h2, h3⟩ := plan_show ha.1 e1 pl
        refine ⟨d, h1, ?_⟩
        have : q * (segs n d : Int) ≤ q * (segs n c : Int) + q := by
          have := Int.mul_le_mul_of_nonneg_left (show (segs n d : Int) ≤ (segs n c : Int) + 1 by omega) hq
          rw [Int.mul_add, Int.mul_one] at this
          exact this
        rw [if_neg (by decide), h3]
        omega
/-! the formula is no more than any plan's cost -/
theorem Plan.needed {n : Int} {A B : List Int} {c : Int → Bool} (a : A.Pairwise (· < ·)) (pl : Plan n A B c) {k : Int × Int} (hk : k ∈ ndl A B) {r : Int} (h1 : k.1 ≤ r) (h2 : r ≤ k.2) : c r = true := by
  obtain ⟨b, t, t1, t2, t3⟩ := (mem_ndl a).mp hk
  have ht : c t = true := by
    cases z : c t with
    | true => rfl
    | false => exact absurd (pl.v3 t (b.all t t1 t2) z) t3
  by_cases q : t ≤ r
  · rw [pl.const2 q fun u b1 b2 => b.all u (by omega) (by omega)]; exact ht
  · rw [← pl.const2 (show r ≤ t by omega) fun u b1 b2 => b.all u (by omega) (by omega)]; exact ht
theorem start_in {c : Int → Bool} : ∀ (m : Nat) {lo : Int}, c lo = false → c (lo + m) = true → ∃ r, lo < r ∧ r ≤ lo + m ∧ strt c r = true
  | 0, lo, h1, h2 => by
    rw [show lo + ((0 : Nat) : Int) = lo by omega, h1] at h2
    cases h2
  | m + 1, lo, h1, h2 => by
    cases z : c (lo + m) with
    | true =>
      obtain ⟨r, a, b, d⟩ := start_in m h1 z
      exact ⟨r, a, by omega, d⟩
    | false =>
      refine ⟨lo + ((m + 1 : Nat) : Int), by omega, Int.le_refl _, ?_⟩
      unfold strt
      rw [h2, show lo + ((m + 1 : Nat) : Int) - 1 = lo + m by omega, z]
      rfl
theorem start_in2 {c : Int → Bool} {lo hi : Int} (h1 : c lo = false) (h2 : c hi = true) (h : lo ≤ hi) : ∃ r, lo < r ∧ r ≤ hi ∧ strt c r = true := by
  obtain ⟨r, a, b, d⟩ := start_in (c := c) (hi - lo).toNat h1 (by rw [show lo + ((hi - lo).toNat : Int) = hi by omega]; exact h2)
  exact ⟨r, a, by omega, d⟩
theorem gap_le {n p q : Int} {A B : List Int} {c : Int → Bool} (hp : 0 ≤ p) (hq : 0 ≤ q) (a : A.Pairwise (· < ·)) (pl : Plan n A B c) {cold : List (Int × Int)} (hcold : ∀ k ∈ cold, k.1 ≤ k.2) : ∀ (L : List (Int × Int)) (x : Int × Int), (∀ y ∈ x :: L, y ∈ ndl A B) → (x :: L).Pairwise (fun c d => c.2 + 1 < d.1) →
    gapSum p q cold (x :: L) ≤ q * ((rng n).countP fun r => strt c r && decide (x.1 < r)) + p * (cold.countP fun k => hotP A c k && decide (x.2 < k.1))
  | [], x, _, _ => by
    show (0 : Int) ≤ _
    exact Int.add_nonneg (Int.mul_nonneg hq (by omega)) (Int.mul_nonneg hp (by omega))
  | y :: L, x, hm, pw => by
    have ih := gap_le hp hq a pl hcold L y (fun z hz => hm z (List.mem_cons_of_mem _ hz)) (List.pairwise_cons.mp pw).2
    have xy : x.2 + 1 < y.1 := (List.pairwise_cons.mp pw).1 y List.mem_cons_self
    have hx := hm x List.mem_cons_self
    have hy := hm y (by simp)
    have xl := ((mem_ndl a).mp hx).1.le
    have yl := ((mem_ndl a).mp hy).1.le
    show min q (p * (gapN cold x y : Int)) + gapSum p q cold (y :: L) ≤ _
    have mono1 : (rng n).countP (fun r => strt c r && decide (y.1 < r)) ≤ (rng n).countP (fun r => strt c r && decide (x.1 < r)) := cnt_mono fun r _ z => by
      simp only [Bool.and_eq_true, decide_eq_true_eq] at z ⊢
      exact ⟨z.1, by omega⟩
    have mono2 : cold.countP (fun k => hotP A c k && decide (y.2 < k.1)) ≤ cold.countP (fun k => hotP A c k && decide (x.2 < k.1)) := cnt_mono fun r _ z => by
      simp only [Bool.and_eq_true, decide_eq_true_eq] at z ⊢
      exact ⟨z.1, by omega⟩
    by_cases br : ∀ z, x.2 < z → z < y.1 → c z = true
    · -- shown throughout
      have e : gapN cold x y + cold.countP (fun k => hotP A c k && decide (y.2 < k.1)) ≤ cold.countP (fun k => hotP A c k && decide (x.2 < k.1)) := by
        unfold gapN
        rw [← List.countP_eq_length_filter]
        refine cnt_add fun k hk => ⟨fun z => ?_, fun z => ?_⟩
        · simp only [Bool.and_eq_true, decide_eq_true_eq] at z
          have kl := hcold k hk
          have hh : hotP A c k = true := hotP_iff.mpr ⟨k.1, Int.le_refl _, kl, .inr (br k.1 z.1 (by omega))⟩
          refine ⟨by simp only [hh, Bool.true_and, decide_eq_true_eq]; exact z.1, ?_⟩
          rw [hh, Bool.true_and, decide_eq_false_iff_not]
          omega
        · simp only [Bool.and_eq_true, decide_eq_true_eq] at z ⊢
          exact ⟨z.1, by omega⟩
      have e1 := Int.mul_le_mul_of_nonneg_left (Int.ofNat_le.mpr e) hp
      have e2 := Int.mul_le_mul_of_nonneg_left (Int.ofNat_le.mpr mono1) hq
      rw [Int.natCast_add, Int.mul_add] at e1
      have e3 : min q (p * (gapN cold x y : Int)) ≤ p * (gapN cold x y : Int) := Int.min_le_right _ _
      omega
    · obtain ⟨z, z1, z2, z3⟩ : ∃ z, x.2 < z ∧ z < y.1 ∧ c z = false := by
        refine Classical.byContradiction fun w => br fun z z1 z2 => ?_
        cases h : c z with
        | true => rfl
        | false => exact absurd ⟨z, z1, z2, h⟩ w
      obtain ⟨r, r1, r2, r3⟩ := start_in2 z3 (pl.needed a hy (Int.le_refl _) yl) (by omega)
      have rn := pl.v4 r (by unfold strt at r3; rw [Bool.and_eq_true] at r3; exact r3.1)
      have e : (rng n).countP (fun t => strt c t && decide (x.1 < t ∧ t ≤ y.1)) + (rng n).countP (fun t => strt c t && decide (y.1 < t)) ≤ (rng n).countP (fun t => strt c t && decide (x.1 < t)) := cnt_add fun t _ => ⟨fun z => by
          simp only [Bool.and_eq_true, decide_eq_true_eq] at z ⊢
          refine ⟨⟨z.1, z.2.1⟩, ?_⟩
          rw [z.1, Bool.true_and, decide_eq_false_iff_not]
          omega, fun z => by
          simp only [Bool.and_eq_true, decide_eq_true_eq] at z ⊢
          exact ⟨z.1, by omega⟩⟩
      have e0 : 1 ≤ (rng n).countP (fun t => strt c t && decide (x.1 < t ∧ t ≤ y.1)) := cnt_pos (a := r) (mem_rng1.mpr rn) (by simp only [r3, Bool.true_and, decide_eq_true_eq]; omega)
      have e5 : 1 + (rng n).countP (fun t => strt c t && decide (y.1 < t)) ≤ (rng n).countP (fun t => strt c t && decide (x.1 < t)) := by omega
      have e1 := Int.mul_le_mul_of_nonneg_left (Int.ofNat_le.mpr e5) hq
      have e2 := Int.mul_le_mul_of_nonneg_left (Int.ofNat_le.mpr mono2) hp
      rw [Int.natCast_add, Int.mul_add] at e1
      have e3 : min q (p * (gapN cold x y : Int)) ≤ q := Int.min_le_left _ _
      have e4 : q * ((1 : Nat) : Int) = q := Int.mul_one q
      omega
theorem cold_le {h w : List Int} (b : w.Pairwise (· < ·)) : ∀ k ∈ coldL h w, k.1 ≤ k.2 := fun k hk => ((mem_blocks b).mp (List.mem_filter.mp hk).1).le
theorem price_plan {n p q : Int} {A B : List Int} {c : Int → Bool} (hp : 0 ≤ p) (hq : 0 ≤ q) (a : A.Pairwise (· < ·)) (b : B.Pairwise (· < ·)) (pl : Plan n A B c) : price A B p q ≤ p * hotc A B c + q * segs n c := by
  have ht : ∀ k, tch A B k = true → hotP A c k = true := fun k z => by
    obtain ⟨r, h1, h2, h3⟩ := tch_iff.mp z
    refine hotP_iff.mpr ⟨r, h1, h2, h3.imp id fun h3 => ?_⟩
    obtain ⟨d, hd, d1, d2⟩ := mem_freed.mp h3
    exact pl.needed a hd d1 d2
  have e1 : (hotL A B).length + (coldL A B).countP (hotP A c) ≤ hotc A B c := by
    unfold hotL coldL hotc
    rw [← List.countP_eq_length_filter, List.countP_filter]
    refine cnt_add fun k _ => ⟨fun z => ⟨ht k z, by rw [z]; simp⟩, fun z => by
      rw [Bool.and_eq_true] at z; exact z.1⟩
  unfold price
  by_cases hn : ndl A B = []
  · rw [if_pos hn]
    have := Int.mul_le_mul_of_nonneg_left (Int.ofNat_le.mpr (show (hotL A B).length ≤ hotc A B c by omega)) hp
    have := Int.mul_nonneg hq (show (0 : Int) ≤ (segs n c : Int) by omega)
    omega
  · rw [if_neg hn]
    match hN : ndl A B, hn with
    | x :: L, _ =>
      have g := gap_le (p := p) (q := q) hp hq a pl (cold_le (h := A) b) L x (fun y hy => by rw [hN]; exact hy) (by rw [← hN]; exact ndl_pw a B)
      have hx : x ∈ ndl A B := by rw [hN]; exact List.mem_cons_self
      have xl := ((mem_ndl a).mp hx).1.le
      have cx := pl.needed a hx (Int.le_refl _) xl
      have x1 := pl.v4 _ cx
      have c0 : c 0 = false := Bool.eq_false_iff.mpr fun z => by have := pl.v4 0 z; omega
      obtain ⟨r, r1, r2, r3⟩ := start_in2 c0 cx (by omega)
      have e2 : (rng n).countP (fun t => strt c t && decide (t ≤ x.1)) + (rng n).countP (fun t => strt c t && decide (x.1 < t)) ≤ segs n c := cnt_add fun t _ => ⟨fun z => by
          simp only [Bool.and_eq_true, decide_eq_true_eq] at z
          refine ⟨z.1, ?_⟩
          rw [z.1, Bool.true_and, decide_eq_false_iff_not]
          omega, fun z => by
          simp only [Bool.and_eq_true, decide_eq_true_eq] at z
          exact z.1⟩
      have e0 : 1 ≤ (rng n).countP (fun t => strt c t && decide (t ≤ x.1)) := cnt_pos (a := r) (mem_rng1.mpr ⟨by omega, by omega⟩) (by simp only [r3, Bool.true_and, decide_eq_true_eq]; omega)
      have e3 : (coldL A B).countP (fun k => hotP A c k && decide (x.2 < k.1)) ≤ (coldL A B).countP (hotP A c) := cnt_mono fun k _ z => by
        rw [Bool.and_eq_true] at z; exact z.1
      have f1 := Int.mul_le_mul_of_nonneg_left (Int.ofNat_le.mpr (show (hotL A B).length + (coldL A B).countP (fun k => hotP A c k && decide (x.2 < k.1)) ≤ hotc A B c by omega)) hp
      have f2 := Int.mul_le_mul_of_nonneg_left (Int.ofNat_le.mpr (show 1 + (rng n).countP (fun t => strt c t && decide (x.1 < t)) ≤ segs n c by omega)) hq
      rw [Int.natCast_add, Int.mul_add] at f1 f2
      have e4 : q * ((1 : Nat) : Int) = q := Int.mul_one q
      omega
/-- no script costs less than the formula says -/
theorem price_le {n p q : Int} (hp : 0 ≤ p) (hq : 0 ≤ q) {as : List Act} {A B : List Int} (st : IsSt n A) (ha : as.all (isAct n) = true) (e : runA (some A) as = some B) : price A B p q ≤ costA p q as := by
  obtain ⟨c, pl, hc⟩ := plan_run hp hq st ha e
  exact Int.le_trans (price_plan hp hq st.asc (runA_st st ha e).asc pl) hc
end HR
namespace HR
/-! a script with the smallest price -/
/-- the stretches that are shown -/
def shownR (p q : Int) (cold : List (Int × Int)) : (Int × Int) → List (Int × Int) → List (Int × Int)
  | cur, [] => [cur]
  | cur, y :: r => if 0 < gapN cold cur y ∧ q ≤ p * gapN cold cur y then cur :: shownR p q cold y r else shownR p q cold (cur.1, y.2) r
def shownL (p q : Int) (h w : List Int) : List (Int × Int) := match ndl h w with
  | [] => []
  | x :: r => shownR p q (coldL h w) x r
def covB (S : List (Int × Int)) (r : Int) : Bool := S.any fun s => decide (s.1 ≤ r) && decide (r ≤ s.2)
theorem covB_iff {S : List (Int × Int)} {r : Int} : covB S r = true ↔ ∃ s ∈ S, s.1 ≤ r ∧ r ≤ s.2 := by
  unfold covB; simp [List.any_eq_true]
def showA (s : Int × Int) : Act := ⟨false, s.1 - 1, s.2 + 1⟩
def hereL (p q : Int) (h w : List Int) : List Int := h.filter fun r => !covB (shownL p q h w) r
def opnL (here : List Int) (k : Int × Int) : List Int := (blkRows k).filter fun r => decide (r ∉ here)
def hideA (here : List Int) (k : Int × Int) : List Act := match (opnL here k).head?, (opnL here k).getLast? with
  | some x, some y => [⟨true, x, y⟩]
  | _, _ => []
def bestS (p q : Int) (h w : List Int) : List Act := (shownL p q h w).map showA ++ (blocksOf w).flatMap (hideA (hereL p q h w))
/-- what is known of the stretches -/
theorem shownR_mem {p q : Int} {cold : List (Int × Int)} : ∀ (L : List (Int × Int)) (cur : Int × Int), cur.1 ≤ cur.2 → (∀ y ∈ L, y.1 ≤ y.2 ∧ cur.2 < y.1) → L.Pairwise (fun c d => c.2 + 1 < d.1) →
    (∀ s ∈ shownR p q cold cur L, (s.1 = cur.1 ∨ ∃ y ∈ L, s.1 = y.1) ∧ (s.2 = cur.2 ∨ ∃ y ∈ L, s.2 = y.2) ∧ cur.1 ≤ s.1 ∧ s.1 ≤ s.2) ∧ (∀ r, (cur.1 ≤ r ∧ r ≤ cur.2) ∨ (∃ y ∈ L, y.1 ≤ r ∧ r ≤ y.2) → covB (shownR p q cold cur L) r = true)
  | [], cur, hc, _, _ => by
    refine ⟨fun s hs => ?_, fun r hr => ?_⟩
    · rw [List.mem_singleton.mp hs]
      exact ⟨.inl rfl, .inl rfl, Int.le_refl _, hc⟩
    · rcases hr with hr | ⟨y, hy, _⟩
      · exact covB_iff.mpr ⟨cur, List.mem_cons_self, hr⟩
      · cases hy
  | y :: L, cur, hc, hL, pw => by
    obtain ⟨p1, p2⟩ := List.pairwise_cons.mp pw
    obtain ⟨y1, y2⟩ := hL y List.mem_cons_self
    unfold shownR
    split
    · obtain ⟨a1, a2⟩ := shownR_mem (p := p) (q := q) (cold := cold) L y y1 (fun z hz => ⟨(hL z (List.mem_cons_of_mem _ hz)).1, by have := p1 z hz; omega⟩) p2
      refine ⟨fun s hs => ?_, fun r hr => ?_⟩
      · rcases List.mem_cons.mp hs with rfl | hs
        · exact ⟨.inl rfl, .inl rfl, Int.le_refl _, hc⟩
        · obtain ⟨b1, b2, b3, b4⟩ := a1 s hs
          refine ⟨.inr ?_, .inr ?_, by omega, b4⟩
          · rcases b1 with b1 | ⟨z, hz, b1⟩
            · exact ⟨y, List.mem_cons_self, b1⟩
            · exact ⟨z, List.mem_cons_of_mem _ hz, b1⟩
          · rcases b2 with b2 | ⟨z, hz, b2⟩
            · exact ⟨y, List.mem_cons_self, b2⟩
            · exact ⟨z, List.mem_cons_of_mem _ hz, b2⟩
      · rcases hr with hr | ⟨z, hz, hr⟩
        · exact covB_iff.mpr ⟨cur, List.mem_cons_self, hr⟩
        · have : covB (shownR p q cold y L) r = true := by
            rcases List.mem_cons.mp hz with rfl | hz
            · exact a2 r (.inl hr)
            · exact a2 r (.inr ⟨z, hz, hr⟩)
          obtain ⟨s, hs, q⟩ := covB_iff.mp this
          exact covB_iff.mpr ⟨s, List.mem_cons_of_mem _ hs, q⟩
    · obtain ⟨a1, a2⟩ := shownR_mem (p := p) (q := q) (cold := cold) L (cur.1, y.2) (show cur.1 ≤ y.2 by omega) (fun z hz => ⟨(hL z (List.mem_cons_of_mem _ hz)).1, by have := p1 z hz; show y.2 < z.1; omega⟩) p2
      refine ⟨fun s hs => ?_, fun r hr => ?_⟩
      · obtain ⟨b1, b2, b3, b4⟩ := a1 s hs
        refine ⟨?_, .inr ?_, b3, b4⟩
        · rcases b1 with b1 | ⟨z, hz, b1⟩
          · exact .inl b1
          · exact .inr ⟨z, List.mem_cons_of_mem _ hz, b1⟩
        · rcases b2 with b2 | ⟨z, hz, b2⟩
          · exact ⟨y, List.mem_cons_self, b2⟩
          · exact ⟨z, List.mem_cons_of_mem _ hz, b2⟩
      · rcases hr with hr | ⟨z, hz, hr⟩
        · exact a2 r (.inl ⟨hr.1, show r ≤ y.2 by omega⟩)
        · rcases List.mem_cons.mp hz with rfl | hz
          · exact a2 r (.inl ⟨show cur.1 ≤ r by omega, hr.2⟩)
          · exact a2 r (.inr ⟨z, hz, hr⟩)
theorem gapN_congr {cold : List (Int × Int)} {a b y : Int × Int} (h : a.2 = b.2) : gapN cold a y = gapN cold b y := by unfold gapN; rw [h]
/-- a cold run that is shown -/
def cvK (S : List (Int × Int)) (k : Int × Int) : Bool := (blkRows k).any (covB S)
theorem cvK_iff {S : List (Int × Int)} {k : Int × Int} : cvK S k = true ↔ ∃ r, k.1 ≤ r ∧ r ≤ k.2 ∧ ∃ s ∈ S, s.1 ≤ r ∧ r ≤ s.2 := by
  unfold cvK
  rw [List.any_eq_true]
  constructor
  · rintro ⟨r, h1, h2⟩
    have := mem_blkRows.mp h1
    exact ⟨r, this.1, this.2, covB_iff.mp h2⟩
  · rintro ⟨r, h1, h2, h3⟩
    exact ⟨r, mem_blkRows.mpr ⟨h1, h2⟩, covB_iff.mpr h3⟩
theorem cnt_split {α : Type} (P Q : α → Bool) : ∀ l : List α, l.countP P = l.countP (fun a => P a && Q a) + l.countP (fun a => P a && !Q a)
  | [] => rfl
  | x :: l => by
    rw [List.countP_cons, List.countP_cons, List.countP_cons, cnt_split P Q l]
    cases P x <;> cases Q x <;> simp <;> omega
theorem shown_cost {p q : Int} (hp : 0 ≤ p) (hq : 0 ≤ q) {cold : List (Int × Int)} (hcold : ∀ k ∈ cold, k.1 ≤ k.2) : ∀ (L : List (Int × Int)) (cur x : Int × Int), cur.2 = x.2 → cur.1 ≤ cur.2 → (∀ y ∈ L, y.1 ≤ y.2 ∧ x.2 < y.1) → L.Pairwise (fun c d => c.2 + 1 < d.1) → (∀ k ∈ cold, ∀ y ∈ L, k.2 < y.1 ∨ y.2 < k.1) →
    q * (shownR p q cold cur L).length + p * cold.countP (fun k => cvK (shownR p q cold cur L) k && decide (x.2 < k.1)) = q + gapSum p q cold (x :: L)
  | [], cur, x, e, hc, _, _, _ => by
    have e0 : cold.countP (fun k => cvK (shownR p q cold cur []) k && decide (x.2 < k.1)) = 0 := List.countP_eq_zero.mpr fun k hk => by
      rw [Bool.and_eq_true, cvK_iff, decide_eq_true_eq]
      rintro ⟨⟨r, r1, r2, s, hs, s1, s2⟩, z⟩
      rw [List.mem_singleton.mp hs] at s1 s2
      omega
    rw [e0]
    show q * ((1 : Nat) : Int) + p * ((0 : Nat) : Int) = q + 0
    simp
  | y :: L, cur, x, e, hc, hL, pw, hk => by
    obtain ⟨p1, p2⟩ := List.pairwise_cons.mp pw
    obtain ⟨y1, y2⟩ := hL y List.mem_cons_self
    have hL' : ∀ z ∈ L, z.1 ≤ z.2 ∧ y.2 < z.1 := fun z hz => ⟨(hL z (List.mem_cons_of_mem _ hz)).1, by have := p1 z hz; omega⟩
    have hk' : ∀ k ∈ cold, ∀ z ∈ L, k.2 < z.1 ∨ z.2 < k.1 := fun k h z hz => hk k h z (List.mem_cons_of_mem _ hz)
    have eg : gapN cold cur y = gapN cold x y := gapN_congr e
    unfold shownR
    rw [eg]
    show _ = q + (min q (p * (gapN cold x y : Int)) + gapSum p q cold (y :: L))
    split
    · rename_i hs
      have ih := shown_cost hp hq hcold L y y rfl y1 hL' p2 hk'
      have e1 : cold.countP (fun k => cvK (cur :: shownR p q cold y L) k && decide (x.2 < k.1)) = cold.countP (fun k => cvK (shownR p q cold y L) k && decide (y.2 < k.1)) := by
        refine List.countP_congr fun k h => ?_
        rw [Bool.and_eq_true, Bool.and_eq_true, cvK_iff, cvK_iff, decide_eq_true_eq, decide_eq_true_eq]
        have kl := hcold k h
        have ky := hk k h y List.mem_cons_self
        have ge := (shownR_mem (p := p) (q := q) (cold := cold) L y y1 hL' p2).1
        constructor
        · rintro ⟨⟨r, r1, r2, s, hs, s1, s2⟩, z⟩
          rcases List.mem_cons.mp hs with rfl | hs
          · omega
          · have := (ge s hs).2.2.1
            exact ⟨⟨r, r1, r2, s, hs, s1, s2⟩, by omega⟩
        · rintro ⟨⟨r, r1, r2, s, hs, s1, s2⟩, z⟩
          exact ⟨⟨r, r1, r2, s, List.mem_cons_of_mem _ hs, s1, s2⟩, by omega⟩
      rw [e1, List.length_cons, Int.natCast_add, Int.mul_add]
      have e2 : q * ((1 : Nat) : Int) = q := Int.mul_one q
      have e3 : min q (p * (gapN cold x y : Int)) = q := Int.min_eq_left hs.2
      omega
    · rename_i hs
      have ih := shown_cost hp hq hcold L (cur.1, y.2) y rfl (show cur.1 ≤ y.2 by omega) hL' p2 hk'
      have cov := (shownR_mem (p := p) (q := q) (cold := cold) L (cur.1, y.2) (show cur.1 ≤ y.2 by omega) hL' p2).2
      have e1 : cold.countP (fun k => cvK (shownR p q cold (cur.1, y.2) L) k && decide (x.2 < k.1)) = gapN cold x y + cold.countP (fun k => cvK (shownR p q cold (cur.1, y.2) L) k && decide (y.2 < k.1)) := by
        rw [cnt_split _ (fun k => decide (k.2 < y.1)), gapN, ← List.countP_eq_length_filter]
        congr 1
        · refine List.countP_congr fun k h => ?_
          simp only [Bool.and_eq_true, decide_eq_true_eq]
          have kl := hcold k h
          refine ⟨fun z => ⟨z.1.2, z.2⟩, fun z => ⟨⟨cvK_iff.mpr ?_, z.1⟩, z.2⟩⟩
          exact ⟨k.1, Int.le_refl _, kl, covB_iff.mp (cov k.1 (.inl ⟨show cur.1 ≤ k.1 by omega, show k.1 ≤ y.2 by omega⟩))⟩
        · refine List.countP_congr fun k h => ?_
          simp only [Bool.and_eq_true, Bool.not_eq_true', decide_eq_true_eq, decide_eq_false_iff_not]
          have kl := hcold k h
          have ky := hk k h y List.mem_cons_self
          refine ⟨fun z => ⟨z.1.1, by omega⟩, fun z => ⟨⟨z.1, by omega⟩, by omega⟩⟩
      rw [e1, Int.natCast_add, Int.mul_add]
      have g0 : (0 : Int) ≤ p * (gapN cold x y : Int) := Int.mul_nonneg hp (by omega)
      have e3 : min q (p * (gapN cold x y : Int)) = p * (gapN cold x y : Int) := by
        by_cases z : 0 < gapN cold x y
        · refine Int.min_eq_right ?_
          have : ¬ q ≤ p * (gapN cold x y : Int) := fun w => hs ⟨z, w⟩
          omega
        · have z : gapN cold x y = 0 := by omega
          rw [z, show p * ((0 : Nat) : Int) = 0 from Int.mul_zero p]
          exact Int.min_eq_right hq
      omega
/-! the run -/
theorem shows_run {h : List Int} : ∀ (S : List (Int × Int)), (∀ s ∈ S, s.1 - 1 ∉ h ∧ s.2 + 1 ∉ h) → ∀ h' : List Int, (∀ r ∈ h', r ∈ h) → runA (some h') (S.map showA) = some (h'.filter fun r => !covB S r)
  | [], _, h', _ => by
    show some h' = some _
    rw [List.filter_eq_self.mpr]
    intro r _; rfl
  | s :: S, hs, h', sub => by
    obtain ⟨s1, s2⟩ := hs s List.mem_cons_self
    have e : aft h' (showA s) = some (h'.filter fun r => !(decide (s.1 - 1 < r) && decide (r < s.2 + 1))) := by
      unfold aft showA
      rw [if_neg (fun z => z.elim (fun z => s1 (sub _ z)) fun z => s2 (sub _ z)), if_neg (fun z => nomatch z)]
    rw [List.map_cons, runA_cons, show (some h').bind (aft · (showA s)) = aft h' (showA s) from rfl, e, shows_run S (fun t ht => hs t (List.mem_cons_of_mem _ ht)) _ (fun r hr => sub r (List.mem_filter.mp hr).1), List.filter_filter]
    congr 1
    refine List.filter_congr fun r _ => ?_
    unfold covB
    rw [List.any_cons, Bool.not_or, Bool.and_comm]
    congr 2
    rw [Bool.eq_iff_iff]
    simp only [Bool.and_eq_true, decide_eq_true_eq]
    omega
theorem blkRows_asc (k : Int × Int) : (blkRows k).Pairwise (· < ·) := rng_asc _ _
theorem opn_nil {here : List Int} {k : Int × Int} (e : opnL here k = []) {r : Int} (h1 : k.1 ≤ r) (h2 : r ≤ k.2) : r ∈ here := by
  unfold opnL at e
  have := List.filter_eq_nil_iff.mp e r (mem_blkRows.mpr ⟨h1, h2⟩)
  exact Classical.byContradiction fun z => this (decide_eq_true z)
theorem opn_ends {here : List Int} {k : Int × Int} {x : Int} {t : List Int} (e : opnL here k = x :: t) : ∃ y, (opnL here k).getLast? = some y ∧ x ≤ y ∧ k.1 ≤ x ∧ y ≤ k.2 ∧ x ∉ here ∧ y ∉ here ∧ ∀ r, k.1 ≤ r → r ≤ k.2 → r ∉ here → x ≤ r ∧ r ≤ y := by
  have asc : (opnL here k).Pairwise (· < ·) := (blkRows_asc k).filter _
  have mem : ∀ r, r ∈ opnL here k ↔ (k.1 ≤ r ∧ r ≤ k.2) ∧ r ∉ here := fun r => by
    unfold opnL; rw [List.mem_filter, mem_blkRows, decide_eq_true_eq]
  obtain ⟨y, hy⟩ : ∃ y, (opnL here k).getLast? = some y := by
    cases z : (opnL here k).getLast? with
    | none => rw [List.getLast?_eq_none_iff] at z; rw [e] at z; cases z
    | some y => exact ⟨y, rfl⟩
  have mx : x ∈ opnL here k := by rw [e]; exact List.mem_cons_self
  have my := List.mem_of_getLast? hy
  have le : ∀ r ∈ opnL here k, x ≤ r ∧ r ≤ y := fun r hr => by
    refine ⟨?_, asc_last asc hy hr⟩
    rw [e] at hr asc
    rcases List.mem_cons.mp hr with rfl | hr
    · exact Int.le_refl _
    · exact Int.le_of_lt ((List.pairwise_cons.mp asc).1 r hr)
  have a := (mem x).mp mx
  have b := (mem y).mp my
  exact ⟨y, hy, (le x mx).2, a.1.1, b.1.2, a.2, b.2, fun r h1 h2 h3 => le r ((mem r).mpr ⟨⟨h1, h2⟩, h3⟩)⟩
theorem hides_run {n : Int} {here : List Int} : ∀ (L : List (Int × Int)), L.Pairwise (fun c d => c.2 + 1 < d.1) → (∀ k ∈ L, 1 ≤ k.1 ∧ k.1 ≤ k.2 ∧ k.2 ≤ n) → ∀ st : List Int, st.Pairwise (· < ·) → (∀ k ∈ L, ∀ r, k.1 ≤ r → r ≤ k.2 → (r ∈ st ↔ r ∈ here)) → (∀ r ∈ here, r ∈ st) →
    (L.flatMap (hideA here)).all (isAct n) = true ∧ ∃ st', runA (some st) (L.flatMap (hideA here)) = some st' ∧ st'.Pairwise (· < ·) ∧ ∀ r, r ∈ st' ↔ r ∈ st ∨ ∃ k ∈ L, k.1 ≤ r ∧ r ≤ k.2
  | [], _, _, st, a, _, _ => ⟨rfl, st, rfl, a, fun r => by simp⟩
  | k :: L, pw, hL, st, a, hst, sub => by
    obtain ⟨p1, p2⟩ := List.pairwise_cons.mp pw
    obtain ⟨k1, k2, k3⟩ := hL k List.mem_cons_self
    have hL' := fun z hz => hL z (List.mem_cons_of_mem _ hz)
    rw [List.flatMap_cons]
    cases e : opnL here k with
    | nil =>
      have eh : hideA here k = [] := by unfold hideA; rw [e]; rfl
      rw [eh, List.nil_append]
      obtain ⟨i1, st', i2, i3, i4⟩ := hides_run L p2 hL' st a (fun z hz => hst z (List.mem_cons_of_mem _ hz)) sub
      refine ⟨i1, st', i2, i3, fun r => ?_⟩
      rw [i4]
      constructor
      · rintro (z | ⟨d, hd, z⟩)
        · exact .inl z
        · exact .inr ⟨d, List.mem_cons_of_mem _ hd, z⟩
      · rintro (z | ⟨d, hd, z⟩)
        · exact .inl z
        · rcases List.mem_cons.mp hd with rfl | hd
          · exact .inl (sub _ (opn_nil e z.1 z.2))
          · exact .inr ⟨d, hd, z⟩
    | cons x t =>
      obtain ⟨y, hy, xy, x1, y1, hx, hy', all⟩ := opn_ends e
      have eh : hideA here k = [⟨true, x, y⟩] := by
        unfold hideA
        rw [hy, e]
        rfl
      have xs : x ∉ st := fun z => hx ((hst k List.mem_cons_self x x1 (by omega)).mp z)
      have ys : y ∉ st := fun z => hy' ((hst k List.mem_cons_self y (by omega) y1).mp z)
      have ea : aft st ⟨true, x, y⟩ = some (uniI st x y) := by
        unfold aft
        rw [if_neg (fun z => z.elim xs ys), if_pos rfl]
      have mk : ∀ r, r ∈ uniI st x y ↔ r ∈ st ∨ (k.1 ≤ r ∧ r ≤ k.2) := fun r => by
        rw [mem_uni]
        constructor
        · rintro (z | z)
          · exact .inl z.1
          · exact .inr (by omega)
        · rintro (z | z)
          · by_cases q : x ≤ r ∧ r ≤ y
            · exact .inr q
            · exact .inl ⟨z, by omega⟩
          · by_cases q : r ∈ here
            · by_cases q2 : x ≤ r ∧ r ≤ y
              · exact .inr q2
              · exact .inl ⟨sub r q, by omega⟩
            · exact .inr (all r z.1 z.2 q)
      obtain ⟨i1, st', i2, i3, i4⟩ := hides_run L p2 hL' (uniI st x y) (uni_asc a xy) (fun z hz r r1 r2 => by
        have := p1 z hz
        rw [mk, ← hst z (List.mem_cons_of_mem _ hz) r r1 r2]
        exact ⟨fun q => q.elim id fun q => by omega, .inl⟩) (fun r hr => (mk r).mpr (.inl (sub r hr)))
      rw [eh]
      refine ⟨?_, st', ?_, i3, fun r => ?_⟩
      · rw [List.all_append, i1, Bool.and_true]
        simp only [List.all_cons, List.all_nil, Bool.and_true]
        exact isAct_hide.mpr ⟨by omega, xy, by omega⟩
      · rw [runA_app, runA_cons, show (some st).bind (aft · ⟨true, x, y⟩) = aft st ⟨true, x, y⟩ from rfl, ea]
        exact i2
      · rw [i4, mk]
        constructor
        · rintro ((z | z) | ⟨d, hd, z⟩)
          · exact .inl z
          · exact .inr ⟨k, List.mem_cons_self, z⟩
          · exact .inr ⟨d, List.mem_cons_of_mem _ hd, z⟩
        · rintro (z | ⟨d, hd, z⟩)
          · exact .inl (.inl z)
          · rcases List.mem_cons.mp hd with rfl | hd
            · exact .inl (.inr z)
            · exact .inr ⟨d, hd, z⟩
theorem hides_cost (p q : Int) (here : List Int) : ∀ L : List (Int × Int), costA p q (L.flatMap (hideA here)) = p * L.countP (fun k => (blkRows k).any fun r => decide (r ∉ here))
  | [] => by simp [costA]
  | k :: L => by
    rw [List.flatMap_cons, costA_app, hides_cost p q here L, List.countP_cons]
    have e1 : ((blkRows k).any fun r => decide (r ∉ here)) = true ↔ opnL here k ≠ [] := by
      rw [List.any_eq_true]
      unfold opnL
      rw [Ne, List.filter_eq_nil_iff]
      exact ⟨fun ⟨r, h1, h2⟩ z => z r h1 h2, fun z => Classical.byContradiction fun w => z fun r h1 h2 => w ⟨r, h1, h2⟩⟩
    cases e : opnL here k with
    | nil =>
      have eh : hideA here k = [] := by unfold hideA; rw [e]; rfl
      rw [eh, if_neg (fun z => e1.mp z e)]
      simp [costA]
    | cons x t =>
      obtain ⟨y, hy, _⟩ := opn_ends e
      have eh : hideA here k = [⟨true, x, y⟩] := by unfold hideA; rw [hy, e]; rfl
      rw [eh, if_pos (e1.mpr (by rw [e]; exact fun z => nomatch z)), Int.natCast_add, Int.mul_add]
      simp [costA, Int.add_comm]
theorem shows_cost (p q : Int) : ∀ S : List (Int × Int), costA p q (S.map showA) = q * S.length
  | [] => by simp [costA]
  | s :: S => by
    have ih := shows_cost p q S
    have : costA p q ((s :: S).map showA) = q + costA p q (S.map showA) := by simp [costA, showA]
    rw [this, ih, List.length_cons, Int.natCast_add, Int.mul_add]
    have e4 : q * ((1 : Nat) : Int) = q := Int.mul_one q
    omega
theorem blk_range {n : Int} {h : List Int} (st : IsSt n h) {c : Int × Int} (b : IsBlk h c) : 1 ≤ c.1 ∧ c.1 ≤ c.2 ∧ c.2 ≤ n :=
  ⟨(st.rows _ (b.all _ (Int.le_refl _) b.le)).1, b.le, (st.rows _ (b.all _ b.le (Int.le_refl _))).2⟩
/-- the stretches of a state -/
theorem shown_ok {n p q : Int} {h w : List Int} (st : IsSt n h) : (∀ s ∈ shownL p q h w, s.1 - 1 ∉ h ∧ s.2 + 1 ∉ h ∧ 1 ≤ s.1 ∧ s.1 ≤ s.2 ∧ s.2 ≤ n) ∧ ∀ r ∈ freedL h w, covB (shownL p q h w) r = true := by
  unfold shownL freedL
  cases e : ndl h w with
  | nil => exact ⟨fun s hs => (by cases hs), fun r hr => (by cases hr)⟩
  | cons x L =>
    have pw : (x :: L).Pairwise (fun c d => c.2 + 1 < d.1) := by rw [← e]; exact ndl_pw st.asc w
    have mb : ∀ y ∈ x :: L, IsBlk h y := fun y hy => ((mem_ndl st.asc).mp (by rw [e]; exact hy)).1
    obtain ⟨p1, p2⟩ := List.pairwise_cons.mp pw
    obtain ⟨a1, a2⟩ := shownR_mem (p := p) (q := q) (cold := coldL h w) L x (mb x List.mem_cons_self).le (fun y hy => ⟨(mb y (List.mem_cons_of_mem _ hy)).le, by have := p1 y hy; omega⟩) p2
    refine ⟨fun s hs => ?_, fun r hr => ?_⟩
    · obtain ⟨b1, b2, _, b4⟩ := a1 s hs
      obtain ⟨y, hy, e1⟩ : ∃ y ∈ x :: L, s.1 = y.1 := by
        rcases b1 with b1 | ⟨y, hy, b1⟩
        · exact ⟨x, List.mem_cons_self, b1⟩
        · exact ⟨y, List.mem_cons_of_mem _ hy, b1⟩
      obtain ⟨z, hz, e2⟩ : ∃ y ∈ x :: L, s.2 = y.2 := by
        rcases b2 with b2 | ⟨y, hy, b2⟩
        · exact ⟨x, List.mem_cons_self, b2⟩
        · exact ⟨y, List.mem_cons_of_mem _ hy, b2⟩
      have r1 := blk_range st (mb y hy)
      have r2 := blk_range st (mb z hz)
      exact ⟨by rw [e1]; exact (mb y hy).lo, by rw [e2]; exact (mb z hz).hi, by omega, b4, by omega⟩
    · obtain ⟨y, hy, hr⟩ := List.mem_flatMap.mp hr
      have hr' := mem_blkRows.mp hr
      rcases List.mem_cons.mp hy with e | hy
      · subst e; exact a2 r (.inl hr')
      · exact a2 r (.inr ⟨y, hy, hr'⟩)
theorem best_run {n p q : Int} (hp : 0 ≤ p) (hq : 0 ≤ q) {h w : List Int} (st : IsSt n h) (sw : IsSt n w) : (bestS p q h w).all (isAct n) = true ∧ runA (some h) (bestS p q h w) = some w ∧ costA p q (bestS p q h w) = price h w p q := by
  obtain ⟨s1, s2⟩ := shown_ok (p := p) (q := q) (w := w) st
  have hereW : ∀ r ∈ hereL p q h w, r ∈ w := fun r hr => by
    obtain ⟨m, z⟩ := List.mem_filter.mp hr
    obtain ⟨c, b, c1, c2⟩ := blk_of st.asc m
    refine Classical.byContradiction fun nw => ?_
    have := s2 r (mem_freed.mpr ⟨c, (mem_ndl st.asc).mpr ⟨b, r, c1, c2, nw⟩, c1, c2⟩)
    rw [this] at z
    cases z
  have hereA : (hereL p q h w).Pairwise (· < ·) := st.asc.filter _
  obtain ⟨i1, st', i2, i3, i4⟩ := hides_run (n := n) (here := hereL p q h w) (blocksOf w) (blocks_pw sw.asc) (fun k hk => blk_range sw ((mem_blocks sw.asc).mp hk)) (hereL p q h w) hereA (fun _ _ _ _ _ => Iff.rfl) (fun _ h => h)
  have ew : st' = w := asc_ext i3 sw.asc fun r => by
    rw [i4]
    constructor
    · rintro (z | ⟨k, hk, z⟩)
      · exact hereW r z
      · exact ((mem_blocks sw.asc).mp hk).all r z.1 z.2
    · intro m
      obtain ⟨c, b, c1, c2⟩ := blk_of sw.asc m
      exact .inr ⟨c, (mem_blocks sw.asc).mpr b, c1, c2⟩
  refine ⟨?_, ?_, ?_⟩
  · unfold bestS
    rw [List.all_append, i1, Bool.and_true, List.all_map]
    refine List.all_eq_true.mpr fun s hs => ?_
    obtain ⟨_, _, a1, a2, a3⟩ := s1 s hs
    exact isAct_show.mpr ⟨by omega, by omega, by omega⟩
  · unfold bestS
    rw [runA_app, shows_run (h := h) _ (fun s hs => ⟨(s1 s hs).1, (s1 s hs).2.1⟩) h (fun _ h => h)]
    show runA (some (hereL p q h w)) _ = _
    rw [i2, ew]
  · unfold bestS price
    rw [costA_app, shows_cost, hides_cost]
    have e1 : (blocksOf w).countP (fun k => (blkRows k).any fun r => decide (r ∉ hereL p q h w)) = (hotL h w).length + (coldL h w).countP (cvK (shownL p q h w)) := by
      unfold hotL coldL
      rw [cnt_split _ (tch h w), ← List.countP_eq_length_filter, List.countP_filter]
      have mh : ∀ r, r ∉ hereL p q h w ↔ r ∉ h ∨ covB (shownL p q h w) r = true := fun r => by
        unfold hereL
        rw [List.mem_filter, not_and, Bool.not_eq_true']
        by_cases z : r ∈ h <;> simp [z]
      congr 1
      · refine List.countP_congr fun k hk => ?_
        rw [Bool.and_eq_true, List.any_eq_true]
        refine ⟨fun z => z.2, fun z => ⟨?_, z⟩⟩
        obtain ⟨r, r1, r2, r3⟩ := tch_iff.mp z
        refine ⟨r, mem_blkRows.mpr ⟨r1, r2⟩, decide_eq_true ((mh r).mpr (r3.imp id (s2 r)))⟩
      · refine List.countP_congr fun k hk => ?_
        rw [Bool.and_eq_true, Bool.and_eq_true]
        refine and_congr_left fun z => ?_
        rw [List.any_eq_true, cvK_iff]
        rw [Bool.not_eq_true'] at z
        constructor
        · rintro ⟨r, r1, r2⟩
          have r1 := mem_blkRows.mp r1
          rcases (mh r).mp (of_decide_eq_true r2) with q | q
          · exact absurd (not_tch z r1.1 r1.2).1 q
          · exact ⟨r, r1.1, r1.2, covB_iff.mp q⟩
        · rintro ⟨r, r1, r2, r3⟩
          exact ⟨r, mem_blkRows.mpr ⟨r1, r2⟩, decide_eq_true ((mh r).mpr (.inr (covB_iff.mpr r3)))⟩
    rw [e1]
    cases e : ndl h w with
    | nil =>
      have es : shownL p q h w = [] := by unfold shownL; rw [e]
      have e0 : (coldL h w).countP (cvK (shownL p q h w)) = 0 := List.countP_eq_zero.mpr fun k _ z => by
        obtain ⟨r, _, _, s, hs, _⟩ := cvK_iff.mp z
        rw [es] at hs; cases hs
      rw [e0, es, if_pos rfl]
      simp
    | cons x L =>
      have es : shownL p q h w = shownR p q (coldL h w) x L := by unfold shownL; rw [e]
      have pw : (x :: L).Pairwise (fun c d => c.2 + 1 < d.1) := by rw [← e]; exact ndl_pw st.asc w
      have mb : ∀ y ∈ x :: L, IsBlk h y := fun y hy => ((mem_ndl st.asc).mp (by rw [e]; exact hy)).1
      obtain ⟨p1, p2⟩ := List.pairwise_cons.mp pw
      have hL : ∀ y ∈ L, y.1 ≤ y.2 ∧ x.2 < y.1 := fun y hy => ⟨(mb y (List.mem_cons_of_mem _ hy)).le, by have := p1 y hy; omega⟩
      have xl := (mb x List.mem_cons_self).le
      have bes : ∀ k ∈ coldL h w, ∀ y ∈ x :: L, k.2 < y.1 ∨ y.2 < k.1 := fun k hk y hy => cold_beside st.asc (w := w) (by simpa using (List.mem_filter.mp hk).2) (by rw [e]; exact hy) (cold_le sw.asc k hk)
      have g := shown_cost (p := p) (q := q) hp hq (cold_le (h := h) sw.asc) L x x rfl xl hL p2 (fun k hk y hy => bes k hk y (List.mem_cons_of_mem _ hy))
      have ge := (shownR_mem (p := p) (q := q) (cold := coldL h w) L x xl hL p2).1
      have e2 : (coldL h w).countP (cvK (shownR p q (coldL h w) x L)) = (coldL h w).countP (fun k => cvK (shownR p q (coldL h w) x L) k && decide (x.2 < k.1)) := List.countP_congr fun k hk => by
        rw [Bool.and_eq_true, decide_eq_true_eq]
        refine ⟨fun z => ⟨z, ?_⟩, fun z => z.1⟩
        obtain ⟨r, r1, r2, s, hs, s1, s2⟩ := cvK_iff.mp z
        have := (ge s hs).2.2.1
        have := bes k hk x List.mem_cons_self
        omega
      rw [es, e2, if_neg (by simp), Int.natCast_add, Int.mul_add]
      omega
/-- the formula is the least price -/
theorem cost_len (as : List Act) : costA 1 1 as = as.length := by
  induction as with
  | nil => rfl
  | cons a as ih =>
    have : costA 1 1 (a :: as) = 1 + costA 1 1 as := by simp [costA]
    rw [this, ih, List.length_cons]
    omega
end HR
namespace HR
open PySem PySem.Spec L2
open PyProof.Rows hiding St
open PySem.W (Datum Tup T3 T4 SomeDatum)
/-! distances as the program computes them -/
abbrev Pr := Int × Int
theorem rangeD_blk (a b : Int) : rangeD a (b + 1 - a).toNat = (blkRows (a, b)).map .int := by unfold rangeD blkRows; rw [List.map_map]; rfl
theorem flat_asc : ∀ {L : List Pr}, L.Pairwise (fun c d => c.2 + 1 < d.1) → (∀ c ∈ L, c.1 ≤ c.2) → (L.flatMap blkRows).Pairwise (· < ·)
  | [], _, _ => .nil
  | c :: L, pw, hl => by
    obtain ⟨p1, p2⟩ := List.pairwise_cons.mp pw
    rw [List.flatMap_cons]
    refine List.pairwise_append.mpr ⟨blkRows_asc c, flat_asc p2 fun d hd => hl d (List.mem_cons_of_mem _ hd), fun r hr t ht => ?_⟩
    obtain ⟨d, hd, ht⟩ := List.mem_flatMap.mp ht
    have := p1 d hd
    have := mem_blkRows.mp hr
    have := mem_blkRows.mp ht
    omega
theorem flat_len {n : Int} {L : List Pr} (pw : L.Pairwise (fun c d => c.2 + 1 < d.1)) (hl : ∀ c ∈ L, 1 ≤ c.1 ∧ c.1 ≤ c.2 ∧ c.2 ≤ n) (n0 : 0 ≤ n) : ((L.flatMap blkRows).length : Int) ≤ n := by
  have := asc_len (a := 1) (b := n) (flat_asc pw fun c hc => (hl c hc).2.1) (fun r hr => by
    obtain ⟨d, hd, ht⟩ := List.mem_flatMap.mp hr
    have := mem_blkRows.mp ht
    have := hl d hd
    omega) (by omega)
  omega
theorem ndl_range {n : Int} {h w : List Int} (st : IsSt n h) : ∀ c ∈ ndl h w, 1 ≤ c.1 ∧ c.1 ≤ c.2 ∧ c.2 ≤ n := fun c hc => blk_range st ((mem_ndl st.asc).mp hc).1
theorem blocks_range {n : Int} {h : List Int} (st : IsSt n h) : ∀ c ∈ blocksOf h, 1 ≤ c.1 ∧ c.1 ≤ c.2 ∧ c.2 ≤ n := fun c hc => blk_range st ((mem_blocks st.asc).mp hc)
theorem blocks_len {n : Int} {h : List Int} (st : IsSt n h) : (blocksOf h).length ≤ 40 := Nat.le_trans (blocksOf_len h) st.len
theorem ndl_len {n : Int} {h : List Int} (st : IsSt n h) (w : List Int) : (ndl h w).length ≤ 40 := Nat.le_trans (List.length_filter_le _ _) (blocks_len st)
theorem hotL_len {n : Int} {w : List Int} (st : IsSt n w) (h : List Int) : (hotL h w).length ≤ 40 := Nat.le_trans (List.length_filter_le _ _) (blocks_len st)
theorem coldL_len {n : Int} {w : List Int} (st : IsSt n w) (h : List Int) : (coldL h w).length ≤ 40 := Nat.le_trans (List.length_filter_le _ _) (blocks_len st)
theorem gapN_len {n : Int} {w : List Int} (st : IsSt n w) (h : List Int) (x y : Pr) : gapN (coldL h w) x y ≤ 40 := Nat.le_trans (List.length_filter_le _ _) (coldL_len st h)
theorem prsD_snoc (a : List Pr) (c : Pr) : prsD (a ++ [c]) = prsD a ++ [prD c] := by simp [prsD]
/-- the gaps -/
def gapsR (cold : List Pr) : List Pr → List ((Pr × Pr) × Nat)
  | x :: y :: r => ((x, y), gapN cold x y) :: gapsR cold (y :: r)
  | _ => []
theorem gaps_zip (cold : List Pr) : ∀ L : List Pr, (L.zip (L.drop 1)).map (fun p => (p, gapN cold p.1 p.2)) = gapsR cold L
  | [] => rfl
  | [_] => rfl
  | x :: y :: r => by
    have ih := gaps_zip cold (y :: r)
    simp only [List.drop_succ_cons, List.drop_zero] at ih ⊢
    rw [List.zip_cons_cons, List.map_cons, ih]
    rfl
theorem gaps_sum (p q : Int) (cold : List Pr) : ∀ L : List Pr, ((gapsR cold L).map fun g => min q (p * (g.2 : Int))).sum = gapSum p q cold L
  | [] => rfl
  | [_] => rfl
  | x :: y :: r => by
    have ih := gaps_sum p q cold (y :: r)
    show (min q (p * (gapN cold x y : Int)) :: (gapsR cold (y :: r)).map _).sum = min q (p * (gapN cold x y : Int)) + gapSum p q cold (y :: r)
    rw [List.sum_cons, ih]
theorem gapsR_len (cold : List Pr) : ∀ L : List Pr, (gapsR cold L).length ≤ L.length
  | [] => Nat.le_refl _
  | [_] => by show 0 ≤ 1; omega
  | x :: y :: r => by
    have := gapsR_len cold (y :: r)
    show (gapsR cold (y :: r)).length + 1 ≤ _
    simp only [List.length_cons] at *
    omega
theorem gapsR_mem {cold : List Pr} : ∀ {L : List Pr} {g : (Pr × Pr) × Nat}, g ∈ gapsR cold L → g.1.1 ∈ L ∧ g.1.2 ∈ L ∧ g.2 = gapN cold g.1.1 g.1.2
  | [], g, h => by cases h
  | [_], g, h => by cases h
  | x :: y :: r, g, h => by
    rcases List.mem_cons.mp (show g ∈ ((x, y), gapN cold x y) :: gapsR cold (y :: r) from h) with rfl | h
    · exact ⟨by simp, by simp, rfl⟩
    · obtain ⟨a, b, c⟩ := gapsR_mem h
      exact ⟨List.mem_cons_of_mem _ a, List.mem_cons_of_mem _ b, c⟩
abbrev gapD (g : (Pr × Pr) × Nat) : D := .tuple [prD g.1.1, prD g.1.2, .int (g.2 : Nat)]
def gapsOf (h w : List Int) : List ((Pr × Pr) × Nat) := gapsR (coldL h w) (ndl h w)
theorem gapsOf_len {n : Int} {h : List Int} (st : IsSt n h) (w : List Int) : (gapsOf h w).length ≤ 40 := Nat.le_trans (gapsR_len _ _) (ndl_len st w)
/-- the parting gaps -/
def partL (h w : List Int) : List (Pr × Pr) := ((gapsOf h w).filter fun g => decide (0 < g.2)).map (·.1)
abbrev ppD (x : Pr × Pr) : D := .tuple [prD x.1, prD x.2]
theorem gapSum_11 (cold : List Pr) (L : List Pr) : gapSum 1 1 cold L = (((gapsR cold L).filter fun g => decide (0 < g.2)).length : Int) := by
  rw [← gaps_sum]
  generalize gapsR cold L = G
  induction G with
  | nil => rfl
  | cons g G ih =>
    rw [List.map_cons, List.sum_cons, ih, List.filter_cons]
    by_cases z : 0 < g.2
    · rw [if_pos (decide_eq_true z), List.length_cons]
      have : min (1 : Int) (1 * (g.2 : Int)) = 1 := by omega
      omega
    · rw [if_neg (fun q => z (of_decide_eq_true q))]
      have : min (1 : Int) (1 * (g.2 : Int)) = 0 := by omega
      omega
theorem price_11 (h w : List Int) : price h w 1 1 = (hotL h w).length + (partL h w).length + if ndl h w = [] then 0 else 1 := by
  unfold price partL gapsOf
  rw [List.length_map, Int.one_mul, gapSum_11]
  split
  · rename_i z
    rw [z]
    show _ = _ + ((0 : Nat) : Int) + 0
    omega
  · omega
/-- the price lies between bounds -/
theorem gapSum_nonneg {p q : Int} (hp : 0 ≤ p) (hq : 0 ≤ q) (cold : List Pr) : ∀ L : List Pr, 0 ≤ gapSum p q cold L
  | [] => Int.le_refl _
  | [_] => Int.le_refl _
  | x :: y :: r => by
    have ih := gapSum_nonneg hp hq cold (y :: r)
    have : 0 ≤ p * (gapN cold x y : Int) := Int.mul_nonneg hp (by omega)
    show 0 ≤ min q (p * (gapN cold x y : Int)) + gapSum p q cold (y :: r)
    omega
theorem price_nonneg {p q : Int} (hp : 0 ≤ p) (hq : 0 ≤ q) (h w : List Int) : 0 ≤ price h w p q := by
  unfold price
  have := gapSum_nonneg hp hq (coldL h w) (ndl h w)
  have : 0 ≤ p * ((hotL h w).length : Int) := Int.mul_nonneg hp (by omega)
  split <;> omega
/-- the stretches, made one after the other -/
def shStep (p q : Int) (S : List Pr) (g : (Pr × Pr) × Nat) : List Pr := if 0 < g.2 ∧ q ≤ p * g.2 then S ++ [g.1.2] else match S.getLast? with
  | some c => S.dropLast ++ [(c.1, g.1.2.2)]
  | none => S
theorem shStep_new {p q : Int} {S : List Pr} {g : (Pr × Pr) × Nat} (z : 0 < g.2 ∧ q ≤ p * g.2) : shStep p q S g = S ++ [g.1.2] := if_pos z
theorem shStep_on {p q : Int} {S : List Pr} {c : Pr} {g : (Pr × Pr) × Nat} (z : ¬ (0 < g.2 ∧ q ≤ p * g.2)) : shStep p q (S ++ [c]) g = S ++ [(c.1, g.1.2.2)] := by
  unfold shStep
  rw [if_neg z, List.getLast?_append]
  show (S ++ [c]).dropLast ++ [(c.1, g.1.2.2)] = _
  rw [List.dropLast_concat]
theorem sh_fold (p q : Int) (cold : List Pr) : ∀ (L : List Pr) (x cur : Pr) (pre : List Pr), cur.2 = x.2 → (gapsR cold (x :: L)).foldl (shStep p q) (pre ++ [cur]) = pre ++ shownR p q cold cur L
  | [], x, cur, pre, e => rfl
  | y :: L, x, cur, pre, e => by
    show (gapsR cold (y :: L)).foldl (shStep p q) (shStep p q (pre ++ [cur]) ((x, y), gapN cold x y)) = _
    unfold shownR
    rw [gapN_congr (cold := cold) (y := y) e]
    by_cases z : 0 < gapN cold x y ∧ q ≤ p * gapN cold x y
    · rw [if_pos z, shStep_new z, sh_fold p q cold L y y (pre ++ [cur]) rfl, List.append_assoc]
      rfl
    · rw [if_neg z, shStep_on z, sh_fold p q cold L y (cur.1, y.2) pre rfl]
theorem shownL_fold (p q : Int) (h w : List Int) : shownL p q h w = (gapsOf h w).foldl (shStep p q) ((ndl h w).take 1) := by
  unfold shownL gapsOf
  cases e : ndl h w with
  | nil => rfl
  | cons x L => exact (sh_fold p q (coldL h w) L x x [] rfl).symm
theorem shFold_len (p q : Int) : ∀ (G : List ((Pr × Pr) × Nat)) (S : List Pr), (G.foldl (shStep p q) S).length ≤ S.length + G.length
  | [], S => by simp
  | g :: G, S => by
    have h1 := shFold_len p q G (shStep p q S g)
    have h2 : (shStep p q S g).length ≤ S.length + 1 := by
      unfold shStep
      split
      · simp
      · split
        · simp
        · omega
    rw [List.foldl_cons, List.length_cons]
    omega
theorem shFold_ne (p q : Int) : ∀ (G : List ((Pr × Pr) × Nat)) (S : List Pr), S ≠ [] → G.foldl (shStep p q) S ≠ []
  | [], S, h => h
  | g :: G, S, h => shFold_ne p q G _ (by
      unfold shStep
      split
      · simp
      · split
        · simp
        · exact h)
theorem shownL_len {n : Int} {h : List Int} (st : IsSt n h) (p q : Int) (w : List Int) : (shownL p q h w).length ≤ 41 := by
  rw [shownL_fold]
  have h1 := shFold_len p q (gapsOf h w) ((ndl h w).take 1)
  have h2 := gapsOf_len st w
  have h3 : ((ndl h w).take 1).length ≤ 1 := by rw [List.length_take]; omega
  omega
theorem hides_len (here : List Int) : ∀ L : List Pr, (L.flatMap (hideA here)).length ≤ L.length
  | [] => Nat.le_refl _
  | k :: L => by
    have ih := hides_len here L
    rw [List.flatMap_cons, List.length_append, List.length_cons]
    have : (hideA here k).length ≤ 1 := by unfold hideA; split <;> simp
    omega
theorem hideA_nil {here : List Int} {k : Pr} (e : opnL here k = []) : hideA here k = [] := by unfold hideA; rw [e]; rfl
theorem hideA_cons {here : List Int} {k : Pr} {x : Int} {t : List Int} (e : opnL here k = x :: t) : ∃ y, (x :: t).getLast? = some y ∧ hideA here k = [⟨true, x, y⟩] := by
  obtain ⟨y, hy, _⟩ := opn_ends e
  exact ⟨y, by rw [← e]; exact hy, by unfold hideA; rw [hy, e]; rfl⟩
theorem bestS_len {n : Int} {h w : List Int} (st : IsSt n h) (sw : IsSt n w) (p q : Int) : (bestS p q h w).length ≤ 81 := by
  unfold bestS
  rw [List.length_append, List.length_map]
  have h1 := shownL_len st p q w
  have h2 : ∀ L : List Pr, (L.flatMap (hideA (hereL p q h w))).length ≤ L.length := fun L => by
    induction L with
    | nil => exact Nat.le_refl _
    | cons k L ih =>
      rw [List.flatMap_cons, List.length_append, List.length_cons]
      have : (hideA (hereL p q h w) k).length ≤ 1 := by unfold hideA; split <;> simp
      omega
  have h3 := h2 (blocksOf w)
  have h4 := blocks_len sw
  omega
theorem blkStep_mem {done rest : List Int} {x : Int} (asc : (done ++ x :: rest).Pairwise (· < ·)) :
    (x - 1 ∈ done ++ x :: rest → ∃ i u v, blocksOf done = i ++ [(u, v)] ∧ blkStep (blocksOf done) x = i ++ [(u, x)]) ∧ (x - 1 ∉ done ++ x :: rest → blkStep (blocksOf done) x = blocksOf done ++ [(x, x)]) := by
  obtain ⟨a1, a2, a3⟩ := List.pairwise_append.mp asc
  have mem : x - 1 ∈ done ++ x :: rest ↔ x - 1 ∈ done := by
    rw [List.mem_append, List.mem_cons]
    refine ⟨fun h => ?_, .inl⟩
    rcases h with h | h | h
    · exact h
    · omega
    · have := (List.pairwise_cons.mp a2).1 _ h
      omega
  obtain ⟨_, p2, _, p4⟩ := blocks_pw0 done a1
  rcases List.eq_nil_or_concat done with rfl | ⟨ys, l, rfl⟩
  · rw [mem]
    exact ⟨fun h => (by cases h), fun _ => rfl⟩
  rw [List.concat_eq_append] at *
  obtain ⟨i, a, e⟩ := p4 l (by simp)
  have lx : l < x := a3 l (by simp) x List.mem_cons_self
  have iff : x - 1 ∈ ys ++ [l] ↔ l = x - 1 := ⟨fun h => by have := asc_last a1 (l := l) (by simp) h; omega, fun h => by rw [← h]; simp⟩
  have bl : blkStep (blocksOf (ys ++ [l])) x = if l = x - 1 then i ++ [(a, x)] else blocksOf (ys ++ [l]) ++ [(x, x)] := by
    unfold blkStep
    rw [e, List.getLast?_append]
    show (if l = x - 1 then (i ++ [(a, l)]).dropLast ++ [(a, x)] else _) = _
    rw [List.dropLast_concat]
  rw [mem, iff, bl]
  exact ⟨fun h => ⟨i, a, l, e, if_pos h⟩, fun h => if_neg h⟩
/-- two states of one size -/
def mPair (d e : D) : Bool := mState d && (mState e && (match d, e with
  | .tuple [.int n, _], .tuple [.int m, _] => decide (m = n)
  | _, _ => false))
theorem mPair_some {d e : D} (h : mPair d e = true) : ∃ n xs ys, d = stD' n xs ∧ e = stD' n ys ∧ IsSt n xs ∧ IsSt n ys := by
  unfold mPair at h
  rw [Bool.and_eq_true, Bool.and_eq_true] at h
  obtain ⟨h1, h2, h3⟩ := h
  obtain ⟨n, xs, rfl, a⟩ := mState_some h1
  obtain ⟨m, ys, rfl, b⟩ := mState_some h2
  have : m = n := of_decide_eq_true h3
  subst this
  exact ⟨m, xs, ys, rfl, rfl, a, b⟩
theorem mPair_ok {n : Int} {xs ys : List Int} (a : IsSt n xs) (b : IsSt n ys) : mPair (stD' n xs) (stD' n ys) = true := by
  unfold mPair
  rw [a.ok, b.ok]
  exact decide_eq_true rfl
theorem mPair_ne {n m : Int} {xs ys : List Int} (h : m ≠ n) : mPair (stD' n xs) (stD' m ys) = false := by
  unfold mPair
  rw [show (match stD' n xs, stD' m ys with | .tuple [.int n, _], .tuple [.int m, _] => decide (m = n) | _, _ => false) = decide (m = n) from rfl, decide_eq_false h, Bool.and_false, Bool.and_false]
theorem tdVar_own {i : Nat} {ds : List D} {p : Addr} {δ : Env} {Q : VD} (hd : δ[i]? = some (.own p ds)) : tdVar i δ Q = Q (.bor i p) δ := by unfold tdVar; rw [hd]
theorem view_own {i : Nat} {ds : List D} {p : Addr} {δ : Env} (hd : δ[i]? = some (.own p ds)) : View (.bor i p) δ ds := by
  show (match δ[i]? with | some (.own q ds) => some (q, ds) | _ => none) = some (p, ds)
  rw [hd]
theorem if_first {i : Nat} {L : List Pr} {p : Addr} {δ : Env} {Q : VD} (hd : δ[i]? = some (.own p (prsD L))) (q : ∀ p', Q (.own p' (prsD (L.take 1))) δ) :
    tdIf (tdTruth (tdVar i)) (tdLst (tdCons (tdOp ixD (tdVar i) (tdC (.int 0))) tdNil)) (tdLst tdNil) δ Q := by
  have v := view_own hd
  unfold tdIf tdTruth
  rw [tdVar_own hd]
  refine ⟨_, v, ?_⟩
  cases L with
  | nil => exact iteF ⟨Nat.zero_le _, fun p' => q p'⟩
  | cons x L =>
    refine iteT ?_
    unfold tdLst tdCons tdOp
    rw [tdVar_own hd]
    exact ⟨_, _, v, rfl, by simp, fun p' => q p'⟩
theorem eqv_nil : ∀ ds : List D, PyData.eqv (.list ds) (.list []) = ds.isEmpty
  | [] => rfl
  | _ :: _ => rfl
theorem shaped_nil : SeqAt.shaped (.list []) = true := rfl
theorem any_pr (xs : List Pr) (c : Pr) : ((prsD xs).any fun e => PyData.eqv e (prD c)) = decide (c ∈ xs) := by
  have h := W.any_datum xs c
  by_cases z : c ∈ xs
  · rw [decide_eq_true z]; exact h.trans (by simp only [decide_eq_true_eq]; exact z)
  · rw [decide_eq_false z]; exact h.trans (by simp only [decide_eq_false_iff_not]; exact z)
theorem shaped_pr (c : Pr) : SeqAt.shaped (prD c) = true := shaped_dat c (by decide)
/-- what the laws compute: the needed blocks -/
theorem needy_iff {w : List Int} {c : Pr} : ((blkRows c).filter fun r => decide (r ∉ w)).isEmpty = (blkRows c).all fun r => decide (r ∈ w) := by
  rw [Bool.eq_iff_iff, List.isEmpty_iff, List.filter_eq_nil_iff, List.all_eq_true]
  exact forall_congr' fun r => forall_congr' fun _ => by simp
theorem hot_iff {w h : List Int} (a : w.Pairwise (· < ·)) {c : Pr} (hc : c ∈ blocksOf w) : ((w.filter (fun r => decide (r ∉ h)) ++ freedL h w).filter fun r => decide (c.1 ≤ r) && decide (r ≤ c.2)).isEmpty = !tch h w c := by
  rw [Bool.eq_iff_iff, List.isEmpty_iff, List.filter_eq_nil_iff, Bool.not_eq_true', ← Bool.not_eq_true, tch_iff]
  constructor
  · rintro z ⟨r, r1, r2, r3⟩
    refine z r ?_ (by simp [r1, r2])
    rcases r3 with r3 | r3
    · exact List.mem_append_left _ (List.mem_filter.mpr ⟨((mem_blocks a).mp hc).all r r1 r2, decide_eq_true r3⟩)
    · exact List.mem_append_right _ r3
  · intro z r hr y
    rw [Bool.and_eq_true, decide_eq_true_eq, decide_eq_true_eq] at y
    refine z ⟨r, y.1, y.2, ?_⟩
    rcases List.mem_append.mp hr with hr | hr
    · exact .inl (of_decide_eq_true (List.mem_filter.mp hr).2)
    · exact .inr hr
theorem cold_filter (h w : List Int) : (blocksOf w).filter (fun c => decide (c ∉ hotL h w)) = coldL h w := by
  unfold coldL hotL
  refine List.filter_congr fun c hc => ?_
  rw [Bool.eq_iff_iff, decide_eq_true_eq, List.mem_filter, Bool.not_eq_true', ← Bool.not_eq_true]
  exact not_congr ⟨fun z => z.2, fun z => ⟨hc, z⟩⟩
theorem gapN_law {h w : List Int} (a : h.Pairwise (· < ·)) (b : w.Pairwise (· < ·)) {x y : Pr} (hy : y ∈ ndl h w) : ((coldL h w).filter fun c => decide (x.2 < c.1) && decide (c.1 < y.1)).length = gapN (coldL h w) x y := by
  unfold gapN
  congr 1
  refine List.filter_congr fun c hc => ?_
  have hb := cold_beside a (w := w) (by simpa using (List.mem_filter.mp hc).2) hy (cold_le b c hc)
  have hl := cold_le b c hc
  have yl := ((mem_ndl a).mp hy).1.le
  congr 1
  exact decide_eq_decide.mpr (by omega)
theorem natsD_app (xs ys : List Nat) : natsD (xs ++ ys) = natsD xs ++ natsD ys := List.map_append
theorem IsSt.filter {n : Int} {g : List Int} (st : IsSt n g) (f : Int → Bool) : IsSt n (g.filter f) := ⟨st.n1, st.n2, fun x hx => st.rows x (List.mem_filter.mp hx).1, st.asc.filter _⟩
theorem IsSt.sortI {n r : Int} {g : List Int} (st : IsSt n g) (r1 : 1 ≤ r) (r2 : r ≤ n) (hr : r ∉ g) : IsSt n (HR.sortI (g ++ [r])) := by
  have p := sortI_perm (g ++ [r])
  have nd : (HR.sortI (g ++ [r])).Nodup := p.nodup_iff.mpr (List.nodup_append.mpr ⟨st.asc.imp (fun h => by omega), by simp, fun a ha b hb => by
    have : b = r := by simpa using hb
    rintro rfl
    exact hr (this ▸ ha)⟩)
  refine ⟨st.n1, st.n2, fun x hx => ?_, ((sortI_sorted (g ++ [r])).and nd).imp (fun h => by omega)⟩
  rcases List.mem_append.mp (p.mem_iff.mp hx) with h | h
  · exact st.rows x h
  · have : x = r := by simpa using h
    omega
theorem pair2r {n : Int} {h w : List Int} (st : IsSt n h) (sw : IsSt n w) {X : Prop} {Q : List Int → List Int → Prop} (q : Q h w) :
    (mPair (stD' n h) (stD' n w) = false → X) ∧ ∀ n' h' w', stD' n h = stD' n' h' → stD' n w = stD' n' w' → IsSt n' h' → IsSt n' w' → Q h' w' := by
  refine ⟨fun z => (by rw [mPair_ok st sw] at z; cases z), fun n' h' w' e1 e2 _ _ => ?_⟩
  obtain ⟨_, rfl⟩ := st_inj e1
  obtain ⟨_, rfl⟩ := st_inj e2
  exact q
theorem pair2 {n : Int} {h w : List Int} (st : IsSt n h) (sw : IsSt n w) {X : Prop} {Q : List Int → List Int → Prop} (q : Q h w) :
    noDict (stD' n h) = true ∧ noDict (stD' n w) = true ∧ (mPair (stD' n h) (stD' n w) = false → X) ∧ ∀ n' h' w', stD' n h = stD' n' h' → stD' n w = stD' n' w' → IsSt n' h' → IsSt n' w' → Q h' w' :=
  ⟨noDict_st n h, noDict_st n w, pair2r st sw q⟩
theorem isSt_lit {n : Int} {h : List Int} (e : (decide (1 ≤ n) && decide (n ≤ 40) && isRows n h) = true) : IsSt n h := by
  rw [Bool.and_eq_true, Bool.and_eq_true, isRows_iff, decide_eq_true_eq, decide_eq_true_eq] at e
  exact ⟨e.1.1, e.1.2, e.2.1, e.2.2⟩
theorem zipD_self {α : Type} (f g : α → D) : ∀ Z : List α, zipD (Z.map f) (Z.map g) = Z.map fun z => .tuple [f z, g z]
  | [] => rfl
  | z :: Z => by
    have ih := zipD_self f g Z
    unfold zipD at ih ⊢
    simp only [List.map_cons, List.zip_cons_cons, List.cons.injEq, true_and]
    exact ih
theorem zip_gaps (h w : List Int) : zipD (((ndl h w).zip ((ndl h w).drop 1)).map ppD) (natsD ((gapsOf h w).map (·.2))) = (gapsOf h w).map fun g => .tuple [ppD g.1, .int (g.2 : Nat)] := by
  unfold gapsOf
  rw [← gaps_zip, natsD, List.map_map, List.map_map, List.map_map]
  exact zipD_self _ _ _
theorem best_len {n : Int} {h w : List Int} (st : IsSt n h) (sw : IsSt n w) : ((bestS 1 1 h w).length : Int) = price h w 1 1 := by
  rw [← cost_len]
  exact (best_run (by decide) (by decide) st sw).2.2
theorem price0 {n : Int} {h w : List Int} (st : IsSt n h) (sw : IsSt n w) : price h w 1 1 = 0 ↔ h = w := by
  constructor
  · intro z
    have l := best_len st sw
    rw [z] at l
    have e : bestS 1 1 h w = [] := List.eq_nil_of_length_eq_zero (by omega)
    have r := (best_run (p := 1) (q := 1) (by decide) (by decide) st sw).2.1
    rw [e] at r
    exact Option.some.inj r
  · rintro rfl
    have h1 := price_le (p := 1) (q := 1) (by decide) (by decide) st (as := []) rfl rfl
    have h2 := price_nonneg (p := 1) (q := 1) (by decide) (by decide) h h
    have h3 : costA 1 1 [] = 0 := rfl
    omega
theorem shaped_st (n : Int) (h : List Int) : SeqAt.shaped (stD' n h) = true := shaped_dat (α := Int × Tup Int) (n, ⟨h⟩) (by decide)
theorem eqv_st (n m : Int) (h w : List Int) : PyData.eqv (stD' n h) (stD' m w) = decide (n = m ∧ h = w) := by
  refine (Datum.eqv (α := Int × Tup Int) (n, ⟨h⟩) (m, ⟨w⟩)).trans ?_
  exact decide_eq_decide.mpr ⟨fun e => ⟨congrArg Prod.fst e, congrArg (fun p : Int × Tup Int => p.2.items) e⟩, fun e => by rw [e.1, e.2]⟩
theorem eqv_stD {n : Int} {h w : List Int} : PyData.eqv (stD' n h) (stD' n w) = decide (h = w) := by rw [eqv_st]; exact decide_eq_decide.mpr (by simp)
theorem shaped_tup (h : List Int) : SeqAt.shaped (tupI h) = true := shaped_dat (α := Tup Int) ⟨h⟩ (by decide)
theorem eqv_tup (h w : List Int) : PyData.eqv (tupI h) (tupI w) = decide (h = w) := by
  refine (Datum.eqv (α := Tup Int) ⟨h⟩ ⟨w⟩).trans ?_
  exact decide_eq_decide.mpr ⟨fun e => congrArg Tup.items e, fun e => by rw [e]⟩
theorem partL_len {n : Int} {h : List Int} (st : IsSt n h) (w : List Int) : (partL h w).length ≤ 40 := by
  unfold partL
  rw [List.length_map]
  exact Nat.le_trans (List.length_filter_le _ _) (gapsOf_len st w)
theorem shaped_pps (ps : List (Pr × Pr)) : SeqAt.shaped (.list (ps.map ppD)) = true := shaped_dat (α := List (Pr × Pr)) ps (by decide)
theorem eqv_pps (ps qs : List (Pr × Pr)) : PyData.eqv (.list (ps.map ppD)) (.list (qs.map ppD)) = decide (ps = qs) := Datum.eqv (α := List (Pr × Pr)) ps qs
end HR
namespace HR
open PySem PySem.Spec L2
open PyProof.Rows hiding St
open PySem.W (Datum Tup T3 T4 SomeDatum)
/-! prices as functions of the prices -/
theorem compD_sub {α : Type} {g : TDG} {tt : TDT} {te : TD} {vs : List Nat} {chk : Env → Prop} {δ : Env} {Q : List D → Env → Prop} (enc f : α → D) (hc : chk δ) : ∀ (xs : List α) (acc : List D),
    (∀ x ∈ xs, ∀ (K : List D → Env → Prop) (acc : List D), K (acc ++ [f x]) δ → K acc δ → (g (.val (enc x)) δ fun δ1 => tt δ1 fun b δ2 => if b = true then te δ2 fun s δ3 => asD s δ3 fun d δ4 => K (acc ++ [d]) (wipeE δ4 vs) else K acc (wipeE δ2 vs))) →
    (∀ ys : List α, ys.Sublist xs → Q (acc ++ ys.map f) δ) → compD g tt te vs chk (xs.map enc) acc δ Q
  | [], acc, _, q => ⟨hc, by simpa using q [] (List.Sublist.refl _)⟩
  | x :: xs, acc, h, q => by
    refine ⟨hc, h x List.mem_cons_self (fun acc δ => compD g tt te vs chk (xs.map enc) acc δ Q) acc ?_ ?_⟩
    · refine compD_sub enc f hc xs _ (fun y hy => h y (List.mem_cons_of_mem _ hy)) fun ys hs => ?_
      have := q (x :: ys) (hs.cons_cons x)
      simpa using this
    · refine compD_sub enc f hc xs _ (fun y hy => h y (List.mem_cons_of_mem _ hy)) fun ys hs => q ys (hs.cons x)
theorem gapSum_mono {p q p' q' : Int} (hp : p ≤ p') (hq : q ≤ q') (cold : List Pr) : ∀ L : List Pr, gapSum p q cold L ≤ gapSum p' q' cold L
  | [] => Int.le_refl _
  | [_] => Int.le_refl _
  | x :: y :: r => by
    have ih := gapSum_mono hp hq cold (y :: r)
    have : p * (gapN cold x y : Int) ≤ p' * (gapN cold x y : Int) := Int.mul_le_mul_of_nonneg_right hp (by omega)
    show min q (p * (gapN cold x y : Int)) + gapSum p q cold (y :: r) ≤ min q' (p' * (gapN cold x y : Int)) + gapSum p' q' cold (y :: r)
    omega
theorem price_mono {p q p' q' : Int} (hp : p ≤ p') (hq : q ≤ q') (h w : List Int) : price h w p q ≤ price h w p' q' := by
  unfold price
  have h1 := gapSum_mono hp hq (coldL h w) (ndl h w)
  have h2 : p * ((hotL h w).length : Int) ≤ p' * ((hotL h w).length : Int) := Int.mul_le_mul_of_nonneg_right hp (by omega)
  split <;> omega
theorem rangeD_rng (n : Int) : rangeD 1 (n + 1 - 1).toNat = intsD (rng n) := by
  unfold rangeD rng intsD
  rw [List.map_map, show n + 1 - 1 = n by omega]
  rfl
/-- states of one size, one at least -/
def mSame (ds : List D) : Bool := match ds with
  | [] => false
  | d :: _ => ds.all fun e => mPair d e
/-- the way over states -/
def wayL : List (List Int) → Int
  | h :: w :: r => price h w 1 1 + wayL (w :: r)
  | _ => 0
theorem way_zip : ∀ L : List (List Int), ((L.zip (L.drop 1)).map fun p : List Int × List Int => price p.1 p.2 1 1).sum = wayL L
  | [] => rfl
  | [_] => rfl
  | h :: w :: r => by
    have ih := way_zip (w :: r)
    simp only [List.drop_succ_cons, List.drop_zero] at ih ⊢
    rw [List.zip_cons_cons, List.map_cons, List.sum_cons, ih]
    rfl
theorem mSame_some {ds : List D} (h : mSame ds = true) : ∃ n w ws, ds = (w :: ws).map (stD' n) ∧ ∀ g ∈ w :: ws, IsSt n g := by
  cases ds with
  | nil => cases h
  | cons d r =>
    have h' := List.all_eq_true.mp h
    obtain ⟨n, w, w', rfl, e, st, _⟩ := mPair_some (h' d List.mem_cons_self)
    have key : ∀ r : List D, (∀ e ∈ r, mPair (stD' n w) e = true) → ∃ ws : List (List Int), r = ws.map (stD' n) ∧ ∀ g ∈ ws, IsSt n g := fun r => by
      induction r with
      | nil => exact fun _ => ⟨[], rfl, fun _ h => (by cases h)⟩
      | cons e r ih =>
        intro hr
        obtain ⟨ws, rfl, hs⟩ := ih fun e he => hr e (List.mem_cons_of_mem _ he)
        obtain ⟨m, x, y, e1, rfl, sx, sy⟩ := mPair_some (hr e List.mem_cons_self)
        obtain ⟨rfl, _⟩ := st_inj e1
        exact ⟨y :: ws, rfl, fun g hg => by
          rcases List.mem_cons.mp hg with rfl | hg
          · exact sy
          · exact hs g hg⟩
    obtain ⟨ws, e, hs⟩ := key r fun e he => h' e (List.mem_cons_of_mem _ he)
    exact ⟨n, w, ws, by rw [e]; rfl, fun g hg => by
      rcases List.mem_cons.mp hg with rfl | hg
      · exact st
      · exact hs g hg⟩
theorem mSame_ok {n : Int} {L : List (List Int)} (hl : L ≠ []) (h : ∀ g ∈ L, IsSt n g) : mSame (L.map (stD' n)) = true := by
  cases L with
  | nil => exact absurd rfl hl
  | cons w ws =>
    show ((w :: ws).map (stD' n)).all (fun e => mPair (stD' n w) e) = true
    rw [List.all_map]
    exact List.all_eq_true.mpr fun g hg => mPair_ok (h w List.mem_cons_self) (h g hg)
theorem map_st_inj {n m : Int} : ∀ {L L' : List (List Int)}, L.map (stD' n) = L'.map (stD' m) → L = L'
  | [], [], _ => rfl
  | [], _ :: _, h => by cases h
  | _ :: _, [], h => by cases h
  | a :: L, b :: L', h => by
    rw [List.map_cons, List.map_cons] at h
    injection h with h1 h2
    obtain ⟨_, rfl⟩ := st_inj h1
    rw [map_st_inj h2]
theorem noDicts_sts (n : Int) : ∀ L : List (List Int), noDicts (L.map (stD' n)) = true
  | [] => rfl
  | g :: L => by
    show (noDict (stD' n g) && noDicts (L.map (stD' n))) = true
    rw [noDict_st, noDicts_sts n L]
    rfl
theorem route_okr {n : Int} {w : List Int} {ws : List (List Int)} (hs : ∀ g ∈ w :: ws, IsSt n g) {X : Prop} {Q : List Int → List (List Int) → Prop} (q : Q w ws) :
    (mSame ((w :: ws).map (stD' n)) = false → X) ∧ ∀ m h hs', (w :: ws).map (stD' n) = (h :: hs').map (stD' m) → (∀ g ∈ h :: hs', IsSt m g) → Q h hs' := by
  refine ⟨fun z => (by rw [mSame_ok (L := w :: ws) (List.cons_ne_nil _ _) hs] at z; cases z), fun m h hs' e _ => ?_⟩
  cases map_st_inj e
  exact q
theorem route_ok {n : Int} {w : List Int} {ws : List (List Int)} (h1 : (w :: ws).length ≤ 1000) (hs : ∀ g ∈ w :: ws, IsSt n g) {X : Prop} {Q : List Int → List (List Int) → Prop} (q : Q w ws) :
    noDicts ((w :: ws).map (stD' n)) = true ∧ ((w :: ws).map (stD' n)).length ≤ 1000 ∧ (mSame ((w :: ws).map (stD' n)) = false → X) ∧ ∀ m h hs', (w :: ws).map (stD' n) = (h :: hs').map (stD' m) → (∀ g ∈ h :: hs', IsSt m g) → Q h hs' :=
  ⟨noDicts_sts n _, by rw [List.length_map]; exact h1, route_okr hs q⟩
/-! distances -/
theorem dist_tri {n : Int} {h w u : List Int} (sh : IsSt n h) (sw : IsSt n w) (su : IsSt n u) : price h u 1 1 ≤ price h w 1 1 + price w u 1 1 := by
  obtain ⟨a1, a2, a3⟩ := best_run (p := 1) (q := 1) (by decide) (by decide) sh sw
  obtain ⟨b1, b2, b3⟩ := best_run (p := 1) (q := 1) (by decide) (by decide) sw su
  have := price_le (p := 1) (q := 1) (by decide) (by decide) sh (as := bestS 1 1 h w ++ bestS 1 1 w u) (by rw [List.all_append, a1, b1]; rfl) (B := u) (by rw [runA_app, a2, b2])
  rw [costA_app, a3, b3] at this
  exact this
theorem dist_one {n : Int} {a l : List Int} {act : Act} (sa : IsSt n a) (hact : isAct n act = true) (e : aft a act = some l) : price a l 1 1 ≤ 1 := by
  have := price_le (p := 1) (q := 1) (by decide) (by decide) sa (as := [act]) (by simp [hact]) (B := l) (by rw [runA_cons]; exact e)
  rw [cost_len] at this
  exact this
theorem price_self {n : Int} {a : List Int} (sa : IsSt n a) : price a a 1 1 = 0 := (price0 sa sa).mpr rfl
/-- two ways that meet again -/
theorem both {c A B : Prop} [Decidable c] {α : Type} {P K : α → Prop} (hk : ∀ a, P a → K a) (ha : (∀ a, P a → K a) → A) (hb : (∀ a, P a → K a) → B) : if c then A else B := by
  split
  · exact ha hk
  · exact hb hk
theorem cost_sum (p q : Int) (as : List Act) : (as.map fun a => if a.hide = true then p else q).sum = costA p q as := rfl
theorem price4r {n p q : Int} {h w : List Int} (st : IsSt n h) (sw : IsSt n w) (p1 : 1 ≤ p) (p2 : p ≤ 1000) (q1 : 1 ≤ q) (q2 : q ≤ 1000) {X Y : Prop} {Q : List Int → List Int → Int → Int → Prop} (k : Q h w p q) :
    (mPair (stD' n h) (stD' n w) = false → X) ∧ (mPair (stD' n h) (stD' n w) = true → (mInt (.int p) 1 1000 && mInt (.int q) 1 1000) = false → Y) ∧
    ∀ n' h' w' p' q', stD' n h = stD' n' h' → stD' n w = stD' n' w' → IsSt n' h' → IsSt n' w' → PyData.int p = .int p' → PyData.int q = .int q' → 1 ≤ p' → p' ≤ 1000 → 1 ≤ q' → q' ≤ 1000 → Q h' w' p' q' := by
  refine ⟨fun z => (by rw [mPair_ok st sw] at z; cases z), fun _ z => ?_, fun n' h' w' p' q' e1 e2 _ _ e3 e4 _ _ _ _ => ?_⟩
  · have e : (mInt (.int p) 1 1000 && mInt (.int q) 1 1000) = true := by
      simp only [mInt, Bool.and_eq_true, decide_eq_true_eq]
      omega
    rw [e] at z
    cases z
  · obtain ⟨_, rfl⟩ := st_inj e1
    obtain ⟨_, rfl⟩ := st_inj e2
    cases e3
    cases e4
    exact k
theorem price4 {n p q : Int} {h w : List Int} (st : IsSt n h) (sw : IsSt n w) (p1 : 1 ≤ p) (p2 : p ≤ 1000) (q1 : 1 ≤ q) (q2 : q ≤ 1000) {X Y : Prop} {Q : List Int → List Int → Int → Int → Prop} (k : Q h w p q) :
    noDict (stD' n h) = true ∧ noDict (stD' n w) = true ∧ noDict (.int p) = true ∧ noDict (.int q) = true ∧ (mPair (stD' n h) (stD' n w) = false → X) ∧ (mPair (stD' n h) (stD' n w) = true → (mInt (.int p) 1 1000 && mInt (.int q) 1 1000) = false → Y) ∧
    ∀ n' h' w' p' q', stD' n h = stD' n' h' → stD' n w = stD' n' w' → IsSt n' h' → IsSt n' w' → PyData.int p = .int p' → PyData.int q = .int q' → 1 ≤ p' → p' ≤ 1000 → 1 ≤ q' → q' ≤ 1000 → Q h' w' p' q' :=
  ⟨noDict_st n h, noDict_st n w, rfl, rfl, price4r st sw p1 p2 q1 q2 k⟩
theorem IsSt.sub {n : Int} {g ys : List Int} (st : IsSt n g) (s : ys.Sublist g) : IsSt n ys := ⟨st.n1, st.n2, fun x hx => st.rows x (s.subset hx), st.asc.sublist s⟩
theorem rng_st {n : Int} (n1 : 1 ≤ n) (n2 : n ≤ 40) : IsSt n (rng n) := ⟨n1, n2, fun x hx => mem_rng1.mp hx, rng_asc _ _⟩
theorem gapSum_le {p q : Int} {cold : List Pr} {m : Nat} (hp : 0 ≤ p) (hq : 0 ≤ q) : ∀ L : List Pr, gapSum p q cold L ≤ q * L.length
  | [] => by show (0 : Int) ≤ q * ((0 : Nat) : Int); simp
  | [_] => by show (0 : Int) ≤ q * ((1 : Nat) : Int); simpa using hq
  | x :: y :: r => by
    have ih := gapSum_le (p := p) (cold := cold) (m := m) hp hq (y :: r)
    show min q (p * (gapN cold x y : Int)) + gapSum p q cold (y :: r) ≤ q * (((y :: r).length + 1 : Nat) : Int)
    rw [Int.natCast_add, Int.mul_add, show q * ((1 : Nat) : Int) = q from Int.mul_one q]
    omega
end HR
namespace HR
open PySem PySem.Spec L2
open PyProof.Rows hiding St
open PySem.W (Datum Tup T3 T4 SomeDatum)
theorem mInt_some {d : D} {lo hi : Int} (h : mInt d lo hi = true) : ∃ i : Int, d = .int i ∧ lo ≤ i ∧ i ≤ hi := by
  unfold mInt at h
  split at h
  · rename_i i
    rw [Bool.and_eq_true, decide_eq_true_eq, decide_eq_true_eq] at h
    exact ⟨i, rfl, h.1, h.2⟩
  · cases h
theorem getI_ints {xs : List Int} {k : Nat} (h : k < xs.length) : getI (intsD xs) (k : Int) = some (.int (xs.getD k 0)) := by
  rw [getI_in (by omega) (by rw [intsD, List.length_map]; omega)]
  simp [intsD, List.getD, List.getElem?_eq_getElem h]
/-! states counted -/
def ch (m : Int) (k : Nat) : Int := (List.range k).foldl (fun f (t : Nat) => f * (m - t) / ((t : Int) + 1)) 1
theorem ch_succ (m : Int) (k : Nat) : ch m (k + 1) = ch m k * (m - k) / ((k : Int) + 1) := by unfold ch; rw [List.range_succ, List.foldl_append]; rfl
def tri : Nat → List Int
  | 0 => [1]
  | t + 1 => [1] ++ ((tri t).zip ((tri t).drop 1)).map (fun p : Int × Int => p.1 + p.2) ++ [1]
theorem tri_len : ∀ t, (tri t).length = t + 1
  | 0 => rfl
  | t + 1 => by
    show ([1] ++ ((tri t).zip ((tri t).drop 1)).map (fun p : Int × Int => p.1 + p.2) ++ [1]).length = _
    have := tri_len t
    simp
    omega
def triV (m k : Nat) : Int := if k ≤ m then (tri m).getD k 0 else 0
theorem ch_tri : ∀ m : Nat, m < 42 → ∀ k : Nat, k < 41 → ch (m : Int) (2 * k) = triV m (2 * k) := by decide +kernel
/-- a block begins -/
def manyL (h : List Int) : Nat := (h.filter fun r => decide (r - 1 ∉ h)).length
theorem many_ok : ∀ n : Nat, n < 10 → ∀ t ∈ subsI n, manyL t.items = (blocksOf t.items).length := by decide +kernel
def cnStep (d : List (Int × Int)) (h : List Int) : List (Int × Int) := dPut d (manyL h) ((dGet d (manyL h)).getD 0 + 1)
def cn (hs : List (List Int)) : List (Int × Int) := hs.foldl cnStep []
theorem cn_snoc (hs : List (List Int)) (h : List Int) : cn (hs ++ [h]) = cnStep (cn hs) h := by unfold cn; rw [List.foldl_append]; rfl
theorem cnt_ok : ∀ n : Nat, n < 10 → ∀ i : Nat, i < 12 → ch ((n : Int) + 1) (2 * i) = (dGet (cn ((subsI n).map (·.items))) (i : Int)).getD 0 := by decide +kernel
def ivD (l : List (Int × Int)) : List (Int × D) := l.map fun p => (p.1, .int p.2)
theorem ivD_get (l : List (Int × Int)) (k : Int) : dGet (ivD l) k = (dGet l k).map PyData.int := by
  induction l with
  | nil => rfl
  | cons a l ih =>
    by_cases e : a.1 = k
    · unfold dGet ivD
      rw [List.map_cons, List.find?_cons_of_pos (by simpa using e), List.find?_cons_of_pos (by simpa using e)]
      rfl
    · unfold dGet ivD at ih ⊢
      rw [List.map_cons, List.find?_cons_of_neg (by simpa using e), List.find?_cons_of_neg (by simpa using e)]
      exact ih
theorem ivD_put (l : List (Int × Int)) (k v : Int) : dPut (ivD l) k (.int v) = ivD (dPut l k v) := by
  unfold dPut
  have e : ((ivD l).any fun kv => decide (kv.1 = k)) = l.any fun kv => decide (kv.1 = k) := by unfold ivD; rw [List.any_map]; rfl
  rw [e]
  split
  · unfold ivD
    rw [List.map_map, List.map_map]
    refine List.map_congr_left fun p _ => ?_
    by_cases z : p.1 = k
    · show (if p.1 = k then (p.1, PyData.int v) else (p.1, .int p.2)) = _
      rw [if_pos z]
      show _ = ((fun p : Int × Int => (p.1, PyData.int p.2)) (if p.1 = k then (p.1, v) else p))
      rw [if_pos z]
    · show (if p.1 = k then (p.1, PyData.int v) else (p.1, .int p.2)) = _
      rw [if_neg z]
      show _ = ((fun p : Int × Int => (p.1, PyData.int p.2)) (if p.1 = k then (p.1, v) else p))
      rw [if_neg z]
  · unfold ivD
    rw [List.map_append]
    rfl
theorem getD_int (o : Option Int) (v : Int) : (o.map PyData.int).getD (.int v) = .int (o.getD v) := by cases o <;> rfl
theorem cnt_args {n k : Int} (n1 : 1 ≤ n) (n2 : n ≤ 40) (k0 : 0 ≤ k) (k1 : k ≤ 40) {X Y : Prop} {Q : Int → Int → Prop} (q : Q n k) :
    (mInt (.int n) 1 40 = false → X) ∧ (mInt (.int n) 1 40 = true → mInt (.int k) 0 40 = false → Y) ∧ ∀ a b : Int, PyData.int n = .int a → PyData.int k = .int b → 1 ≤ a → a ≤ 40 → 0 ≤ b → b ≤ 40 → Q a b := by
  have h1 : mInt (.int n) 1 40 = true := by
    show (decide (1 ≤ n) && decide (n ≤ 40)) = true
    rw [decide_eq_true n1, decide_eq_true n2]; rfl
  have h2 : mInt (.int k) 0 40 = true := by
    show (decide (0 ≤ k) && decide (k ≤ 40)) = true
    rw [decide_eq_true k0, decide_eq_true k1]; rfl
  refine ⟨fun h => ?_, fun _ h => ?_, fun a b e f _ _ _ _ => ?_⟩
  · rw [h1] at h; cases h
  · rw [h2] at h; cases h
  · cases e; cases f; exact q
theorem cnt_list {n : Nat} (h : n < 10) : ((List.range 12).map fun j => PyData.int (ch ((n : Int) + 1) (2 * j))) = (List.range 12).map fun j => PyData.int ((dGet (cn ((subsI n).map (·.items))) ((0 : Int) + (j : Nat))).getD 0) :=
  List.map_congr_left fun j hj => by rw [cnt_ok n h j (List.mem_range.mp hj), Int.zero_add]
theorem eqv_fun {α : Type} (f : α → Int) (L : List α) : PyData.eqv (.list (L.map fun j => .int (f j))) (.list (L.map fun j => .int (f j))) = true := by
  have h := eqv_ints (L.map f) (L.map f)
  rw [intsD, List.map_map, decide_eq_true rfl] at h
  exact h
theorem state1 {n : Int} {h : List Int} (st : IsSt n h) {X : Prop} {Q : Int → List Int → Prop} (q : Q n h) : (∀ n' h', stD' n h = stD' n' h' → IsSt n' h' → Q n' h') ∧ (mState (stD' n h) = false → X) := by
  refine ⟨fun n' h' e _ => ?_, fun z => ?_⟩
  · have := (pair2r st st (X := True) (Q := fun _ _ => True) trivial)
    have e1 : n = n' ∧ h = h' := by
      have z := eqv_st n n' h h'
      rw [e, eqv_st, decide_eq_true ⟨rfl, rfl⟩] at z
      exact of_decide_eq_true z.symm
    obtain ⟨rfl, rfl⟩ := e1
    exact q
  · rw [st.ok] at z
    cases z
theorem dPut_len {κ α : Type} [DecidableEq κ] (l : List (κ × α)) (k : κ) (v : α) : (dPut l k v).length ≤ l.length + 1 := by
  unfold dPut
  split <;> simp
theorem cn_len (hs : List (List Int)) : (cn hs).length ≤ hs.length := by
  suffices h : ∀ (hs : List (List Int)) (d : List (Int × Int)), (hs.foldl cnStep d).length ≤ d.length + hs.length by
    have z := h hs []
    rw [List.length_nil, Nat.zero_add] at z
    exact z
  intro hs
  induction hs with
  | nil => intro d; simp
  | cons h hs ih =>
    intro d
    have h1 := ih (cnStep d h)
    have h2 := dPut_len d (manyL h : Int) ((dGet d (manyL h)).getD 0 + 1)
    have e : (cnStep d h).length ≤ d.length + 1 := h2
    rw [List.foldl_cons, List.length_cons]
    omega
theorem price_from {n : Int} {w : List Int} (sw : IsSt n w) : price [] w 1 1 = (blocksOf w).length := by
  unfold price
  have e : ndl [] w = [] := rfl
  rw [e, if_pos rfl]
  have e2 : hotL [] w = blocksOf w := by
    unfold hotL
    refine List.filter_eq_self.mpr fun c hc => ?_
    have b := blocks_range sw c hc
    unfold tch
    refine List.any_eq_true.mpr ⟨c.1, mem_blkRows.mpr ⟨by omega, by omega⟩, ?_⟩
    simp
  rw [e2]
  omega
theorem price_to {n : Int} {h : List Int} (sh : IsSt n h) : price h [] 1 1 = if h = [] then 0 else 1 := by
  unfold price
  have e : hotL h [] = [] := rfl
  have e2 : coldL h [] = [] := rfl
  rw [e, e2]
  have e3 : ndl h [] = blocksOf h := by
    unfold ndl
    refine List.filter_eq_self.mpr fun c hc => ?_
    have b := blocks_range sh c hc
    rw [Bool.not_eq_true', List.all_eq_false]
    exact ⟨c.1, mem_blkRows.mpr ⟨by omega, by omega⟩, by simp⟩
  rw [e3]
  have gs : ∀ L : List Pr, gapSum 1 1 [] L = 0 := by
    intro L
    induction L with
    | nil => rfl
    | cons a L ih =>
      cases L with
      | nil => rfl
      | cons b L =>
        show min 1 (1 * ((gapN [] a b : Nat) : Int)) + gapSum 1 1 [] (b :: L) = 0
        rw [ih]
        rfl
  rw [gs]
  by_cases z : h = []
  · subst z; rfl
  · rw [if_neg z, if_neg]
    · rfl
    · intro e
      cases h with
      | nil => exact z rfl
      | cons x t =>
        obtain ⟨c, hc, _⟩ := blk_of sh.asc (r := x) List.mem_cons_self
        rw [← mem_blocks sh.asc, e] at hc
        cases hc
end HR
namespace HR
open PySem PySem.Spec L2
open PyProof.Rows hiding St
open PySem.W (Datum Tup T3 T4 SomeDatum)
theorem shaped_lays (L : List (List Int)) : SeqAt.shaped (.list (L.map tupI)) = true := by
  have h := shaped_dat (α := List (Tup Int)) (L.map fun x => ⟨x⟩) (by decide)
  have e : Datum.toD (L.map fun x => (⟨x⟩ : Tup Int)) = .list (L.map tupI) := by
    show PyData.list ((L.map fun x => (⟨x⟩ : Tup Int)).map Datum.toD) = _
    rw [List.map_map]
    rfl
  rw [e] at h
  exact h
/-! the search by layers -/
theorem price_nn (h w : List Int) : 0 ≤ price h w 1 1 := price_nonneg (by decide) (by decide) h w
/-- the state before the last action of a shortest script -/
theorem price_pred {n : Int} {h g : List Int} {d : Int} (st : IsSt n h) (sg : IsSt n g) (d0 : 0 ≤ d) (e : price h g 1 1 = d + 1) : ∃ a act, IsSt n a ∧ price h a 1 1 = d ∧ isAct n act = true ∧ aft a act = some g := by
  obtain ⟨b1, b2, b3⟩ := best_run (p := 1) (q := 1) (by decide) (by decide) st sg
  have bl := best_len st sg
  generalize bestS 1 1 h g = as at *
  have hne : as ≠ [] := fun z => by
    subst z
    simp at bl
    omega
  obtain ⟨bs, act, rfl⟩ : ∃ bs act, as = bs ++ [act] := ⟨as.dropLast, as.getLast hne, (List.dropLast_concat_getLast hne).symm⟩
  rw [List.all_append, Bool.and_eq_true] at b1
  rw [runA_app] at b2
  cases e1 : runA (some h) bs with
  | none =>
    rw [e1] at b2
    cases b2
  | some a =>
    rw [e1, runA_cons] at b2
    have ha : isAct n act = true := by simpa using b1.2
    have e2 : aft a act = some g := b2
    have sa := runA_st st b1.1 e1
    have p1 := price_le (p := 1) (q := 1) (by decide) (by decide) st b1.1 e1
    rw [cost_len] at p1
    have p2 := dist_tri st sa sg
    have p3 := dist_one sa ha e2
    rw [List.length_append] at bl
    simp at bl
    exact ⟨a, act, sa, by omega, ha, e2⟩
/-- what is found while the layer behind d is made -/
structure Lay (n : Int) (h : List Int) (d : Int) (l : List (List Int × Int)) (new : List (List Int)) : Prop where
  nd : (l.map (·.1)).Nodup
  val : ∀ p ∈ l, IsSt n p.1 ∧ p.2 = price h p.1 1 1 ∧ p.2 ≤ d + 1
  all : ∀ g, IsSt n g → price h g 1 1 ≤ d → g ∈ l.map (·.1)
  mem : ∀ g, g ∈ new ↔ g ∈ l.map (·.1) ∧ price h g 1 1 = d + 1
  len : new.length ≤ l.length
def kvD (l : List (List Int × Int)) : List (List Int × D) := l.map fun p => (p.1, .int p.2)
theorem kvD_get (l : List (List Int × Int)) (k : List Int) : dGet (kvD l) k = (dGet l k).map PyData.int := by
  induction l with
  | nil => rfl
  | cons a l ih =>
    by_cases e : a.1 = k
    · unfold dGet kvD
      rw [List.map_cons, List.find?_cons_of_pos (by simpa using e), List.find?_cons_of_pos (by simpa using e)]
      rfl
    · unfold dGet kvD at ih ⊢
      rw [List.map_cons, List.find?_cons_of_neg (by simpa using e), List.find?_cons_of_neg (by simpa using e)]
      exact ih
theorem dGet_none {κ α : Type} [DecidableEq κ] {l : List (κ × α)} {k : κ} : dGet l k = none ↔ k ∉ l.map (·.1) := by
  unfold dGet
  rw [Option.map_eq_none_iff, List.find?_eq_none]
  constructor
  · intro h z
    obtain ⟨p, hp, rfl⟩ := List.mem_map.mp z
    exact h p hp (by simp)
  · intro h p hp z
    exact h (List.mem_map.mpr ⟨p, hp, by simpa using z⟩)
theorem dPut_new {κ α : Type} [DecidableEq κ] {l : List (κ × α)} {k : κ} {v : α} (h : k ∉ l.map (·.1)) : dPut l k v = l ++ [(k, v)] := by
  unfold dPut
  rw [if_neg]
  intro z
  obtain ⟨p, hp, e⟩ := List.any_eq_true.mp z
  exact h (List.mem_map.mpr ⟨p, hp, by simpa using e⟩)
theorem kvD_put {l : List (List Int × Int)} {k : List Int} {v : Int} (h : k ∉ l.map (·.1)) : dPut (kvD l) k (.int v) = kvD (l ++ [(k, v)]) := by
  rw [dPut_new (by unfold kvD; rw [List.map_map]; exact h)]
  unfold kvD
  rw [List.map_append]
  rfl
theorem kvD_at : ∀ {l : List (List Int × Int)}, (l.map (·.1)).Nodup → ∀ p ∈ l, dGet (kvD l) p.1 = some (.int p.2)
  | [], _, p, hp => by cases hp
  | a :: l, nd, p, hp => by
    rw [List.map_cons, List.nodup_cons] at nd
    rw [kvD_get]
    unfold dGet
    rcases List.mem_cons.mp hp with rfl | hp
    · rw [List.find?_cons_of_pos (by simp)]
      rfl
    · have ne : a.1 ≠ p.1 := fun e => nd.1 (e ▸ List.mem_map.mpr ⟨p, hp, rfl⟩)
      rw [List.find?_cons_of_neg (by simpa using ne)]
      have h := kvD_at nd.2 p hp
      rw [kvD_get] at h
      exact h
theorem kvD_keys (l : List (List Int × Int)) : (kvD l).map keyD = l.map fun p => tupI p.1 := by
  unfold kvD
  rw [List.map_map]
  rfl
theorem kvD_some (l : List (List Int × Int)) (g : List Int) : (dGet (kvD l) g).isSome = decide (g ∈ l.map (·.1)) := by
  rw [kvD_get, Option.isSome_map]
  by_cases z : g ∈ l.map (·.1)
  · rw [decide_eq_true z]
    cases e : dGet l g with
    | none => exact absurd z (dGet_none.mp e)
    | some d => rfl
  · rw [decide_eq_false z, dGet_none.mpr z]
    rfl
theorem Lay.layer {n : Int} {h : List Int} {d : Int} {l : List (List Int × Int)} {new : List (List Int)} (L : Lay n h d l new) (L' : Lay n h (d + 1) l []) : ∀ g, g ∈ new ↔ IsSt n g ∧ price h g 1 1 = d + 1 := fun g => by
  rw [L.mem g]
  constructor
  · rintro ⟨z, e⟩
    obtain ⟨p, hp, rfl⟩ := List.mem_map.mp z
    exact ⟨(L.val p hp).1, e⟩
  · rintro ⟨sg, e⟩
    exact ⟨L'.all g sg (by omega), e⟩
theorem Lay.first {n : Int} {h : List Int} (st : IsSt n h) : Lay n h 0 [(h, 0)] [] where
  nd := by simp
  val := fun p hp => by
    rw [List.mem_singleton.mp hp]
    exact ⟨st, (price_self st).symm, show (0 : Int) ≤ 0 + 1 by decide⟩
  all := fun g sg e => by
    have e0 : price h g 1 1 = 0 := by have := price_nn h g; omega
    have : h = g := (price0 st sg).mp e0
    simp [this]
  mem := fun g => by
    constructor
    · intro z; cases z
    · rintro ⟨z, e⟩
      have : g = h := by simpa using z
      subst this
      rw [price_self st] at e
      omega
  len := Nat.zero_le _
/-- one more is found -/
theorem Lay.put {n d : Int} {h a g : List Int} {act : Act} {l : List (List Int × Int)} {new : List (List Int)} (L : Lay n h d l new) (st : IsSt n h) (sa : IsSt n a) (e : price h a 1 1 = d) (hact : isAct n act = true) (ea : aft a act = some g) (hn : g ∉ l.map (·.1)) : Lay n h d (l ++ [(g, d + 1)]) (new ++ [g]) := by
  have sg := aft_st sa hact ea
  have p1 := dist_tri st sa sg
  have p2 := dist_one sa hact ea
  have pg : price h g 1 1 = d + 1 := by
    have : ¬ price h g 1 1 ≤ d := fun z => hn (L.all g sg z)
    omega
  refine ⟨?_, fun p hp => ?_, fun w sw z => ?_, fun w => ?_, ?_⟩
  · rw [List.map_append, List.nodup_append]
    refine ⟨L.nd, by simp, fun x hx y hy z => ?_⟩
    have : y = g := by simpa using hy
    subst this
    subst z
    exact hn hx
  · rcases List.mem_append.mp hp with hp | hp
    · exact L.val p hp
    · rw [List.mem_singleton.mp hp]
      exact ⟨sg, pg.symm, Int.le_refl _⟩
  · rw [List.map_append]
    exact List.mem_append_left _ (L.all w sw z)
  · rw [List.mem_append, List.map_append, List.mem_append, L.mem w]
    constructor
    · rintro (⟨z, e2⟩ | z)
      · exact ⟨.inl z, e2⟩
      · have : w = g := by simpa using z
        subst this
        exact ⟨.inr (by simp), pg⟩
    · rintro ⟨z | z, e2⟩
      · exact .inl ⟨z, e2⟩
      · exact .inr (by simpa using z)
  · have := L.len
    rw [List.length_append, List.length_append]
    simp
    omega
theorem mem_subsI : ∀ (n : Nat) (xs : List Int), (∀ x ∈ xs, 1 ≤ x ∧ x ≤ n) → xs.Pairwise (· < ·) → xs ∈ (subsI n).map (·.items)
  | 0, xs, h, _ => by
    cases xs with
    | nil => exact List.mem_map.mpr ⟨⟨[]⟩, List.mem_singleton.mpr rfl, rfl⟩
    | cons x r =>
      have := h x List.mem_cons_self
      omega
  | n + 1, xs, h, pw => by
    show xs ∈ (subsI n ++ (subsI n).map fun t => (⟨t.items ++ [1 + (n : Int)]⟩ : Tup Int)).map (·.items)
    rw [List.map_append, List.mem_append]
    by_cases z : (1 + (n : Int)) ∈ xs
    · right
      have hne : xs ≠ [] := fun e => by subst e; cases z
      obtain ⟨r, y, rfl⟩ : ∃ r y, xs = r ++ [y] := ⟨xs.dropLast, xs.getLast hne, (List.dropLast_concat_getLast hne).symm⟩
      obtain ⟨p1, _, p3⟩ := List.pairwise_append.mp pw
      have hy : y = 1 + (n : Int) := by
        have hb := h y (by simp)
        rcases List.mem_append.mp z with z | z
        · have := p3 _ z y (by simp)
          omega
        · exact (by simpa using z : 1 + (n : Int) = y).symm
      subst hy
      have ih := mem_subsI n r (fun x hx => ⟨(h x (List.mem_append_left _ hx)).1, by have := p3 x hx _ (by simp : (1 + (n : Int)) ∈ [1 + (n : Int)]); omega⟩) p1
      obtain ⟨t, ht, e⟩ := List.mem_map.mp ih
      exact List.mem_map.mpr ⟨⟨t.items ++ [1 + (n : Int)]⟩, List.mem_map.mpr ⟨t, ht, rfl⟩, by subst e; rfl⟩
    · left
      refine mem_subsI n xs (fun x hx => ⟨(h x hx).1, ?_⟩) pw
      have := (h x hx).2
      have ne : x ≠ 1 + (n : Int) := fun e => z (e ▸ hx)
      omega
theorem Lay.bound {n d : Int} {h : List Int} {l : List (List Int × Int)} {new : List (List Int)} (L : Lay n h d l new) (st : IsSt n h) (n6 : n ≤ 12) : l.length ≤ 4096 := by
  have n1 := st.n1
  have s : l.map (·.1) ⊆ (subsI n.toNat).map (·.items) := fun g hg => by
    obtain ⟨p, hp, rfl⟩ := List.mem_map.mp hg
    have sg := (L.val p hp).1
    exact mem_subsI _ _ (fun x hx => by have := sg.rows x hx; omega) sg.asc
  have b := List.Nodup.length_le_of_subset L.nd s
  rw [List.length_map, List.length_map, subsI_len] at b
  exact Nat.le_trans b (Nat.le_trans (Nat.pow_le_pow_right (by decide) (show n.toNat ≤ 12 by omega)) (by decide))
/-- a layer is done -/
theorem Lay.next {n d : Int} {h : List Int} {l : List (List Int × Int)} {new : List (List Int)} (L : Lay n h d l new) (st : IsSt n h) (d0 : 0 ≤ d) (done : ∀ a, IsSt n a → price h a 1 1 = d → ∀ act, isAct n act = true → ∀ g, aft a act = some g → g ∈ l.map (·.1)) : Lay n h (d + 1) l [] := by
  refine ⟨L.nd, fun p hp => ?_, fun g sg z => ?_, fun g => ?_, Nat.zero_le _⟩
  · obtain ⟨a, b, c⟩ := L.val p hp
    exact ⟨a, b, by omega⟩
  · by_cases q : price h g 1 1 ≤ d
    · exact L.all g sg q
    · obtain ⟨a, act, sa, ea, ha, e2⟩ := price_pred st sg d0 (show price h g 1 1 = d + 1 by omega)
      exact done a sa ea act ha g e2
  · constructor
    · intro z; cases z
    · rintro ⟨z, e⟩
      obtain ⟨p, hp, rfl⟩ := List.mem_map.mp z
      obtain ⟨_, b, c⟩ := L.val p hp
      omega
/-- an empty layer: all is found -/
theorem Lay.whole {n d : Int} {h : List Int} {l : List (List Int × Int)} {new : List (List Int)} (L : Lay n h d l new) (st : IsSt n h) (d0 : 0 ≤ d) (none : ∀ g, IsSt n g → price h g 1 1 ≠ d) : ∀ g, IsSt n g → g ∈ l.map (·.1) := by
  have key : ∀ (k : Nat) (g : List Int), IsSt n g → price h g 1 1 ≠ d + k := by
    intro k
    induction k with
    | zero => intro g sg e; exact none g sg (by simpa using e)
    | succ k ih =>
      intro g sg e
      obtain ⟨a, act, sa, ea, _, _⟩ := price_pred st sg (d := d + k) (by omega) (by rw [e]; push_cast; omega)
      exact ih a sa ea
  intro g sg
  refine L.all g sg ?_
  refine Classical.byContradiction fun z => ?_
  exact key (price h g 1 1 - d).toNat g sg (by omega)
end HR
namespace HR
open PySem PySem.Spec L2
open PyProof.Rows hiding St
open PySem.W (Datum Tup T3 T4 SomeDatum)
/-! states at a distance -/
theorem subsI_nodup : ∀ n : Nat, ((subsI n).map (·.items)).Nodup
  | 0 => by simp [subsI]
  | n + 1 => by
    have ih := subsI_nodup n
    show ((subsI n ++ (subsI n).map fun t : Tup Int => (⟨t.items ++ [1 + (n : Int)]⟩ : Tup Int)).map (·.items)).Nodup
    rw [List.map_append, List.map_map, List.nodup_append]
    refine ⟨ih, ?_, ?_⟩
    · have e : (subsI n).map ((·.items) ∘ fun t : Tup Int => (⟨t.items ++ [1 + (n : Int)]⟩ : Tup Int)) = ((subsI n).map (·.items)).map (· ++ [1 + (n : Int)]) := by rw [List.map_map]; rfl
      rw [e]
      refine List.Pairwise.map _ (fun a b h => ?_) ih
      intro z
      exact h (List.append_cancel_right z)
    · intro x hx y hy z
      obtain ⟨t, ht, rfl⟩ := List.mem_map.mp hx
      obtain ⟨u, hu, rfl⟩ := List.mem_map.mp hy
      have h1 := (subsI_asc n t ht).1 (1 + (n : Int)) (by rw [z]; simp)
      omega
def stsOf (n : Int) : List (List Int) := (allH n.toNat).map (·.items)
theorem stsOf_perm (n : Int) : (stsOf n).Perm ((subsI n.toNat).map (·.items)) := (List.mergeSort_perm _ _).map _
theorem stsOf_nodup (n : Int) : (stsOf n).Nodup := (stsOf_perm n).nodup_iff.mpr (subsI_nodup _)
theorem mem_stsOf {n : Int} (n1 : 1 ≤ n) (n2 : n ≤ 40) {g : List Int} : g ∈ stsOf n ↔ IsSt n g := by
  constructor
  · intro h
    obtain ⟨t, ht, rfl⟩ := List.mem_map.mp h
    have := allH_st (n := n.toNat) (by omega) (by omega) ht
    rwa [show ((n.toNat : Nat) : Int) = n by omega] at this
  · intro sg
    refine (stsOf_perm n).mem_iff.mpr (mem_subsI _ _ (fun x hx => ?_) sg.asc)
    have := sg.rows x hx
    omega
theorem stsOf_len (n : Int) : (stsOf n).length = 2 ^ n.toNat := by
  rw [(stsOf_perm n).length_eq, List.length_map, subsI_len]
def cntS (n : Int) (h : List Int) (k : Int) : Nat := ((stsOf n).filter fun g => decide (price h g 1 1 = k)).length
theorem found_perm {n : Int} {h : List Int} (st : IsSt n h) {l : List (List Int × Int)} (nd : (l.map (·.1)).Nodup) (val : ∀ p ∈ l, IsSt n p.1 ∧ p.2 = price h p.1 1 1) (all : ∀ g, IsSt n g → g ∈ l.map (·.1)) : (l.map (·.2)).Perm ((stsOf n).map fun g => price h g 1 1) := by
  have e : l.map (·.2) = (l.map (·.1)).map fun g => price h g 1 1 := by
    rw [List.map_map]
    exact List.map_congr_left fun p hp => (val p hp).2
  rw [e]
  refine List.Perm.map _ ((List.perm_ext_iff_of_nodup nd (stsOf_nodup n)).mpr fun g => ?_)
  rw [mem_stsOf st.n1 st.n2]
  constructor
  · intro z
    obtain ⟨p, hp, rfl⟩ := List.mem_map.mp z
    exact (val p hp).1
  · exact all g
theorem found_cnt {n : Int} {h : List Int} {l : List (List Int × Int)} (pm : (l.map (·.2)).Perm ((stsOf n).map fun g => price h g 1 1)) (k : Int) : ((l.map (·.2)).filter fun x => decide (x = k)).length = cntS n h k := by
  rw [(pm.filter _).length_eq, List.filter_map, List.length_map]
  rfl
theorem found_len {n : Int} {h : List Int} {l : List (List Int × Int)} (pm : (l.map (·.2)).Perm ((stsOf n).map fun g => price h g 1 1)) : l.length = 2 ^ n.toNat := by
  have := pm.length_eq
  rw [List.length_map, List.length_map, stsOf_len] at this
  exact this
/-- the largest distance -/
def IsFar (n : Int) (h : List Int) (m : Int) : Prop := m ∈ (stsOf n).map (fun g => price h g 1 1) ∧ ∀ y ∈ (stsOf n).map (fun g => price h g 1 1), y ≤ m
theorem IsFar.eq {n : Int} {h : List Int} {m k : Int} (a : IsFar n h m) (b : IsFar n h k) : m = k := Int.le_antisymm (b.2 m a.1) (a.2 k b.1)
theorem found_far {n : Int} {h : List Int} {l : List (List Int × Int)} (pm : (l.map (·.2)).Perm ((stsOf n).map fun g => price h g 1 1)) {m : Int} (h1 : m ∈ l.map (·.2)) (h2 : ∀ y ∈ l.map (·.2), y ≤ m) : IsFar n h m :=
  ⟨pm.mem_iff.mp h1, fun y hy => h2 y (pm.mem_iff.mpr hy)⟩
theorem isSt_len {n : Int} {h : List Int} (st : IsSt n h) : (h.length : Int) ≤ n := by
  have := asc_len st.asc st.rows (by have := st.n1; omega)
  omega
theorem price_small {n : Int} {h g : List Int} (st : IsSt n h) (sg : IsSt n g) : price h g 1 1 ≤ 2 * n + 1 := by
  rw [price_11]
  have a1 : (hotL h g).length ≤ (blocksOf g).length := List.length_filter_le _ _
  have a2 := blocksOf_len g
  have a3 := isSt_len sg
  have b1 : (partL h g).length ≤ (gapsOf h g).length := by
    unfold partL
    rw [List.length_map]
    exact List.length_filter_le _ _
  have b2 : (gapsOf h g).length ≤ (ndl h g).length := gapsR_len _ _
  have b3 : (ndl h g).length ≤ (blocksOf h).length := List.length_filter_le _ _
  have b4 := blocksOf_len h
  have b5 := isSt_len st
  split <;> omega
theorem cntS_none {n k : Int} {h : List Int} (st : IsSt n h) (hk : 2 * n + 1 < k) : cntS n h k = 0 := by
  unfold cntS
  rw [List.filter_eq_nil_iff.mpr, List.length_nil]
  intro g hg z
  have := price_small st ((mem_stsOf st.n1 st.n2).mp hg)
  have := of_decide_eq_true z
  omega
theorem blk_half : ∀ {L : List (Int × Int)} {a n : Int}, L.Pairwise (fun c d => c.2 + 1 < d.1) → (∀ c ∈ L, a ≤ c.1 ∧ c.1 ≤ c.2 ∧ c.2 ≤ n) → a ≤ n + 2 → 2 * (L.length : Int) ≤ n - a + 2
  | [], a, n, _, _, h => by simp; omega
  | c :: L, a, n, pw, hb, _ => by
    obtain ⟨p1, p2⟩ := List.pairwise_cons.mp pw
    obtain ⟨c1, c2, c3⟩ := hb c List.mem_cons_self
    have ih := blk_half (a := c.2 + 2) (n := n) p2 (fun d hd => ⟨by have := p1 d hd; omega, (hb d (List.mem_cons_of_mem _ hd)).2⟩) (by omega)
    rw [List.length_cons]
    push_cast
    omega
theorem blocks_half {n : Int} {g : List Int} (sg : IsSt n g) : 2 * ((blocksOf g).length : Int) ≤ n + 1 := by
  have := blk_half (a := 1) (n := n) (blocks_pw sg.asc) (blocks_range sg) (by have := sg.n1; omega)
  omega
theorem far_open {n m : Int} {g : List Int} (sg : IsSt n g) (e : ((blocksOf g).length : Int) = m) (hm : n + 1 < 2 * m + 2) : IsFar n [] m := by
  refine ⟨List.mem_map.mpr ⟨g, (mem_stsOf sg.n1 sg.n2).mpr sg, by rw [price_from sg, e]⟩, fun y hy => ?_⟩
  obtain ⟨w, hw, rfl⟩ := List.mem_map.mp hy
  have sw := (mem_stsOf sg.n1 sg.n2).mp hw
  have := blocks_half sw
  rw [price_from sw]
  omega
def oddL (j : Nat) : List Int := (List.range ((j + 2) / 2)).map fun i : Nat => 2 * (i : Int) + 1
theorem odd_ok : ∀ j : Nat, j < 8 → isRows (1 + (j : Int)) (oddL j) = true ∧ (blocksOf (oddL j)).length = (j + 2) / 2 := by decide +kernel
theorem far_eight {j : Nat} (hj : j < 8) : IsFar (1 + (j : Int)) [] (((j : Int) + 2) / 2) := by
  obtain ⟨h1, h2⟩ := odd_ok j hj
  have st : IsSt (1 + (j : Int)) (oddL j) := ⟨by omega, by omega, (isRows_iff.mp h1).1, (isRows_iff.mp h1).2⟩
  exact far_open st (by rw [h2]; omega) (by omega)
theorem allH1 : allH 1 = [⟨[]⟩, ⟨[1]⟩] := allH_is (by decide) (by decide)
theorem far_one : IsFar 1 [1] 1 := by
  unfold IsFar stsOf
  rw [show ((1 : Int).toNat) = 1 from rfl, allH1]
  decide +kernel
theorem cnt_a : cntS 2 [1, 2] 1 = 1 ∧ cntS 2 [1, 2] 2 = 2 := by
  unfold cntS stsOf
  rw [show ((2 : Int).toNat) = 2 from rfl, allH2]
  decide +kernel
theorem from_args {n k : Int} {h : List Int} (st : IsSt n h) (k0 : 0 ≤ k) (k1 : k ≤ 40) (n8 : n ≤ 8) {X Y Z : Prop} {Q : Int → List Int → Int → Prop} (q : Q n h k) : (mState (stD' n h) = false → X) ∧ (mState (stD' n h) = true → mInt (.int k) 0 40 = false → Y) ∧ ∀ n' h' k', stD' n h = stD' n' h' → PyData.int k = .int k' → IsSt n' h' → 0 ≤ k' → k' ≤ 40 → (8 < n' → Z) ∧ (n' ≤ 8 → Q n' h' k') := by
  refine ⟨fun z => ?_, fun _ z => ?_, fun n' h' k' e1 e2 _ _ _ => ?_⟩
  · rw [st.ok] at z
    cases z
  · have z : (decide (0 ≤ k) && decide (k ≤ 40)) = false := z
    rw [decide_eq_true k0, decide_eq_true k1] at z
    cases z
  · obtain ⟨rfl, rfl⟩ := st_inj e1
    cases e2
    exact ⟨fun z => absurd n8 (by omega), fun _ => q⟩
theorem far_args {n : Int} {h : List Int} (st : IsSt n h) (n8 : n ≤ 8) {X Z : Prop} {Q : Int → List Int → Prop} (q : Q n h) : (mState (stD' n h) = false → X) ∧ ∀ n' h', stD' n h = stD' n' h' → IsSt n' h' → (8 < n' → Z) ∧ (n' ≤ 8 → Q n' h') := by
  refine ⟨fun z => ?_, fun n' h' e1 _ => ?_⟩
  · rw [st.ok] at z
    cases z
  · obtain ⟨rfl, rfl⟩ := st_inj e1
    exact ⟨fun z => absurd n8 (by omega), fun _ => q⟩
theorem isSt_open {n : Int} (n1 : 1 ≤ n) (n2 : n ≤ 40) : IsSt n [] := ⟨n1, n2, fun x hx => (by cases hx), .nil⟩
theorem eqD_ints {s t : SV} {δ : Env} {Q : VD} (a b : List Int) (h1 : DataR s δ (.list (intsD a))) (h2 : DataR t δ (.list (intsD b))) (q : Q (.val (.bool (decide (a = b)))) δ) : eqD s t δ Q := eqD_dat (α := List Int) a b h1 h2 q
theorem neD_ints {s t : SV} {δ : Env} {Q : VD} (a b : List Int) (h1 : DataR s δ (.list (intsD a))) (h2 : DataR t δ (.list (intsD b))) (q : Q (.val (.bool (!decide (a = b)))) δ) : neD s t δ Q := neD_dat (α := List Int) a b h1 h2 q
end HR
namespace HR
open PySem PySem.Spec L2
open PyProof.Rows hiding St
open PySem.W (Datum Tup T3 T4 SomeDatum listLt DatumOrd)
/-! states numbered -/
theorem ch_pascalN : ∀ m : Nat, m < 41 → ∀ k : Nat, k < 41 → ch ((m : Int) + 1) (k + 1) = ch (m : Int) k + ch (m : Int) (k + 1) := by decide +kernel
theorem ch_nnN : ∀ m : Nat, m < 42 → ∀ k : Nat, k < 42 → 0 ≤ ch (m : Int) k := by decide +kernel
theorem ch_pascal {m : Int} (m0 : 0 ≤ m) (m1 : m ≤ 40) {k : Nat} (hk : k < 41) : ch (m + 1) (k + 1) = ch m k + ch m (k + 1) := by
  obtain ⟨m, rfl⟩ := Int.eq_ofNat_of_zero_le m0
  exact ch_pascalN m (by omega) k hk
theorem ch_nn {m : Int} (m0 : 0 ≤ m) (m1 : m ≤ 41) {k : Nat} (hk : k < 42) : 0 ≤ ch m k := by
  obtain ⟨m, rfl⟩ := Int.eq_ofNat_of_zero_le m0
  exact ch_nnN m (by omega) k hk
theorem ch_zero (m : Int) : ch m 0 = 1 := rfl
theorem ch_none {m : Int} (m0 : 0 ≤ m) : ∀ d : Nat, ch m (m.toNat + 1 + d) = 0
  | 0 => by
    rw [Nat.add_zero, ch_succ, show m - ((m.toNat : Nat) : Int) = 0 by omega, Int.mul_zero, Int.zero_ediv]
  | d + 1 => by
    rw [← Nat.add_assoc, ch_succ, ch_none m0 d, Int.zero_mul, Int.zero_ediv]
theorem ch_gt {m : Int} (m0 : 0 ≤ m) {k : Nat} (h : m < k) : ch m k = 0 := by
  have := ch_none m0 (k - (m.toNat + 1))
  rwa [show m.toNat + 1 + (k - (m.toNat + 1)) = k by omega] at this
theorem ch_mono1 {m : Int} (m0 : 0 ≤ m) (m1 : m ≤ 40) {k : Nat} (hk : k < 42) : ch m k ≤ ch (m + 1) k := by
  cases k with
  | zero => exact Int.le_refl _
  | succ k =>
    rw [ch_pascal m0 m1 (by omega)]
    have := ch_nn m0 (by omega) (k := k) (by omega)
    omega
theorem ch_mono {m : Int} (m0 : 0 ≤ m) {k : Nat} (hk : k < 42) : ∀ d : Nat, m + d ≤ 41 → ch m k ≤ ch (m + d) k
  | 0, _ => by simp
  | d + 1, h => by
    have h1 := ch_mono m0 hk d (by omega)
    have h2 := ch_mono1 (m := m + d) (by omega) (by omega) hk
    rw [show m + ((d + 1 : Nat) : Int) = m + d + 1 by omega]
    omega
/-- the numbers of the states whose next line is before an edge -/
def sumC (n low : Int) (cnt k : Nat) : Int := ((List.range cnt).map fun i : Nat => ch (n - (low + (i : Int))) k).sum
theorem sumC_eq {n low : Int} {k : Nat} (hk : k < 41) (n40 : n ≤ 40) (l0 : 0 ≤ low) : ∀ cnt : Nat, low + cnt ≤ n + 1 → sumC n low cnt k = ch (n + 1 - low) (k + 1) - ch (n + 1 - (low + cnt)) (k + 1)
  | 0, _ => by simp [sumC]
  | c + 1, h => by
    have ih := sumC_eq hk n40 l0 c (by omega)
    have e : sumC n low (c + 1) k = sumC n low c k + ch (n - (low + (c : Int))) k := by
      unfold sumC
      rw [List.range_succ, List.map_append, List.sum_append]
      simp
    have p := ch_pascal (m := n - (low + c)) (by omega) (by omega) (k := k) hk
    rw [show n - (low + (c : Int)) + 1 = n + 1 - (low + c) by omega] at p
    rw [e, ih, p, show n + 1 - (low + ((c + 1 : Nat) : Int)) = n - (low + c) by omega]
    omega
def rank (n : Int) : Int → List Int → Int
  | _, [] => 0
  | low, e :: es => sumC n low (e - low).toNat es.length + rank n (e + 1) es
structure Ed (n low : Int) (es : List Int) : Prop where
  asc : es.Pairwise (· < ·)
  rows : ∀ e ∈ es, low ≤ e ∧ e ≤ n
theorem Ed.tail {n low e : Int} {es : List Int} (h : Ed n low (e :: es)) : Ed n (e + 1) es := by
  obtain ⟨p1, p2⟩ := List.pairwise_cons.mp h.asc
  exact ⟨p2, fun x hx => ⟨by have := p1 x hx; omega, (h.rows x (List.mem_cons_of_mem _ hx)).2⟩⟩
theorem Ed.len {n low : Int} {es : List Int} (h : Ed n low es) (hl : low ≤ n + 1) : (es.length : Int) ≤ n + 1 - low := by
  have := asc_len h.asc h.rows hl
  omega
theorem rank_eq {n low e : Int} {es : List Int} (n40 : n ≤ 40) (l0 : 0 ≤ low) (h : Ed n low (e :: es)) : rank n low (e :: es) = ch (n + 1 - low) (es.length + 1) - ch (n + 1 - e) (es.length + 1) + rank n (e + 1) es := by
  have r := h.rows e List.mem_cons_self
  have l := h.tail.len (by omega)
  show sumC n low (e - low).toNat es.length + _ = _
  rw [sumC_eq (by omega) n40 l0 _ (by omega), show low + (((e - low).toNat : Nat) : Int) = e by omega]
theorem rank_lt {n : Int} (n40 : n ≤ 40) : ∀ {es : List Int} {low : Int}, 0 ≤ low → low ≤ n + 1 → Ed n low es → 0 ≤ rank n low es ∧ rank n low es < ch (n + 1 - low) es.length
  | [], low, _, _, _ => ⟨Int.le_refl _, by show (0 : Int) < 1; decide⟩
  | e :: es, low, l0, l1, h => by
    have r := h.rows e List.mem_cons_self
    have l := h.tail.len (by omega)
    obtain ⟨i1, i2⟩ := rank_lt n40 (low := e + 1) (by omega) (by omega) h.tail
    have p := ch_pascal (m := n - e) (by omega) (by omega) (k := es.length) (by omega)
    have q := ch_nn (m := n - e) (by omega) (by omega) (k := es.length + 1) (by omega)
    have mo := ch_mono (m := n + 1 - e) (by omega) (k := es.length + 1) (by omega) (e - low).toNat (by omega)
    rw [show n + 1 - e + (((e - low).toNat : Nat) : Int) = n + 1 - low by omega] at mo
    rw [show n - e + 1 = n + 1 - e by omega] at p
    rw [show n + 1 - (e + 1) = n - e by omega] at i2
    rw [rank_eq n40 l0 h, List.length_cons]
    omega
theorem rank_here {n e : Int} {es : List Int} (h : Ed n e (e :: es)) : rank n e (e :: es) = rank n (e + 1) es := by
  show sumC n e (e - e).toNat es.length + _ = _
  rw [Int.sub_self]
  simp [sumC]
theorem rank_step {n low e : Int} {es : List Int} (n40 : n ≤ 40) (l0 : 0 ≤ low) (h : Ed n low (e :: es)) (hl : low < e) : rank n low (e :: es) = ch (n - low) es.length + rank n (low + 1) (e :: es) := by
  have r := h.rows e List.mem_cons_self
  have l := h.tail.len (by omega)
  have h2 : Ed n (low + 1) (e :: es) := ⟨h.asc, fun x hx => ⟨by
    rcases List.mem_cons.mp hx with rfl | hx
    · omega
    · have := (h.tail.rows x hx).1; omega, (h.rows x hx).2⟩⟩
  have p := ch_pascal (m := n - low) (by omega) (by omega) (k := es.length) (by omega)
  rw [rank_eq n40 l0 h, rank_eq n40 (by omega) h2, show n + 1 - (low + 1) = n - low by omega]
  rw [show n - low + 1 = n + 1 - low by omega] at p
  omega
theorem rank_onto {n : Int} (n40 : n ≤ 40) : ∀ (d : Nat) (low : Int) (k : Nat) (p : Int), 0 ≤ low → low + d = n + 1 → k < 41 ∨ k = 41 → 0 ≤ p → p < ch (n + 1 - low) k → ∃ es, Ed n low es ∧ es.length = k ∧ rank n low es = p
  | d, low, 0, p, _, _, _, p0, p1 => by
    have : p < 1 := p1
    exact ⟨[], ⟨.nil, fun _ h => (by cases h)⟩, rfl, by show (0 : Int) = p; omega⟩
  | 0, low, k + 1, p, l0, e, _, p0, p1 => by
    rw [show n + 1 - low = 0 by omega, ch_gt (by decide) (by omega)] at p1
    omega
  | d + 1, low, k + 1, p, l0, e, hk, p0, p1 => by
    have pa := ch_pascal (m := n - low) (by omega) (by omega) (k := k) (by omega)
    rw [show n - low + 1 = n + 1 - low by omega] at pa
    by_cases z : p < ch (n - low) k
    · obtain ⟨es, h1, h2, h3⟩ := rank_onto n40 d (low + 1) k p (by omega) (by omega) (by omega) p0 (by rw [show n + 1 - (low + 1) = n - low by omega]; exact z)
      have h : Ed n low (low :: es) := ⟨List.pairwise_cons.mpr ⟨fun x hx => by have := (h1.rows x hx).1; omega, h1.asc⟩, fun x hx => by
        rcases List.mem_cons.mp hx with rfl | hx
        · omega
        · have := h1.rows x hx; omega⟩
      exact ⟨low :: es, h, by simp [h2], by rw [rank_here h]; exact h3⟩
    · obtain ⟨es, h1, h2, h3⟩ := rank_onto n40 d (low + 1) (k + 1) (p - ch (n - low) k) (by omega) (by omega) hk (by omega) (by rw [show n + 1 - (low + 1) = n - low by omega]; omega)
      cases es with
      | nil => simp at h2
      | cons x es =>
        have lx := (h1.rows x List.mem_cons_self).1
        have h : Ed n low (x :: es) := ⟨h1.asc, fun y hy => by have := h1.rows y hy; omega⟩
        refine ⟨x :: es, h, h2, ?_⟩
        rw [rank_step n40 l0 h (by omega), h3]
        have : es.length = k := by simpa using h2
        rw [this]
        omega
theorem rank_mono {n : Int} (n40 : n ≤ 40) : ∀ {es fs : List Int} {low : Int}, 0 ≤ low → low ≤ n + 1 → Ed n low es → Ed n low fs → es.length = fs.length → listLt es fs = true → rank n low es < rank n low fs
  | [], [], _, _, _, _, _, _, h => by simp [listLt] at h
  | [], _ :: _, _, _, _, _, _, h, _ => by simp at h
  | _ :: _, [], _, _, _, _, _, h, _ => by simp at h
  | e :: es, f :: fs, low, l0, l1, h1, h2, hl, h => by
    have hl' : es.length = fs.length := by simpa using hl
    have re := h1.rows e List.mem_cons_self
    have rf := h2.rows f List.mem_cons_self
    have le := h1.tail.len (by omega)
    rw [rank_eq n40 l0 h1, rank_eq n40 l0 h2, ← hl']
    unfold listLt at h
    by_cases z : e = f
    · subst z
      rw [if_pos rfl] at h
      have := rank_mono n40 (low := e + 1) (by omega) (by omega) h1.tail h2.tail hl' h
      omega
    · rw [if_neg z] at h
      have h : e < f := of_decide_eq_true h
      obtain ⟨_, i2⟩ := rank_lt n40 (low := e + 1) (by omega) (by omega) h1.tail
      obtain ⟨j1, _⟩ := rank_lt n40 (low := f + 1) (by omega) (by omega) h2.tail
      have p := ch_pascal (m := n - e) (by omega) (by omega) (k := es.length) (by omega)
      rw [show n - e + 1 = n + 1 - e by omega] at p
      rw [show n + 1 - (e + 1) = n - e by omega] at i2
      have mo := ch_mono (m := n + 1 - f) (by omega) (k := es.length + 1) (by omega) (f - e - 1).toNat (by omega)
      rw [show n + 1 - f + (((f - e - 1).toNat : Nat) : Int) = n - e by omega] at mo
      omega
theorem listLt_tri : ∀ {es fs : List Int}, es.length = fs.length → es ≠ fs → listLt es fs = true ∨ listLt fs es = true
  | [], [], _, h => absurd rfl h
  | [], _ :: _, h, _ => by simp at h
  | _ :: _, [], h, _ => by simp at h
  | e :: es, f :: fs, hl, h => by
    unfold listLt
    by_cases z : e = f
    · subst z
      rw [if_pos rfl, if_pos rfl]
      exact listLt_tri (by simpa using hl) fun w => h (by rw [w])
    · rw [if_neg z, if_neg (fun w => z w.symm)]
      rcases Int.lt_or_gt_of_ne z with w | w
      · exact .inl (decide_eq_true w)
      · exact .inr (decide_eq_true w)
theorem rank_inj {n low : Int} (n40 : n ≤ 40) (l0 : 0 ≤ low) (l1 : low ≤ n + 1) {es fs : List Int} (h1 : Ed n low es) (h2 : Ed n low fs) (hl : es.length = fs.length) (e : rank n low es = rank n low fs) : es = fs := by
  refine Classical.byContradiction fun z => ?_
  rcases listLt_tri hl z with w | w
  · have := rank_mono n40 l0 l1 h1 h2 hl w
    omega
  · have := rank_mono n40 l0 l1 h2 h1 hl.symm w
    omega
/-! edges, ends, rows -/
def edgesOf (h : List Int) : List Int := (blocksOf h).flatMap fun c => [c.1 - 1, c.2]
def endsOf (h : List Int) : List Int := (blocksOf h).flatMap fun c => [c.1, c.2]
def pairsOf : List Int → List (Int × Int)
  | a :: b :: r => (a + 1, b) :: pairsOf r
  | _ => []
def hidOf (E : List Int) : List Int := (pairsOf E).flatMap blkRows
theorem edges_pairs : ∀ L : List (Int × Int), pairsOf (L.flatMap fun c => [c.1 - 1, c.2]) = L
  | [] => rfl
  | c :: L => by
    rw [List.flatMap_cons]
    show (c.1 - 1 + 1, c.2) :: pairsOf (L.flatMap _) = _
    rw [edges_pairs L, Int.sub_add_cancel]
theorem pairs_edges : ∀ (r : Nat) (E : List Int), E.length = 2 * r → (pairsOf E).flatMap (fun c => [c.1 - 1, c.2]) = E ∧ (pairsOf E).length = r
  | 0, [], _ => ⟨rfl, rfl⟩
  | r + 1, a :: b :: E, h => by
    obtain ⟨h1, h2⟩ := pairs_edges r E (by simp at h; omega)
    refine ⟨?_, by show (pairsOf E).length + 1 = _; rw [h2]⟩
    show [a + 1 - 1, b] ++ (pairsOf E).flatMap _ = _
    rw [h1, Int.add_sub_cancel]
    rfl
  | 0, _ :: _, h => by simp at h
  | r + 1, [], h => by simp at h
  | r + 1, [_], h => by simp at h; omega
theorem flat2_len (f g : Int × Int → Int) : ∀ L : List (Int × Int), (L.flatMap fun c => [f c, g c]).length = 2 * L.length
  | [] => rfl
  | c :: L => by
    rw [List.flatMap_cons, List.length_append, flat2_len f g L, List.length_cons]
    simp
    omega
theorem edges_ed {n : Int} : ∀ {L : List (Int × Int)} {low : Int}, L.Pairwise (fun c d => c.2 + 1 < d.1) → (∀ c ∈ L, low + 1 ≤ c.1 ∧ c.1 ≤ c.2 ∧ c.2 ≤ n) → Ed n low (L.flatMap fun c => [c.1 - 1, c.2])
  | [], _, _, _ => ⟨.nil, fun _ h => (by cases h)⟩
  | c :: L, low, pw, hb => by
    obtain ⟨p1, p2⟩ := List.pairwise_cons.mp pw
    obtain ⟨c1, c2, c3⟩ := hb c List.mem_cons_self
    have ih := edges_ed (n := n) (low := c.2 + 1) p2 fun d hd => ⟨by have := p1 d hd; omega, (hb d (List.mem_cons_of_mem _ hd)).2⟩
    rw [List.flatMap_cons]
    refine ⟨List.pairwise_cons.mpr ⟨fun x hx => ?_, List.pairwise_cons.mpr ⟨fun x hx => ?_, ih.asc⟩⟩, fun x hx => ?_⟩
    · rcases List.mem_cons.mp hx with rfl | hx
      · omega
      · have := (ih.rows x hx).1; omega
    · have := (ih.rows x hx).1; omega
    · rcases List.mem_cons.mp hx with rfl | hx
      · omega
      · rcases List.mem_cons.mp hx with rfl | hx
        · omega
        · have := ih.rows x hx; omega
theorem edgesOf_ed {n : Int} {h : List Int} (st : IsSt n h) : Ed n 0 (edgesOf h) := edges_ed (blocks_pw st.asc) (blocks_range st)
theorem edgesOf_len (h : List Int) : (edgesOf h).length = 2 * (blocksOf h).length := flat2_len _ _ _
theorem endsOf_len (h : List Int) : (endsOf h).length = 2 * (blocksOf h).length := flat2_len _ _ _
theorem rows_blocks {n : Int} {h : List Int} (st : IsSt n h) : (blocksOf h).flatMap blkRows = h := by
  refine asc_ext (flat_asc (blocks_pw st.asc) fun c hc => (blocks_range st c hc).2.1) st.asc fun r => ?_
  rw [List.mem_flatMap]
  constructor
  · rintro ⟨c, hc, hr⟩
    have hr := mem_blkRows.mp hr
    exact ((mem_blocks st.asc).mp hc).all r hr.1 hr.2
  · intro hr
    obtain ⟨c, b, h1, h2⟩ := blk_of st.asc hr
    exact ⟨c, (mem_blocks st.asc).mpr b, mem_blkRows.mpr ⟨h1, h2⟩⟩
theorem hid_edges {n : Int} {h : List Int} (st : IsSt n h) : hidOf (edgesOf h) = h := by
  unfold hidOf edgesOf
  rw [edges_pairs, rows_blocks st]
theorem pairs_pw {n : Int} : ∀ (r : Nat) {E : List Int} {low : Int}, E.length = 2 * r → Ed n low E → (pairsOf E).Pairwise (fun c d => c.2 + 1 < d.1) ∧ ∀ c ∈ pairsOf E, low + 1 ≤ c.1 ∧ c.1 ≤ c.2 ∧ c.2 ≤ n
  | 0, [], _, _, _ => ⟨.nil, fun _ h => (by cases h)⟩
  | r + 1, a :: b :: E, low, hl, h => by
    obtain ⟨h1, h2⟩ := pairs_pw r (E := E) (low := b + 1) (by simp at hl; omega) h.tail.tail
    have ra := h.rows a List.mem_cons_self
    have rb := h.tail.rows b List.mem_cons_self
    refine ⟨List.pairwise_cons.mpr ⟨fun d hd => ?_, h1⟩, fun c hc => ?_⟩
    · have := (h2 d hd).1
      show b + 1 < d.1
      omega
    · rcases List.mem_cons.mp hc with rfl | hc
      · exact ⟨by show low + 1 ≤ a + 1; omega, by show a + 1 ≤ b; omega, rb.2⟩
      · have := h2 c hc
        omega
  | 0, _ :: _, _, h, _ => by simp at h
  | r + 1, [], _, h, _ => by simp at h
  | r + 1, [_], _, h, _ => by simp at h; omega
theorem blk_flat {L : List (Int × Int)} (pw : L.Pairwise (fun c d => c.2 + 1 < d.1)) (hl : ∀ c ∈ L, c.1 ≤ c.2) : L = blocksOf (L.flatMap blkRows) := by
  have asc := flat_asc pw hl
  have mem : ∀ r, r ∈ L.flatMap blkRows ↔ ∃ c ∈ L, c.1 ≤ r ∧ r ≤ c.2 := fun r => by
    rw [List.mem_flatMap]
    exact ⟨fun ⟨c, hc, h⟩ => ⟨c, hc, mem_blkRows.mp h⟩, fun ⟨c, hc, h⟩ => ⟨c, hc, mem_blkRows.mpr h⟩⟩
  have apart : ∀ c ∈ L, ∀ d ∈ L, c = d ∨ c.2 + 1 < d.1 ∨ d.2 + 1 < c.1 := by
    intro c hc d hd
    obtain ⟨i, hi, rfl⟩ := List.getElem_of_mem hc
    obtain ⟨j, hj, rfl⟩ := List.getElem_of_mem hd
    rcases Nat.lt_trichotomy i j with z | z | z
    · exact .inr (.inl (List.pairwise_iff_getElem.mp pw i j hi hj z))
    · subst z; exact .inl rfl
    · exact .inr (.inr (List.pairwise_iff_getElem.mp pw j i hj hi z))
  have blk : ∀ c ∈ L, IsBlk (L.flatMap blkRows) c := fun c hc => by
    have lc := hl c hc
    refine ⟨lc, fun r h1 h2 => (mem r).mpr ⟨c, hc, h1, h2⟩, fun z => ?_, fun z => ?_⟩
    · obtain ⟨d, hd, h1, h2⟩ := (mem _).mp z
      have ld := hl d hd
      rcases apart c hc d hd with rfl | w | w <;> omega
    · obtain ⟨d, hd, h1, h2⟩ := (mem _).mp z
      have ld := hl d hd
      rcases apart c hc d hd with rfl | w | w <;> omega
  refine blocks_is asc (pw.imp_of_mem fun {c d} hc _ h => by have := hl c hc; omega) fun c => ⟨blk c, fun b => ?_⟩
  obtain ⟨d, hd, h1, h2⟩ := (mem c.1).mp (b.all c.1 (Int.le_refl _) b.le)
  rw [b.meet (blk d hd) h2 (by have := b.le; omega)]
  exact hd
theorem hid_st {n : Int} (n1 : 1 ≤ n) (n40 : n ≤ 40) {r : Nat} {E : List Int} (hl : E.length = 2 * r) (h : Ed n 0 E) : IsSt n (hidOf E) ∧ blocksOf (hidOf E) = pairsOf E ∧ edgesOf (hidOf E) = E ∧ (blocksOf (hidOf E)).length = r := by
  obtain ⟨h1, h2⟩ := pairs_pw r hl h
  have b := blk_flat h1 fun c hc => (h2 c hc).2.1
  have e : blocksOf (hidOf E) = pairsOf E := b.symm
  refine ⟨⟨n1, n40, fun x hx => ?_, flat_asc h1 fun c hc => (h2 c hc).2.1⟩, e, ?_, by rw [e]; exact (pairs_edges r E hl).2⟩
  · obtain ⟨c, hc, hx⟩ := List.mem_flatMap.mp hx
    have hx := mem_blkRows.mp hx
    have := h2 c hc
    omega
  · unfold edgesOf
    rw [e]
    exact (pairs_edges r E hl).1
theorem ends_edges : ∀ {L M : List (Int × Int)}, L.length = M.length → listLt (L.flatMap fun c => [c.1, c.2]) (M.flatMap fun c => [c.1, c.2]) = listLt (L.flatMap fun c => [c.1 - 1, c.2]) (M.flatMap fun c => [c.1 - 1, c.2])
  | [], [], _ => rfl
  | [], _ :: _, h => by simp at h
  | _ :: _, [], h => by simp at h
  | c :: L, d :: M, h => by
    have ih := ends_edges (L := L) (M := M) (by simpa using h)
    rw [List.flatMap_cons, List.flatMap_cons, List.flatMap_cons, List.flatMap_cons]
    show (if c.1 = d.1 then (if c.2 = d.2 then listLt (L.flatMap _) (M.flatMap _) else decide (c.2 < d.2)) else decide (c.1 < d.1)) = (if c.1 - 1 = d.1 - 1 then (if c.2 = d.2 then listLt (L.flatMap _) (M.flatMap _) else decide (c.2 < d.2)) else decide (c.1 - 1 < d.1 - 1))
    rw [ih]
    by_cases z : c.1 = d.1
    · rw [if_pos z, if_pos (show c.1 - 1 = d.1 - 1 by omega)]
    · rw [if_neg z, if_neg (show ¬ c.1 - 1 = d.1 - 1 by omega)]
      exact decide_eq_decide.mpr (by omega)
theorem endsOf_lt {h g : List Int} (hl : (blocksOf h).length = (blocksOf g).length) : listLt (endsOf h) (endsOf g) = listLt (edgesOf h) (edgesOf g) := ends_edges hl
/-- the number of a state -/
def placeS (n : Int) (h : List Int) : Int := rank n 0 (edgesOf h)
theorem place_lt {n : Int} {h : List Int} (st : IsSt n h) : 0 ≤ placeS n h ∧ placeS n h < ch (n + 1) (2 * (blocksOf h).length) := by
  have := rank_lt st.n2 (low := 0) (by decide) (by have := st.n1; omega) (edgesOf_ed st)
  rw [edgesOf_len, Int.sub_zero] at this
  exact this
theorem place_inj {n : Int} {h g : List Int} (st : IsSt n h) (sg : IsSt n g) (hl : (blocksOf h).length = (blocksOf g).length) (e : placeS n h = placeS n g) : h = g := by
  have := rank_inj st.n2 (by decide) (by have := st.n1; omega) (edgesOf_ed st) (edgesOf_ed sg) (by rw [edgesOf_len, edgesOf_len, hl]) e
  rw [← hid_edges st, ← hid_edges sg, this]
theorem place_onto {n p : Int} {r : Nat} (n1 : 1 ≤ n) (n40 : n ≤ 40) (p0 : 0 ≤ p) (p1 : p < ch (n + 1) (2 * r)) : ∃ h, IsSt n h ∧ (blocksOf h).length = r ∧ placeS n h = p := by
  have hr : 2 * r ≤ 41 := by
    refine Classical.byContradiction fun z => ?_
    rw [ch_gt (by omega) (by omega)] at p1
    omega
  obtain ⟨es, h1, h2, h3⟩ := rank_onto n40 (n + 1).toNat 0 (2 * r) p (by decide) (by omega) (by omega) p0 (by rw [Int.sub_zero]; exact p1)
  obtain ⟨s1, s2, s3, s4⟩ := hid_st n1 n40 h2 h1
  exact ⟨hidOf es, s1, s4, by unfold placeS; rw [s3]; exact h3⟩
theorem place_mono {n : Int} {h g : List Int} (st : IsSt n h) (sg : IsSt n g) (hl : (blocksOf h).length = (blocksOf g).length) (e : listLt (endsOf h) (endsOf g) = true) : placeS n h < placeS n g := by
  rw [endsOf_lt hl] at e
  exact rank_mono st.n2 (by decide) (by have := st.n1; omega) (edgesOf_ed st) (edgesOf_ed sg) (by rw [edgesOf_len, edgesOf_len, hl]) e
theorem place_ends {n : Int} {h g : List Int} (st : IsSt n h) (sg : IsSt n g) (hl : (blocksOf h).length = (blocksOf g).length) (e : placeS n h < placeS n g) : listLt (endsOf h) (endsOf g) = true := by
  have ne : edgesOf h ≠ edgesOf g := fun z => by unfold placeS at e; rw [z] at e; omega
  rw [endsOf_lt hl]
  rcases listLt_tri (by rw [edgesOf_len, edgesOf_len, hl]) ne with w | w
  · exact w
  · have := rank_mono st.n2 (by decide) (by have := st.n1; omega) (edgesOf_ed sg) (edgesOf_ed st) (by rw [edgesOf_len, edgesOf_len, hl]) w
    unfold placeS at e
    omega
/-! the states with so many blocks, in order -/
abbrev rowT (h : List Int) : Tup Int × Tup Int := (⟨endsOf h⟩, ⟨h⟩)
def dueOf (zs : List (Tup Int × Tup Int)) (r : Nat) : List (List Int) := (zs.filter fun z => decide (z.1.items.length = 2 * r)).map (·.2.items)
theorem due_mem {n : Int} (n1 : 1 ≤ n) (n40 : n ≤ 40) {zs : List (Tup Int × Tup Int)} (hp : zs.Perm ((allH n.toNat).map fun t => rowT t.items)) {z : Tup Int × Tup Int} (hz : z ∈ zs) : IsSt n z.2.items ∧ z = rowT z.2.items := by
  obtain ⟨t, ht, rfl⟩ := List.mem_map.mp (hp.mem_iff.mp hz)
  exact ⟨(mem_stsOf n1 n40).mp (List.mem_map.mpr ⟨t, ht, rfl⟩), rfl⟩
theorem due_st {n : Int} (n1 : 1 ≤ n) (n40 : n ≤ 40) {zs : List (Tup Int × Tup Int)} (hp : zs.Perm ((allH n.toNat).map fun t => rowT t.items)) {r : Nat} {h : List Int} (hh : h ∈ dueOf zs r) : IsSt n h ∧ (blocksOf h).length = r := by
  obtain ⟨z, hz, rfl⟩ := List.mem_map.mp hh
  obtain ⟨hz, hl⟩ := List.mem_filter.mp hz
  obtain ⟨s1, s2⟩ := due_mem n1 n40 hp hz
  refine ⟨s1, ?_⟩
  have hl := of_decide_eq_true hl
  rw [s2] at hl
  have := endsOf_len z.2.items
  have hl : (endsOf z.2.items).length = 2 * r := hl
  omega
theorem due_places {n : Int} (n1 : 1 ≤ n) (n40 : n ≤ 40) {zs : List (Tup Int × Tup Int)} (hp : zs.Perm ((allH n.toNat).map fun t => rowT t.items)) (hs : zs.Pairwise fun x y => DatumOrd.lt y x = false) (r : Nat) :
    (dueOf zs r).map (placeS n) = (List.range (ch (n + 1) (2 * r)).toNat).map fun i : Nat => (0 : Int) + (i : Int) := by
  have nd : zs.Nodup := hp.nodup_iff.mpr (by
    have h := stsOf_nodup n
    unfold stsOf at h
    rw [List.nodup_iff_pairwise_ne, List.pairwise_map] at h ⊢
    exact h.imp fun h z => h (congrArg (fun x : Tup Int × Tup Int => x.2.items) z))
  refine asc_ext ?_ (rng_asc _ _) fun p => ?_
  · unfold dueOf
    rw [List.map_map, List.pairwise_map]
    refine ((hs.and nd).filter _).imp_of_mem fun {x y} hx hy h => ?_
    obtain ⟨h1, h2⟩ := h
    obtain ⟨hx, lx⟩ := List.mem_filter.mp hx
    obtain ⟨hy, ly⟩ := List.mem_filter.mp hy
    obtain ⟨sx, ex⟩ := due_mem n1 n40 hp hx
    obtain ⟨sy, ey⟩ := due_mem n1 n40 hp hy
    have lx := of_decide_eq_true lx
    have ly := of_decide_eq_true ly
    show placeS n x.2.items < placeS n y.2.items
    generalize x.2.items = h at *
    generalize y.2.items = g at *
    subst ex ey
    have lx : (endsOf h).length = 2 * r := lx
    have ly : (endsOf g).length = 2 * r := ly
    have hl : (blocksOf h).length = (blocksOf g).length := by
      have := endsOf_len h
      have := endsOf_len g
      omega
    have ne : endsOf h ≠ endsOf g := fun z => by
      have l1 := endsOf_lt hl
      have l2 := endsOf_lt hl.symm
      rw [z] at l1 l2
      have self : ∀ L : List Int, listLt L L = false := fun L => by
        induction L with
        | nil => rfl
        | cons a L ih => unfold listLt; rw [if_pos rfl]; exact ih
      rw [self] at l1 l2
      refine h2 ?_
      have : edgesOf h = edgesOf g := Classical.byContradiction fun w => by
        rcases listLt_tri (by rw [edgesOf_len, edgesOf_len, hl]) w with w | w
        · rw [w] at l1; cases l1
        · rw [w] at l2; cases l2
      rw [show h = g by rw [← hid_edges sx, ← hid_edges sy, this]]
    have h1 : (if (⟨endsOf g⟩ : Tup Int) = ⟨endsOf h⟩ then listLt g h else listLt (endsOf g) (endsOf h)) = false := h1
    rw [if_neg (show ¬ (⟨endsOf g⟩ : Tup Int) = ⟨endsOf h⟩ from fun z => ne (Tup.mk.inj z).symm)] at h1
    rcases listLt_tri (by rw [lx, ly]) ne with w | w
    · exact place_mono sx sy hl w
    · rw [w] at h1; cases h1
  · rw [mem_rng]
    constructor
    · intro hp'
      obtain ⟨h, hh, rfl⟩ := List.mem_map.mp hp'
      obtain ⟨s1, s2⟩ := due_st n1 n40 hp hh
      have := place_lt s1
      rw [s2] at this
      omega
    · rintro ⟨p0, p1⟩
      obtain ⟨h, st, hl, e⟩ := place_onto (p := p) n1 n40 p0 (r := r) (by omega)
      refine List.mem_map.mpr ⟨h, List.mem_map.mpr ⟨rowT h, List.mem_filter.mpr ⟨?_, decide_eq_true (by rw [endsOf_len, hl])⟩, rfl⟩, e⟩
      refine hp.mem_iff.mpr ?_
      obtain ⟨t, ht, e2⟩ := List.mem_map.mp ((mem_stsOf n1 n40).mpr st)
      exact List.mem_map.mpr ⟨t, ht, by subst e2; rfl⟩
theorem due_len {n : Int} (n1 : 1 ≤ n) (n40 : n ≤ 40) {zs : List (Tup Int × Tup Int)} (hp : zs.Perm ((allH n.toNat).map fun t => rowT t.items)) (hs : zs.Pairwise fun x y => DatumOrd.lt y x = false) (r : Nat) (hr : r ≤ 20) : ((dueOf zs r).length : Int) = ch (n + 1) (2 * r) := by
  have e := congrArg List.length (due_places n1 n40 hp hs r)
  rw [List.length_map, List.length_map, List.length_range] at e
  have := ch_nn (m := n + 1) (by omega) (by omega) (k := 2 * r) (by omega)
  omega
theorem due_at {n : Int} (n1 : 1 ≤ n) (n40 : n ≤ 40) {zs : List (Tup Int × Tup Int)} (hp : zs.Perm ((allH n.toNat).map fun t => rowT t.items)) (hs : zs.Pairwise fun x y => DatumOrd.lt y x = false) (r : Nat) {i : Nat} (hi : i < (dueOf zs r).length) : placeS n (dueOf zs r)[i] = i := by
  have e := due_places n1 n40 hp hs r
  have h : ((dueOf zs r).map (placeS n))[i]? = some (placeS n (dueOf zs r)[i]) := by rw [List.getElem?_map, List.getElem?_eq_getElem hi]; rfl
  rw [e, List.getElem?_map] at h
  cases q : (List.range (ch (n + 1) (2 * r)).toNat)[i]? with
  | none => rw [q] at h; cases h
  | some j =>
    rw [q] at h
    obtain ⟨h1, h2⟩ := List.getElem?_eq_some_iff.mp q
    simp at h2
    subst h2
    simp at h
    exact h.symm
/-! the loops -/
theorem pairs_at : ∀ (r : Nat) {E : List Int}, E.length = 2 * r → ∀ i, i < r → ∃ a b, E[2 * i]? = some a ∧ E[2 * i + 1]? = some b ∧ (pairsOf E)[i]? = some (a + 1, b)
  | r + 1, a :: b :: E, h, 0, _ => ⟨a, b, rfl, rfl, rfl⟩
  | r + 1, a :: b :: E, h, i + 1, hi => by
    obtain ⟨x, y, h1, h2, h3⟩ := pairs_at r (E := E) (by simp at h; omega) i (by omega)
    refine ⟨x, y, ?_, ?_, h3⟩
    · rw [show 2 * (i + 1) = 2 * i + 1 + 1 by omega, List.getElem?_cons_succ, List.getElem?_cons_succ]
      exact h1
    · rw [show 2 * (i + 1) + 1 = 2 * i + 1 + 1 + 1 by omega, List.getElem?_cons_succ, List.getElem?_cons_succ]
      exact h2
  | 0, _, _, _, hi => absurd hi (Nat.not_lt_zero _)
  | r + 1, [], h, _, _ => by simp at h
  | r + 1, [_], h, _, _ => by simp at h; omega
/-- the ends, row by row -/
def endRow (h : List Int) (r : Int) : List Int := (if r - 1 ∈ h then [] else [r]) ++ (if r + 1 ∈ h then [] else [r])
theorem end_blk {h : List Int} : ∀ (m : Nat) {a b : Int}, b = a + m → (∀ r, a ≤ r → r ≤ b → r ∈ h) → b + 1 ∉ h → a - 1 ∈ h → ((List.range (m + 1)).map fun i : Nat => a + (i : Int)).flatMap (endRow h) = [b]
  | 0, a, b, e, all, hi, lo => by
    have : b = a := by omega
    subst this
    simp [endRow, hi, lo]
  | m + 1, a, b, e, all, hi, lo => by
    have ih := end_blk m (a := a + 1) (b := b) (by omega) (fun r h1 h2 => all r (by omega) h2) hi (by rw [Int.add_sub_cancel]; exact all a (Int.le_refl _) (by omega))
    rw [List.range_succ_eq_map, List.map_cons, List.flatMap_cons]
    have e1 : endRow h (a + ((0 : Nat) : Int)) = [] := by
      unfold endRow
      rw [show a + ((0 : Nat) : Int) = a by omega, if_pos lo, if_pos (all (a + 1) (by omega) (by omega))]
      rfl
    rw [e1, List.nil_append, List.map_map]
    rw [show ((fun i : Nat => a + (i : Int)) ∘ Nat.succ) = fun i : Nat => a + 1 + (i : Int) by funext i; simp; omega]
    exact ih
theorem end_blk2 {h : List Int} {c : Int × Int} (b : IsBlk h c) : (blkRows c).flatMap (endRow h) = [c.1, c.2] := by
  have le := b.le
  unfold blkRows
  obtain ⟨m, hm⟩ : ∃ m : Nat, c.2 = c.1 + m := ⟨(c.2 - c.1).toNat, by omega⟩
  rw [show (c.2 + 1 - c.1).toNat = m + 1 by omega]
  cases m with
  | zero =>
    have : c.2 = c.1 := by omega
    have h1 := b.lo
    have h2 := b.hi
    rw [this] at h2
    simp [endRow, h1, h2, this]
  | succ m =>
    rw [List.range_succ_eq_map, List.map_cons, List.flatMap_cons]
    have e1 : endRow h (c.1 + ((0 : Nat) : Int)) = [c.1] := by
      unfold endRow
      rw [show c.1 + ((0 : Nat) : Int) = c.1 by omega, if_neg b.lo, if_pos (b.all (c.1 + 1) (by omega) (by omega))]
      rfl
    rw [e1, List.map_map, show ((fun i : Nat => c.1 + (i : Int)) ∘ Nat.succ) = fun i : Nat => c.1 + 1 + (i : Int) by funext i; simp; omega]
    rw [end_blk m (a := c.1 + 1) (b := c.2) (by omega) (fun r h1 h2 => b.all r (by omega) h2) b.hi (by rw [Int.add_sub_cancel]; exact b.all c.1 (Int.le_refl _) le)]
    rfl
theorem ends_rows {n : Int} {h : List Int} (st : IsSt n h) : h.flatMap (endRow h) = endsOf h := by
  have key : ∀ L : List (Int × Int), (∀ c ∈ L, IsBlk h c) → (L.flatMap blkRows).flatMap (endRow h) = L.flatMap fun c => [c.1, c.2] := fun L => by
    induction L with
    | nil => intro _; rfl
    | cons c L ih =>
      intro hL
      rw [List.flatMap_cons, List.flatMap_append, List.flatMap_cons, end_blk2 (hL c List.mem_cons_self), ih fun d hd => hL d (List.mem_cons_of_mem _ hd)]
  have := key (blocksOf h) fun c hc => (mem_blocks st.asc).mp hc
  rw [rows_blocks st] at this
  exact this
theorem rows_ok (ts : List (Tup Int)) : SortOk ((ts.map fun t => rowT t.items).map fun x : Tup Int × Tup Int => Datum.toD x) := by
  refine .inl (.inl fun d hd => ?_)
  obtain ⟨z, _, rfl⟩ := List.mem_map.mp hd
  exact ⟨_, _, rfl⟩
theorem at_args {n k p : Int} {h : List Int} (st : IsSt n h) (hl : ((blocksOf h).length : Int) = k) (k40 : k ≤ 40) (hp : p = placeS n h) {X Y Z : Prop} {Q : Int → List Int → Prop} (q : Q n h) :
    (mInt (.int n) 1 40 = false → X) ∧ (mInt (.int n) 1 40 = true → mInt (.int k) 0 40 = false → Y) ∧ ∀ n' k', PyData.int n = .int n' → PyData.int k = .int k' → 1 ≤ n' → n' ≤ 40 → 0 ≤ k' → k' ≤ 40 →
      (mInt (.int p) 0 (ch (n' + 1) (2 * k').toNat - 1) = false → Z) ∧ ∀ h', IsSt n' h' → ((blocksOf h').length : Int) = k' → PyData.int p = .int (placeS n' h') → Q n' h' := by
  have n1 := st.n1
  have n2 := st.n2
  refine ⟨fun z => ?_, fun _ z => ?_, fun n' k' e1 e2 _ _ _ _ => ?_⟩
  · have z : (decide (1 ≤ n) && decide (n ≤ 40)) = false := z
    rw [decide_eq_true n1, decide_eq_true n2] at z
    cases z
  · have z : (decide (0 ≤ k) && decide (k ≤ 40)) = false := z
    rw [decide_eq_true (show 0 ≤ k by omega), decide_eq_true k40] at z
    cases z
  · cases e1
    cases e2
    refine ⟨fun z => ?_, fun h' st' hl' e => ?_⟩
    · have := place_lt st
      rw [show 2 * (blocksOf h).length = (2 * k).toNat by omega] at this
      have z : (decide (0 ≤ p) && decide (p ≤ ch (n + 1) (2 * k).toNat - 1)) = false := z
      rw [decide_eq_true (show 0 ≤ p by omega), decide_eq_true (show p ≤ ch (n + 1) (2 * k).toNat - 1 by omega)] at z
      cases z
    · injection e with e
      have : h' = h := place_inj st' st (by omega) (by omega)
      rw [this]
      exact q
theorem place_args {n : Int} {h : List Int} (st : IsSt n h) {X : Prop} {Q : Int → List Int → Prop} (q : Q n h) : (mState (stD' n h) = false → X) ∧ ∀ n' h', stD' n h = stD' n' h' → IsSt n' h' → Q n' h' :=
  ⟨fun z => (by rw [st.ok] at z; cases z), fun n' h' e _ => by obtain ⟨rfl, rfl⟩ := st_inj e; exact q⟩
theorem shaped_sts (n : Int) (hs : List (List Int)) : SeqAt.shaped (.list (hs.map (stD' n))) = true := by
  have h := shaped_dat (α := List (Int × Tup Int)) (hs.map fun h => (n, ⟨h⟩)) (by decide)
  have e : Datum.toD (hs.map fun h => ((n, ⟨h⟩) : Int × Tup Int)) = .list (hs.map (stD' n)) := by
    show PyData.list ((hs.map fun h => ((n, ⟨h⟩) : Int × Tup Int)).map Datum.toD) = _
    rw [List.map_map]
    rfl
  rw [e] at h
  exact h
theorem sortDat_facts {α : Type} [DecidableEq α] [DatumOrd α] (as : List α) (hk : SortOk (as.map Datum.toD)) (hd : Datum.depth α ≤ 60) :
    ∃ zs : List α, (as.map Datum.toD).mergeSort (PySem.W.dataLe false fun d : D => d) = zs.map Datum.toD ∧ zs.Perm as ∧ zs.Pairwise (fun x y => DatumOrd.lt y x = false) ∧ PySem.W.AllAlike (as.map Datum.toD) ∧ SortOk (as.map Datum.toD) ∧ (∀ d ∈ as.map Datum.toD, d.depth ≤ 60) := by
  obtain ⟨h1, h2, h3, zs, h4, h5, h6⟩ := sortDat_rest (Z := fun ds => ∃ zs : List α, ds = zs.map Datum.toD ∧ zs.Perm as ∧ zs.Pairwise (fun x y => DatumOrd.lt y x = false)) as hk hd fun zs _ e2 e3 => ⟨zs, rfl, e2, e3⟩
  exact ⟨zs, h4, h5, h6, h1, h2, h3⟩
end HR
namespace HR
open PySem PySem.Spec L2
open PyProof.Rows hiding St
/-! ### data of small depth and width -/
def fi : Nat → D → Bool
  | 0, _ => false
  | n + 1, d => match d with
    | .tuple ds => decide (ds.length ≤ 101) && ds.all (fi n)
    | .list ds => decide (ds.length ≤ 101) && ds.all (fi n)
    | d => d.canLay0
theorem fi_mono1 : ∀ {n : Nat} {d : D}, fi n d = true → fi (n + 1) d = true
  | 0, _, h => by cases h
  | n + 1, d, h => by
    cases d with
    | tuple ds =>
      simp only [fi, Bool.and_eq_true, List.all_eq_true] at h ⊢
      exact ⟨h.1, fun x hx => fi_mono1 (h.2 x hx)⟩
    | list ds =>
      simp only [fi, Bool.and_eq_true, List.all_eq_true] at h ⊢
      exact ⟨h.1, fun x hx => fi_mono1 (h.2 x hx)⟩
    | _ => exact h
theorem fi_mono {n m : Nat} {d : D} (h : fi n d = true) (l : n ≤ m) : fi m d = true := by
  induction l with
  | refl => exact h
  | step _ ih => exact fi_mono1 ih
theorem lays_of : ∀ {ds : List D}, (∀ d ∈ ds, d.canLay0 = true) → PyData.canLayAll0 ds = true
  | [], _ => rfl
  | d :: ds, h => by
    show (d.canLay0 && PyData.canLayAll0 ds) = true
    rw [h d List.mem_cons_self, lays_of fun x hx => h x (List.mem_cons_of_mem _ hx)]; rfl
theorem fi_lay : ∀ {n : Nat} {d : D}, fi n d = true → d.canLay0 = true
  | 0, _, h => by cases h
  | n + 1, d, h => by
    cases d with
    | tuple ds =>
      simp only [fi, Bool.and_eq_true, List.all_eq_true] at h
      exact lays_of fun x hx => fi_lay (h.2 x hx)
    | list ds =>
      simp only [fi, Bool.and_eq_true, List.all_eq_true] at h
      exact lays_of fun x hx => fi_lay (h.2 x hx)
    | _ => exact h
theorem nods_of : ∀ {ds : List D}, (∀ d ∈ ds, noDict d = true) → noDicts ds = true
  | [], _ => rfl
  | d :: ds, h => by
    show (noDict d && noDicts ds) = true
    rw [h d List.mem_cons_self, nods_of fun x hx => h x (List.mem_cons_of_mem _ hx)]; rfl
theorem fi_no : ∀ {n : Nat} {d : D}, fi n d = true → noDict d = true
  | 0, _, h => by cases h
  | n + 1, d, h => by
    cases d with
    | tuple ds =>
      simp only [fi, Bool.and_eq_true, List.all_eq_true] at h
      exact nods_of fun x hx => fi_no (h.2 x hx)
    | list ds =>
      simp only [fi, Bool.and_eq_true, List.all_eq_true] at h
      exact nods_of fun x hx => fi_no (h.2 x hx)
    | dict _ => cases h
    | _ => rfl
theorem deps_of {m : Nat} : ∀ {ds : List D}, (∀ d ∈ ds, d.depth ≤ m) → PyData.depthAll ds ≤ m
  | [], _ => Nat.zero_le _
  | d :: ds, h => by
    show max d.depth (PyData.depthAll ds) ≤ m
    exact Nat.max_le.mpr ⟨h d List.mem_cons_self, deps_of fun x hx => h x (List.mem_cons_of_mem _ hx)⟩
theorem fi_depth : ∀ {n : Nat} {d : D}, fi n d = true → d.depth ≤ n
  | 0, _, h => by cases h
  | n + 1, d, h => by
    cases d with
    | tuple ds =>
      simp only [fi, Bool.and_eq_true, List.all_eq_true] at h
      exact Nat.succ_le_succ (deps_of fun x hx => fi_depth (h.2 x hx))
    | list ds =>
      simp only [fi, Bool.and_eq_true, List.all_eq_true] at h
      exact Nat.succ_le_succ (deps_of fun x hx => fi_depth (h.2 x hx))
    | dict _ => cases h
    | _ => exact Nat.zero_le _
theorem fi_shaped {n : Nat} {d : D} (h : fi n d = true) (l : n ≤ 64 := by decide) : SeqAt.shaped d = true := by
  unfold SeqAt.shaped
  rw [fi_lay h, Bool.true_and, decide_eq_true_eq]
  exact Nat.le_trans (fi_depth h) l
theorem fi_tup {n : Nat} {ds : List D} : fi (n + 1) (.tuple ds) = true ↔ ds.length ≤ 101 ∧ ∀ x ∈ ds, fi n x = true := by simp [fi]
theorem fi_lst {n : Nat} {ds : List D} : fi (n + 1) (.list ds) = true ↔ ds.length ≤ 101 ∧ ∀ x ∈ ds, fi n x = true := by simp [fi]
/-- what is bent: ints, tuples of such -/
def bd : Nat → D → Bool
  | 0, _ => false
  | n + 1, d => match d with
    | .tuple ds => decide (ds.length ≤ 100) && ds.all (bd n)
    | .int _ => true
    | _ => false
theorem bd_tup {n : Nat} {ds : List D} : bd (n + 1) (.tuple ds) = true ↔ ds.length ≤ 100 ∧ ∀ x ∈ ds, bd n x = true := by simp [bd]
theorem bd_fi : ∀ {n : Nat} {d : D}, bd n d = true → fi n d = true
  | 0, _, h => by cases h
  | n + 1, d, h => by
    cases d with
    | tuple ds =>
      rw [bd_tup] at h
      rw [fi_tup]
      exact ⟨by omega, fun x hx => bd_fi (h.2 x hx)⟩
    | int _ => rfl
    | _ => cases h
theorem compD_all {α : Type} {g : TDG} {tt : TDT} {te : TD} {vs : List Nat} {chk : Env → Prop} {δ : Env} {Q : List D → Env → Prop} (enc : α → D) (P : D → Prop) (hc : chk δ) (xs : List α)
    (h : ∀ x ∈ xs, ∀ (K : List D → Env → Prop) (acc : List D), (∀ d, P d → K (acc ++ [d]) δ) → (g (.val (enc x)) δ fun δ1 => tt δ1 fun b δ2 => if b = true then te δ2 fun s δ3 => asD s δ3 fun d δ4 => K (acc ++ [d]) (wipeE δ4 vs) else K acc (wipeE δ2 vs)))
    (q : ∀ rs, rs.length = xs.length → (∀ r ∈ rs, P r) → Q rs δ) : compD g tt te vs chk (xs.map enc) [] δ Q := by
  have key : ∀ (xs : List α) (acc : List D), (∀ x ∈ xs, ∀ (K : List D → Env → Prop) (acc : List D), (∀ d, P d → K (acc ++ [d]) δ) → (g (.val (enc x)) δ fun δ1 => tt δ1 fun b δ2 => if b = true then te δ2 fun s δ3 => asD s δ3 fun d δ4 => K (acc ++ [d]) (wipeE δ4 vs) else K acc (wipeE δ2 vs))) →
      (∀ rs, rs.length = xs.length → (∀ r ∈ rs, P r) → Q (acc ++ rs) δ) → compD g tt te vs chk (xs.map enc) acc δ Q := by
    intro xs
    induction xs with
    | nil => intro acc _ q; exact ⟨hc, by simpa using q [] rfl fun _ h => absurd h (by simp)⟩
    | cons x xs ih =>
      intro acc h q
      refine ⟨hc, h x List.mem_cons_self (fun acc δ => compD g tt te vs chk (xs.map enc) acc δ Q) acc fun d hd => ?_⟩
      refine ih _ (fun y hy => h y (List.mem_cons_of_mem _ hy)) fun rs hl hr => ?_
      rw [List.append_assoc]
      refine q (d :: rs) (by simp [hl]) fun r hm => ?_
      rcases List.mem_cons.mp hm with rfl | hm
      · exact hd
      · exact hr r hm
  exact key xs [] h q
theorem bd_st {n : Int} {h : List Int} (st : IsSt n h) : bd 3 (stD' n h) = true := by
  have := st.len
  have e : bd 3 (stD' n h) = bd 2 (tupI h) := by simp [stD', bd]
  rw [e]
  show bd 2 (.tuple (h.map .int)) = true
  rw [bd_tup]
  refine ⟨by rw [List.length_map]; omega, fun x hx => ?_⟩
  obtain ⟨k, _, rfl⟩ := List.mem_map.mp hx
  rfl
end HR
namespace HR
open PySem PySem.Spec L2
open PyProof.Rows hiding St
open PySem.W (Datum Tup T3 T4 SomeDatum)
/-! odd -/
def odds : List D := [.int 0, .int 1, .int 2, .int (-1), .int 40, .int 41, .bool true, .none, .str "1", .tuple [], .tuple [.int 1], .list [.int 1], .tuple [.int 2, .int 1], .tuple [.int 1, .int 1]]
theorem odds_fi : ∀ x ∈ odds, fi 3 x = true := by
  have : odds.all (fi 3) = true := by decide +kernel
  exact fun x hx => List.all_eq_true.mp this x hx
def valsB (n : Int) (h : List Int) : List D := [stD' n h, .list [.int n, tupI h], .tuple [.int 3, .list [.int 1]], .tuple [.int 3, .tuple [.int 1, .int 1]], .tuple [.int 3, .tuple [.int 2, .int 1]], .tuple [.int 3, .tuple [.int 4]], .tuple [.int 0, .tuple []], .tuple [.int 41, .tuple []], .none]
theorem valsB_eq (n : Int) (h : List Int) : ([stD' n h, .list [.int n, tupI h], .tuple [.int 3, .list [.int 1]], .tuple [.int 3, .tuple [.int 1, .int 1]], .tuple [.int 3, .tuple [.int 2, .int 1]], .tuple [.int 3, .tuple [.int 4]], .tuple [.int 0, .tuple []], .tuple [.int 41, .tuple []], .none] : List D) = valsB n h := rfl
theorem valsB_fi {n : Int} {h : List Int} (st : IsSt n h) : ∀ x ∈ valsB n h, fi 50 x = true := by
  have a : fi 50 (stD' n h) = true := fi_mono (bd_fi (bd_st st)) (by decide)
  have b : fi 50 (.list [.int n, tupI h]) = true := by
    have c : fi 49 (tupI h) = true := fi_mono (n := 2) (by
      have := st.len
      show fi 2 (.tuple (h.map .int)) = true
      rw [fi_tup]
      refine ⟨by rw [List.length_map]; omega, fun x hx => ?_⟩
      obtain ⟨k, _, rfl⟩ := List.mem_map.mp hx
      rfl) (by decide)
    rw [fi_lst]
    refine ⟨Nat.le_of_ble_eq_true rfl, fun x hx => ?_⟩
    rcases List.mem_cons.mp hx with rfl | hx
    · rfl
    · rw [List.mem_singleton.mp hx]; exact c
  intro x hx
  rcases List.mem_cons.mp hx with rfl | hx
  · exact a
  rcases List.mem_cons.mp hx with rfl | hx
  · exact b
  · have : ([.tuple [.int 3, .list [.int 1]], .tuple [.int 3, .tuple [.int 1, .int 1]], .tuple [.int 3, .tuple [.int 2, .int 1]], .tuple [.int 3, .tuple [.int 4]], .tuple [.int 0, .tuple []], .tuple [.int 41, .tuple []], .none] : List D).all (fi 50) = true := by decide +kernel
    exact List.all_eq_true.mp this x hx
def topS (i : Nat) : Stmt := PySem.Challenge.pw_hiddenrows_k01_states_are_checked.main.body.getD i (.Pass ⟨0, 0, 0, 0⟩)
abbrev sLawBag : Stmt := topS 67
abbrev sLawTake : Stmt := topS 68
abbrev sLawRows : Stmt := topS 70
abbrev sLawState : Stmt := topS 71
abbrev sIsInteger : Stmt := topS 11
abbrev sIsSize : Stmt := topS 12
abbrev sAreRows : Stmt := topS 13
abbrev sIsState : Stmt := topS 14
abbrev sRequireState : Stmt := topS 15
abbrev sBlocksOf : Stmt := topS 16
abbrev sBlocks : Stmt := topS 17
abbrev sVisibleOf : Stmt := topS 18
abbrev sVisible : Stmt := topS 19
abbrev sRequireSmall : Stmt := topS 48
abbrev sRowsOf : Stmt := topS 34
abbrev sNeededIn : Stmt := topS 35
abbrev sFreed : Stmt := topS 36
abbrev sSplitRuns : Stmt := topS 37
abbrev sCanRun : Stmt := topS 28
abbrev sRequirePossible : Stmt := topS 30
abbrev sLastOf : Stmt := topS 26
abbrev sRun : Stmt := topS 31
abbrev sGaps : Stmt := topS 38
abbrev sPriceBetween : Stmt := topS 39
abbrev sAway : Stmt := topS 40
abbrev sAllHidden : Stmt := topS 47
abbrev sFarthest : Stmt := topS 50
abbrev sChoose : Stmt := topS 45
abbrev sPlaceOf : Stmt := topS 46
abbrev sRequireBoth : Stmt := topS 33
abbrev sDistance : Stmt := topS 41
abbrev sScreenRow : Stmt := topS 20
abbrev sIsPossible : Stmt := topS 29
abbrev sRequireNumber : Stmt := topS 44
abbrev sCountFrom : Stmt := topS 49
abbrev sIsWish : Stmt := topS 58
abbrev sRequireWish : Stmt := topS 59
abbrev sBestEnd : Stmt := topS 64
abbrev sFewestFor : Stmt := topS 65
abbrev sRequirePrices : Stmt := topS 53
abbrev sLeastPrice : Stmt := topS 54
abbrev sRoute : Stmt := topS 55
abbrev sLawError : Stmt := topS 75
abbrev sLawOf : Stmt := topS 69
abbrev sLawBent : Stmt := topS 74
abbrev sLawInt : Stmt := topS 72
abbrev sLawIsState : Stmt := topS 73
abbrev sLaw : Stmt := topS 76
local macro_rules | `(tactic| walk_at "go") => `(tactic| repeat ((conv => whnf); first | refine ⟨rfl, ?_⟩ | refine ⟨_, rfl, ?_⟩ | refine ⟨⟨_, _, rfl⟩, ?_⟩ | refine ⟨_, _, rfl, rfl, ?_⟩ | refine ⟨_, _, rfl, ?_⟩ | refine ⟨_, _, _, rfl, ?_⟩ | refine ⟨_, _, _, _, rfl, ?_⟩ | refine ⟨_, _, _, _, _, rfl, ?_⟩ | refine ⟨_, _, rfl, rfl, rfl, rfl, ?_⟩ | refine ⟨trivial, ?_⟩ | refine ⟨all_flat _, ?_⟩ | refine ⟨Nat.le_of_ble_eq_true rfl, ?_⟩ | refine ⟨shaped_str (by decide +kernel), ?_⟩))
structure Tx (K : PySem.W.Frag) (mg : Str → Option Value) : Prop where
  b_all : mg "all" = none
  b_any : mg "any" = none
  b_bool : mg "bool" = none
  b_enumerate : mg "enumerate" = none
  b_int : mg "int" = none
  b_isinstance : mg "isinstance" = none
  b_len : mg "len" = none
  b_list : mg "list" = none
  b_max : mg "max" = none
  b_min : mg "min" = none
  b_range : mg "range" = none
  b_set : mg "set" = none
  b_sorted : mg "sorted" = none
  b_sum : mg "sum" = none
  b_tuple : mg "tuple" = none
  b_zip : mg "zip" = none
  c_InvalidNumber : ClsX K mg "InvalidNumber"
  c_InvalidPlace : ClsX K mg "InvalidPlace"
  c_InvalidPrice : ClsX K mg "InvalidPrice"
  c_InvalidScript : ClsX K mg "InvalidScript"
  c_InvalidState : ClsX K mg "InvalidState"
  c_InvalidWish : ClsX K mg "InvalidWish"
  c_SheetError : ClsX K mg "SheetError"
  c_TooLarge : ClsX K mg "TooLarge"
  g_HIGHEST : CstD K mg "HIGHEST" (.int 1000)
  g_LARGEST : CstD K mg "LARGEST" (.int 40)
  g_SMALL : CstD K mg "SMALL" (.int 8)
  s_InvalidNumber_SheetError : SubX K mg "InvalidNumber" "SheetError"
  s_InvalidPlace_SheetError : SubX K mg "InvalidPlace" "SheetError"
  s_InvalidPrice_SheetError : SubX K mg "InvalidPrice" "SheetError"
  s_InvalidScript_SheetError : SubX K mg "InvalidScript" "SheetError"
  s_InvalidState_SheetError : SubX K mg "InvalidState" "SheetError"
  i_InvalidState_InvalidState : IsX K mg "InvalidState" "InvalidState" true
  s_InvalidWish_SheetError : SubX K mg "InvalidWish" "SheetError"
  s_TooLarge_SheetError : SubX K mg "TooLarge" "SheetError"
  f__law_bag : TxtFn K mg "_law_bag" sLawBag
  f__law_take : TxtFn K mg "_law_take" sLawTake
  f__law_rows : TxtFn K mg "_law_rows" sLawRows
  f__law_state : TxtFn K mg "_law_state" sLawState
  f_is_integer : TxtFn K mg "is_integer" sIsInteger
  f_is_size : TxtFn K mg "is_size" sIsSize
  f_are_rows : TxtFn K mg "are_rows" sAreRows
  f_is_state : TxtFn K mg "is_state" sIsState
  f_require_state : TxtFn K mg "require_state" sRequireState
  f_blocks_of : TxtFn K mg "blocks_of" sBlocksOf
  f_blocks : TxtFn K mg "blocks" sBlocks
  f_visible_of : TxtFn K mg "visible_of" sVisibleOf
  f_visible : TxtFn K mg "visible" sVisible
  f_require_small : TxtFn K mg "require_small" sRequireSmall
  f_rows_of : TxtFn K mg "rows_of" sRowsOf
  f_needed_in : TxtFn K mg "needed_in" sNeededIn
  f_freed : TxtFn K mg "freed" sFreed
  f_split_runs : TxtFn K mg "split_runs" sSplitRuns
  f_can_run : TxtFn K mg "can_run" sCanRun
  f_require_possible : TxtFn K mg "require_possible" sRequirePossible
  f_last_of : TxtFn K mg "last_of" sLastOf
  f_run : TxtFn K mg "run" sRun
  f_gaps : TxtFn K mg "gaps" sGaps
  f_price_between : TxtFn K mg "price_between" sPriceBetween
  f_away : TxtFn K mg "away" sAway
  f_all_hidden : TxtFn K mg "all_hidden" sAllHidden
  f_farthest : TxtFn K mg "farthest" sFarthest
  f_choose : TxtFn K mg "choose" sChoose
  f_place_of : TxtFn K mg "place_of" sPlaceOf
  f_require_both : TxtFn K mg "require_both" sRequireBoth
  f_distance : TxtFn K mg "distance" sDistance
  f_screen_row : TxtFn K mg "screen_row" sScreenRow
  f_is_possible : TxtFn K mg "is_possible" sIsPossible
  f_require_number : TxtFn K mg "require_number" sRequireNumber
  f_count_from : TxtFn K mg "count_from" sCountFrom
  f_is_wish : TxtFn K mg "is_wish" sIsWish
  f_require_wish : TxtFn K mg "require_wish" sRequireWish
  f_best_end : TxtFn K mg "best_end" sBestEnd
  f_fewest_for : TxtFn K mg "fewest_for" sFewestFor
  f_require_prices : TxtFn K mg "require_prices" sRequirePrices
  f_least_price : TxtFn K mg "least_price" sLeastPrice
  f_route : TxtFn K mg "route" sRoute
  f__law_error : TxtFn K mg "_law_error" sLawError
  f__law_of : TxtFn K mg "_law_of" sLawOf
  f__law_bent : TxtFn K mg "_law_bent" sLawBent
  f__law_int : TxtFn K mg "_law_int" sLawInt
  f__law_is_state : TxtFn K mg "_law_is_state" sLawIsState
section
variable {P : Program} {w : World} {K : PySem.W.Frag} {mg : Str → Option Value} {base : Heap}
/-! _law_bag -/
def c__law_bag : Con := fun ss Q _ => ∃ ns k, ss = [.scr ns, .val (.int k)] ∧ ns.length ≤ 1000 ∧ 0 ≤ k ∧ k ≤ 1000 ∧ Q .bag
theorem scLawBag : FnScope ["script", "k", "cell", "seed"] ["script", "k"] (defScope sLawBag) := ⟨rfl, rfl, rfl, by decide +kernel, rfl, by decide +kernel, by decide +kernel⟩
theorem ok__law_bag (X : Tx K mg) : FnD P w K mg base 1 "_law_bag" c__law_bag := by
  refine fnD_ok (N := ["script", "k", "cell", "seed"]) (ps := ["script", "k"]) X.f__law_bag scLawBag (fun _ _ _ _ _ _ us hl => match us, hl with | [_, _], _ => rfl) (fun ss Q X' h => ?_) (fun f cdv A outer s H Y E ss Q' X' hr xo hp h => ?_)
  · obtain ⟨ns, k, rfl, _⟩ := h
    rfl
  · have nd := scLawBag.nd
    have hu := hr.units
    have hu5 := room65 hr
    refine ⟨_, (dss_cons (ds_set (i := 2) nd de_int) (dss_cons (ds_if (dt_cp c_lt (de_var (i := 1)) (de_len X.b_len (da_cons (de_var (i := 0)) da_nil))) (dss_one (ds_set (i := 2) nd (de_mod (de_ix (de_var (i := 0)) (de_var (i := 1))) (de_pow de_int de_int)))) dss_nil) (dss_cons (ds_set (i := 3) nd (de_add de_int (de_mod (de_add (de_add (de_add (de_mul (de_mod (de_var (i := 2)) de_int) de_int) (de_mul (de_mul de_int (de_var (i := 1))) (de_var (i := 1)))) (de_mul de_int (de_var (i := 1)))) de_int) de_int))) (dss_cons (ds_if (dt_cp c_lt (de_var (i := 2)) (de_pow de_int de_int)) (dss_one (ds_retBag (de_lst (da_cons de_int (da_cons (de_var (i := 3)) da_nil))))) dss_nil) (dss_one (ds_retBag (de_lst (da_cons (de_var (i := 2)) (da_cons (de_var (i := 3)) da_nil))))))))), ?_⟩
    clear hu5 hu nd hp xo hr
    obtain ⟨ns, k, rfl, hl, h0, h1, q⟩ := h
    walk_at "go"
    refine ite2 (fun h => ?_) (fun h => ?_)
    · have h := of_decide_eq_true h
      walk_at "go"
      refine ⟨_, getI_in h0 (by omega), ?_⟩
      walk_at "go"
      refine ⟨⟨by decide, by decide, by decide⟩, md (by decide), ?_⟩
      dsimp only
      generalize hc : ns[k.toNat]'(by omega) % 10 ^ (60 : Int).toNat = cell
      have c0 : 0 ≤ cell := by rw [← hc]; exact Int.emod_nonneg _ (by decide)
      walk_at "go"
      refine ⟨md (by decide), mulR, mulL, mulR (by omega) (by omega), mulL, md (by decide), ?_⟩
      dsimp only
      generalize hs : (cell % 2147483629 * 16807 + 40009 * k * k + 7919 * k + 1009) % 2147483645 = seed
      have s0 : 0 ≤ seed := by rw [← hs]; exact Int.emod_nonneg _ (by decide)
      have s1 : seed < 2147483645 := by rw [← hs]; exact Int.emod_lt_of_pos _ (by decide)
      walk_at "go"
      refine ⟨⟨by decide, by decide, by decide⟩, ?_⟩
      walk_at "go"
      refine ite2 (fun h => ?_) (fun h => ?_)
      · walk_at "go"
        exact fun p => ⟨p, _, _, rfl, by decide, by omega, by omega, rfl, q⟩
      · walk_at "go"
        exact fun p => ⟨p, _, _, rfl, c0, by omega, by omega, rfl, q⟩
    · walk_at "go"
      refine ⟨md (by decide), mulR, mulL, mulR (by omega) (by omega), mulL, md (by decide), ?_⟩
      dsimp only
      generalize hs : (0 % 2147483629 * 16807 + 40009 * k * k + 7919 * k + 1009) % 2147483645 = seed
      have s0 : 0 ≤ seed := by rw [← hs]; exact Int.emod_nonneg _ (by decide)
      have s1 : seed < 2147483645 := by rw [← hs]; exact Int.emod_lt_of_pos _ (by decide)
      walk_at "go"
      refine ⟨⟨by decide, by decide, by decide⟩, ?_⟩
      walk_at "go"
      exact fun p => ⟨p, _, _, rfl, by decide, by omega, by omega, rfl, q⟩
/-! _law_take -/
def c__law_take : Con := fun ss Q _ => ∃ n : Int, ss = [.bag, .val (.int n)] ∧ 0 < n ∧ n ≤ 1000000 ∧ ∀ r, 0 ≤ r → r < n → Q (.val (.int r))
theorem scLawTake : FnScope ["bag", "count", "found"] ["bag", "count"] (defScope sLawTake) := ⟨rfl, rfl, rfl, by decide +kernel, rfl, by decide +kernel, by decide +kernel⟩
theorem ok__law_take (X : Tx K mg) : FnD P w K mg base 1 "_law_take" c__law_take := by
  refine fnD_ok (N := ["bag", "count", "found"]) (ps := ["bag", "count"]) X.f__law_take scLawTake (fun _ _ _ _ _ _ us hl => match us, hl with | [_, _], _ => rfl) (fun ss Q X' h => ?_) (fun f cdv A outer s H Y E ss Q' X' hr xo hp h => ?_)
  · obtain ⟨n, rfl, _⟩ := h
    rfl
  · have nd := scLawTake.nd
    have hu := hr.units
    have hu5 := room65 hr
    refine ⟨_, (dss_cons (ds_if (dt_cp c_gt (de_ix (de_var (i := 0)) de_int) de_int) (dss_cons (ds_set (i := 2) nd (de_mod (de_ix (de_var (i := 0)) de_int) (de_var (i := 1)))) (dss_cons (ds_setIx (i := 0) (de_fdiv (de_ix (de_var (i := 0)) de_int) (de_var (i := 1))) de_int) (dss_one (ds_ret (de_var (i := 2)))))) dss_nil) (dss_cons (ds_setIx (i := 0) (de_mod (de_mul (de_ix (de_var (i := 0)) de_int) de_int) de_int) de_int) (dss_one (ds_ret (de_mod (de_fdiv (de_mod (de_mul (de_fdiv (de_ix (de_var (i := 0)) de_int) de_int) (de_add (de_mod (de_ix (de_var (i := 0)) de_int) de_int) de_int)) de_int) de_int) (de_var (i := 1))))))), ?_⟩
    clear hu5 hu nd hp xo hr
    obtain ⟨n, rfl, h0, h1, q⟩ := h
    have fin : ∀ x : Int, 0 ≤ x % n ∧ x % n < n := fun x => ⟨Int.emod_nonneg _ (by omega), Int.emod_lt_of_pos _ h0⟩
    refine .inl ⟨rfl, fun x hx => ?_⟩
    walk_at "go"
    refine ite2 (fun h => ?_) (fun h => ?_)
    · refine .inl ⟨rfl, fun x hx => ?_⟩
      refine ⟨md h0, ?_⟩
      refine .inl ⟨rfl, fun y hy => ?_⟩
      refine ⟨⟨h0, by omega⟩, ⟨_, rfl, .inr rfl⟩, ?_⟩
      walk_at "go"
      refine ⟨Int.ediv_nonneg hy (by omega), .inl rfl, ?_⟩
      exact ⟨rfl, q _ (fin _).1 (fin _).2⟩
    · refine .inr ⟨rfl, fun y hy hy1 => ?_⟩
      refine ⟨mulR, md (by decide), ⟨_, rfl, .inr rfl⟩, ?_⟩
      walk_at "go"
      refine ⟨Int.emod_nonneg _ (by decide), .inr ⟨rfl, Int.emod_lt_of_pos _ (by decide)⟩, ?_⟩
      refine .inr ⟨rfl, fun a ha ha1 => ?_⟩
      refine ⟨⟨by decide, by decide⟩, ?_⟩
      refine .inr ⟨rfl, fun b hb hb1 => ?_⟩
      refine ⟨md (by decide), ?_⟩
      refine ⟨.inl ⟨?_, ?_⟩, md (by decide), ⟨by decide, by decide⟩, md h0, rfl, q _ (fin _).1 (fin _).2⟩
      · have : 0 ≤ a / 13 := Int.ediv_nonneg ha (by decide)
        omega
      · have : a / 13 < 2 ^ 64 := by omega
        exact this
/-! _law_rows -/
def c__law_rows : Con := fun ss Q _ => ∃ n : Int, ss = [.bag, .val (.int n)] ∧ 0 ≤ n ∧ n ≤ 1000 ∧ ∀ xs : List Int, (∀ x ∈ xs, 1 ≤ x ∧ x ≤ n) → xs.Pairwise (· < ·) → Q (.val (tupI xs))
theorem scLawRows : FnScope ["bag", "size", "found", "word", "row"] ["bag", "size"] (defScope sLawRows) := ⟨rfl, rfl, rfl, by decide +kernel, rfl, by decide +kernel, by decide +kernel⟩
theorem ok__law_rows (X : Tx K mg) : FnD P w K mg base 2 "_law_rows" c__law_rows := by
  refine fnD_ok (N := ["bag", "size", "found", "word", "row"]) (ps := ["bag", "size"]) X.f__law_rows scLawRows (fun _ _ _ _ _ _ us hl => match us, hl with | [_, _], _ => rfl) (fun ss Q X' h => ?_) (fun f cdv A outer s H Y E ss Q' X' hr xo hp h => ?_)
  · obtain ⟨n, rfl, _⟩ := h
    rfl
  · have nd := scLawRows.nd
    have hu := hr.units
    have hu5 := room65 hr
    refine ⟨_, (dss_cons (ds_par (i := 2) (j := 3) rfl nd (da_cons (de_tup da_nil) (da_cons (de_call (ok__law_take X) (hr.mono (by decide)) xo (da_cons (de_var (i := 0)) (da_cons de_int da_nil))) da_nil))) (dss_cons (ds_for hp rfl (di_r2 X.b_range (da_cons de_int (da_cons (de_add (de_var (i := 1)) de_int) da_nil))) (dg_name (i := 4) nd) (dss_cons (ds_if (dt_cp (c_eq hu) (de_var (i := 3)) de_int) (dss_one (ds_set (i := 2) nd (de_add (de_var (i := 2)) (de_tup (da_cons (de_var (i := 4)) da_nil))))) dss_nil) (dss_one (ds_if (dt_cp (c_eq hu) (de_call (ok__law_take X) (hr.mono (by decide)) xo (da_cons (de_var (i := 0)) (da_cons de_int da_nil))) de_int) (dss_one (ds_set (i := 3) nd (de_sub de_int (de_var (i := 3))))) dss_nil)))) (dss_one (ds_ret (de_var (i := 2)))))), ?_⟩
    clear hu5 hu nd hp xo hr
    obtain ⟨n, rfl, h0, h1, q⟩ := h
    walk_at "go"
    refine ⟨by decide, by decide, fun r r0 r1 => ?_⟩
    walk_at "go"
    refine ⟨by omega, by omega, by omega, by omega, by omega, ?_⟩
    refine forD_rng (fun i δ => ∃ xs : List Int, ∃ w s, (∀ x ∈ xs, 1 ≤ x ∧ x ≤ i) ∧ xs.Pairwise (· < ·) ∧ δ = [.bag, .val (.int n), .val (tupI xs), .val (.int w), s])
      ⟨[], r, .none, fun x hx => (by cases hx), .nil, rfl⟩ (fun _ _ _ => trivial) ?_ ?_
    · rintro i _ hi ⟨xs, w, s, h2, h3, rfl⟩ K k
      have hi' : (i : Int) < n := by omega
      walk_at "go"
      rw [eqv_int]
      have fin : ∀ ys : List Int, (∀ x ∈ ys, 1 ≤ x ∧ x ≤ ((i + 1 : Nat) : Int)) → ys.Pairwise (· < ·) → ∀ w s, K.nx [.bag, .val (.int n), .val (tupI ys), .val (.int w), s] := fun ys a b w s => k _ ⟨ys, w, s, a, b, rfl⟩
      have lx : xs.length ≤ 1000 := by
        have := asc_len h3 h2 (by omega)
        omega
      refine ite2 (fun h => ?_) (fun h => ?_)
      · walk_at "go"
        refine ⟨by simp [sizeLine_eq]; omega, ?_⟩
        have a1 : ∀ x ∈ xs ++ [1 + (i : Int)], 1 ≤ x ∧ x ≤ ((i + 1 : Nat) : Int) := fun x hx => by
          rcases List.mem_append.mp hx with hx | hx
          · have := h2 x hx
            omega
          · have : x = 1 + (i : Int) := by simpa using hx
            omega
        have a2 : (xs ++ [1 + (i : Int)]).Pairwise (· < ·) := List.pairwise_append.mpr ⟨h3, List.pairwise_singleton _ _, fun x hx y hy => by
          have h4 := h2 x hx
          have : y = 1 + (i : Int) := by simpa using hy
          omega⟩
        have fin := fin _ a1 a2
        rw [show tupI (xs ++ [1 + (i : Int)]) = .tuple (xs.map .int ++ [.int (1 + (i : Int))]) by simp [tupI]] at fin
        walk_at "go"
        refine ⟨by decide, by decide, fun r r0 r1 => ?_⟩
        walk_at "go"
        rw [eqv_int]
        refine ite2 (fun h => ?_) (fun h => ?_)
        · exact fin _ _
        · exact fin _ _
      · have fin := fin xs (fun x hx => ⟨(h2 x hx).1, by have := (h2 x hx).2; omega⟩) h3
        refine ⟨2, rfl, by decide, by decide, fun r r0 r1 => ?_⟩
        walk_at "go"
        rw [eqv_int]
        refine ite2 (fun h => ?_) (fun h => ?_)
        · exact fin _ _
        · exact fin _ _
    · rintro _ ⟨xs, w, s, h2, h3, rfl⟩
      walk_at "go"
      exact q xs (fun x hx => ⟨(h2 x hx).1, by have := (h2 x hx).2; omega⟩) h3
/-! _law_state -/
def c__law_state : Con := fun ss Q _ => ∃ m : Int, ss = [.bag, .val (.int m)] ∧ 0 < m ∧ m ≤ 40 ∧ ∀ n xs, n ≤ m → IsSt n xs → Q (.val (stD' n xs))
theorem scLawState : FnScope ["bag", "most", "size"] ["bag", "most"] (defScope sLawState) := ⟨rfl, rfl, rfl, by decide +kernel, rfl, by decide +kernel, by decide +kernel⟩
theorem ok__law_state (X : Tx K mg) : FnD P w K mg base 3 "_law_state" c__law_state := by
  refine fnD_ok (N := ["bag", "most", "size"]) (ps := ["bag", "most"]) X.f__law_state scLawState (fun _ _ _ _ _ _ us hl => match us, hl with | [_, _], _ => rfl) (fun ss Q X' h => ?_) (fun f cdv A outer s H Y E ss Q' X' hr xo hp h => ?_)
  · obtain ⟨n, rfl, _⟩ := h
    rfl
  · have nd := scLawState.nd
    have hu := hr.units
    have hu5 := room65 hr
    refine ⟨_, (dss_cons (ds_set (i := 2) nd (de_add de_int (de_call (ok__law_take X) (hr.mono (by decide)) xo (da_cons (de_var (i := 0)) (da_cons (de_var (i := 1)) da_nil))))) (dss_one (ds_ret (de_tup (da_cons (de_var (i := 2)) (da_cons (de_call (ok__law_rows X) (hr.mono (by decide)) xo (da_cons (de_var (i := 0)) (da_cons (de_var (i := 2)) da_nil))) da_nil)))))), ?_⟩
    clear hu5 hu nd hp xo hr
    obtain ⟨m, rfl, h0, h1, q⟩ := h
    walk_at "go"
    refine ⟨by omega, by omega, fun r r0 r1 => ?_⟩
    walk_at "go"
    refine ⟨by omega, by omega, fun xs hx hp => ?_⟩
    walk_at "go"
    exact q _ xs (by omega) ⟨by omega, by omega, hx, hp⟩
/-! is_integer -/
def c_is_integer : Con := fun ss Q _ => ∃ d lo hi, ss = [.val d, .val (.int lo), .val (.int hi)] ∧ noDict d = true ∧ Q (.val (.bool (mInt d lo hi)))
theorem scIsInteger : FnScope ["value", "low", "high"] ["value", "low", "high"] (defScope sIsInteger) := ⟨rfl, rfl, rfl, by decide +kernel, rfl, by decide +kernel, by decide +kernel⟩
theorem ok_is_integer (X : Tx K mg) : FnD P w K mg base 1 "is_integer" c_is_integer := by
  refine fnD_ok (N := ["value", "low", "high"]) (ps := ["value", "low", "high"]) X.f_is_integer scIsInteger (fun _ _ _ _ _ _ us hl => match us, hl with | [_, _, _], _ => rfl) (fun ss Q X' h => ?_) (fun f cdv A outer s H Y E ss Q' X' hr xo hp h => ?_)
  · obtain ⟨d, lo, hi, rfl, _⟩ := h
    rfl
  · have nd := scIsInteger.nd
    have hu := hr.units
    have hu5 := room65 hr
    refine ⟨_, (dss_one (ds_ret (de_and (de_isi (n := .int) (fun z => nomatch z) (by decide +kernel) X.b_int X.b_isinstance (de_var (i := 0))) (de_and (de_not (de_isi (n := .bool) (fun z => nomatch z) (by decide +kernel) X.b_bool X.b_isinstance (de_var (i := 0)))) (de_one (de_cp2 c_le c_le (de_var (i := 1)) (de_var (i := 0)) (de_var (i := 2)))))))), ?_⟩
    clear hu5 hu nd hp xo hr
    obtain ⟨d, lo, hi, rfl, hd, q⟩ := h
    cases d with
    | int i =>
      walk_at "go"
      refine ite2 (fun h => ⟨rfl, ?_⟩) (fun h => ⟨rfl, ?_⟩)
      · simpa [mInt, of_decide_eq_true h] using q
      · simpa [mInt, show ¬ lo ≤ i from fun z => h (decide_eq_true z)] using q
    | dict _ => simp [noDict] at hd
    | _ => walk_at "go"; exact q
/-! is_size -/
def c_is_size : Con := fun ss Q _ => ∃ d, ss = [.val d] ∧ noDict d = true ∧ Q (.val (.bool (mInt d 1 40)))
theorem scIsSize : FnScope ["value"] ["value"] (defScope sIsSize) := ⟨rfl, rfl, rfl, by decide +kernel, rfl, by decide +kernel, by decide +kernel⟩
theorem ok_is_size (X : Tx K mg) : FnD P w K mg base 2 "is_size" c_is_size := by
  refine fnD_ok (N := ["value"]) (ps := ["value"]) X.f_is_size scIsSize (fun _ _ _ _ _ _ us hl => match us, hl with | [_], _ => rfl) (fun ss Q X' h => ?_) (fun f cdv A outer s H Y E ss Q' X' hr xo hp h => ?_)
  · obtain ⟨d, rfl, _⟩ := h
    rfl
  · have nd := scIsSize.nd
    have hu := hr.units
    have hu5 := room65 hr
    refine ⟨_, (dss_one (ds_ret (de_call (ok_is_integer X) (hr.mono (by decide)) xo (da_cons (de_var (i := 0)) (da_cons de_int (da_cons (de_const X.g_LARGEST) da_nil)))))), ?_⟩
    clear hu5 hu nd hp xo hr
    obtain ⟨d, rfl, hd, q⟩ := h
    exact ⟨_, _, _, rfl, hd, rfl, q⟩
/-! are_rows -/
def c_are_rows : Con := fun ss Q _ => ∃ n d, ss = [.val (.int n), .val d] ∧ noDict d = true ∧ Q (.val (.bool (mRows n d)))
theorem scAreRows : FnScope ["size", "value", "row", "one", "other"] ["size", "value"] (defScope sAreRows) := ⟨rfl, rfl, rfl, by decide +kernel, rfl, by decide +kernel, by decide +kernel⟩
theorem ok_are_rows (X : Tx K mg) : FnD P w K mg base 2 "are_rows" c_are_rows := by
  refine fnD_ok (N := ["size", "value", "row", "one", "other"]) (ps := ["size", "value"]) X.f_are_rows scAreRows (fun _ _ _ _ _ _ us hl => match us, hl with | [_, _], _ => rfl) (fun ss Q X' h => ?_) (fun f cdv A outer s H Y E ss Q' X' hr xo hp h => ?_)
  · obtain ⟨d, lo, rfl, _⟩ := h
    rfl
  · have nd := scAreRows.nd
    have hu := hr.units
    have hu5 := room65 hr
    refine ⟨_, (dss_cons (ds_if (DW.dt (dw_or (dt_not (dt_truth (de_isi (n := .tuple) (fun z => nomatch z) (by decide +kernel) X.b_tuple X.b_isinstance (de_var (i := 1))))) (dw_or1 (dt_not (dt_truth (de_all rfl X.b_all (da_cons (de_comp (own := [("row", 2)]) (vs := [2]) rfl rfl nd (di_seq (de_var (i := 1))) (blkOk_by (N := ["size", "value", "row", "one", "other"]) (sc := defScope sAreRows) (by decide +kernel)) (tg_name 2) (fun _ _ _ _ _ => (pg_name (i := 2) nd rfl (by first | exact Or.inl rfl | exact Or.inr rfl))) (fun _ _ _ _ _ => dts_nil) (fun _ _ _ _ _ => (de_call (ok_is_integer X) (hr.mono (by decide)) xo_blk (da_cons (de_var (i := 2)) (da_cons de_int (da_cons (de_var (i := 0)) da_nil)))))) da_nil))))))) (dss_one (ds_ret de_bl)) dss_nil) (dss_one (ds_ret (de_all rfl X.b_all (da_cons (de_comp (own := [("one", 3), ("other", 4)]) (vs := [3, 4]) rfl rfl nd (di_zip X.b_zip (da_cons (de_var (i := 1)) (da_cons (de_slice (de_var (i := 1)) (do_some de_int) do_none) da_nil))) (blkOk_by (N := ["size", "value", "row", "one", "other"]) (sc := defScope sAreRows) (by decide +kernel)) (tg_tup (n := 2) (tgs_cons (tg_name 3) (tgs_cons (tg_name 4) tgs_nil))) (fun _ _ _ _ _ => (pg_tup (n := 2) rfl (pgs_cons (pg_name (i := 3) nd rfl (by first | exact Or.inl rfl | exact Or.inr rfl)) (pgs_cons (pg_name (i := 4) nd rfl (by first | exact Or.inl rfl | exact Or.inr rfl)) pgs_nil)))) (fun _ _ _ _ _ => dts_nil) (fun _ _ _ _ _ => (de_cp c_lt (de_var (i := 3)) (de_var (i := 4))))) da_nil))))), ?_⟩
    clear hu5 hu nd hp xo hr
    obtain ⟨n, d, rfl, hd, q⟩ := h
    have no : ∀ (hn : mRows n d = false), Q' (.val (.bool false)) := fun hn => by rw [hn] at q; exact q
    cases d with
    | tuple ds =>
      walk_at "go"
      rw [← List.map_id' ds]
      refine compD_map (fun x => x) (fun x => .bool (mInt x 1 n)) ds trivial (fun x hx K acc k => ?_) ?_
      · exact ⟨_, _, _, rfl, noDicts_mem hd hx, k⟩
      intro p
      refine ⟨ds.map fun x => mInt x 1 n, by simp [View, viewA, tagOf], ?_⟩
      cases hB : (ds.map fun x => mInt x 1 n).all id with
      | false => walk_at "go"; exact no (not_all_mInt (by rw [← hB, List.all_map]; rfl))
      | true =>
        obtain ⟨xs, rfl, hx⟩ := all_mInt (n := n) (ds := ds) (by rw [← hB, List.all_map]; rfl)
        rw [List.map_id']
        walk_at "go"
        refine ⟨⟨fun h => absurd rfl (h _), fun h => absurd rfl (h _)⟩, ?_⟩
        rw [cutD_map, cut1, zipD_map]
        refine compD_map (fun p : Int × Int => .tuple [.int p.1, .int p.2]) (fun p => .bool (decide (p.1 < p.2))) (xs.zip (xs.drop 1)) ⟨trivial, trivial⟩ (fun x hx K acc k => ?_) ?_
        · walk_at "go"; exact k
        intro p
        refine ⟨(xs.zip (xs.drop 1)).map fun p => decide (p.1 < p.2), by simp [View, viewA, tagOf], rfl, ?_⟩
        have e : ((xs.zip (xs.drop 1)).map fun p => decide (p.1 < p.2)).all id = asc xs := by rw [List.all_map]; exact asc_zip xs
        have e2 : mRows n (tupI xs) = asc xs := by
          show mRowsT n (asInts (xs.map .int)) = _
          rw [asInts_map]
          show isRows n xs = _
          unfold isRows
          rw [hx, Bool.true_and]
        rw [e, ← e2]
        exact q
    | dict _ => simp [noDict] at hd
    | _ => walk_at "go"; exact no rfl
/-! is_state -/
def c_is_state : Con := fun ss Q _ => ∃ d, ss = [.val d] ∧ noDict d = true ∧ Q (.val (.bool (mState d)))
theorem scIsState : FnScope ["value"] ["value"] (defScope sIsState) := ⟨rfl, rfl, rfl, by decide +kernel, rfl, by decide +kernel, by decide +kernel⟩
theorem ok_is_state (X : Tx K mg) : FnD P w K mg base 3 "is_state" c_is_state := by
  refine fnD_ok (N := ["value"]) (ps := ["value"]) X.f_is_state scIsState (fun _ _ _ _ _ _ us hl => match us, hl with | [_], _ => rfl) (fun ss Q X' h => ?_) (fun f cdv A outer s H Y E ss Q' X' hr xo hp h => ?_)
  · obtain ⟨d, rfl, _⟩ := h
    rfl
  · have nd := scIsState.nd
    have hu := hr.units
    have hu5 := room65 hr
    refine ⟨_, (dss_one (ds_ret (de_and (de_isi (n := .tuple) (fun z => nomatch z) (by decide +kernel) X.b_tuple X.b_isinstance (de_var (i := 0))) (de_and (de_cp (c_eq hu) (de_len X.b_len (da_cons (de_var (i := 0)) da_nil)) de_int) (de_and (de_call (ok_is_size X) (hr.mono (by decide)) xo (da_cons (de_ix (de_var (i := 0)) de_int) da_nil)) (de_one (de_call (ok_are_rows X) (hr.mono (by decide)) xo (da_cons (de_ix (de_var (i := 0)) de_int) (da_cons (de_ix (de_var (i := 0)) de_int) da_nil))))))))), ?_⟩
    clear hu5 hu nd hp xo hr
    obtain ⟨d, rfl, hd, q⟩ := h
    have no : ∀ (hn : mState d = false), Q' (.val (.bool false)) := fun hn => by rw [hn] at q; exact q
    cases d with
    | tuple ds =>
      match ds, hd, q, no with
      | [], hd, q, no => walk_at "go"; exact no rfl
      | [a], hd, q, no => walk_at "go"; exact no (by cases a <;> rfl)
      | [a, b], hd, q, no =>
        have ha : noDict a = true := noDicts_mem hd List.mem_cons_self
        have hb : noDict b = true := noDicts_mem hd (List.mem_cons_of_mem _ List.mem_cons_self)
        walk_at "go"
        refine ⟨ha, _, rfl, ?_⟩
        cases hB : mInt a 1 40 with
        | false => walk_at "go"; exact no (by cases a <;> first | rfl | (exact (Bool.and_eq_false_iff.mpr (.inl hB))))
        | true =>
          cases a with
          | int n =>
            walk_at "go"
            exact ⟨hb, rfl, by rw [show mState (.tuple [.int n, b]) = (mInt (.int n) 1 40 && mRows n b) from rfl, hB, Bool.true_and] at q; exact q⟩
          | _ => cases hB
      | a :: b :: c :: r, hd, q, no => walk_at "go"; exact no (by cases a <;> rfl)
    | dict _ => simp [noDict] at hd
    | _ => walk_at "go"; exact no rfl
/-! require_state -/
def c_require_state : Con := fun ss Q X => ∃ d, ss = [.val d] ∧ noDict d = true ∧ (mState d = true → Q (.val .none)) ∧ (mState d = false → X "InvalidState")
theorem scRequireState : FnScope ["state"] ["state"] (defScope sRequireState) := ⟨rfl, rfl, rfl, by decide +kernel, rfl, by decide +kernel, by decide +kernel⟩
theorem ok_require_state (X : Tx K mg) : FnD P w K mg base 4 "require_state" c_require_state := by
  refine fnD_ok (N := ["state"]) (ps := ["state"]) X.f_require_state scRequireState (fun _ _ _ _ _ _ us hl => match us, hl with | [_], _ => rfl) (fun ss Q X' h => ?_) (fun f cdv A outer s H Y E ss Q' X' hr xo hp h => ?_)
  · obtain ⟨d, rfl, _⟩ := h
    rfl
  · have nd := scRequireState.nd
    have hu := hr.units
    have hu5 := room65 hr
    refine ⟨_, (dss_one (ds_if (dt_not (dt_truth (de_call (ok_is_state X) (hr.mono (by decide)) xo (da_cons (de_var (i := 0)) da_nil)))) (dss_one (ds_raise X.c_InvalidState rfl xo)) dss_nil)), ?_⟩
    clear hu5 hu nd hp xo hr
    obtain ⟨d, rfl, hd, q, x⟩ := h
    refine ⟨d, rfl, hd, ?_⟩
    cases hB : mState d with
    | false => exact x hB
    | true => exact q hB
/-! blocks_of -/
def c_blocks_of : Con := fun ss Q _ => ∃ xs : List Int, ss = [.val (tupI xs)] ∧ xs.length ≤ 1000 ∧ ∀ p, Q (.own p (prsD (blocksOf xs)))
theorem scBlocksOf : FnScope ["hidden", "found", "row"] ["hidden"] (defScope sBlocksOf) := ⟨rfl, rfl, rfl, by decide +kernel, rfl, by decide +kernel, by decide +kernel⟩
theorem ok_blocks_of (X : Tx K mg) : FnD P w K mg base 1 "blocks_of" c_blocks_of := by
  refine fnD_ok (N := ["hidden", "found", "row"]) (ps := ["hidden"]) X.f_blocks_of scBlocksOf (fun _ _ _ _ _ _ us hl => match us, hl with | [_], _ => rfl) (fun ss Q X' h => ?_) (fun f cdv A outer s H Y E ss Q' X' hr xo hp h => ?_)
  · obtain ⟨d, rfl, _⟩ := h
    rfl
  · have nd := scBlocksOf.nd
    have hu := hr.units
    have hu5 := room65 hr
    refine ⟨_, (dss_cons (ds_set (i := 1) nd (de_lst da_nil)) (dss_cons (ds_for hp rfl (di_seq (de_var (i := 0))) (dg_name (i := 2) nd) (dss_one (ds_if (DW.dt (dw_and (dt_truth (de_var (i := 1))) (dw_and1 (dt_cp (c_eq hu) (de_ix (de_ix (de_var (i := 1)) (de_neg de_int)) de_int) (de_sub (de_var (i := 2)) de_int))))) (dss_one (ds_setIx (i := 1) (de_tup (da_cons (de_ix (de_ix (de_var (i := 1)) (de_neg de_int)) de_int) (da_cons (de_var (i := 2)) da_nil))) (de_neg de_int))) (dss_one (ds_expr (de_append (i := 1) (de_tup (da_cons (de_var (i := 2)) (da_cons (de_var (i := 2)) da_nil))))))))) (dss_one (ds_ret (de_var (i := 1)))))), ?_⟩
    clear hu5 hu nd hp xo hr
    obtain ⟨xs, rfl, hl, q⟩ := h
    walk_at "go"
    intro p
    refine ⟨xs.map .int, rfl, ?_⟩
    refine forD_inv PyData.int xs (fun done δ => ∃ s, δ = [.val (tupI xs), .own p (prsD (blocksOf done)), s]) ⟨_, rfl⟩ (fun _ _ _ => trivial) ?_ ?_
    · rintro done x rest _ e ⟨s, rfl⟩ K k
      have ln : (blocksOf done).length ≤ 1000 := by
        have h1 := blocksOf_len done
        have h2 := congrArg List.length e
        simp at h2
        omega
      have bs : blocksOf (done ++ [x]) = blkStep (blocksOf done) x := by simp [blocksOf]
      rw [bs] at k
      generalize blocksOf done = b at *
      rcases List.eq_nil_or_concat b with rfl | ⟨i, ⟨u, v⟩, rfl⟩
      · walk_at "go"
        exact k _ ⟨_, rfl⟩
      · simp only [List.concat_eq_append] at *
        have ne : (prsD (i ++ [(u, v)])).isEmpty = false := by simp
        have gl : getI (prsD (i ++ [(u, v)])) (-1) = some (prD (u, v)) := by rw [get_last1 (by simp)]; simp
        have bk : blkStep (i ++ [(u, v)]) x = if v = x - 1 then i ++ [(u, x)] else i ++ [(u, v)] ++ [(x, x)] := by simp [blkStep]
        walk_at "go"
        rw [ne]
        walk_at "go"
        refine ⟨_, _, rfl, gl, ?_⟩
        walk_at "go"
        rw [eqv_int]
        refine ite2 (fun h => ?_) (fun h => ?_)
        · have h : v = x - 1 := of_decide_eq_true h
          rw [bk, if_pos h] at k
          walk_at "go"
          refine ⟨_, _, rfl, gl, ?_⟩
          walk_at "go"
          refine ⟨⟨_, rfl, .inl ⟨_, _, rfl⟩⟩, ?_⟩
          walk_at "go"
          refine ⟨i.length, by simp [ixN]; omega, k _ ⟨.val (.int x), ?_⟩⟩
          simp [prsD]
        · have h : ¬ v = x - 1 := fun z => h (decide_eq_true z)
          rw [bk, if_neg h] at k
          walk_at "go"
          exact ⟨by simp at ln ⊢; omega, k _ ⟨.val (.int x), by simp [prsD]⟩⟩
    · rintro _ ⟨s, rfl⟩
      walk_at "go"
      exact q p
/-! blocks -/
def c_blocks : Con := fun ss Q X => ∃ d, ss = [.val d] ∧ noDict d = true ∧ (∀ n xs, d = stD' n xs → IsSt n xs → ∀ p, Q (.own p (prsD (blocksOf xs)))) ∧ (mState d = false → X "InvalidState")
theorem scBlocks : FnScope ["state"] ["state"] (defScope sBlocks) := ⟨rfl, rfl, rfl, by decide +kernel, rfl, by decide +kernel, by decide +kernel⟩
theorem ok_blocks (X : Tx K mg) : FnD P w K mg base 5 "blocks" c_blocks := by
  refine fnD_ok (N := ["state"]) (ps := ["state"]) X.f_blocks scBlocks (fun _ _ _ _ _ _ us hl => match us, hl with | [_], _ => rfl) (fun ss Q X' h => ?_) (fun f cdv A outer s H Y E ss Q' X' hr xo hp h => ?_)
  · obtain ⟨d, rfl, _⟩ := h
    rfl
  · have nd := scBlocks.nd
    have hu := hr.units
    have hu5 := room65 hr
    refine ⟨_, (dss_cons (ds_expr (de_call (ok_require_state X) (hr.mono (by decide)) xo (da_cons (de_var (i := 0)) da_nil))) (dss_one (ds_ret (de_call (ok_blocks_of X) (hr.mono (by decide)) xo (da_cons (de_ix (de_var (i := 0)) de_int) da_nil))))), ?_⟩
    clear hu5 hu nd hp xo hr
    obtain ⟨d, rfl, hd, q, x⟩ := h
    refine ⟨d, rfl, hd, fun h => ?_, x⟩
    obtain ⟨n, xs, rfl, st⟩ := mState_some h
    walk_at "go"
    refine ⟨by have := st.len; omega, fun p p' => ⟨rfl, q n xs rfl st p'⟩⟩
/-! visible_of -/
def c_visible_of : Con := fun ss Q _ => ∃ n xs, ss = [.val (stD' n xs)] ∧ IsSt n xs ∧ ∀ p, Q (.own p (intsD (seenOf n xs)))
theorem scVisibleOf : FnScope ["state", "row"] ["state"] (defScope sVisibleOf) := ⟨rfl, rfl, rfl, by decide +kernel, rfl, by decide +kernel, by decide +kernel⟩
theorem ok_visible_of (X : Tx K mg) : FnD P w K mg base 1 "visible_of" c_visible_of := by
  refine fnD_ok (N := ["state", "row"]) (ps := ["state"]) X.f_visible_of scVisibleOf (fun _ _ _ _ _ _ us hl => match us, hl with | [_], _ => rfl) (fun ss Q X' h => ?_) (fun f cdv A outer s H Y E ss Q' X' hr xo hp h => ?_)
  · obtain ⟨n, d, rfl, _⟩ := h
    rfl
  · have nd := scVisibleOf.nd
    have hu := hr.units
    have hu5 := room65 hr
    refine ⟨_, (dss_one (ds_ret (de_comp (own := [("row", 1)]) (vs := [1]) rfl rfl nd (di_r2 X.b_range (da_cons de_int (da_cons (de_add (de_ix (de_var (i := 0)) de_int) de_int) da_nil))) (blkOk_by (N := ["state", "row"]) (sc := defScope sVisibleOf) (by decide +kernel)) (tg_name 1) (fun _ _ _ _ _ => (pg_name (i := 1) nd rfl (by first | exact Or.inl rfl | exact Or.inr rfl))) (fun _ _ _ _ _ => (dts_one (dt_cp (c_notin hu5) (de_var (i := 1)) (de_ix (de_var (i := 0)) de_int)))) (fun _ _ _ _ _ => (de_var (i := 1)))))), ?_⟩
    clear hu5 hu nd hp xo hr
    obtain ⟨n, xs, rfl, st, q⟩ := h
    have n1 := st.n1
    have n2 := st.n2
    walk_at "go"
    refine ⟨by omega, by omega, by omega, by omega, by omega, ?_⟩
    unfold rangeD
    refine compD_typed (fun i : Nat => .int (1 + (i : Int))) (fun i => decide ((1 + (i : Int)) ∉ xs)) (fun i => .int (1 + (i : Int))) trivial _ _ (fun x hx K acc k => ?_) ?_
    · walk_at "go"
      rw [any_int]
      walk_at "go"
      by_cases hm : (1 + (x : Int)) ∈ xs
      · rw [if_neg (by simp [hm])] at k
        simp only [hm, decide_true]
        exact k
      · rw [if_pos (by simp [hm])] at k
        simp only [hm, decide_false]
        exact k
    intro p
    refine ⟨rfl, ?_⟩
    have e : ((List.range (n + 1 - 1).toNat).filter fun i : Nat => decide ((1 + (i : Int)) ∉ xs)).map (fun i : Nat => PyData.int (1 + (i : Int))) = intsD (seenOf n xs) := by
      unfold seenOf intsD
      rw [List.filter_map, List.map_map, show n + 1 - 1 = n by omega]
      rfl
    rw [List.nil_append, e]
    exact q p
/-! visible -/
def c_visible : Con := fun ss Q X => ∃ d, ss = [.val d] ∧ noDict d = true ∧ (∀ n xs, d = stD' n xs → IsSt n xs → ∀ p, Q (.own p (intsD (seenOf n xs)))) ∧ (mState d = false → X "InvalidState")
theorem scVisible : FnScope ["state"] ["state"] (defScope sVisible) := ⟨rfl, rfl, rfl, by decide +kernel, rfl, by decide +kernel, by decide +kernel⟩
theorem ok_visible (X : Tx K mg) : FnD P w K mg base 5 "visible" c_visible := by
  refine fnD_ok (N := ["state"]) (ps := ["state"]) X.f_visible scVisible (fun _ _ _ _ _ _ us hl => match us, hl with | [_], _ => rfl) (fun ss Q X' h => ?_) (fun f cdv A outer s H Y E ss Q' X' hr xo hp h => ?_)
  · obtain ⟨d, rfl, _⟩ := h
    rfl
  · have nd := scVisible.nd
    have hu := hr.units
    have hu5 := room65 hr
    refine ⟨_, (dss_cons (ds_expr (de_call (ok_require_state X) (hr.mono (by decide)) xo (da_cons (de_var (i := 0)) da_nil))) (dss_one (ds_ret (de_call (ok_visible_of X) (hr.mono (by decide)) xo (da_cons (de_var (i := 0)) da_nil))))), ?_⟩
    clear hu5 hu nd hp xo hr
    obtain ⟨d, rfl, hd, q, x⟩ := h
    refine ⟨d, rfl, hd, fun h => ?_, x⟩
    obtain ⟨n, xs, rfl, st⟩ := mState_some h
    refine ⟨n, xs, rfl, st, fun p p' => ⟨rfl, q n xs rfl st p'⟩⟩
/-! require_small -/
def c_require_small : Con := fun ss Q X => ∃ n h, ss = [.val (stD' n h)] ∧ IsSt n h ∧ (n ≤ 8 → Q (.val .none)) ∧ (8 < n → X "TooLarge")
theorem scRequireSmall : FnScope ["state"] ["state"] (defScope sRequireSmall) := ⟨rfl, rfl, rfl, by decide +kernel, rfl, by decide +kernel, by decide +kernel⟩
theorem ok_require_small (X : Tx K mg) : FnD P w K mg base 1 "require_small" c_require_small := by
  refine fnD_ok (N := ["state"]) (ps := ["state"]) X.f_require_small scRequireSmall (fun _ _ _ _ _ _ us hl => match us, hl with | [_], _ => rfl) (fun ss Q X' h => ?_) (fun f cdv A outer s H Y E ss Q' X' hr xo hp h => ?_)
  · obtain ⟨n, h, rfl, _⟩ := h
    rfl
  · have nd := scRequireSmall.nd
    have hu := hr.units
    have hu5 := room65 hr
    refine ⟨_, (dss_one (ds_if (dt_cp c_gt (de_ix (de_var (i := 0)) de_int) (de_const X.g_SMALL)) (dss_one (ds_raise X.c_TooLarge rfl xo)) dss_nil)), ?_⟩
    clear hu5 hu nd hp xo hr
    obtain ⟨n, h, rfl, st, q, x⟩ := h
    walk_at "go"
    refine ite2 (fun z => ?_) (fun z => ?_)
    · exact x (of_decide_eq_true z)
    · exact q (by have : ¬ 8 < n := fun y => z (decide_eq_true y); omega)
/-! rows_of -/
def c_rows_of : Con := fun ss Q _ => ∃ a b : Int, ss = [.val (.tuple [.int a, .int b])] ∧ -1000 ≤ a ∧ a ≤ 1000 ∧ -1000 ≤ b ∧ b ≤ 1000 ∧ ∀ p, Q (.own p ((blkRows (a, b)).map .int))
theorem scRowsOf : FnScope ["block"] ["block"] (defScope sRowsOf) := ⟨rfl, rfl, rfl, by decide +kernel, rfl, by decide +kernel, by decide +kernel⟩
theorem ok_rows_of (X : Tx K mg) : FnD P w K mg base 1 "rows_of" c_rows_of := by
  refine fnD_ok (N := ["block"]) (ps := ["block"]) X.f_rows_of scRowsOf (fun _ _ _ _ _ _ us hl => match us, hl with | [_], _ => rfl) (fun ss Q X' h => ?_) (fun f cdv A outer s H Y E ss Q' X' hr xo hp h => ?_)
  · obtain ⟨a, b, rfl, _⟩ := h
    rfl
  · have nd := scRowsOf.nd
    have hu := hr.units
    have hu5 := room65 hr
    refine ⟨_, (dss_one (ds_ret (de_listRg2 rfl X.b_list X.b_range (de_ix (de_var (i := 0)) de_int) (de_add (de_ix (de_var (i := 0)) de_int) de_int)))), ?_⟩
    clear hu5 hu nd hp xo hr
    obtain ⟨a, b, rfl, a0, a1, b0, b1, q⟩ := h
    walk_at "go"
    refine ⟨by omega, by omega, by omega, by omega, by omega, fun p => ?_⟩
    rw [rangeD_blk]
    exact ⟨rfl, q p⟩
/-! needed_in -/
def c_needed_in : Con := fun ss Q _ => ∃ h w, ss = [.val (tupI h), .val (tupI w)] ∧ ∃ n, IsSt n h ∧ ∀ p, Q (.own p (prsD (ndl h w)))
theorem scNeededIn : FnScope ["hidden", "wished", "block", "row"] ["hidden", "wished"] (defScope sNeededIn) := ⟨rfl, rfl, rfl, by decide +kernel, rfl, by decide +kernel, by decide +kernel⟩
theorem ok_needed_in (X : Tx K mg) : FnD P w K mg base 2 "needed_in" c_needed_in := by
  refine fnD_ok (N := ["hidden", "wished", "block", "row"]) (ps := ["hidden", "wished"]) X.f_needed_in scNeededIn (fun _ _ _ _ _ _ us hl => match us, hl with | [_, _], _ => rfl) (fun ss Q X' h => ?_) (fun f cdv A outer s H Y E ss Q' X' hr xo hp h => ?_)
  · obtain ⟨h, w, rfl, _⟩ := h
    rfl
  · have nd := scNeededIn.nd
    have hu := hr.units
    have hu5 := room65 hr
    refine ⟨_, (dss_one (ds_ret (de_comp (own := [("block", 2)]) (vs := [2]) rfl rfl nd (di_seq (de_call (ok_blocks_of X) (hr.mono (by decide)) xo (da_cons (de_var (i := 0)) da_nil))) (blkOk_by (N := ["hidden", "wished", "block", "row"]) (sc := defScope sNeededIn) (by decide +kernel)) (tg_name 2) (fun _ _ _ _ _ => (pg_name (i := 2) nd rfl (by first | exact Or.inl rfl | exact Or.inr rfl))) (fun _ _ _ _ _ => (dts_one (dt_not (dt_truth (de_all rfl X.b_all (da_cons (de_comp (own := [("row", 3)]) (vs := [3]) rfl rfl nd (di_seq (de_call (ok_rows_of X) (hr.mono (by decide)) xo_blk (da_cons (de_var (i := 2)) da_nil))) (blkOk_by (N := ["hidden", "wished", "block", "row"]) (sc := relab (lcK sNeededIn 0) (defScope sNeededIn)) (by decide +kernel)) (tg_name 3) (fun _ _ _ _ _ => (pg_name (i := 3) nd rfl (by first | exact Or.inl rfl | exact Or.inr rfl))) (fun _ _ _ _ _ => dts_nil) (fun _ _ _ _ _ => (de_cp (c_in hu5) (de_var (i := 3)) (de_var (i := 1))))) da_nil)))))) (fun _ _ _ _ _ => (de_var (i := 2)))))), ?_⟩
    clear hu5 hu nd hp xo hr
    obtain ⟨h, w, rfl, n, st, q⟩ := h
    have n2 := st.n2
    walk_at "go"
    refine ⟨by have := st.len; omega, fun p1 p2 => ?_⟩
    refine ⟨_, rfl, ?_⟩
    refine compD_typed prD (fun c => !(blkRows c).all fun r => decide (r ∈ w)) prD trivial _ [] (fun c hc K acc k => ?_) ?_
    · have b := blocks_range st c hc
      walk_at "go"
      refine ⟨by omega, by omega, by omega, by omega, fun p3 p4 => ⟨_, rfl, ?_⟩⟩
      refine compD_map PyData.int (fun r => .bool (decide (r ∈ w))) (blkRows c) trivial (fun r hr K' acc' k' => ?_) ?_
      · walk_at "go"
        rw [any_int, Bool.bne_false]
        exact k'
      intro p5
      refine ⟨(blkRows c).map fun r => decide (r ∈ w), by simp [View, viewA, tagOf], ?_⟩
      have e : ((blkRows c).map fun r => decide (r ∈ w)).all id = (blkRows c).all fun r => decide (r ∈ w) := by rw [List.all_map]; rfl
      rw [e]
      cases hB : (blkRows c).all fun r => decide (r ∈ w) with
      | false => rw [hB] at k; walk_at "go"; exact k
      | true => rw [hB] at k; walk_at "go"; exact k
    · intro p
      exact ⟨rfl, q p⟩
/-! freed -/
def c_freed : Con := fun ss Q _ => ∃ h w, ss = [.val (tupI h), .val (tupI w)] ∧ ∃ n, IsSt n h ∧ ∀ p, Q (.own p (intsD (freedL h w)))
theorem scFreed : FnScope ["hidden", "wished", "found", "block"] ["hidden", "wished"] (defScope sFreed) := ⟨rfl, rfl, rfl, by decide +kernel, rfl, by decide +kernel, by decide +kernel⟩
theorem ok_freed (X : Tx K mg) : FnD P w K mg base 3 "freed" c_freed := by
  refine fnD_ok (N := ["hidden", "wished", "found", "block"]) (ps := ["hidden", "wished"]) X.f_freed scFreed (fun _ _ _ _ _ _ us hl => match us, hl with | [_, _], _ => rfl) (fun ss Q X' h => ?_) (fun f cdv A outer s H Y E ss Q' X' hr xo hp h => ?_)
  · obtain ⟨h, w, rfl, _⟩ := h
    rfl
  · have nd := scFreed.nd
    have hu := hr.units
    have hu5 := room65 hr
    refine ⟨_, (dss_cons (ds_set (i := 2) nd (de_lst da_nil)) (dss_cons (ds_for hp rfl (di_seq (de_call (ok_needed_in X) (hr.mono (by decide)) xo (da_cons (de_var (i := 0)) (da_cons (de_var (i := 1)) da_nil)))) (dg_name (i := 3) nd) (dss_one (ds_augAdd (i := 2) nd (de_call (ok_rows_of X) (hr.mono (by decide)) xo (da_cons (de_var (i := 3)) da_nil))))) (dss_one (ds_ret (de_var (i := 2)))))), ?_⟩
    clear hu5 hu nd hp xo hr
    obtain ⟨h, w, rfl, n, st, q⟩ := h
    have n1 := st.n1
    have n2 := st.n2
    walk_at "go"
    intro p
    walk_at "go"
    refine ⟨n, st, fun p1 p2 => ⟨_, rfl, ?_⟩⟩
    refine forD_inv prD (ndl h w) (fun done δ => ∃ s, δ = [.val (tupI h), .val (tupI w), .own p (intsD (done.flatMap blkRows)), s]) ⟨_, rfl⟩ (fun _ _ _ => trivial) ?_ ?_
    · rintro done ⟨ca, cb⟩ rest _ e ⟨s, rfl⟩ K k
      have mem : ∀ d ∈ done ++ [(ca, cb)], d ∈ ndl h w := fun d hd => by
        rw [e]
        rcases List.mem_append.mp hd with hd | hd
        · exact List.mem_append_left _ hd
        · rw [List.mem_singleton.mp hd]; simp
      have b := ndl_range (w := w) st (ca, cb) (mem (ca, cb) (by simp))
      dsimp only at b
      have ln : (((done ++ [(ca, cb)]).flatMap blkRows).length : Int) ≤ n := flat_len (by
        have pw := ndl_pw st.asc w
        rw [e, show done ++ (ca, cb) :: rest = (done ++ [(ca, cb)]) ++ rest by simp] at pw
        exact (List.pairwise_append.mp pw).1) (fun d hd => ndl_range (w := w) st d (mem d hd)) (by omega)
      have e2 : (done ++ [(ca, cb)]).flatMap blkRows = done.flatMap blkRows ++ blkRows (ca, cb) := by simp
      rw [e2] at k ln
      rw [List.length_append] at ln
      walk_at "go"
      refine ⟨⟨_, rfl, fun z => nomatch z⟩, ?_⟩
      walk_at "go"
      refine ⟨by omega, by omega, by omega, by omega, fun p3 p4 => ⟨_, rfl, ?_⟩⟩
      refine ⟨by rw [List.length_map, List.length_map]; dsimp only; omega, k _ ⟨.val (prD (ca, cb)), ?_⟩⟩
      simp [intsD]
    · rintro _ ⟨s, rfl⟩
      walk_at "go"
      exact q p
/-! split_runs -/
def c_split_runs : Con := fun ss Q _ => ∃ h w, ss = [.val (tupI h), .val (tupI w)] ∧ ∃ n, IsSt n h ∧ IsSt n w ∧ Q (.val (.tuple [.list (prsD (hotL h w)), .list (prsD (coldL h w))]))
theorem scSplitRuns : FnScope ["hidden", "wished", "loose", "found", "block", "is_touched", "row"] ["hidden", "wished"] (defScope sSplitRuns) := ⟨rfl, rfl, rfl, by decide +kernel, rfl, by decide +kernel, by decide +kernel⟩
theorem ok_split_runs (X : Tx K mg) : FnD P w K mg base 4 "split_runs" c_split_runs := by
  refine fnD_ok (N := ["hidden", "wished", "loose", "found", "block", "is_touched", "row"]) (ps := ["hidden", "wished"]) X.f_split_runs scSplitRuns (fun _ _ _ _ _ _ us hl => match us, hl with | [_, _], _ => rfl) (fun ss Q X' h => ?_) (fun f cdv A outer s H Y E ss Q' X' hr xo hp h => ?_)
  · obtain ⟨h, w, rfl, _⟩ := h
    rfl
  · have nd := scSplitRuns.nd
    have hu := hr.units
    have hu5 := room65 hr
    refine ⟨_, (dss_cons (ds_set (i := 2) nd (de_call (ok_freed X) (hr.mono (by decide)) xo (da_cons (de_var (i := 0)) (da_cons (de_var (i := 1)) da_nil)))) (dss_cons (ds_set (i := 3) nd de_two) (dss_cons (ds_for hp rfl (di_seq (de_call (ok_blocks_of X) (hr.mono (by decide)) xo (da_cons (de_var (i := 1)) da_nil))) (dg_name (i := 4) nd) (dss_cons (ds_set (i := 5) nd (de_any rfl X.b_any (da_cons (de_comp (own := [("row", 6)]) (vs := [6]) rfl rfl nd (di_seq (de_call (ok_rows_of X) (hr.mono (by decide)) xo (da_cons (de_var (i := 4)) da_nil))) (blkOk_by (N := ["hidden", "wished", "loose", "found", "block", "is_touched", "row"]) (sc := defScope sSplitRuns) (by decide +kernel)) (tg_name 6) (fun _ _ _ _ _ => (pg_name (i := 6) nd rfl (by first | exact Or.inl rfl | exact Or.inr rfl))) (fun _ _ _ _ _ => dts_nil) (fun _ _ _ _ _ => (de_or (de_cp (c_notin hu5) (de_var (i := 6)) (de_var (i := 0))) (de_one (de_cp (c_in hu5) (de_var (i := 6)) (de_var (i := 2))))))) da_nil))) (dss_one (ds_expr (de_appTwo (i := 3) (de_if (dt_truth (de_var (i := 5))) de_int de_int) (de_var (i := 4))))))) (dss_one (ds_retTwo (i := 3)))))), ?_⟩
    clear hu5 hu nd hp xo hr
    obtain ⟨h, w, rfl, n, st, sw, q⟩ := h
    have n1 := st.n1
    have n2 := st.n2
    walk_at "go"
    refine ⟨n, st, fun p1 p2 => ?_⟩
    walk_at "go"
    intro t p q'
    walk_at "go"
    refine ⟨by have := sw.len; omega, fun p3 p4 => ⟨_, rfl, ?_⟩⟩
    refine forD_inv prD (blocksOf w) (fun done δ => ∃ s u v, δ = [.val (tupI h), .val (tupI w), .own p2 (intsD (freedL h w)), .two t p q' (prsD (done.filter (tch h w))) (prsD (done.filter fun c => !tch h w c)), s, u, v]) ⟨_, _, _, rfl⟩ (fun _ _ _ => trivial) ?_ ?_
    · rintro done c rest _ e ⟨s, u, v, rfl⟩ K k
      have b := blocks_range sw c (by rw [e]; simp)
      have ln : done.length ≤ 40 := by
        have h1 := blocks_len sw
        have h2 := congrArg List.length e
        simp at h2
        omega
      have l1 : (done.filter (tch h w)).length ≤ 40 := Nat.le_trans (List.length_filter_le _ _) ln
      have l2 : (done.filter fun c => !tch h w c).length ≤ 40 := Nat.le_trans (List.length_filter_le _ _) ln
      rw [List.filter_append, List.filter_append] at k
      walk_at "go"
      refine ⟨by omega, by omega, by omega, by omega, fun p5 p6 => ⟨_, rfl, ?_⟩⟩
      refine compD_map PyData.int (fun r => .bool (decide (r ∉ h) || decide (r ∈ freedL h w))) (blkRows c) trivial (fun r hr K' acc' k' => ?_) ?_
      · walk_at "go"
        rw [any_int]
        by_cases z : r ∈ h
        · rw [decide_eq_true z]
          rw [decide_eq_false (fun y => y z), Bool.false_or] at k'
          walk_at "go"
          rw [any_int, Bool.bne_false]
          exact ⟨shaped_ints _, k'⟩
        · rw [decide_eq_false z]
          rw [decide_eq_true z, Bool.true_or] at k'
          walk_at "go"
          exact k'
      intro p7
      refine ⟨(blkRows c).map fun r => decide (r ∉ h) || decide (r ∈ freedL h w), by simp [View, viewA, tagOf], ?_⟩
      have e2 : ((blkRows c).map fun r => decide (r ∉ h) || decide (r ∈ freedL h w)).any id = tch h w c := by rw [List.any_map]; rfl
      rw [e2]
      walk_at "go"
      refine ⟨_, _, _, ⟨_, _, rfl⟩, ?_⟩
      cases hB : tch h w c with
      | true =>
        rw [List.filter_cons, List.filter_cons, hB, if_pos rfl, if_neg (by decide), List.filter_nil, List.filter_nil, List.append_nil] at k
        walk_at "go"
        refine ⟨.inl rfl, _, _, rfl, by rw [List.length_map]; omega, by rw [List.length_map]; omega, k _ ⟨.val (prD c), .val (.bool true), .none, ?_⟩⟩
        rw [if_pos rfl, prsD_snoc]
        rfl
      | false =>
        rw [List.filter_cons, List.filter_cons, hB, if_neg (by decide), if_pos (by decide), List.filter_nil, List.filter_nil, List.append_nil] at k
        walk_at "go"
        refine ⟨.inr rfl, _, _, rfl, by rw [List.length_map]; omega, by rw [List.length_map]; omega, k _ ⟨.val (prD c), .val (.bool false), .none, ?_⟩⟩
        rw [if_neg (by decide), prsD_snoc]
        rfl
    · rintro _ ⟨s, u, v, rfl⟩
      exact ⟨_, _, _, _, _, rfl, rfl, q⟩
/-! can_run -/
abbrev c_can_run : Con := fun _ _ _ => False
theorem ok_can_run (X : Tx K mg) : FnD P w K mg base 1 "can_run" c_can_run := fnD_void (ps := ["state", "value"]) X.f_can_run (fun _ _ _ _ _ _ us hl => match us, hl with | [_, _], _ => rfl)
/-! require_possible -/
def c_require_possible : Con := fun ss Q X => ∃ d e, ss = [.val d, .val e] ∧ noDict d = true ∧ mState d = false ∧ X "InvalidState"
theorem scRequirePossible : FnScope ["state", "script"] ["state", "script"] (defScope sRequirePossible) := ⟨rfl, rfl, rfl, by decide +kernel, rfl, by decide +kernel, by decide +kernel⟩
theorem ok_require_possible (X : Tx K mg) : FnD P w K mg base 5 "require_possible" c_require_possible := by
  refine fnD_ok (N := ["state", "script"]) (ps := ["state", "script"]) X.f_require_possible scRequirePossible (fun _ _ _ _ _ _ us hl => match us, hl with | [_, _], _ => rfl) (fun ss Q X' h => ?_) (fun f cdv A outer s H Y E ss Q' X' hr xo hp h => ?_)
  · obtain ⟨d, e, rfl, _⟩ := h
    rfl
  · have nd := scRequirePossible.nd
    have hu := hr.units
    have hu5 := room65 hr
    refine ⟨_, (dss_cons (ds_expr (de_call (ok_require_state X) (hr.mono (by decide)) xo (da_cons (de_var (i := 0)) da_nil))) (dss_one (ds_if (dt_not (dt_truth (de_call (ok_can_run X) (hr.mono (by decide)) xo (da_cons (de_var (i := 0)) (da_cons (de_var (i := 1)) da_nil))))) (dss_one (ds_raise X.c_InvalidScript rfl xo)) dss_nil))), ?_⟩
    clear hu5 hu nd hp xo hr
    obtain ⟨d, e, rfl, hd, hB, x⟩ := h
    exact ⟨d, rfl, hd, fun z => absurd (hB.symm.trans z) (fun z => nomatch z), fun _ => x⟩
/-! last_of -/
abbrev c_last_of : Con := fun _ _ _ => False
theorem ok_last_of (X : Tx K mg) : FnD P w K mg base 1 "last_of" c_last_of := fnD_void (ps := ["hidden", "script"]) X.f_last_of (fun _ _ _ _ _ _ us hl => match us, hl with | [_, _], _ => rfl)
/-! run -/
def c_run : Con := fun ss Q X => ∃ d e, ss = [.val d, .val e] ∧ noDict d = true ∧ mState d = false ∧ X "InvalidState"
theorem scRun : FnScope ["state", "script"] ["state", "script"] (defScope sRun) := ⟨rfl, rfl, rfl, by decide +kernel, rfl, by decide +kernel, by decide +kernel⟩
theorem ok_run (X : Tx K mg) : FnD P w K mg base 6 "run" c_run := by
  refine fnD_ok (N := ["state", "script"]) (ps := ["state", "script"]) X.f_run scRun (fun _ _ _ _ _ _ us hl => match us, hl with | [_, _], _ => rfl) (fun ss Q X' h => ?_) (fun f cdv A outer s H Y E ss Q' X' hr xo hp h => ?_)
  · obtain ⟨d, e, rfl, _⟩ := h
    rfl
  · have nd := scRun.nd
    have hu := hr.units
    have hu5 := room65 hr
    refine ⟨_, (dss_cons (ds_expr (de_call (ok_require_possible X) (hr.mono (by decide)) xo (da_cons (de_var (i := 0)) (da_cons (de_var (i := 1)) da_nil)))) (dss_one (ds_ret (de_tup (da_cons (de_ix (de_var (i := 0)) de_int) (da_cons (de_call (ok_last_of X) (hr.mono (by decide)) xo (da_cons (de_ix (de_var (i := 0)) de_int) (da_cons (de_var (i := 1)) da_nil))) da_nil)))))), ?_⟩
    clear hu5 hu nd hp xo hr
    obtain ⟨d, e, rfl, hd, hB, x⟩ := h
    exact ⟨_, _, rfl, hd, hB, x⟩
/-! gaps -/
def c_gaps : Con := fun ss Q _ => ∃ h w, ss = [.val (tupI h), .val (tupI w)] ∧ ∃ n, IsSt n h ∧ IsSt n w ∧ ∀ p, Q (.own p ((gapsOf h w).map gapD))
theorem scGaps : FnScope ["hidden", "wished", "some", "rest", "found", "one", "other", "run"] ["hidden", "wished"] (defScope sGaps) := ⟨rfl, rfl, rfl, by decide +kernel, rfl, by decide +kernel, by decide +kernel⟩
theorem ok_gaps (X : Tx K mg) : FnD P w K mg base 7 "gaps" c_gaps := by
  refine fnD_ok (N := ["hidden", "wished", "some", "rest", "found", "one", "other", "run"]) (ps := ["hidden", "wished"]) X.f_gaps scGaps (fun _ _ _ _ _ _ us hl => match us, hl with | [_, _], _ => rfl) (fun ss Q X' h => ?_) (fun f cdv A outer s H Y E ss Q' X' hr xo hp h => ?_)
  · obtain ⟨h, w, rfl, _⟩ := h
    rfl
  · have nd := scGaps.nd
    have hu := hr.units
    have hu5 := room65 hr
    refine ⟨_, (dss_cons (ds_par (i := 2) (j := 3) rfl nd (da_cons (de_call (ok_needed_in X) (hr.mono (by decide)) xo (da_cons (de_var (i := 0)) (da_cons (de_var (i := 1)) da_nil))) (da_cons (de_ix (de_call (ok_split_runs X) (hr.mono (by decide)) xo (da_cons (de_var (i := 0)) (da_cons (de_var (i := 1)) da_nil))) de_int) da_nil))) (dss_cons (ds_set (i := 4) nd (de_lst da_nil)) (dss_cons (ds_for hp rfl (di_zip X.b_zip (da_cons (de_var (i := 2)) (da_cons (de_slice (de_var (i := 2)) (do_some de_int) do_none) da_nil))) (dg_tup (n := 2) rfl (dgs_cons (dg_name (i := 5) nd) (dgs_cons (dg_name (i := 6) nd) dgs_nil))) (dss_one (ds_expr (de_append (i := 4) (de_tup (da_cons (de_var (i := 5)) (da_cons (de_var (i := 6)) (da_cons (de_len X.b_len (da_cons (de_comp (own := [("run", 7)]) (vs := [7]) rfl rfl nd (di_seq (de_var (i := 3))) (blkOk_by (N := ["hidden", "wished", "some", "rest", "found", "one", "other", "run"]) (sc := defScope sGaps) (by decide +kernel)) (tg_name 7) (fun _ _ _ _ _ => (pg_name (i := 7) nd rfl (by first | exact Or.inl rfl | exact Or.inr rfl))) (fun _ _ _ _ _ => (dts_one (DW.dt (dw_and (dt_cp c_lt (de_ix (de_var (i := 5)) de_int) (de_ix (de_var (i := 7)) de_int)) (dw_and1 (dt_cp c_lt (de_ix (de_var (i := 7)) de_int) (de_ix (de_var (i := 6)) de_int))))))) (fun _ _ _ _ _ => (de_var (i := 7)))) da_nil)) da_nil)))))))) (dss_one (ds_ret (de_var (i := 4))))))), ?_⟩
    clear hu5 hu nd hp xo hr
    obtain ⟨h, w, rfl, n, st, sw, q⟩ := h
    have n1 := st.n1
    have n2 := st.n2
    have ln := ndl_len st w
    walk_at "go"
    refine ⟨n, st, fun p1 p2 => ?_⟩
    walk_at "go"
    refine ⟨n, st, sw, ?_⟩
    walk_at "go"
    intro p3
    walk_at "go"
    intro p4
    walk_at "go"
    refine ⟨⟨fun _ zs z => (nomatch z), fun _ zs z => (nomatch z)⟩, ?_⟩
    rw [cutD_map, cut1, zipD_map]
    refine forD_inv ppD ((ndl h w).zip ((ndl h w).drop 1)) (fun done δ => ∃ a b c, δ = [.val (tupI h), .val (tupI w), .own p2 (prsD (ndl h w)), .val (.list (prsD (coldL h w))), .own p3 ((done.map fun p => (p, gapN (coldL h w) p.1 p.2)).map gapD), a, b, c]) ⟨_, _, _, rfl⟩ (fun _ _ z => by obtain ⟨a, b, c, rfl⟩ := z; exact ⟨rfl, trivial⟩) ?_ ?_
    · rintro done ⟨x, y⟩ rest _ e ⟨a, b, c, rfl⟩ K k
      have ld : done.length ≤ 40 := by
        have h2 := congrArg List.length e
        simp at h2
        omega
      rw [List.map_append, List.map_append] at k
      walk_at "go"
      refine compD_typed prD (fun c => decide (x.2 < c.1) && decide (c.2 < y.1)) prD trivial _ [] (fun c hc K' acc k' => ?_) ?_
      · walk_at "go"
        cases h1 : decide (x.2 < c.1) with
        | false => rw [h1] at k'; walk_at "go"; exact k'
        | true =>
          rw [h1] at k'
          walk_at "go"
          cases h2 : decide (c.2 < y.1) with
          | false => rw [h2] at k'; walk_at "go"; exact k'
          | true => rw [h2] at k'; walk_at "go"; exact k'
      intro p5
      walk_at "go"
      refine ⟨by simp; omega, k _ ⟨.val (prD x), .val (prD y), .none, ?_⟩⟩
      rw [List.nil_append, List.length_map]
      rfl
    · rintro _ ⟨a, b, c, rfl⟩
      walk_at "go"
      rw [gaps_zip]
      exact q p3
/-! price_between -/
def c_price_between : Con := fun ss Q _ => ∃ h w p q, ss = [.val (tupI h), .val (tupI w), .val (.int p), .val (.int q)] ∧ 0 ≤ p ∧ p ≤ 1000000 ∧ 0 ≤ q ∧ q ≤ 1000000 ∧ ∃ n, IsSt n h ∧ IsSt n w ∧ Q (.val (.int (price h w p q)))
theorem scPriceBetween : FnScope ["hidden", "wished", "hide", "show", "found", "one", "other", "many"] ["hidden", "wished", "hide", "show"] (defScope sPriceBetween) := ⟨rfl, rfl, rfl, by decide +kernel, rfl, by decide +kernel, by decide +kernel⟩
theorem ok_price_between (X : Tx K mg) : FnD P w K mg base 8 "price_between" c_price_between := by
  refine fnD_ok (N := ["hidden", "wished", "hide", "show", "found", "one", "other", "many"]) (ps := ["hidden", "wished", "hide", "show"]) X.f_price_between scPriceBetween (fun _ _ _ _ _ _ us hl => match us, hl with | [_, _, _, _], _ => rfl) (fun ss Q X' h => ?_) (fun f cdv A outer s H Y E ss Q' X' hr xo hp h => ?_)
  · obtain ⟨h, w, p, q, rfl, _⟩ := h
    rfl
  · have nd := scPriceBetween.nd
    have hu := hr.units
    have hu5 := room65 hr
    refine ⟨_, (dss_cons (ds_set (i := 4) nd (de_mul (de_var (i := 2)) (de_len X.b_len (da_cons (de_ix (de_call (ok_split_runs X) (hr.mono (by decide)) xo (da_cons (de_var (i := 0)) (da_cons (de_var (i := 1)) da_nil))) de_int) da_nil)))) (dss_cons (ds_if (dt_truth (de_call (ok_needed_in X) (hr.mono (by decide)) xo (da_cons (de_var (i := 0)) (da_cons (de_var (i := 1)) da_nil)))) (dss_one (ds_augAdd (i := 4) nd (de_add (de_var (i := 3)) (de_sum rfl X.b_sum (da_cons (de_comp (own := [("one", 5), ("other", 6), ("many", 7)]) (vs := [5, 6, 7]) rfl rfl nd (di_seq (de_call (ok_gaps X) (hr.mono (by decide)) xo (da_cons (de_var (i := 0)) (da_cons (de_var (i := 1)) da_nil)))) (blkOk_by (N := ["hidden", "wished", "hide", "show", "found", "one", "other", "many"]) (sc := defScope sPriceBetween) (by decide +kernel)) (tg_tup (n := 3) (tgs_cons (tg_name 5) (tgs_cons (tg_name 6) (tgs_cons (tg_name 7) tgs_nil)))) (fun _ _ _ _ _ => (pg_tup (n := 3) rfl (pgs_cons (pg_name (i := 5) nd rfl (by first | exact Or.inl rfl | exact Or.inr rfl)) (pgs_cons (pg_name (i := 6) nd rfl (by first | exact Or.inl rfl | exact Or.inr rfl)) (pgs_cons (pg_name (i := 7) nd rfl (by first | exact Or.inl rfl | exact Or.inr rfl)) pgs_nil))))) (fun _ _ _ _ _ => dts_nil) (fun _ _ _ _ _ => (de_min2 rfl X.b_min (da_cons (de_var (i := 3)) (da_cons (de_mul (de_var (i := 2)) (de_var (i := 7))) da_nil))))) da_nil))))) dss_nil) (dss_one (ds_ret (de_var (i := 4)))))), ?_⟩
    clear hu5 hu nd hp xo hr
    obtain ⟨h, w, p, q, rfl, p0, p1, q0, q1, n, st, sw, qq⟩ := h
    walk_at "go"
    refine ⟨n, st, sw, ?_⟩
    walk_at "go"
    refine ⟨mulL (by omega) (by omega), ?_⟩
    walk_at "go"
    refine ⟨n, st, fun p2 p3 => ?_⟩
    cases e : ndl h w with
    | nil =>
      refine ⟨_, rfl, ?_⟩
      unfold price at qq
      rw [e, if_pos rfl, Int.add_zero] at qq
      walk_at "go"
      simpa using qq
    | cons x L =>
      have ne : (prsD (x :: L)).isEmpty = false := rfl
      refine ⟨_, rfl, ?_⟩
      rw [ne]
      unfold price at qq
      rw [e, if_neg (fun z => nomatch z), ← gaps_sum, ← e] at qq
      walk_at "go"
      refine ⟨⟨_, rfl, fun z => nomatch z⟩, ?_⟩
      walk_at "go"
      refine ⟨n, st, sw, fun p4 p5 => ⟨_, rfl, ?_⟩⟩
      refine compD_map gapD (fun g => .int (min q (p * (g.2 : Int)))) _ trivial (fun g hg K acc k => ?_) ?_
      · walk_at "go"
        refine ⟨mulL (by omega) (by omega), ?_⟩
        walk_at "go"
        have em : (fun i j : Int => if j < i then j else i) q (p * ((g.2 : Nat) : Int)) = min q (p * (g.2 : Int)) := by
          dsimp only
          split <;> omega
        rw [← em] at k
        exact k
      intro p6
      refine ⟨(gapsOf h w).map fun g => min q (p * (g.2 : Int)), by simp [View, viewA, tagOf], ?_⟩
      walk_at "go"
      rw [List.length_map]
      exact qq
/-! away -/
def c_away : Con := fun ss Q _ => ∃ h w, ss = [.val (tupI h), .val (tupI w)] ∧ ∃ n, IsSt n h ∧ IsSt n w ∧ Q (.val (.int (price h w 1 1)))
theorem scAway : FnScope ["hidden", "wished"] ["hidden", "wished"] (defScope sAway) := ⟨rfl, rfl, rfl, by decide +kernel, rfl, by decide +kernel, by decide +kernel⟩
theorem ok_away (X : Tx K mg) : FnD P w K mg base 9 "away" c_away := by
  refine fnD_ok (N := ["hidden", "wished"]) (ps := ["hidden", "wished"]) X.f_away scAway (fun _ _ _ _ _ _ us hl => match us, hl with | [_, _], _ => rfl) (fun ss Q X' h => ?_) (fun f cdv A outer s H Y E ss Q' X' hr xo hp h => ?_)
  · obtain ⟨h, w, rfl, _⟩ := h
    rfl
  · have nd := scAway.nd
    have hu := hr.units
    have hu5 := room65 hr
    refine ⟨_, (dss_one (ds_ret (de_call (ok_price_between X) (hr.mono (by decide)) xo (da_cons (de_var (i := 0)) (da_cons (de_var (i := 1)) (da_cons de_int (da_cons de_int da_nil))))))), ?_⟩
    clear hu5 hu nd hp xo hr
    obtain ⟨h, w, rfl, n, st, sw, q⟩ := h
    exact ⟨h, w, 1, 1, rfl, by decide, by decide, by decide, by decide, n, st, sw, rfl, q⟩
/-! all_hidden -/
def c_all_hidden : Con := fun ss Q _ => ∃ n : Int, ss = [.val (.int n)] ∧ 0 ≤ n ∧ n ≤ 12 ∧ ∀ p, Q (.own p ((allH n.toNat).map tupT))
theorem scAllHidden : FnScope ["size", "found", "row", "some"] ["size"] (defScope sAllHidden) := ⟨rfl, rfl, rfl, by decide +kernel, rfl, by decide +kernel, by decide +kernel⟩
theorem ok_all_hidden (X : Tx K mg) : FnD P w K mg base 1 "all_hidden" c_all_hidden := by
  refine fnD_ok (N := ["size", "found", "row", "some"]) (ps := ["size"]) X.f_all_hidden scAllHidden (fun _ _ _ _ _ _ us hl => match us, hl with | [_], _ => rfl) (fun ss Q X' h => ?_) (fun f cdv A outer s H Y E ss Q' X' hr xo hp h => ?_)
  · obtain ⟨n, rfl, _⟩ := h
    rfl
  · have nd := scAllHidden.nd
    have hu := hr.units
    have hu5 := room65 hr
    refine ⟨_, (dss_cons (ds_set (i := 1) nd (de_lst (da_cons (de_tup da_nil) da_nil))) (dss_cons (ds_for hp rfl (di_r2 X.b_range (da_cons de_int (da_cons (de_add (de_var (i := 0)) de_int) da_nil))) (dg_name (i := 2) nd) (dss_one (ds_augAdd (i := 1) nd (de_comp (own := [("some", 3)]) (vs := [3]) rfl rfl nd (di_seq (de_var (i := 1))) (blkOk_by (N := ["size", "found", "row", "some"]) (sc := defScope sAllHidden) (by decide +kernel)) (tg_name 3) (fun _ _ _ _ _ => (pg_name (i := 3) nd rfl (by first | exact Or.inl rfl | exact Or.inr rfl))) (fun _ _ _ _ _ => dts_nil) (fun _ _ _ _ _ => (de_add (de_var (i := 3)) (de_tup (da_cons (de_var (i := 2)) da_nil)))))))) (dss_one (ds_ret (de_sortDat hu X.b_sorted (da_cons (de_var (i := 1)) da_nil)))))), ?_⟩
    clear hu5 hu nd hp xo hr
    obtain ⟨n, rfl, n0, n1, q⟩ := h
    have pw : ∀ i : Nat, i ≤ 12 → 2 ^ i ≤ 4096 := fun i hi => Nat.le_trans (Nat.pow_le_pow_right (by decide) hi) (by decide)
    walk_at "go"
    intro p
    walk_at "go"
    refine ⟨by omega, by omega, by omega, by omega, by omega, ?_⟩
    refine forD_rng (fun i δ => ∃ (s t : SV), δ = [.val (.int n), .own p ((subsI i).map tupT), s, t]) ⟨.none, .none, rfl⟩ (fun _ _ _ => trivial) ?_ ?_
    · rintro i _ hi ⟨s, t, rfl⟩ K k
      have hl := subsI_len i
      have hp := pw i (by omega)
      have e : (subsI (i + 1)).map tupT = (subsI i).map tupT ++ (subsI i).map fun t => .tuple (t.items.map .int ++ [.int (1 + (i : Int))]) := by
        show (subsI i ++ (subsI i).map _).map tupT = _
        rw [List.map_append, List.map_map]
        congr 1
        refine List.map_congr_left fun t _ => ?_
        simp [tupI]
      rw [e] at k
      refine ⟨⟨_, rfl, fun z => nomatch z⟩, ?_⟩
      walk_at "go"
      refine compD_map tupT (fun t => .tuple (t.items.map .int ++ [.int (1 + (i : Int))])) (subsI i) rfl (fun t ht K acc k => ?_) ?_
      · have st := (subsI_asc i t ht).2
        have lt := asc_len st (subsI_asc i t ht).1 (by omega)
        walk_at "go"
        refine ⟨by simp [sizeLine_eq]; omega, ?_⟩
        walk_at "go"
        exact k
      · intro p1
        walk_at "go"
        refine ⟨by simp; omega, ?_⟩
        exact k _ ⟨_, _, rfl⟩
    · rintro _ ⟨s, t, rfl⟩
      rw [show (n + 1 - 1).toNat = n.toNat by omega]
      refine ⟨_, rfl, sortDat_rest (α := Tup Int) (Z := fun ds => ∀ p : Addr, resOk (.own p ds) = true ∧ Q' (.own p ds)) (subsI n.toNat) (subsI_ok _) (by decide) fun zs e _ _ p => ?_⟩
      subst e
      exact ⟨rfl, q p⟩
/-! farthest -/
def c_farthest : Con := fun ss Q X => ∃ d, ss = [.val d] ∧ noDict d = true ∧ (mState d = false → X "InvalidState") ∧ (∀ n h, d = stD' n h → IsSt n h → (8 < n → X "TooLarge") ∧ (n ≤ 8 → ∀ m, IsFar n h m → Q (.val (.int m))))
theorem scFarthest : FnScope ["state", "some"] ["state"] (defScope sFarthest) := ⟨rfl, rfl, rfl, by decide +kernel, rfl, by decide +kernel, by decide +kernel⟩
theorem ok_farthest (X : Tx K mg) : FnD P w K mg base 10 "farthest" c_farthest := by
  refine fnD_ok (N := ["state", "some"]) (ps := ["state"]) X.f_farthest scFarthest (fun _ _ _ _ _ _ us hl => match us, hl with | [_], _ => rfl) (fun ss Q X' h => ?_) (fun f cdv A outer s H Y E ss Q' X' hr xo hp h => ?_)
  · obtain ⟨d, rfl, _⟩ := h
    rfl
  · have nd := scFarthest.nd
    have hu := hr.units
    have hu5 := room65 hr
    refine ⟨_, (dss_cons (ds_expr (de_call (ok_require_state X) (hr.mono (by decide)) xo (da_cons (de_var (i := 0)) da_nil))) (dss_cons (ds_expr (de_call (ok_require_small X) (hr.mono (by decide)) xo (da_cons (de_var (i := 0)) da_nil))) (dss_one (ds_ret (de_max rfl X.b_max (da_cons (de_comp (own := [("some", 1)]) (vs := [1]) rfl rfl nd (di_seq (de_call (ok_all_hidden X) (hr.mono (by decide)) xo (da_cons (de_ix (de_var (i := 0)) de_int) da_nil))) (blkOk_by (N := ["state", "some"]) (sc := defScope sFarthest) (by decide +kernel)) (tg_name 1) (fun _ _ _ _ _ => (pg_name (i := 1) nd rfl (by first | exact Or.inl rfl | exact Or.inr rfl))) (fun _ _ _ _ _ => dts_nil) (fun _ _ _ _ _ => (de_call (ok_away X) (hr.mono (by decide)) xo_blk (da_cons (de_ix (de_var (i := 0)) de_int) (da_cons (de_var (i := 1)) da_nil))))) da_nil)))))), ?_⟩
    clear hu5 hu nd hp xo hr
    obtain ⟨d, rfl, hd, x, q⟩ := h
    refine ⟨d, rfl, hd, fun h1 => ?_, x⟩
    obtain ⟨n, h, rfl, st⟩ := mState_some h1
    obtain ⟨q1, q2⟩ := q n h rfl st
    walk_at "go"
    refine ⟨st, fun n8 => ?_, q1⟩
    have q2 := q2 n8
    have n1 := st.n1
    have n2 := st.n2
    walk_at "go"
    refine ⟨by omega, by omega, fun p p2 => ⟨_, rfl, ?_⟩⟩
    refine compD_map tupT (fun t => .int (price h t.items 1 1)) (allH n.toNat) trivial (fun t ht K acc k' => ?_) ?_
    · have sg : IsSt n t.items := (mem_stsOf n1 n2).mp (List.mem_map.mpr ⟨t, ht, rfl⟩)
      walk_at "go"
      exact ⟨n, st, sg, k'⟩
    intro p3
    have e : (allH n.toNat).map (fun t => PyData.int (price h t.items 1 1)) = ((stsOf n).map fun g => price h g 1 1).map PyData.int := by
      unfold stsOf
      rw [List.map_map, List.map_map]
      rfl
    rw [e]
    refine ⟨_, rfl, ?_, fun m m1 m2 => ⟨rfl, q2 m ⟨m1, m2⟩⟩⟩
    rw [List.length_map, stsOf_len]
    exact Nat.two_pow_pos _
/-! choose -/
def c_choose : Con := fun ss Q _ => ∃ m k : Int, ss = [.val (.int m), .val (.int k)] ∧ -1000 ≤ m ∧ m ≤ 1000 ∧ 0 ≤ k ∧ k ≤ 1000 ∧ Q (.val (.int (ch m k.toNat)))
theorem scChoose : FnScope ["many", "some", "found", "turn"] ["many", "some"] (defScope sChoose) := ⟨rfl, rfl, rfl, by decide +kernel, rfl, by decide +kernel, by decide +kernel⟩
theorem ok_choose (X : Tx K mg) : FnD P w K mg base 1 "choose" c_choose := by
  refine fnD_ok (N := ["many", "some", "found", "turn"]) (ps := ["many", "some"]) X.f_choose scChoose (fun _ _ _ _ _ _ us hl => match us, hl with | [_, _], _ => rfl) (fun ss Q X' h => ?_) (fun f cdv A outer s H Y E ss Q' X' hr xo hp h => ?_)
  · obtain ⟨m, k, rfl, _⟩ := h
    rfl
  · have nd := scChoose.nd
    have hu := hr.units
    have hu5 := room65 hr
    refine ⟨_, (dss_cons (ds_set (i := 2) nd de_int) (dss_cons (ds_for hp rfl (di_r1 X.b_range (da_cons (de_var (i := 1)) da_nil)) (dg_name (i := 3) nd) (dss_one (ds_set (i := 2) nd (de_fdiv (de_mul (de_var (i := 2)) (de_sub (de_var (i := 0)) (de_var (i := 3)))) (de_add (de_var (i := 3)) de_int))))) (dss_one (ds_ret (de_var (i := 2)))))), ?_⟩
    clear hu5 hu nd hp xo hr
    obtain ⟨m, k, rfl, m0, m1, k0, k1, q⟩ := h
    walk_at "go"
    refine ⟨by omega, by omega, ?_⟩
    refine forD_rng (fun i δ => ∃ s, δ = [.val (.int m), .val (.int k), .val (.int (ch m i)), s]) ⟨.none, rfl⟩ (fun _ _ _ => trivial) ?_ ?_
    · rintro i _ hi ⟨s, rfl⟩ K k
      rw [ch_succ] at k
      refine ⟨mulR (by omega) (by omega), ?_⟩
      walk_at "go"
      refine ⟨(show 0 < 0 + (i : Int) + 1 ∧ 0 + (i : Int) + 1 < 1073741824 by omega), ?_⟩
      walk_at "go"
      rw [show (0 : Int) + i = i from by omega]
      exact k _ ⟨_, rfl⟩
    · rintro _ ⟨s, rfl⟩
      walk_at "go"
      exact q
/-! place_of -/
def c_place_of : Con := fun ss Q X => ∃ d, ss = [.val d] ∧ noDict d = true ∧ (mState d = false → X "InvalidState") ∧ ∀ n h, d = stD' n h → IsSt n h → Q (.val (.int (placeS n h)))
theorem scPlaceOf : FnScope ["state", "size", "edges", "found", "first", "last", "low", "at", "edge", "line"] ["state"] (defScope sPlaceOf) := ⟨rfl, rfl, rfl, by decide +kernel, rfl, by decide +kernel, by decide +kernel⟩
theorem ok_place_of (X : Tx K mg) : FnD P w K mg base 5 "place_of" c_place_of := by
  refine fnD_ok (N := ["state", "size", "edges", "found", "first", "last", "low", "at", "edge", "line"]) (ps := ["state"]) X.f_place_of scPlaceOf (fun _ _ _ _ _ _ us hl => match us, hl with | [_], _ => rfl) (fun ss Q X' h => ?_) (fun f cdv A outer s H Y E ss Q' X' hr xo hp h => ?_)
  · obtain ⟨d, rfl, _⟩ := h
    rfl
  · have nd := scPlaceOf.nd
    have hu := hr.units
    have hu5 := room65 hr
    refine ⟨_, (dss_cons (ds_expr (de_call (ok_require_state X) (hr.mono (by decide)) xo (da_cons (de_var (i := 0)) da_nil))) (dss_cons (ds_parN (is := [1, 2, 3]) rfl (da_cons (de_ix (de_var (i := 0)) de_int) (da_cons (de_lst da_nil) (da_cons de_int da_nil))) (pgs_cons (pg_name (i := 1) nd rfl (by first | exact Or.inl rfl | exact Or.inr rfl)) (pgs_cons (pg_name (i := 2) nd rfl (by first | exact Or.inl rfl | exact Or.inr rfl)) (pgs_cons (pg_name (i := 3) nd rfl (by first | exact Or.inl rfl | exact Or.inr rfl)) pgs_nil)))) (dss_cons (ds_for hp rfl (di_seq (de_call (ok_blocks_of X) (hr.mono (by decide)) xo (da_cons (de_ix (de_var (i := 0)) de_int) da_nil))) (dg_tup (n := 2) rfl (dgs_cons (dg_name (i := 4) nd) (dgs_cons (dg_name (i := 5) nd) dgs_nil))) (dss_one (ds_augAdd (i := 2) nd (de_lst (da_cons (de_sub (de_var (i := 4)) de_int) (da_cons (de_var (i := 5)) da_nil)))))) (dss_cons (ds_set (i := 6) nd de_int) (dss_cons (ds_for hp rfl (di_enum X.b_enumerate (da_cons (de_var (i := 2)) da_nil)) (dg_tup (n := 2) rfl (dgs_cons (dg_name (i := 7) nd) (dgs_cons (dg_name (i := 8) nd) dgs_nil))) (dss_cons (ds_augAdd (i := 3) nd (de_sum rfl X.b_sum (da_cons (de_comp (own := [("line", 9)]) (vs := [9]) rfl rfl nd (di_r2 X.b_range (da_cons (de_var (i := 6)) (da_cons (de_var (i := 8)) da_nil))) (blkOk_by (N := ["state", "size", "edges", "found", "first", "last", "low", "at", "edge", "line"]) (sc := defScope sPlaceOf) (by decide +kernel)) (tg_name 9) (fun _ _ _ _ _ => (pg_name (i := 9) nd rfl (by first | exact Or.inl rfl | exact Or.inr rfl))) (fun _ _ _ _ _ => dts_nil) (fun _ _ _ _ _ => (de_call (ok_choose X) (hr.mono (by decide)) xo_blk (da_cons (de_sub (de_var (i := 1)) (de_var (i := 9))) (da_cons (de_sub (de_sub (de_len X.b_len (da_cons (de_var (i := 2)) da_nil)) (de_var (i := 7))) de_int) da_nil))))) da_nil))) (dss_one (ds_set (i := 6) nd (de_add (de_var (i := 8)) de_int))))) (dss_one (ds_ret (de_var (i := 3))))))))), ?_⟩
    clear hu5 hu nd hp xo hr
    obtain ⟨d, rfl, hd, x, q⟩ := h
    refine ⟨d, rfl, hd, fun h1 => ?_, x⟩
    obtain ⟨n, h, rfl, st⟩ := mState_some h1
    have q := q n h rfl st
    have ed := edgesOf_ed st
    have n1 := st.n1
    have n2 := st.n2
    walk_at "go"
    intro pe
    walk_at "go"
    refine ⟨by have := st.len; omega, fun p1 p2 => ⟨_, rfl, ?_⟩⟩
    refine forD_inv prD (blocksOf h) (fun done δ => ∃ s3 s4 s5 s6 s7 s8 s9 : SV, δ = [.val (stD' n h), .val (.int n), .own pe (intsD (done.flatMap fun c => [c.1 - 1, c.2])), .val (.int 0), s4, s5, s6, s7, s8, s9]) ⟨.none, _, _, _, _, _, _, rfl⟩ (fun _ _ _ => trivial) ?_ ?_
    · rintro done c rest _ e ⟨s3, s4, s5, s6, s7, s8, s9, rfl⟩ K k
      have lb := blocks_len st
      have ld : done.length ≤ 40 := by rw [e, List.length_append] at lb; omega
      have lf := flat2_len (fun c => c.1 - 1) (fun c => c.2) done
      rw [List.flatMap_append] at k
      walk_at "go"
      refine ⟨⟨_, rfl, fun z => nomatch z⟩, ?_⟩
      walk_at "go"
      intro p5
      walk_at "go"
      refine ⟨by unfold intsD; rw [List.length_map, lf]; simp; omega, ?_⟩
      refine k _ ⟨.none, .val (.int c.1), .val (.int c.2), s6, s7, s8, s9, ?_⟩
      rw [show intsD (done.flatMap (fun c => [c.1 - 1, c.2]) ++ [c].flatMap fun c => [c.1 - 1, c.2]) = intsD (done.flatMap fun c => [c.1 - 1, c.2]) ++ [.int (c.1 - 1), .int c.2] by unfold intsD; rw [List.map_append]; rfl]
      rfl
    rintro _ ⟨s3, s4, s5, s6, s7, s8, s9, rfl⟩
    walk_at "go"
    have en : enumD (intsD (edgesOf h)) = (edgesOf h).zipIdx.map fun z => PyData.tuple [.int (z.2 : Nat), .int z.1] := by
      unfold enumD intsD
      rw [List.zipIdx_map, List.map_map]
      rfl
    have el := edgesOf_len h
    have hb := (edgesOf_ed st).len (by omega)
    show forD _ _ _ (enumD (intsD (edgesOf h))) _ _
    rw [en]
    refine forD_inv (fun z : Int × Nat => PyData.tuple [.int (z.2 : Nat), .int z.1]) (edgesOf h).zipIdx (fun done δ => ∃ (lo fnd : Int) (es : List Int) (s7 s8 s9 : SV), 0 ≤ lo ∧ Ed n lo es ∧ (edgesOf h) = done.map (·.1) ++ es ∧ fnd + rank n lo es = placeS n h ∧ δ = [.val (stD' n h), .val (.int n), .own pe (intsD (edgesOf h)), .val (.int fnd), s4, s5, .val (.int lo), s7, s8, s9]) ⟨0, 0, edgesOf h, _, _, _, by decide, ed, rfl, by unfold placeS; omega, rfl⟩ ?hc ?_ ?_
    case hc =>
      rintro _ _ ⟨_, _, _, _, _, _, _, _, _, _, rfl⟩
      rfl
    · rintro done ⟨e, at'⟩ rest _ ez ⟨lo, fnd, es, s7, s8, s9, l0, ede, he, hq, rfl⟩ K k
      have z1 : edgesOf h = done.map (·.1) ++ e :: rest.map (·.1) := by
        have := congrArg (List.map (·.1)) ez
        rw [List.map_append, List.map_cons] at this
        rw [← this]
        exact (List.zipIdx_map_fst 0 (edgesOf h)).symm
      have z2 : es = e :: rest.map (·.1) := List.append_cancel_left (he.symm.trans z1)
      have z3 : at' = done.length := by
        have z4 : (edgesOf h).zipIdx[done.length]? = some (e, at') := by rw [ez, List.getElem?_append_right (Nat.le_refl _)]; simp
        rw [List.getElem?_zipIdx] at z4
        cases z5 : (edgesOf h)[done.length]? with
        | none => rw [z5] at z4; cases z4
        | some y => rw [z5] at z4; simp at z4; omega
      subst z2
      have z6 := congrArg List.length z1
      rw [List.length_append, List.length_cons, List.length_map] at z6
      have re := ede.rows e List.mem_cons_self
      generalize hes : rest.map (·.1) = es' at *
      have k : ∀ s7 s8 s9 : SV, K.nx [.val (stD' n h), .val (.int n), .own pe (intsD (edgesOf h)), .val (.int (fnd + sumC n lo (e - lo).toNat es'.length)), s4, s5, .val (.int (e + 1)), s7, s8, s9] := fun s7 s8 s9 => k _ ⟨e + 1, fnd + sumC n lo (e - lo).toNat es'.length, es', s7, s8, s9, by omega, ede.tail, by rw [z1]; simp, by rw [← hq]; show _ = fnd + (sumC n lo (e - lo).toNat es'.length + rank n (e + 1) es'); omega, rfl⟩
      walk_at "go"
      refine ⟨⟨_, rfl, fun z => nomatch z⟩, ?_⟩
      walk_at "go"
      refine ⟨by omega, by omega, by omega, by omega, by omega, ?_⟩
      unfold rangeD
      refine compD_map (fun j : Nat => PyData.int (lo + (j : Int))) (fun j => .int (ch (n - (lo + (j : Int))) es'.length)) (List.range (e - lo).toNat) (by exact trivial) (fun j hj K' acc k' => ?_) ?_
      · have hj := List.mem_range.mp hj
        have le : (intsD (edgesOf h)).length = (edgesOf h).length := by unfold intsD; rw [List.length_map]
        walk_at "go"
        rw [le]
        refine ⟨by omega, by omega, by omega, by omega, ?_⟩
        rw [show ((((edgesOf h).length : Nat) : Int) - (at' : Int) - 1).toNat = es'.length by omega]
        exact k'
      intro p5
      refine ⟨(List.range (e - lo).toNat).map fun j : Nat => ch (n - (lo + (j : Int))) es'.length, by simp [View, viewA, tagOf], ?_⟩
      walk_at "go"
      exact k _ _ _
    rintro _ ⟨lo, fnd, es, s7, s8, s9, l0, ede, he, hq, rfl⟩
    walk_at "go"
    have e0 : (edgesOf h).zipIdx.map (·.1) = edgesOf h := List.zipIdx_map_fst 0 (edgesOf h)
    rw [e0] at he
    have z2 : es = [] := by simpa using he
    subst z2
    have : fnd = placeS n h := by rw [← hq]; show fnd = fnd + 0; omega
    rw [this]
    exact q
/-! require_both -/
def c_require_both : Con := fun ss Q X => ∃ d e, ss = [.val d, .val e] ∧ noDict d = true ∧ noDict e = true ∧ (mPair d e = true → Q (.val .none)) ∧ (mPair d e = false → X "InvalidState")
theorem scRequireBoth : FnScope ["first", "second"] ["first", "second"] (defScope sRequireBoth) := ⟨rfl, rfl, rfl, by decide +kernel, rfl, by decide +kernel, by decide +kernel⟩
theorem ok_require_both (X : Tx K mg) : FnD P w K mg base 5 "require_both" c_require_both := by
  refine fnD_ok (N := ["first", "second"]) (ps := ["first", "second"]) X.f_require_both scRequireBoth (fun _ _ _ _ _ _ us hl => match us, hl with | [_, _], _ => rfl) (fun ss Q X' h => ?_) (fun f cdv A outer s H Y E ss Q' X' hr xo hp h => ?_)
  · obtain ⟨d, e, rfl, _⟩ := h
    rfl
  · have nd := scRequireBoth.nd
    have hu := hr.units
    have hu5 := room65 hr
    refine ⟨_, (dss_cons (ds_expr (de_call (ok_require_state X) (hr.mono (by decide)) xo (da_cons (de_var (i := 0)) da_nil))) (dss_one (ds_if (DW.dt (dw_or (dt_not (dt_truth (de_call (ok_is_state X) (hr.mono (by decide)) xo (da_cons (de_var (i := 1)) da_nil)))) (dw_or1 (dt_cp (c_ne hu) (de_ix (de_var (i := 1)) de_int) (de_ix (de_var (i := 0)) de_int))))) (dss_one (ds_raise X.c_InvalidState rfl xo)) dss_nil))), ?_⟩
    clear hu5 hu nd hp xo hr
    obtain ⟨d, e, rfl, hd, he, q, x⟩ := h
    refine ⟨d, rfl, hd, fun h1 => ?_, fun h1 => x (by unfold mPair; rw [h1]; rfl)⟩
    obtain ⟨n, xs, rfl, st⟩ := mState_some h1
    walk_at "go"
    refine ⟨he, ?_⟩
    cases h2 : mState e with
    | false => walk_at "go"; exact x (by unfold mPair; rw [h2, Bool.false_and, Bool.and_false])
    | true =>
      obtain ⟨m, ys, rfl, sw⟩ := mState_some h2
      walk_at "go"
      rw [eqv_int]
      by_cases z : m = n
      · subst z
        rw [decide_eq_true rfl]
        exact q (mPair_ok st sw)
      · rw [decide_eq_false z]
        exact x (mPair_ne z)
/-! distance -/
def c_distance : Con := fun ss Q X => ∃ d e, ss = [.val d, .val e] ∧ noDict d = true ∧ noDict e = true ∧ (mPair d e = false → X "InvalidState") ∧ (∀ n h w, d = stD' n h → e = stD' n w → IsSt n h → IsSt n w → Q (.val (.int (price h w 1 1))))
theorem scDistance : FnScope ["first", "second"] ["first", "second"] (defScope sDistance) := ⟨rfl, rfl, rfl, by decide +kernel, rfl, by decide +kernel, by decide +kernel⟩
theorem ok_distance (X : Tx K mg) : FnD P w K mg base 10 "distance" c_distance := by
  refine fnD_ok (N := ["first", "second"]) (ps := ["first", "second"]) X.f_distance scDistance (fun _ _ _ _ _ _ us hl => match us, hl with | [_, _], _ => rfl) (fun ss Q X' h => ?_) (fun f cdv A outer s H Y E ss Q' X' hr xo hp h => ?_)
  · obtain ⟨d, e, rfl, _⟩ := h
    rfl
  · have nd := scDistance.nd
    have hu := hr.units
    have hu5 := room65 hr
    refine ⟨_, (dss_cons (ds_expr (de_call (ok_require_both X) (hr.mono (by decide)) xo (da_cons (de_var (i := 0)) (da_cons (de_var (i := 1)) da_nil)))) (dss_one (ds_ret (de_call (ok_away X) (hr.mono (by decide)) xo (da_cons (de_ix (de_var (i := 0)) de_int) (da_cons (de_ix (de_var (i := 1)) de_int) da_nil)))))), ?_⟩
    clear hu5 hu nd hp xo hr
    obtain ⟨d, e, rfl, hd, he, x, q⟩ := h
    refine ⟨d, e, rfl, hd, he, fun h1 => ?_, x⟩
    obtain ⟨n, h, w, rfl, rfl, st, sw⟩ := mPair_some h1
    walk_at "go"
    exact ⟨n, st, sw, rfl, q n h w rfl rfl st sw⟩
/-! screen_row -/
def c_screen_row : Con := fun ss Q X => ∃ d e, ss = [.val d, .val e] ∧ noDict d = true ∧ noDict e = true ∧
  (∀ n xs i, d = stD' n xs → IsSt n xs → e = .int i → 1 ≤ i → i ≤ 40 → Q (.val (optD ((seenOf n xs)[(i - 1).toNat]?)))) ∧ (mState d = false → X "InvalidState") ∧ (mState d = true → mInt e 1 40 = false → X "InvalidPlace")
theorem scScreenRow : FnScope ["state", "place", "found"] ["state", "place"] (defScope sScreenRow) := ⟨rfl, rfl, rfl, by decide +kernel, rfl, by decide +kernel, by decide +kernel⟩
theorem ok_screen_row (X : Tx K mg) : FnD P w K mg base 5 "screen_row" c_screen_row := by
  refine fnD_ok (N := ["state", "place", "found"]) (ps := ["state", "place"]) X.f_screen_row scScreenRow (fun _ _ _ _ _ _ us hl => match us, hl with | [_, _], _ => rfl) (fun ss Q X' h => ?_) (fun f cdv A outer s H Y E ss Q' X' hr xo hp h => ?_)
  · obtain ⟨d, e, rfl, _⟩ := h
    rfl
  · have nd := scScreenRow.nd
    have hu := hr.units
    have hu5 := room65 hr
    refine ⟨_, (dss_cons (ds_expr (de_call (ok_require_state X) (hr.mono (by decide)) xo (da_cons (de_var (i := 0)) da_nil))) (dss_cons (ds_if (dt_not (dt_truth (de_call (ok_is_integer X) (hr.mono (by decide)) xo (da_cons (de_var (i := 1)) (da_cons de_int (da_cons (de_const X.g_LARGEST) da_nil)))))) (dss_one (ds_raise X.c_InvalidPlace rfl xo)) dss_nil) (dss_cons (ds_set (i := 2) nd (de_call (ok_visible_of X) (hr.mono (by decide)) xo (da_cons (de_var (i := 0)) da_nil))) (dss_one (ds_ret (de_if (dt_cp c_le (de_var (i := 1)) (de_len X.b_len (da_cons (de_var (i := 2)) da_nil))) (de_ix (de_var (i := 2)) (de_sub (de_var (i := 1)) de_int)) de_non)))))), ?_⟩
    clear hu5 hu nd hp xo hr
    obtain ⟨d, e, rfl, hd, he, q, x, y⟩ := h
    refine ⟨d, rfl, hd, fun h => ?_, x⟩
    obtain ⟨n, xs, rfl, st⟩ := mState_some h
    walk_at "go"
    refine ⟨he, ?_⟩
    cases hB : mInt e 1 40 with
    | false => exact y st.ok hB
    | true =>
      cases e with
      | int i =>
        have hB : (decide (1 ≤ i) && decide (i ≤ 40)) = true := hB
        simp only [Bool.and_eq_true, decide_eq_true_eq] at hB
        have q := q n xs i rfl st rfl hB.1 hB.2
        refine ⟨n, xs, rfl, st, fun p p' => ?_⟩
        walk_at "go"
        refine ite2 (fun h => ?_) (fun h => ?_)
        · have h := of_decide_eq_true h
          simp at h
          refine ⟨intsD (seenOf n xs), .int ((seenOf n xs)[(i - 1).toNat]'(by omega)), rfl, ?_, rfl, ?_⟩
          · rw [getI_map, getI_in (by omega) (by omega)]
            rfl
          · rw [List.getElem?_eq_getElem (show (i - 1).toNat < (seenOf n xs).length by omega)] at q
            exact q
        · have h : ¬ _ := fun z => h (decide_eq_true z)
          simp at h
          rw [List.getElem?_eq_none (by omega)] at q
          exact ⟨rfl, q⟩
      | _ => cases hB
/-! is_possible -/
def c_is_possible : Con := fun ss Q X => ∃ d e, ss = [.val d, .val e] ∧ noDict d = true ∧ mState d = false ∧ X "InvalidState"
theorem scIsPossible : FnScope ["state", "value"] ["state", "value"] (defScope sIsPossible) := ⟨rfl, rfl, rfl, by decide +kernel, rfl, by decide +kernel, by decide +kernel⟩
theorem ok_is_possible (X : Tx K mg) : FnD P w K mg base 5 "is_possible" c_is_possible := by
  refine fnD_ok (N := ["state", "value"]) (ps := ["state", "value"]) X.f_is_possible scIsPossible (fun _ _ _ _ _ _ us hl => match us, hl with | [_, _], _ => rfl) (fun ss Q X' h => ?_) (fun f cdv A outer s H Y E ss Q' X' hr xo hp h => ?_)
  · obtain ⟨d, e, rfl, _⟩ := h
    rfl
  · have nd := scIsPossible.nd
    have hu := hr.units
    have hu5 := room65 hr
    refine ⟨_, (dss_cons (ds_expr (de_call (ok_require_state X) (hr.mono (by decide)) xo (da_cons (de_var (i := 0)) da_nil))) (dss_one (ds_ret (de_call (ok_can_run X) (hr.mono (by decide)) xo (da_cons (de_var (i := 0)) (da_cons (de_var (i := 1)) da_nil)))))), ?_⟩
    clear hu5 hu nd hp xo hr
    obtain ⟨d, e, rfl, hd, hB, x⟩ := h
    exact ⟨d, rfl, hd, fun z => absurd (hB.symm.trans z) (fun z => nomatch z), fun _ => x⟩
/-! require_number -/
def c_require_number : Con := fun ss Q X => ∃ d, ss = [.val d] ∧ noDict d = true ∧ (mInt d 0 40 = true → Q (.val .none)) ∧ (mInt d 0 40 = false → X "InvalidNumber")
theorem scRequireNumber : FnScope ["number"] ["number"] (defScope sRequireNumber) := ⟨rfl, rfl, rfl, by decide +kernel, rfl, by decide +kernel, by decide +kernel⟩
theorem ok_require_number (X : Tx K mg) : FnD P w K mg base 2 "require_number" c_require_number := by
  refine fnD_ok (N := ["number"]) (ps := ["number"]) X.f_require_number scRequireNumber (fun _ _ _ _ _ _ us hl => match us, hl with | [_], _ => rfl) (fun ss Q X' h => ?_) (fun f cdv A outer s H Y E ss Q' X' hr xo hp h => ?_)
  · obtain ⟨d, rfl, _⟩ := h
    rfl
  · have nd := scRequireNumber.nd
    have hu := hr.units
    have hu5 := room65 hr
    refine ⟨_, (dss_one (ds_if (dt_not (dt_truth (de_call (ok_is_integer X) (hr.mono (by decide)) xo (da_cons (de_var (i := 0)) (da_cons de_int (da_cons (de_const X.g_LARGEST) da_nil)))))) (dss_one (ds_raise X.c_InvalidNumber rfl xo)) dss_nil)), ?_⟩
    clear hu5 hu nd hp xo hr
    obtain ⟨d, rfl, hd, q, x⟩ := h
    walk_at "go"
    refine ⟨hd, ?_⟩
    cases h1 : mInt d 0 40 with
    | true => walk_at "go"; exact q h1
    | false => walk_at "go"; exact x h1
/-! count_from -/
def c_count_from : Con := fun ss Q X => ∃ d e, ss = [.val d, .val e] ∧ noDict d = true ∧ noDict e = true ∧ (mState d = false → X "InvalidState") ∧ (mState d = true → mInt e 0 40 = false → X "InvalidNumber") ∧
  (∀ n h k, d = stD' n h → e = .int k → IsSt n h → 0 ≤ k → k ≤ 40 → (8 < n → X "TooLarge") ∧ (n ≤ 8 → Q (.val (.int (cntS n h k : Nat)))))
theorem scCountFrom : FnScope ["state", "number", "some"] ["state", "number"] (defScope sCountFrom) := ⟨rfl, rfl, rfl, by decide +kernel, rfl, by decide +kernel, by decide +kernel⟩
theorem ok_count_from (X : Tx K mg) : FnD P w K mg base 10 "count_from" c_count_from := by
  refine fnD_ok (N := ["state", "number", "some"]) (ps := ["state", "number"]) X.f_count_from scCountFrom (fun _ _ _ _ _ _ us hl => match us, hl with | [_, _], _ => rfl) (fun ss Q X' h => ?_) (fun f cdv A outer s H Y E ss Q' X' hr xo hp h => ?_)
  · obtain ⟨d, e, rfl, _⟩ := h
    rfl
  · have nd := scCountFrom.nd
    have hu := hr.units
    have hu5 := room65 hr
    refine ⟨_, (dss_cons (ds_expr (de_call (ok_require_state X) (hr.mono (by decide)) xo (da_cons (de_var (i := 0)) da_nil))) (dss_cons (ds_expr (de_call (ok_require_number X) (hr.mono (by decide)) xo (da_cons (de_var (i := 1)) da_nil))) (dss_cons (ds_expr (de_call (ok_require_small X) (hr.mono (by decide)) xo (da_cons (de_var (i := 0)) da_nil))) (dss_one (ds_ret (de_len X.b_len (da_cons (de_comp (own := [("some", 2)]) (vs := [2]) rfl rfl nd (di_seq (de_call (ok_all_hidden X) (hr.mono (by decide)) xo (da_cons (de_ix (de_var (i := 0)) de_int) da_nil))) (blkOk_by (N := ["state", "number", "some"]) (sc := defScope sCountFrom) (by decide +kernel)) (tg_name 2) (fun _ _ _ _ _ => (pg_name (i := 2) nd rfl (by first | exact Or.inl rfl | exact Or.inr rfl))) (fun _ _ _ _ _ => (dts_one (dt_cp (c_eq hu) (de_call (ok_away X) (hr.mono (by decide)) xo_blk (da_cons (de_ix (de_var (i := 0)) de_int) (da_cons (de_var (i := 2)) da_nil))) (de_var (i := 1))))) (fun _ _ _ _ _ => (de_var (i := 2)))) da_nil))))))), ?_⟩
    clear hu5 hu nd hp xo hr
    obtain ⟨d, e, rfl, hd, he, x, y, q⟩ := h
    refine ⟨d, rfl, hd, fun h1 => ?_, x⟩
    obtain ⟨n, h, rfl, st⟩ := mState_some h1
    walk_at "go"
    refine ⟨he, fun h2 => ?_, y h1⟩
    obtain ⟨k, rfl, k0, k1⟩ := mInt_some h2
    obtain ⟨q1, q2⟩ := q n h k rfl rfl st k0 k1
    refine ⟨n, h, rfl, st, fun n8 => ?_, q1⟩
    have q2 := q2 n8
    have n1 := st.n1
    have n2 := st.n2
    walk_at "go"
    refine ⟨by omega, by omega, fun p p2 => ⟨_, rfl, ?_⟩⟩
    refine compD_typed tupT (fun t => decide (price h t.items 1 1 = k)) tupT trivial (allH n.toNat) [] (fun t ht K acc k' => ?_) ?_
    · have sg : IsSt n t.items := (mem_stsOf n1 n2).mp (List.mem_map.mpr ⟨t, ht, rfl⟩)
      walk_at "go"
      refine ⟨n, st, sg, ?_⟩
      walk_at "go"
      rw [eqv_int]
      exact k'
    intro p3
    walk_at "go"
    rw [List.nil_append, List.length_map, show ((allH n.toNat).filter fun t => decide (price h t.items 1 1 = k)).length = cntS n h k by unfold cntS stsOf; rw [List.filter_map, List.length_map]; rfl]
    exact q2
/-! is_wish -/
abbrev c_is_wish : Con := fun _ _ _ => False
theorem ok_is_wish (X : Tx K mg) : FnD P w K mg base 1 "is_wish" c_is_wish := fnD_void (ps := ["size", "value"]) X.f_is_wish (fun _ _ _ _ _ _ us hl => match us, hl with | [_, _], _ => rfl)
/-! require_wish -/
def c_require_wish : Con := fun ss Q X => ∃ d e, ss = [.val d, .val e] ∧ noDict d = true ∧ mState d = false ∧ X "InvalidState"
theorem scRequireWish : FnScope ["state", "wish"] ["state", "wish"] (defScope sRequireWish) := ⟨rfl, rfl, rfl, by decide +kernel, rfl, by decide +kernel, by decide +kernel⟩
theorem ok_require_wish (X : Tx K mg) : FnD P w K mg base 5 "require_wish" c_require_wish := by
  refine fnD_ok (N := ["state", "wish"]) (ps := ["state", "wish"]) X.f_require_wish scRequireWish (fun _ _ _ _ _ _ us hl => match us, hl with | [_, _], _ => rfl) (fun ss Q X' h => ?_) (fun f cdv A outer s H Y E ss Q' X' hr xo hp h => ?_)
  · obtain ⟨d, e, rfl, _⟩ := h
    rfl
  · have nd := scRequireWish.nd
    have hu := hr.units
    have hu5 := room65 hr
    refine ⟨_, (dss_cons (ds_expr (de_call (ok_require_state X) (hr.mono (by decide)) xo (da_cons (de_var (i := 0)) da_nil))) (dss_one (ds_if (dt_not (dt_truth (de_call (ok_is_wish X) (hr.mono (by decide)) xo (da_cons (de_ix (de_var (i := 0)) de_int) (da_cons (de_var (i := 1)) da_nil))))) (dss_one (ds_raise X.c_InvalidWish rfl xo)) dss_nil))), ?_⟩
    clear hu5 hu nd hp xo hr
    obtain ⟨d, e, rfl, hd, hB, x⟩ := h
    exact ⟨d, rfl, hd, fun z => absurd (hB.symm.trans z) (fun z => nomatch z), fun _ => x⟩
/-! best_end -/
abbrev c_best_end : Con := fun _ _ _ => False
theorem ok_best_end (X : Tx K mg) : FnD P w K mg base 1 "best_end" c_best_end := fnD_void (ps := ["state", "wish"]) X.f_best_end (fun _ _ _ _ _ _ us hl => match us, hl with | [_, _], _ => rfl)
/-! fewest_for -/
def c_fewest_for : Con := fun ss Q X => ∃ d e, ss = [.val d, .val e] ∧ noDict d = true ∧ mState d = false ∧ X "InvalidState"
theorem scFewestFor : FnScope ["state", "wish"] ["state", "wish"] (defScope sFewestFor) := ⟨rfl, rfl, rfl, by decide +kernel, rfl, by decide +kernel, by decide +kernel⟩
theorem ok_fewest_for (X : Tx K mg) : FnD P w K mg base 6 "fewest_for" c_fewest_for := by
  refine fnD_ok (N := ["state", "wish"]) (ps := ["state", "wish"]) X.f_fewest_for scFewestFor (fun _ _ _ _ _ _ us hl => match us, hl with | [_, _], _ => rfl) (fun ss Q X' h => ?_) (fun f cdv A outer s H Y E ss Q' X' hr xo hp h => ?_)
  · obtain ⟨d, e, rfl, _⟩ := h
    rfl
  · have nd := scFewestFor.nd
    have hu := hr.units
    have hu5 := room65 hr
    refine ⟨_, (dss_cons (ds_expr (de_call (ok_require_wish X) (hr.mono (by decide)) xo (da_cons (de_var (i := 0)) (da_cons (de_var (i := 1)) da_nil)))) (dss_one (ds_ret (de_ix (de_call (ok_best_end X) (hr.mono (by decide)) xo (da_cons (de_var (i := 0)) (da_cons (de_var (i := 1)) da_nil))) de_int)))), ?_⟩
    clear hu5 hu nd hp xo hr
    obtain ⟨d, e, rfl, hd, hB, x⟩ := h
    exact ⟨_, _, rfl, hd, hB, x⟩
/-! require_prices -/
def c_require_prices : Con := fun ss Q X => ∃ d e a b, ss = [.val d, .val e, .val a, .val b] ∧ noDict d = true ∧ noDict e = true ∧ noDict a = true ∧ noDict b = true ∧ (mPair d e = false → X "InvalidState") ∧
  (mPair d e = true → mInt a 1 1000 = false → X "InvalidPrice") ∧ (mPair d e = true → mInt a 1 1000 = true → mInt b 1 1000 = false → X "InvalidPrice") ∧ (mPair d e = true → mInt a 1 1000 = true → mInt b 1 1000 = true → Q (.val .none))
theorem scRequirePrices : FnScope ["first", "second", "hide", "show"] ["first", "second", "hide", "show"] (defScope sRequirePrices) := ⟨rfl, rfl, rfl, by decide +kernel, rfl, by decide +kernel, by decide +kernel⟩
theorem ok_require_prices (X : Tx K mg) : FnD P w K mg base 6 "require_prices" c_require_prices := by
  refine fnD_ok (N := ["first", "second", "hide", "show"]) (ps := ["first", "second", "hide", "show"]) X.f_require_prices scRequirePrices (fun _ _ _ _ _ _ us hl => match us, hl with | [_, _, _, _], _ => rfl) (fun ss Q X' h => ?_) (fun f cdv A outer s H Y E ss Q' X' hr xo hp h => ?_)
  · obtain ⟨d, e, a, b, rfl, _⟩ := h
    rfl
  · have nd := scRequirePrices.nd
    have hu := hr.units
    have hu5 := room65 hr
    refine ⟨_, (dss_cons (ds_expr (de_call (ok_require_both X) (hr.mono (by decide)) xo (da_cons (de_var (i := 0)) (da_cons (de_var (i := 1)) da_nil)))) (dss_cons (ds_if (dt_not (dt_truth (de_call (ok_is_integer X) (hr.mono (by decide)) xo (da_cons (de_var (i := 2)) (da_cons de_int (da_cons (de_const X.g_HIGHEST) da_nil)))))) (dss_one (ds_raise X.c_InvalidPrice rfl xo)) dss_nil) (dss_one (ds_if (dt_not (dt_truth (de_call (ok_is_integer X) (hr.mono (by decide)) xo (da_cons (de_var (i := 3)) (da_cons de_int (da_cons (de_const X.g_HIGHEST) da_nil)))))) (dss_one (ds_raise X.c_InvalidPrice rfl xo)) dss_nil)))), ?_⟩
    clear hu5 hu nd hp xo hr
    obtain ⟨d, e, a, b, rfl, hd, he, ha, hb, x1, x2, x3, q⟩ := h
    refine ⟨d, e, rfl, hd, he, fun h1 => ?_, x1⟩
    walk_at "go"
    refine ⟨ha, ?_⟩
    cases h2 : mInt a 1 1000 with
    | false => walk_at "go"; exact x2 h1 h2
    | true =>
      walk_at "go"
      refine ⟨hb, ?_⟩
      cases h3 : mInt b 1 1000 with
      | false => walk_at "go"; exact x3 h1 h2 h3
      | true => walk_at "go"; exact q h1 h2 h3
/-! least_price -/
def c_least_price : Con := fun ss Q X => ∃ d e a b, ss = [.val d, .val e, .val a, .val b] ∧ noDict d = true ∧ noDict e = true ∧ noDict a = true ∧ noDict b = true ∧ (mPair d e = false → X "InvalidState") ∧
  (mPair d e = true → (mInt a 1 1000 && mInt b 1 1000) = false → X "InvalidPrice") ∧ (∀ n h w p q, d = stD' n h → e = stD' n w → IsSt n h → IsSt n w → a = .int p → b = .int q → 1 ≤ p → p ≤ 1000 → 1 ≤ q → q ≤ 1000 → Q (.val (.int (price h w p q))))
theorem scLeastPrice : FnScope ["first", "second", "hide", "show"] ["first", "second", "hide", "show"] (defScope sLeastPrice) := ⟨rfl, rfl, rfl, by decide +kernel, rfl, by decide +kernel, by decide +kernel⟩
theorem ok_least_price (X : Tx K mg) : FnD P w K mg base 9 "least_price" c_least_price := by
  refine fnD_ok (N := ["first", "second", "hide", "show"]) (ps := ["first", "second", "hide", "show"]) X.f_least_price scLeastPrice (fun _ _ _ _ _ _ us hl => match us, hl with | [_, _, _, _], _ => rfl) (fun ss Q X' h => ?_) (fun f cdv A outer s H Y E ss Q' X' hr xo hp h => ?_)
  · obtain ⟨d, e, a, b, rfl, _⟩ := h
    rfl
  · have nd := scLeastPrice.nd
    have hu := hr.units
    have hu5 := room65 hr
    refine ⟨_, (dss_cons (ds_expr (de_call (ok_require_prices X) (hr.mono (by decide)) xo (da_cons (de_var (i := 0)) (da_cons (de_var (i := 1)) (da_cons (de_var (i := 2)) (da_cons (de_var (i := 3)) da_nil)))))) (dss_one (ds_ret (de_call (ok_price_between X) (hr.mono (by decide)) xo (da_cons (de_ix (de_var (i := 0)) de_int) (da_cons (de_ix (de_var (i := 1)) de_int) (da_cons (de_var (i := 2)) (da_cons (de_var (i := 3)) da_nil)))))))), ?_⟩
    clear hu5 hu nd hp xo hr
    obtain ⟨d, e, a, b, rfl, hd, he, ha, hb, x1, x2, q⟩ := h
    refine ⟨d, e, a, b, rfl, hd, he, ha, hb, x1, fun h1 h2 => x2 h1 (by rw [h2]; rfl), fun h1 h2 h3 => x2 h1 (by rw [h2, h3]; rfl), fun h1 h2 h3 => ?_⟩
    obtain ⟨n, h, w, rfl, rfl, st, sw⟩ := mPair_some h1
    cases a with
    | int i =>
      cases b with
      | int j =>
        simp only [mInt, Bool.and_eq_true, decide_eq_true_eq] at h2 h3
        walk_at "go"
        exact ⟨by omega, by omega, by omega, by omega, n, st, sw, rfl, q n h w i j rfl rfl st sw rfl rfl h2.1 h2.2 h3.1 h3.2⟩
      | _ => cases h3
    | _ => cases h2
/-! route -/
def c_route : Con := fun ss Q X => ∃ ds, ss = [.val (.tuple ds)] ∧ noDicts ds = true ∧ ds.length ≤ 1000 ∧ (mSame ds = false → X "InvalidState") ∧ (∀ n h hs, ds = (h :: hs).map (stD' n) → (∀ g ∈ h :: hs, IsSt n g) → Q (.val (.int (wayL (h :: hs)))))
theorem scRoute : FnScope ["states", "state", "one", "other"] ["states"] (defScope sRoute) := ⟨rfl, rfl, rfl, by decide +kernel, rfl, by decide +kernel, by decide +kernel⟩
theorem ok_route (X : Tx K mg) : FnV P w K mg base 10 "route" c_route := by
  refine fnV_ok (N := ["states", "state", "one", "other"]) (pv := "states") X.f_route scRoute (fun _ _ _ _ _ _ => rfl) (fun _ _ _ _ _ _ _ _ => rfl) (fun ss Q X' h => ?_) (fun f cdv A outer s H Y E ss Q' X' hr xo hp h => ?_)
  · obtain ⟨ds, rfl, _⟩ := h
    rfl
  · have nd := scRoute.nd
    have hu := hr.units
    have hu5 := room65 hr
    refine ⟨_, (dss_cons (ds_if (dt_not (dt_truth (de_var (i := 0)))) (dss_one (ds_raise X.c_InvalidState rfl xo)) dss_nil) (dss_cons (ds_for hp rfl (di_seq (de_var (i := 0))) (dg_name (i := 1) nd) (dss_one (ds_if (DW.dt (dw_or (dt_not (dt_truth (de_call (ok_is_state X) (hr.mono (by decide)) xo (da_cons (de_var (i := 1)) da_nil)))) (dw_or1 (dt_cp (c_ne hu) (de_ix (de_var (i := 1)) de_int) (de_ix (de_ix (de_var (i := 0)) de_int) de_int))))) (dss_one (ds_raise X.c_InvalidState rfl xo)) dss_nil))) (dss_one (ds_ret (de_sum rfl X.b_sum (da_cons (de_comp (own := [("one", 2), ("other", 3)]) (vs := [2, 3]) rfl rfl nd (di_zip X.b_zip (da_cons (de_var (i := 0)) (da_cons (de_slice (de_var (i := 0)) (do_some de_int) do_none) da_nil))) (blkOk_by (N := ["states", "state", "one", "other"]) (sc := defScope sRoute) (by decide +kernel)) (tg_tup (n := 2) (tgs_cons (tg_name 2) (tgs_cons (tg_name 3) tgs_nil))) (fun _ _ _ _ _ => (pg_tup (n := 2) rfl (pgs_cons (pg_name (i := 2) nd rfl (by first | exact Or.inl rfl | exact Or.inr rfl)) (pgs_cons (pg_name (i := 3) nd rfl (by first | exact Or.inl rfl | exact Or.inr rfl)) pgs_nil)))) (fun _ _ _ _ _ => dts_nil) (fun _ _ _ _ _ => (de_call (ok_away X) (hr.mono (by decide)) xo_blk (da_cons (de_ix (de_var (i := 2)) de_int) (da_cons (de_ix (de_var (i := 3)) de_int) da_nil))))) da_nil)))))), ?_⟩
    clear hu5 hu nd hp xo hr
    obtain ⟨ds, rfl, hd, hl, x, q⟩ := h
    by_cases hne : ds = []
    · subst hne
      walk_at "go"
      exact x rfl
    · obtain ⟨d, r, hdr⟩ : ∃ d r, ds = d :: r := by
        cases ds with
        | nil => exact absurd rfl hne
        | cons d r => exact ⟨d, r, rfl⟩
      have hem : ds.isEmpty = false := by rw [hdr]; rfl
      refine ite2 (c := (!(!ds.isEmpty)) = true) (fun z => ?_) (fun _ => ?_)
      · rw [hem] at z
        cases z
      walk_at "go"
      have x' : ∀ e ∈ ds, mPair d e = false → X' "InvalidState" := fun e he z => x (by
        cases h : mSame ds with
        | false => rfl
        | true =>
          rw [hdr] at h he
          exact absurd (List.all_eq_true.mp h e he) (by rw [z]; decide))
      rw [← List.map_id' ds]
      refine forD_inv (fun x => x) ds (fun done δ => (∀ e ∈ done, mPair d e = true) ∧ ∃ s, δ = [.val (.tuple ds), s, .none, .none]) ⟨fun _ h => (by cases h), .none, by rw [List.map_id']; rfl⟩ (fun _ _ _ => trivial) ?_ ?_
      · rintro done e rest _ el ⟨hg, s, rfl⟩ K k
        have he : e ∈ ds := by rw [el]; simp
        have hx := x' e he
        walk_at "go"
        refine ⟨noDicts_mem hd he, ?_⟩
        cases h1 : mState e with
        | false => walk_at "go"; exact hx (by unfold mPair; rw [h1, Bool.false_and, Bool.and_false])
        | true =>
          have hdm : mState d = true := by
            rw [hdr] at el
            cases done with
            | nil =>
              cases el
              exact h1
            | cons c done =>
              cases el
              have := hg d List.mem_cons_self
              unfold mPair at this
              rw [Bool.and_eq_true] at this
              exact this.1
          obtain ⟨m, ys, rfl, sy⟩ := mState_some h1
          obtain ⟨n, xs, rfl, sx⟩ := mState_some hdm
          have g0 : getI ds 0 = some (stD' n xs) := by rw [hdr]; rfl
          walk_at "go"
          refine ⟨_, g0, ?_⟩
          walk_at "go"
          rw [eqv_int]
          by_cases z : m = n
          · subst z
            rw [decide_eq_true rfl]
            walk_at "go"
            refine k _ ⟨fun c hc => ?_, _, rfl⟩
            rcases List.mem_append.mp hc with hc | hc
            · exact hg c hc
            · rw [List.mem_singleton.mp hc]; exact mPair_ok sx sy
          · rw [decide_eq_false z]
            walk_at "go"
            exact hx (mPair_ne z)
      · rintro _ ⟨hg, s, rfl⟩
        obtain ⟨n, w, ws, e, hs⟩ := mSame_some (ds := ds) (by rw [hdr] at hg ⊢; exact List.all_eq_true.mpr hg)
        have q := q n w ws e hs
        rw [e]
        walk_at "go"
        refine ⟨⟨fun h => absurd rfl (h _), fun h => absurd rfl (h _)⟩, ?_⟩
        rw [cutD_map, cut1, zipD_map]
        refine compD_map (fun p : List Int × List Int => .tuple [stD' n p.1, stD' n p.2]) (fun p => .int (price p.1 p.2 1 1)) _ (by exact ⟨trivial, trivial⟩) (fun p hp K acc k => ?_) ?_
        · have hm := List.of_mem_zip hp
          walk_at "go"
          refine ⟨n, hs _ hm.1, hs _ (List.mem_of_mem_drop hm.2), ?_⟩
          walk_at "go"
          exact k
        intro p1
        refine ⟨((w :: ws).zip ((w :: ws).drop 1)).map fun p : List Int × List Int => price p.1 p.2 1 1, by simp [View, viewA, tagOf], ?_⟩
        rw [way_zip]
        walk_at "go"
        exact q
/-! _law_error -/
def c__law_error : Con := fun ss Q _ => ∃ (w : Nat) (d : D), ss = [.val (.int w), .val d] ∧ w < 12 ∧ noDict d = true ∧ (mState d = false ∨ ((w = 9 ∨ w = 11) ∧ d = stD' 4 [])) ∧ Q (.val (.str "state"))
theorem scLawError : FnScope ["way", "value", "found", "e"] ["way", "value"] (defScope sLawError) := ⟨rfl, rfl, rfl, by decide +kernel, rfl, by decide +kernel, by decide +kernel⟩
theorem ok__law_error (X : Tx K mg) : FnD P w K mg base 11 "_law_error" c__law_error := by
  refine fnD_ok0 (N := ["way", "value", "found", "e"]) (ps := ["way", "value"]) X.f__law_error scLawError (fun _ _ _ _ _ _ us hl => match us, hl with | [_, _], _ => rfl) (fun ss Q X' h => ?_) (fun f cdv A outer s H Y E ss Q' X' hr xo hp h => ?_)
  · obtain ⟨w, d, rfl, _⟩ := h
    rfl
  · have nd := scLawError.nd
    have hu := hr.units
    have hu5 := room65 hr
    refine ⟨_, (dss0_cons (ds0_of (ds_set (i := 2) nd de_str)) (dss0_cons (ds_try (i := 3) nd xo X.c_SheetError.mgOf (fun _ _ _ xo hp => dss0_of (dss_one (ds_if (dt_cp c_lt (de_var (i := 0)) de_int) (dss_one (ds_expr (de_pick (.cons (ok_blocks X) (hr.mono (by decide)) rfl rfl (.cons (ok_visible X) (hr.mono (by decide)) rfl rfl (.cons (ok_farthest X) (hr.mono (by decide)) rfl rfl (.cons (ok_place_of X) (hr.mono (by decide)) rfl rfl Fns.nil)))) (pick_var (i := 0)) xo (da_cons (de_var (i := 1)) da_nil)))) (dss_one (ds_if (dt_cp c_lt (de_var (i := 0)) de_int) (dss_one (ds_expr (de_pick (.cons (ok_screen_row X) (hr.mono (by decide)) rfl rfl (.cons (ok_is_possible X) (hr.mono (by decide)) rfl rfl (.cons (ok_run X) (hr.mono (by decide)) rfl rfl (.cons (ok_count_from X) (hr.mono (by decide)) rfl rfl (.cons (ok_fewest_for X) (hr.mono (by decide)) rfl rfl Fns.nil))))) (pick_sub (i := 0)) xo (da_cons (de_var (i := 1)) (da_cons de_non da_nil))))) (dss_one (ds_if (dt_cp (c_eq hu) (de_var (i := 0)) de_int) (dss_one (ds_expr (de_call (ok_distance X) (hr.mono (by decide)) xo (da_cons (de_tup (da_cons de_int (da_cons (de_tup da_nil) da_nil))) (da_cons (de_var (i := 1)) da_nil))))) (dss_one (ds_if (dt_cp (c_eq hu) (de_var (i := 0)) de_int) (dss_one (ds_expr (de_call (ok_least_price X) (hr.mono (by decide)) xo (da_cons (de_var (i := 1)) (da_cons de_non (da_cons de_non (da_cons de_non da_nil))))))) (dss_one (ds_expr (de_callV (ok_route X) (hr.mono (by decide)) xo (da_cons (de_tup (da_cons de_int (da_cons (de_tup da_nil) da_nil))) (da_cons (de_var (i := 1)) da_nil)))))))))))))) (fun _ _ _ _ _ hmC hzC hfC => dss0_of (dss_one (ds_set (i := 2) nd (de_if (dt_truth (de_isE (i := 3) hmC hzC hfC X.b_isinstance X.c_InvalidState.mgOf)) de_str de_str))))) (dss0_one (ds0_of (ds_ret (de_var (i := 2))))))), ?_⟩
    clear hu5 hu nd hp xo hr
    obtain ⟨w, d, rfl, hw, hd, hB, q⟩ := h
    have two : (mState d = false ∨ d = stD' 4 []) → ∀ n h w, stD' 3 [] = stD' n h → d = stD' n w → IsSt n h → IsSt n w → False := fun z n h w e1 e2 s1 s2 => by
      rcases z with z | z
      · rw [e2, s2.ok] at z; cases z
      · have a1 : (3 : Int) = n := by injection e1 with e1; injection e1 with e1; injection e1
        rw [z] at e2
        have a2 : (4 : Int) = n := by injection e2 with e2; injection e2 with e2; injection e2
        omega
    have bad : mState d = false → ∀ n h, d = stD' n h → IsSt n h → False := fun z n h e st => by
      rw [e, st.ok] at z; cases z
    have hB2 : mState d = false ∨ d = stD' 4 [] := hB.imp id (·.2)
    have two := two hB2
    have hB1 : w ≠ 9 → w ≠ 11 → mState d = false := fun a b => by
      rcases hB with z | ⟨z | z, _⟩
      · exact z
      · exact absurd z a
      · exact absurd z b
    clear hB
    match w, hw, hB1 with
    | 0, _, hB1 =>
      have hB := hB1 (by decide) (by decide)
      have bad := bad hB
      walk_at "go"
      refine ⟨hd, fun n xs e st => (bad n xs e st).elim, fun _ => ?_⟩
      · refine ⟨X.s_InvalidState_SheetError, fun a => ?_⟩
        walk_at "go"
        refine ⟨_, X.i_InvalidState_InvalidState, ?_⟩
        walk_at "go"
        exact q
    | 1, _, hB1 =>
      have hB := hB1 (by decide) (by decide)
      have bad := bad hB
      walk_at "go"
      refine ⟨hd, fun n xs e st => (bad n xs e st).elim, fun _ => ?_⟩
      · refine ⟨X.s_InvalidState_SheetError, fun a => ?_⟩
        walk_at "go"
        refine ⟨_, X.i_InvalidState_InvalidState, ?_⟩
        walk_at "go"
        exact q
    | 2, _, hB1 =>
      have hB := hB1 (by decide) (by decide)
      have bad := bad hB
      walk_at "go"
      refine ⟨hd, fun _ => ?_, fun n xs e st => (bad n xs e st).elim⟩
      · refine ⟨X.s_InvalidState_SheetError, fun a => ?_⟩
        walk_at "go"
        refine ⟨_, X.i_InvalidState_InvalidState, ?_⟩
        walk_at "go"
        exact q
    | 3, _, hB1 =>
      have hB := hB1 (by decide) (by decide)
      have bad := bad hB
      walk_at "go"
      refine ⟨hd, fun _ => ?_, fun n xs e st => (bad n xs e st).elim⟩
      · refine ⟨X.s_InvalidState_SheetError, fun a => ?_⟩
        walk_at "go"
        refine ⟨_, X.i_InvalidState_InvalidState, ?_⟩
        walk_at "go"
        exact q
    | 4, _, hB1 =>
      have hB := hB1 (by decide) (by decide)
      have bad := bad hB
      walk_at "go"
      refine ⟨hd, rfl, fun n xs i e st => (bad n xs e st).elim, fun _ => ?_, fun z => absurd (hB.symm.trans z) (fun z => nomatch z)⟩
      · refine ⟨X.s_InvalidState_SheetError, fun a => ?_⟩
        walk_at "go"
        refine ⟨_, X.i_InvalidState_InvalidState, ?_⟩
        walk_at "go"
        exact q
    | 5, _, hB1 =>
      have hB := hB1 (by decide) (by decide)
      have bad := bad hB
      walk_at "go"
      refine ⟨hd, hB, ?_⟩
      · refine ⟨X.s_InvalidState_SheetError, fun a => ?_⟩
        walk_at "go"
        refine ⟨_, X.i_InvalidState_InvalidState, ?_⟩
        walk_at "go"
        exact q
    | 6, _, hB1 =>
      have hB := hB1 (by decide) (by decide)
      have bad := bad hB
      walk_at "go"
      refine ⟨hd, hB, ?_⟩
      · refine ⟨X.s_InvalidState_SheetError, fun a => ?_⟩
        walk_at "go"
        refine ⟨_, X.i_InvalidState_InvalidState, ?_⟩
        walk_at "go"
        exact q
    | 7, _, hB1 =>
      have hB := hB1 (by decide) (by decide)
      have bad := bad hB
      walk_at "go"
      refine ⟨hd, rfl, fun _ => ?_, fun z => absurd (hB.symm.trans z) (fun z => nomatch z), fun n xs k e _ st => (bad n xs e st).elim⟩
      · refine ⟨X.s_InvalidState_SheetError, fun a => ?_⟩
        walk_at "go"
        refine ⟨_, X.i_InvalidState_InvalidState, ?_⟩
        walk_at "go"
        exact q
    | 8, _, hB1 =>
      have hB := hB1 (by decide) (by decide)
      have bad := bad hB
      walk_at "go"
      refine ⟨hd, hB, ?_⟩
      · refine ⟨X.s_InvalidState_SheetError, fun a => ?_⟩
        walk_at "go"
        refine ⟨_, X.i_InvalidState_InvalidState, ?_⟩
        walk_at "go"
        exact q
    | 9, _, hB1 =>
      walk_at "go"
      refine ⟨hd, fun _ => ?_, fun n h w e1 e2 s1 s2 => (two n h w e1 e2 s1 s2).elim⟩
      · refine ⟨X.s_InvalidState_SheetError, fun a => ?_⟩
        walk_at "go"
        refine ⟨_, X.i_InvalidState_InvalidState, ?_⟩
        walk_at "go"
        exact q
    | 10, _, hB1 =>
      have hB := hB1 (by decide) (by decide)
      have bad := bad hB
      walk_at "go"
      refine ⟨hd, rfl, rfl, rfl, fun _ => ?_, fun z => ?_, fun n h w p q e _ st => (bad n h e st).elim⟩
      · refine ⟨X.s_InvalidState_SheetError, fun a => ?_⟩
        walk_at "go"
        refine ⟨_, X.i_InvalidState_InvalidState, ?_⟩
        walk_at "go"
        exact q
      · obtain ⟨n, xs, ys, e1, _, s1, _⟩ := mPair_some z
        exact (bad n xs e1 s1).elim
    | 11, _, hB1 =>
      walk_at "go"
      refine ⟨by show (true && (noDict d && true)) = true; rw [hd]; rfl, ?_⟩
      walk_at "go"
      refine ⟨fun _ => ?_, fun n h hs e hg => ?_⟩
      · refine ⟨X.s_InvalidState_SheetError, fun a => ?_⟩
        walk_at "go"
        refine ⟨_, X.i_InvalidState_InvalidState, ?_⟩
        walk_at "go"
        exact q
      · match hs, e with
        | [], e => exact absurd (congrArg List.length e) (by simp)
        | [g], e =>
          injection e with e1 e2
          injection e2 with e2 _
          exact (two n h g e1 e2 (hg h List.mem_cons_self) (hg g (List.mem_cons_of_mem _ List.mem_cons_self))).elim
        | _ :: _ :: _, e => exact absurd (congrArg List.length e) (by simp)
    | n + 12, hw, _ => exact absurd hw (by omega)
/-! _law_of -/
def c__law_of : Con := fun ss Q _ => ∃ d, ss = [.bag, .val d] ∧ ∃ ds, (d = .list ds ∨ d = .tuple ds) ∧ 0 < ds.length ∧ ds.length ≤ 1000000 ∧ ∀ x ∈ ds, Q (.val x)
theorem scLawOf : FnScope ["bag", "some"] ["bag", "some"] (defScope sLawOf) := ⟨rfl, rfl, rfl, by decide +kernel, rfl, by decide +kernel, by decide +kernel⟩
theorem ok__law_of (X : Tx K mg) : FnD P w K mg base 2 "_law_of" c__law_of := by
  refine fnD_ok (N := ["bag", "some"]) (ps := ["bag", "some"]) X.f__law_of scLawOf (fun _ _ _ _ _ _ us hl => match us, hl with | [_, _], _ => rfl) (fun ss Q X' h => ?_) (fun f cdv A outer s H Y E ss Q' X' hr xo hp h => ?_)
  · obtain ⟨d, rfl, _⟩ := h
    rfl
  · have nd := scLawOf.nd
    have hu := hr.units
    have hu5 := room65 hr
    refine ⟨_, (dss_one (ds_ret (de_ix (de_var (i := 1)) (de_call (ok__law_take X) (hr.mono (by decide)) xo (da_cons (de_var (i := 0)) (da_cons (de_len X.b_len (da_cons (de_var (i := 1)) da_nil)) da_nil)))))), ?_⟩
    clear hu5 hu nd hp xo hr
    obtain ⟨d, rfl, ds, hd, h0, h1, q⟩ := h
    have key : ∀ r : Int, 0 ≤ r → r < ds.length → ∃ x, getI ds r = some x ∧ Q' (.val x) := fun r r0 r1 => ⟨_, getI_in r0 (by omega), q _ (List.getElem_mem _)⟩
    rcases hd with rfl | rfl
    · walk_at "go"
      refine ⟨by omega, by omega, fun r r0 r1 => ?_⟩
      obtain ⟨x, e, q⟩ := key r r0 r1
      exact ⟨_, _, rfl, e, rfl, q⟩
    · walk_at "go"
      refine ⟨by omega, by omega, fun r r0 r1 => ?_⟩
      obtain ⟨x, e, q⟩ := key r r0 r1
      exact ⟨_, e, rfl, q⟩
/-! _law_bent -/
def c__law_bent (n : Nat) : Con := fun ss Q _ => ∃ d, ss = [.bag, .val d] ∧ n ≤ 40 ∧ bd n d = true ∧ (∀ r, fi (n + 3) r = true → Q (.val r)) ∧ (∀ p rs, fi (n + 3) (.list rs) = true → Q (.own p rs))
theorem scLawBent : FnScope ["bag", "value", "odd", "at", "way"] ["bag", "value"] (defScope sLawBent) := ⟨rfl, rfl, rfl, by decide +kernel, rfl, by decide +kernel, by decide +kernel⟩
theorem okn__law_bent (X : Tx K mg) : ∀ n : Nat, FnD P w K mg base (n + 3) "_law_bent" (c__law_bent n) := by
  intro n
  induction n with
  | zero =>
    refine (fnD_void (ps := ["bag", "value"]) X.f__law_bent (fun _ _ _ _ _ _ us hl => match us, hl with | [_, _], _ => rfl)).imp fun ss Q X' h => ?_
    obtain ⟨d, _, _, h, _⟩ := h
    cases h
  | succ n ih =>
  refine fnD_ok (N := ["bag", "value", "odd", "at", "way"]) (ps := ["bag", "value"]) X.f__law_bent scLawBent (fun _ _ _ _ _ _ us hl => match us, hl with | [_, _], _ => rfl) (fun ss Q X' h => ?_) (fun f cdv A outer s H Y E ss Q' X' hr xo hp h => ?_)
  · obtain ⟨d, rfl, _⟩ := h
    rfl
  · have nd := scLawBent.nd
    have hu := hr.units
    have hu5 := room65 hr
    refine ⟨_, (dss_cons (ds_set (i := 2) nd (de_lst (da_cons de_int (da_cons de_int (da_cons de_int (da_cons (de_neg de_int) (da_cons de_int (da_cons de_int (da_cons de_bl (da_cons de_non (da_cons de_str (da_cons (de_tup da_nil) (da_cons (de_tup (da_cons de_int da_nil)) (da_cons (de_lst (da_cons de_int da_nil)) (da_cons (de_tup (da_cons de_int (da_cons de_int da_nil))) (da_cons (de_tup (da_cons de_int (da_cons de_int da_nil))) da_nil)))))))))))))))) (dss_cons (ds_if (DW.dt (dw_or (dt_not (dt_truth (de_isi (n := .tuple) (fun z => nomatch z) (by decide +kernel) X.b_tuple X.b_isinstance (de_var (i := 1))))) (dw_or (dt_cp (c_eq hu) (de_var (i := 1)) (de_tup da_nil)) (dw_or1 (dt_cp (c_eq hu) (de_call (ok__law_take X) (hr.mono (by omega)) xo (da_cons (de_var (i := 0)) (da_cons de_int da_nil))) de_int))))) (dss_one (ds_ret (de_call (ok__law_of X) (hr.mono (by omega)) xo (da_cons (de_var (i := 0)) (da_cons (de_var (i := 2)) da_nil))))) dss_nil) (dss_cons (ds_par (i := 3) (j := 4) rfl nd (da_cons (de_call (ok__law_take X) (hr.mono (by omega)) xo (da_cons (de_var (i := 0)) (da_cons (de_len X.b_len (da_cons (de_var (i := 1)) da_nil)) da_nil))) (da_cons (de_call (ok__law_take X) (hr.mono (by omega)) xo (da_cons (de_var (i := 0)) (da_cons de_int da_nil))) da_nil))) (dss_cons (ds_if (dt_cp (c_eq hu) (de_var (i := 4)) de_int) (dss_one (ds_ret (de_add (de_slice (de_var (i := 1)) do_none (do_some (de_var (i := 3)))) (de_slice (de_var (i := 1)) (do_some (de_add (de_var (i := 3)) de_int)) do_none)))) dss_nil) (dss_cons (ds_if (dt_cp (c_eq hu) (de_var (i := 4)) de_int) (dss_one (ds_ret (de_add (de_slice (de_var (i := 1)) do_none (do_some (de_add (de_var (i := 3)) de_int))) (de_slice (de_var (i := 1)) (do_some (de_var (i := 3))) do_none)))) dss_nil) (dss_cons (ds_if (dt_cp (c_eq hu) (de_var (i := 4)) de_int) (dss_one (ds_ret (de_rev (de_var (i := 1))))) dss_nil) (dss_cons (ds_if (dt_cp (c_eq hu) (de_var (i := 4)) de_int) (dss_one (ds_ret (de_list X.b_list (da_cons (de_var (i := 1)) da_nil)))) dss_nil) (dss_one (ds_ret (de_add (de_add (de_slice (de_var (i := 1)) do_none (do_some (de_var (i := 3)))) (de_tup (da_cons (de_call (ih.mono (Nat.le_refl _)) (hr.mono (by omega)) xo (da_cons (de_var (i := 0)) (da_cons (de_ix (de_var (i := 1)) (de_var (i := 3))) da_nil))) da_nil))) (de_slice (de_var (i := 1)) (do_some (de_add (de_var (i := 3)) de_int)) do_none))))))))))), ?_⟩
    clear hu5 hu nd hp xo hr
    obtain ⟨d, rfl, hn, hd, q, r⟩ := h
    walk_at "go"
    intro p1
    walk_at "go"
    intro p2
    have of : ∀ x ∈ odds, Q' (.val x) := fun x hx => q x (fi_mono (odds_fi x hx) (by omega))
    cases d with
    | int i =>
      walk_at "go"
      refine ⟨odds, .inl rfl, by decide, by decide, fun x hx => ?_⟩
      walk_at "go"
      exact of x hx
    | tuple ds =>
      have hs := bd_fi hd
      rw [bd_tup] at hd
      have hl := hd.1
      have in1 : ∀ x ∈ ds, fi (n + 3) x = true := fun x hx => fi_mono (bd_fi (hd.2 x hx)) (by omega)
      have fin : ∀ (i : Nat) (r2 : D), i < ds.length → fi (n + 3) r2 = true → Q' (.val (.tuple (ds.take i ++ [r2] ++ ds.drop (i + 1)))) := fun i r2 hi h2 => by
        refine q _ (fi_tup.mpr ⟨by rw [List.length_append, List.length_append, List.length_take, List.length_drop]; simp; omega, fun x hx => ?_⟩)
        rcases List.mem_append.mp hx with hx | hx
        · rcases List.mem_append.mp hx with hx | hx
          · exact in1 x (List.mem_of_mem_take hx)
          · rw [List.mem_singleton.mp hx]; exact h2
        · exact in1 x (List.mem_of_mem_drop hx)
      walk_at "go"
      refine ⟨fi_shaped hs (by omega), rfl, ?_⟩
      cases hds : ds with
      | nil =>
        walk_at "go"
        refine ⟨odds, .inl rfl, by decide, by decide, fun x hx => ?_⟩
        walk_at "go"
        exact of x hx
      | cons a t =>
        rw [← hds]
        have ne : PyData.eqv (.tuple ds) (.tuple []) = false := by rw [hds]; rfl
        have l0 : 0 < ds.length := by rw [hds]; exact Nat.succ_pos _
        rw [ne]
        walk_at "go"
        refine ⟨by decide, by decide, fun k k0 k1 => ?_⟩
        walk_at "go"
        rw [eqv_int]
        refine ite2 (fun h => ?_) (fun h => ?_)
        · walk_at "go"
          refine ⟨odds, .inl rfl, by decide, by decide, fun x hx => ?_⟩
          walk_at "go"
          exact of x hx
        · clear h k0 k1 k
          walk_at "go"
          refine ⟨by omega, by omega, fun k k0 k1 => ?_⟩
          walk_at "go"
          refine ⟨by decide, by decide, fun c c0 c1 => ?_⟩
          walk_at "go"
          clear c0 c1
          obtain ⟨i, rfl⟩ : ∃ i : Nat, k = (i : Int) := ⟨k.toNat, by omega⟩
          have hi : i < ds.length := by omega
          clear k0 k1
          rw [eqv_int]
          refine ite2 (fun h => ?_) (fun h => ?_)
          · clear h
            walk_at "go"
            rw [cutD_to, show (i : Int) + 1 = ((i + 1 : Nat) : Int) by omega]
            refine ⟨?_, ?_⟩
            · rw [cutD_from, List.length_take, List.length_drop, sizeLine_eq]; omega
            walk_at "go"
            rw [cutD_from]
            refine q _ (fi_tup.mpr ⟨by rw [List.length_append, List.length_take, List.length_drop]; omega, fun x hx => ?_⟩)
            rcases List.mem_append.mp hx with hx | hx
            · exact in1 x (List.mem_of_mem_take hx)
            · exact in1 x (List.mem_of_mem_drop hx)
          walk_at "go"
          rw [eqv_int]
          refine ite2 (fun h => ?_) (fun h => ?_)
          · clear h
            walk_at "go"
            rw [show (i : Int) + 1 = ((i + 1 : Nat) : Int) by omega, cutD_to]
            refine ⟨?_, ?_⟩
            · rw [cutD_from, List.length_take, List.length_drop, sizeLine_eq]; omega
            walk_at "go"
            rw [cutD_from]
            refine q _ (fi_tup.mpr ⟨by rw [List.length_append, List.length_take, List.length_drop]; omega, fun x hx => ?_⟩)
            rcases List.mem_append.mp hx with hx | hx
            · exact in1 x (List.mem_of_mem_take hx)
            · exact in1 x (List.mem_of_mem_drop hx)
          walk_at "go"
          rw [eqv_int]
          refine ite2 (fun h => ?_) (fun h => ?_)
          · clear h
            walk_at "go"
            refine q _ (fi_tup.mpr ⟨by rw [List.length_reverse]; omega, fun x hx => ?_⟩)
            exact in1 x (List.mem_reverse.mp hx)
          walk_at "go"
          rw [eqv_int]
          refine ite2 (fun h => ?_) (fun h => ?_)
          · clear h
            walk_at "go"
            intro p
            walk_at "go"
            exact r p ds (fi_lst.mpr ⟨by omega, in1⟩)
          walk_at "go"
          refine ⟨ds[i], by rw [getI_nat]; exact List.getElem?_eq_getElem hi, ?_⟩
          walk_at "go"
          refine ⟨by omega, hd.2 _ (List.getElem_mem hi), fun r2 hr2 => ?_, fun p rs hrs => ?_⟩
          · walk_at "go"
            rw [cutD_to]
            refine ⟨?_, ?_⟩
            · rw [List.length_take, sizeLine_eq]; simp; omega
            walk_at "go"
            rw [show (i : Int) + 1 = ((i + 1 : Nat) : Int) by omega]
            refine ⟨?_, ?_⟩
            · rw [cutD_from, List.length_append, List.length_take, List.length_drop, sizeLine_eq]; simp; omega
            walk_at "go"
            rw [cutD_from]
            exact fin i _ hi hr2
          · walk_at "go"
            intro p'
            walk_at "go"
            rw [cutD_to]
            refine ⟨?_, ?_⟩
            · rw [List.length_take, sizeLine_eq]; simp; omega
            walk_at "go"
            rw [show (i : Int) + 1 = ((i + 1 : Nat) : Int) by omega]
            refine ⟨?_, ?_⟩
            · rw [cutD_from, List.length_append, List.length_take, List.length_drop, sizeLine_eq]; simp; omega
            walk_at "go"
            rw [cutD_from]
            exact fin i _ hi hrs
    | _ => cases hd
theorem ok__law_bent (X : Tx K mg) : FnD P w K mg base 6 "_law_bent" (c__law_bent 3) := okn__law_bent X 3
/-! _law_int -/
def c__law_int : Con := fun ss Q _ => ∃ d lo hi, ss = [.val d, .val (.int lo), .val (.int hi)] ∧ noDict d = true ∧ Q (.val (.bool (mInt d lo hi)))
theorem scLawInt : FnScope ["value", "low", "high"] ["value", "low", "high"] (defScope sLawInt) := ⟨rfl, rfl, rfl, by decide +kernel, rfl, by decide +kernel, by decide +kernel⟩
theorem ok__law_int (X : Tx K mg) : FnD P w K mg base 1 "_law_int" c__law_int := by
  refine fnD_ok (N := ["value", "low", "high"]) (ps := ["value", "low", "high"]) X.f__law_int scLawInt (fun _ _ _ _ _ _ us hl => match us, hl with | [_, _, _], _ => rfl) (fun ss Q X' h => ?_) (fun f cdv A outer s H Y E ss Q' X' hr xo hp h => ?_)
  · obtain ⟨d, lo, hi, rfl, _⟩ := h
    rfl
  · have nd := scLawInt.nd
    have hu := hr.units
    have hu5 := room65 hr
    refine ⟨_, (dss_one (ds_ret (de_and (de_isi (n := .int) (fun z => nomatch z) (by decide +kernel) X.b_int X.b_isinstance (de_var (i := 0))) (de_and (de_not (de_isi (n := .bool) (fun z => nomatch z) (by decide +kernel) X.b_bool X.b_isinstance (de_var (i := 0)))) (de_one (de_cp2 c_le c_le (de_var (i := 1)) (de_var (i := 0)) (de_var (i := 2)))))))), ?_⟩
    clear hu5 hu nd hp xo hr
    obtain ⟨d, lo, hi, rfl, hd, q⟩ := h
    cases d with
    | int i =>
      walk_at "go"
      refine ite2 (fun h => ⟨rfl, ?_⟩) (fun h => ⟨rfl, ?_⟩)
      · simpa [mInt, of_decide_eq_true h] using q
      · simpa [mInt, show ¬ lo ≤ i from fun z => h (decide_eq_true z)] using q
    | dict _ => simp [noDict] at hd
    | _ => walk_at "go"; exact q
/-! _law_is_state -/
def c__law_is_state : Con := fun ss Q _ => ∃ d, ss = [.val d] ∧ fi 50 d = true ∧ Q (.val (.bool (mState d)))
theorem scLawIsState : FnScope ["value", "row"] ["value"] (defScope sLawIsState) := ⟨rfl, rfl, rfl, by decide +kernel, rfl, by decide +kernel, by decide +kernel⟩
theorem ok__law_is_state (X : Tx K mg) : FnD P w K mg base 2 "_law_is_state" c__law_is_state := by
  refine fnD_ok (N := ["value", "row"]) (ps := ["value"]) X.f__law_is_state scLawIsState (fun _ _ _ _ _ _ us hl => match us, hl with | [_], _ => rfl) (fun ss Q X' h => ?_) (fun f cdv A outer s H Y E ss Q' X' hr xo hp h => ?_)
  · obtain ⟨d, rfl, _⟩ := h
    rfl
  · have nd := scLawIsState.nd
    have hu := hr.units
    have hu5 := room65 hr
    refine ⟨_, (dss_cons (ds_if (DW.dt (dw_or (dt_not (dt_truth (de_isi (n := .tuple) (fun z => nomatch z) (by decide +kernel) X.b_tuple X.b_isinstance (de_var (i := 0))))) (dw_or (dt_cp (c_ne hu) (de_len X.b_len (da_cons (de_var (i := 0)) da_nil)) de_int) (dw_or1 (dt_not (dt_truth (de_call (ok__law_int X) (hr.mono (by decide)) xo (da_cons (de_ix (de_var (i := 0)) de_int) (da_cons de_int (da_cons de_int da_nil)))))))))) (dss_one (ds_ret de_bl)) dss_nil) (dss_cons (ds_if (DW.dt (dw_or (dt_not (dt_truth (de_isi (n := .tuple) (fun z => nomatch z) (by decide +kernel) X.b_tuple X.b_isinstance (de_ix (de_var (i := 0)) de_int)))) (dw_or1 (dt_cp (c_ne hu) (de_comp (own := [("row", 1)]) (vs := [1]) rfl rfl nd (di_seq (de_ix (de_var (i := 0)) de_int)) (blkOk_by (N := ["value", "row"]) (sc := defScope sLawIsState) (by decide +kernel)) (tg_name 1) (fun _ _ _ _ _ => (pg_name (i := 1) nd rfl (by first | exact Or.inl rfl | exact Or.inr rfl))) (fun _ _ _ _ _ => (dts_one (dt_not (dt_truth (de_call (ok__law_int X) (hr.mono (by decide)) xo_blk (da_cons (de_var (i := 1)) (da_cons de_int (da_cons (de_ix (de_var (i := 0)) de_int) da_nil)))))))) (fun _ _ _ _ _ => (de_var (i := 1)))) (de_lst da_nil))))) (dss_one (ds_ret de_bl)) dss_nil) (dss_one (ds_ret (de_cp (c_eq hu) (de_list X.b_list (da_cons (de_ix (de_var (i := 0)) de_int) da_nil)) (de_sortSet rfl X.b_sorted X.b_set (de_ix (de_var (i := 0)) de_int))))))), ?_⟩
    clear hu5 hu nd hp xo hr
    obtain ⟨d, rfl, hf, q⟩ := h
    have hd := fi_no hf
    have no : ∀ (hn : mState d = false), Q' (.val (.bool false)) := fun hn => by rw [hn] at q; exact q
    cases d with
    | tuple ds =>
      match ds, hd, hf, q, no with
      | [], hd, hf, q, no => walk_at "go"; exact no rfl
      | [a], hd, hf, q, no => walk_at "go"; exact no (by cases a <;> rfl)
      | [a, b], hd, hf, q, no =>
        have ha : noDict a = true := noDicts_mem hd List.mem_cons_self
        have hb : noDict b = true := noDicts_mem hd (List.mem_cons_of_mem _ List.mem_cons_self)
        walk_at "go"
        refine ⟨ha, ?_⟩
        cases hB : mInt a 1 40 with
        | false => walk_at "go"; exact no (by cases a <;> first | rfl | (exact (Bool.and_eq_false_iff.mpr (.inl hB))))
        | true =>
          cases a with
          | int n =>
            cases b with
            | tuple es =>
              rw [fi_tup] at hf
              have hfb := hf.2 _ (List.mem_cons_of_mem _ List.mem_cons_self)
              rw [fi_tup] at hfb
              have ln := hfb.1
              walk_at "go"
              rw [← List.map_id' es]
              refine compD_typed (fun x : D => x) (fun x => !mInt x 1 n) (fun x => x) trivial _ _ (fun x hx K acc k => ?_) ?_
              · walk_at "go"
                refine ⟨noDicts_mem hb hx, ?_⟩
                cases hB2 : mInt x 1 n with
                | true => walk_at "go"; rw [if_neg (by rw [hB2]; decide)] at k; exact k
                | false => walk_at "go"; rw [if_pos (by rw [hB2]; decide)] at k; exact k
              intro p
              rw [List.map_id', List.nil_append, List.map_id']
              have hsh : SeqAt.shaped (.list (es.filter fun x => !mInt x 1 n)) = true := by
                refine fi_shaped (n := 49) (fi_lst.mpr ⟨Nat.le_trans (List.length_filter_le _ _) ln, fun x hx => hfb.2 x (List.mem_filter.mp hx).1⟩)
              walk_at "go"
              intro p1
              refine ⟨_, _, rfl, rfl, hsh, rfl, ?_⟩
              cases hA : es.all fun x => mInt x 1 n with
              | false =>
                have ne : PyData.eqv (.list (es.filter fun x => !mInt x 1 n)) (.list []) = false := by
                  cases hL : es.filter fun x => !mInt x 1 n with
                  | nil =>
                    rw [List.filter_eq_nil_iff] at hL
                    have : (es.all fun x => mInt x 1 n) = true := List.all_eq_true.mpr fun x hx => by simpa using hL x hx
                    rw [this] at hA
                    cases hA
                  | cons => rfl
                rw [ne]
                walk_at "go"
                exact no (by
                  show (decide (1 ≤ n) && decide (n ≤ 40) && mRows n (.tuple es)) = false
                  rw [show mRows n (.tuple es) = false from not_all_mInt hA, Bool.and_false])
              | true =>
                obtain ⟨xs, rfl, hx⟩ := all_mInt hA
                have eL : ((xs.map PyData.int).filter fun x => !mInt x 1 n) = [] := by
                  rw [List.filter_eq_nil_iff]
                  intro x hx
                  rw [List.all_eq_true.mp hA x hx]
                  decide
                rw [eL]
                rw [List.length_map] at ln
                have hn : 1 ≤ n ∧ n ≤ 40 := by
                  have hB : (decide (1 ≤ n) && decide (n ≤ 40)) = true := hB
                  simpa using hB
                walk_at "go"
                intro p2
                walk_at "go"
                refine ⟨xs, (List.range 40).map fun i : Nat => (i : Int) + 1, rfl, by omega, by decide, fun k hk => ?_, fun out nm p3 => ?_⟩
                · have := List.all_eq_true.mp hx k hk
                  simp at this
                  rw [List.mem_map]
                  exact ⟨(k - 1).toNat, List.mem_range.mpr (by omega), by omega⟩
                refine eqD_ints xs out rfl rfl ?_
                have e : decide (xs = out) = mState (.tuple [.int n, .tuple (xs.map .int)]) := by
                  have e2 : mState (stD' n xs) = decide (xs = out) := by
                    rw [Bool.eq_iff_iff, mState_iff, decide_eq_true_eq]
                    constructor
                    · intro st
                      exact asc_ext st.asc nm.1 fun k => (nm.2 k).symm
                    · intro e
                      subst e
                      refine mState_iff.mp ?_
                      show (decide (1 ≤ n) && decide (n ≤ 40) && mRowsT n (asInts (xs.map .int))) = true
                      rw [asInts_map, decide_eq_true hn.1, decide_eq_true hn.2, Bool.true_and]
                      exact isRows_iff.mpr ⟨fun x hx2 => by have := List.all_eq_true.mp hx x hx2; simpa using this, nm.1⟩
                  exact e2.symm
                rw [e]
                walk_at "go"
                exact q
            | dict _ => simp [noDict] at hb
            | _ => walk_at "go"; exact no (by simp [mState, mRows])
          | _ => cases hB
      | a :: b :: c :: r, hd, hf, q, no => walk_at "go"; exact no (by cases a <;> rfl)
    | dict _ => simp [noDict] at hd
    | _ => walk_at "go"; exact no rfl
/-! law -/
def c_law : Con := fun ss Q _ => ∃ ns, ss = [.scr ns] ∧ ns.length ≤ 63 ∧ Q (.val (.bool true))
theorem scLaw : FnScope ["script", "k", "bag", "state", "values", "value", "good", "told", "turn", "way"] ["script"] (defScope sLaw) := ⟨rfl, rfl, rfl, by decide +kernel, rfl, by decide +kernel, by decide +kernel⟩
theorem ok_law {f : Addr} {fd : FuncData} (F : Fun K "law" "law" sLaw f fd) (X : Tx K mg) : FnOk P w K mg base (L2.CX P w) 12 f fd ["script"] (spD K mg c_law) := by
  refine fnX_ok (N := ["script", "k", "bag", "state", "values", "value", "good", "told", "turn", "way"]) (ps := ["script"]) F scLaw (fun ss Q X' h => ?_) (fun f cdv A outer s H Y E ss Q' X' hr xo hp h => ?_)
  · obtain ⟨ns, rfl, _⟩ := h
    rfl
  · have nd := scLaw.nd
    have hu := hr.units
    have hu5 := room65 hr
    refine ⟨_, (dss_cons (ds_for hp rfl (di_r1 X.b_range (da_cons (de_add (de_min2 rfl X.b_min (da_cons (de_len X.b_len (da_cons (de_var (i := 0)) da_nil)) (da_cons de_int da_nil))) de_int) da_nil)) (dg_name (i := 1) nd) (dss_cons (ds_set (i := 2) nd (de_call (ok__law_bag X) (hr.mono (by decide)) xo (da_cons (de_var (i := 0)) (da_cons (de_var (i := 1)) da_nil)))) (dss_cons (ds_set (i := 3) nd (de_call (ok__law_state X) (hr.mono (by decide)) xo (da_cons (de_var (i := 2)) (da_cons de_int da_nil)))) (dss_cons (ds_set (i := 4) nd (de_lst (da_cons (de_var (i := 3)) (da_cons (de_list X.b_list (da_cons (de_var (i := 3)) da_nil)) (da_cons (de_tup (da_cons de_int (da_cons (de_lst (da_cons de_int da_nil)) da_nil))) (da_cons (de_tup (da_cons de_int (da_cons (de_tup (da_cons de_int (da_cons de_int da_nil))) da_nil))) (da_cons (de_tup (da_cons de_int (da_cons (de_tup (da_cons de_int (da_cons de_int da_nil))) da_nil))) (da_cons (de_tup (da_cons de_int (da_cons (de_tup (da_cons de_int da_nil)) da_nil))) (da_cons (de_tup (da_cons de_int (da_cons (de_tup da_nil) da_nil))) (da_cons (de_tup (da_cons de_int (da_cons (de_tup da_nil) da_nil))) (da_cons de_non da_nil))))))))))) (dss_one (ds_for hp rfl (di_seq (de_add (de_var (i := 4)) (de_comp (own := [("turn", 8)]) (vs := [8]) rfl rfl nd (di_r1 X.b_range (da_cons de_int da_nil)) (blkOk_by (N := ["script", "k", "bag", "state", "values", "value", "good", "told", "turn", "way"]) (sc := defScope sLaw) (by decide +kernel)) (tg_name 8) (fun _ _ _ _ _ => (pg_name (i := 8) nd rfl (by first | exact Or.inl rfl | exact Or.inr rfl))) (fun _ _ _ _ _ => dts_nil) (fun _ _ _ _ _ => (de_call (ok__law_bent X) (hr.mono (by decide)) xo_blk (da_cons (de_var (i := 2)) (da_cons (de_var (i := 3)) da_nil))))))) (dg_name (i := 5) nd) (dss_cons (ds_par (i := 6) (j := 7) rfl nd (da_cons (de_call (ok__law_is_state X) (hr.mono (by decide)) xo (da_cons (de_var (i := 5)) da_nil)) (da_cons (de_call (ok_is_state X) (hr.mono (by decide)) xo (da_cons (de_var (i := 5)) da_nil)) da_nil))) (dss_cons (ds_if (DW.dt (dw_or (dt_cp (c_ne hu) (de_var (i := 7)) (de_var (i := 6))) (dw_or1 (dt_not (dt_truth (de_isi (n := .bool) (fun z => nomatch z) (by decide +kernel) X.b_bool X.b_isinstance (de_var (i := 7)))))))) (dss_one (ds_ret de_bl)) dss_nil) (dss_one (ds_if (DW.dt (dw_and (dt_not (dt_truth (de_var (i := 6)))) (dw_and1 (dt_cp (c_ne hu) (de_comp (own := [("way", 9)]) (vs := [9]) rfl rfl nd (di_r1 X.b_range (da_cons de_int da_nil)) (blkOk_by (N := ["script", "k", "bag", "state", "values", "value", "good", "told", "turn", "way"]) (sc := defScope sLaw) (by decide +kernel)) (tg_name 9) (fun _ _ _ _ _ => (pg_name (i := 9) nd rfl (by first | exact Or.inl rfl | exact Or.inr rfl))) (fun _ _ _ _ _ => dts_nil) (fun _ _ _ _ _ => (de_call (ok__law_error X) (hr.mono (by decide)) xo_blk (da_cons (de_var (i := 9)) (da_cons (de_var (i := 5)) da_nil))))) (de_mul (de_lst (da_cons de_str da_nil)) de_int))))) (dss_one (ds_ret de_bl)) dss_nil)))))))))) (dss_cons (ds_if (DW.dt (dw_or (dt_cp (c_ne hu) (de_call (ok__law_error X) (hr.mono (by decide)) xo (da_cons de_int (da_cons (de_tup (da_cons de_int (da_cons (de_tup da_nil) da_nil))) da_nil))) de_str) (dw_or1 (dt_cp (c_ne hu) (de_call (ok__law_error X) (hr.mono (by decide)) xo (da_cons de_int (da_cons (de_tup (da_cons de_int (da_cons (de_tup da_nil) da_nil))) da_nil))) de_str)))) (dss_one (ds_ret de_bl)) dss_nil) (dss_one (ds_ret (de_and (de_cp c_is (de_call (ok_is_state X) (hr.mono (by decide)) xo (da_cons (de_tup (da_cons de_int (da_cons (de_tupRg2 rfl X.b_tuple X.b_range de_int de_int) da_nil))) da_nil)) de_bl) (de_one (de_cp c_is (de_call (ok_is_state X) (hr.mono (by decide)) xo (da_cons (de_tup (da_cons de_int (da_cons (de_tup da_nil) da_nil))) da_nil)) de_bl))))))), ?_⟩
    clear hu5 hu nd hp xo hr
    obtain ⟨ns, rfl, hl, q⟩ := h
    have hm := min_le (a := (ns.length : Int)) (b := 8) (by omega) (by omega)
    walk_at "go"
    refine ⟨by omega, by omega, ?_⟩
    refine forD_rng (fun i δ => ∃ s1 s2 s3 s4 s5 s6 s7 s8 s9 : SV, δ = [.scr ns, s1, s2, s3, s4, s5, s6, s7, s8, s9]) ⟨.none, .none, .none, .none, .none, .none, .none, .none, .none, rfl⟩ (fun _ _ _ => trivial) ?_ ?_
    · rintro i _ hi ⟨s1, s2, s3, s4, s5, s6, s7, s8, s9, rfl⟩ K k
      walk_at "go"
      refine ⟨by omega, by omega, by omega, ?_⟩
      walk_at "go"
      refine ⟨by decide, by decide, fun n h n40 st => ?_⟩
      walk_at "go"
      intro pa
      walk_at "go"
      intro pb
      walk_at "go"
      intro pc
      have hv : ∀ x ∈ valsB n h, fi 50 x = true := valsB_fi st
      have hvl : (valsB n h).length = 9 := rfl
      rw [valsB_eq n h]
      generalize valsB n h = vals at *
      walk_at "go"
      refine ⟨by decide, by decide, ?_⟩
      unfold rangeD
      refine compD_all (fun i : Nat => .int (0 + (i : Int))) (fun d => fi 50 d = true) trivial _ (fun x hx K' acc k' => ?_) fun rs rl rf => ?_
      · walk_at "go"
        refine ⟨bd_st st, fun r hr => ?_, fun p rs hr => ?_⟩
        · walk_at "go"
          exact k' _ (fi_mono hr (by decide))
        · walk_at "go"
          intro p'
          walk_at "go"
          exact k' _ (fi_mono hr (by decide))
      rw [List.length_range] at rl
      walk_at "go"
      intro pr
      walk_at "go"
      refine ⟨by rw [sizeLine_eq]; simp [hvl, rl], fun p2 => ?_⟩
      walk_at "go"
      have hall : ∀ x ∈ vals ++ rs, fi 50 x = true := fun x hx => (List.mem_append.mp hx).elim (hv x) (rf x)
      generalize vals ++ rs = all at *
      rw [← List.map_id' all]
      refine forD_inv (fun x : D => x) all (fun done δ => ∃ t5 t6 t7 t9 : SV, δ = [.scr ns, .val (.int (0 + (i : Int))), .bag, .val (stD' n h), .own pc vals, t5, t6, t7, .none, t9]) ⟨_, _, _, _, rfl⟩ (fun _ _ _ => trivial) ?_ ?_
      · rintro done x rest _ e ⟨t5, t6, t7, t9, rfl⟩ K2 k2
        have fx : fi 50 x = true := hall x (by rw [e]; simp)
        have nd := fi_no fx
        clear e hall
        walk_at "go"
        refine ⟨fx, ?_⟩
        walk_at "go"
        refine ⟨nd, ?_⟩
        cases hB : mState x with
        | true =>
          walk_at "go"
          exact k2 _ ⟨_, _, _, _, rfl⟩
        | false =>
          walk_at "go"
          refine ⟨by decide, by decide, ?_⟩
          unfold rangeD
          refine compD_map (fun i : Nat => .int (0 + (i : Int))) (fun _ => .str "state") _ trivial (fun y hy K' acc k' => ?_) ?_
          · rw [List.mem_range] at hy
            walk_at "go"
            exact ⟨by have hy : y < 12 := hy; show 0 + y < 12; omega, nd, .inl hB, k'⟩
          intro p1
          walk_at "go"
          intro p3
          refine ⟨_, rfl, by decide, by decide, Nat.le_of_ble_eq_true rfl, fun p4 => ?_⟩
          refine ⟨_, _, rfl, rfl, ?_, ?_, ?_⟩
          · decide +kernel
          · decide +kernel
          rw [show PyData.eqv _ _ = true by decide +kernel]
          walk_at "go"
          exact k2 _ ⟨_, _, _, _, rfl⟩
      rintro _ ⟨t5, t6, t7, t9, rfl⟩
      exact k _ ⟨_, _, _, _, _, _, _, _, _, rfl⟩
    rintro _ ⟨s1, s2, s3, s4, s5, s6, s7, s8, s9, rfl⟩
    walk_at "go"
    refine ⟨.inr ⟨.inl rfl, rfl⟩, ?_⟩
    walk_at "go"
    refine ⟨.inr ⟨.inr rfl, rfl⟩, ?_⟩
    walk_at "go"
    refine ⟨by decide, by decide, by decide, by decide, by decide, ?_⟩
    walk_at "go"
    have e : (decide (mState (.tuple [.int 1, .tuple []]) = true) != false) = true := by decide +kernel
    rw [e]
    exact q
end
/-! ### the end -/
theorem all_mk {P : Program} {w : World} {K : PySem.W.Frag} {h : Heap} {mg : Str → Option Value} {fa f0 f1 f2 f3 f4 f5 f6 f7 f8 f9 f10 f11 f12 f13 f14 f15 f16 f17 f18 f19 f20 f21 f22 f23 f24 f25 f26 f27 f28 f29 f30 f31 f32 f33 f34 f35 f36 f37 f38 f39 f40 f41 f42 f43 f44 f45 f46 f47 C0 C1 C2 C3 C4 C5 C6 C7 : Addr} (X : K.In h) (G : h.Ns mainGlobals mg) (hfa : mg "law" = some (.ref fa))
    {od0 an0 od1 an1 od2 an2 od3 an3 od4 an4 od5 an5 od6 an6 od7 an7 od8 an8 od9 an9 od10 an10 od11 an11 od12 an12 od13 an13 od14 an14 od15 an15 od16 an16 od17 an17 od18 an18 od19 an19 od20 an20 od21 an21 od22 an22 od23 an23 od24 an24 od25 an25 od26 an26 od27 an27 od28 an28 od29 an29 od30 an30 od31 an31 od32 an32 od33 an33 od34 an34 od35 an35 od36 an36 od37 an37 od38 an38 od39 an39 od40 an40 od41 an41 od42 an42 od43 an43 od44 an44 od45 an45 od46 an46 od47 an47 : Option Addr} {sl0 sl1 sl2 sl3 sl4 sl5 sl6 sl7 sl8 sl9 sl10 sl11 sl12 sl13 sl14 sl15 sl16 sl17 sl18 sl19 sl20 sl21 sl22 sl23 sl24 sl25 sl26 sl27 sl28 sl29 sl30 sl31 sl32 sl33 sl34 sl35 sl36 sl37 sl38 sl39 sl40 sl41 sl42 sl43 sl44 sl45 sl46 sl47 : Array (Option Value)} {oc0 kV0 dc0 pm0 cd0 ct0 oc1 kV1 dc1 pm1 cd1 ct1 oc2 kV2 dc2 pm2 cd2 ct2 oc3 kV3 dc3 pm3 cd3 ct3 oc4 kV4 dc4 pm4 cd4 ct4 oc5 kV5 dc5 pm5 cd5 ct5 oc6 kV6 dc6 pm6 cd6 ct6 oc7 kV7 dc7 pm7 cd7 ct7 oc8 kV8 dc8 pm8 cd8 ct8 oc9 kV9 dc9 pm9 cd9 ct9 oc10 kV10 dc10 pm10 cd10 ct10 oc11 kV11 dc11 pm11 cd11 ct11 oc12 kV12 dc12 pm12 cd12 ct12 oc13 kV13 dc13 pm13 cd13 ct13 oc14 kV14 dc14 pm14 cd14 ct14 oc15 kV15 dc15 pm15 cd15 ct15 oc16 kV16 dc16 pm16 cd16 ct16 oc17 kV17 dc17 pm17 cd17 ct17 oc18 kV18 dc18 pm18 cd18 ct18 oc19 kV19 dc19 pm19 cd19 ct19 oc20 kV20 dc20 pm20 cd20 ct20 oc21 kV21 dc21 pm21 cd21 ct21 oc22 kV22 dc22 pm22 cd22 ct22 oc23 kV23 dc23 pm23 cd23 ct23 oc24 kV24 dc24 pm24 cd24 ct24 oc25 kV25 dc25 pm25 cd25 ct25 oc26 kV26 dc26 pm26 cd26 ct26 oc27 kV27 dc27 pm27 cd27 ct27 oc28 kV28 dc28 pm28 cd28 ct28 oc29 kV29 dc29 pm29 cd29 ct29 oc30 kV30 dc30 pm30 cd30 ct30 oc31 kV31 dc31 pm31 cd31 ct31 oc32 kV32 dc32 pm32 cd32 ct32 oc33 kV33 dc33 pm33 cd33 ct33 oc34 kV34 dc34 pm34 cd34 ct34 oc35 kV35 dc35 pm35 cd35 ct35 oc36 kV36 dc36 pm36 cd36 ct36 oc37 kV37 dc37 pm37 cd37 ct37 oc38 kV38 dc38 pm38 cd38 ct38 oc39 kV39 dc39 pm39 cd39 ct39 oc40 kV40 dc40 pm40 cd40 ct40 oc41 kV41 dc41 pm41 cd41 ct41 oc42 kV42 dc42 pm42 cd42 ct42 oc43 kV43 dc43 pm43 cd43 ct43 oc44 kV44 dc44 pm44 cd44 ct44 oc45 kV45 dc45 pm45 cd45 ct45 oc46 kV46 dc46 pm46 cd46 ct46 oc47 kV47 dc47 pm47 cd47 ct47 : Value} {tk0 tk1 tk2 : Tok}
    (a0 : PySem.W.nsIn K mainGlobals "_law_bag" = some (some (.ref f0)))
    (l0 : K.lookup f0 = some ⟨oc0, od0, .func (PySem.W.fnOf "_law_bag" "_law_bag" (defArgs sLawBag) (defBody sLawBag) (defScope sLawBag) .none kV0 dc0 pm0 an0 cd0 ct0), sl0⟩)
    (c0 : PySem.W.codeIn K cd0 "_law_bag" = true)
    (k0 : PySem.W.keepIn K (.ref f0) = true)
    (a1 : PySem.W.nsIn K mainGlobals "_law_take" = some (some (.ref f1)))
    (l1 : K.lookup f1 = some ⟨oc1, od1, .func (PySem.W.fnOf "_law_take" "_law_take" (defArgs sLawTake) (defBody sLawTake) (defScope sLawTake) .none kV1 dc1 pm1 an1 cd1 ct1), sl1⟩)
    (c1 : PySem.W.codeIn K cd1 "_law_take" = true)
    (k1 : PySem.W.keepIn K (.ref f1) = true)
    (a2 : PySem.W.nsIn K mainGlobals "_law_rows" = some (some (.ref f2)))
    (l2 : K.lookup f2 = some ⟨oc2, od2, .func (PySem.W.fnOf "_law_rows" "_law_rows" (defArgs sLawRows) (defBody sLawRows) (defScope sLawRows) .none kV2 dc2 pm2 an2 cd2 ct2), sl2⟩)
    (c2 : PySem.W.codeIn K cd2 "_law_rows" = true)
    (k2 : PySem.W.keepIn K (.ref f2) = true)
    (a3 : PySem.W.nsIn K mainGlobals "_law_state" = some (some (.ref f3)))
    (l3 : K.lookup f3 = some ⟨oc3, od3, .func (PySem.W.fnOf "_law_state" "_law_state" (defArgs sLawState) (defBody sLawState) (defScope sLawState) .none kV3 dc3 pm3 an3 cd3 ct3), sl3⟩)
    (c3 : PySem.W.codeIn K cd3 "_law_state" = true)
    (k3 : PySem.W.keepIn K (.ref f3) = true)
    (a4 : PySem.W.nsIn K mainGlobals "is_integer" = some (some (.ref f4)))
    (l4 : K.lookup f4 = some ⟨oc4, od4, .func (PySem.W.fnOf "is_integer" "is_integer" (defArgs sIsInteger) (defBody sIsInteger) (defScope sIsInteger) .none kV4 dc4 pm4 an4 cd4 ct4), sl4⟩)
    (c4 : PySem.W.codeIn K cd4 "is_integer" = true)
    (k4 : PySem.W.keepIn K (.ref f4) = true)
    (a5 : PySem.W.nsIn K mainGlobals "is_size" = some (some (.ref f5)))
    (l5 : K.lookup f5 = some ⟨oc5, od5, .func (PySem.W.fnOf "is_size" "is_size" (defArgs sIsSize) (defBody sIsSize) (defScope sIsSize) .none kV5 dc5 pm5 an5 cd5 ct5), sl5⟩)
    (c5 : PySem.W.codeIn K cd5 "is_size" = true)
    (k5 : PySem.W.keepIn K (.ref f5) = true)
    (a6 : PySem.W.nsIn K mainGlobals "are_rows" = some (some (.ref f6)))
    (l6 : K.lookup f6 = some ⟨oc6, od6, .func (PySem.W.fnOf "are_rows" "are_rows" (defArgs sAreRows) (defBody sAreRows) (defScope sAreRows) .none kV6 dc6 pm6 an6 cd6 ct6), sl6⟩)
    (c6 : PySem.W.codeIn K cd6 "are_rows" = true)
    (k6 : PySem.W.keepIn K (.ref f6) = true)
    (a7 : PySem.W.nsIn K mainGlobals "is_state" = some (some (.ref f7)))
    (l7 : K.lookup f7 = some ⟨oc7, od7, .func (PySem.W.fnOf "is_state" "is_state" (defArgs sIsState) (defBody sIsState) (defScope sIsState) .none kV7 dc7 pm7 an7 cd7 ct7), sl7⟩)
    (c7 : PySem.W.codeIn K cd7 "is_state" = true)
    (k7 : PySem.W.keepIn K (.ref f7) = true)
    (a8 : PySem.W.nsIn K mainGlobals "require_state" = some (some (.ref f8)))
    (l8 : K.lookup f8 = some ⟨oc8, od8, .func (PySem.W.fnOf "require_state" "require_state" (defArgs sRequireState) (defBody sRequireState) (defScope sRequireState) .none kV8 dc8 pm8 an8 cd8 ct8), sl8⟩)
    (c8 : PySem.W.codeIn K cd8 "require_state" = true)
    (k8 : PySem.W.keepIn K (.ref f8) = true)
    (a9 : PySem.W.nsIn K mainGlobals "blocks_of" = some (some (.ref f9)))
    (l9 : K.lookup f9 = some ⟨oc9, od9, .func (PySem.W.fnOf "blocks_of" "blocks_of" (defArgs sBlocksOf) (defBody sBlocksOf) (defScope sBlocksOf) .none kV9 dc9 pm9 an9 cd9 ct9), sl9⟩)
    (c9 : PySem.W.codeIn K cd9 "blocks_of" = true)
    (k9 : PySem.W.keepIn K (.ref f9) = true)
    (a10 : PySem.W.nsIn K mainGlobals "blocks" = some (some (.ref f10)))
    (l10 : K.lookup f10 = some ⟨oc10, od10, .func (PySem.W.fnOf "blocks" "blocks" (defArgs sBlocks) (defBody sBlocks) (defScope sBlocks) .none kV10 dc10 pm10 an10 cd10 ct10), sl10⟩)
    (c10 : PySem.W.codeIn K cd10 "blocks" = true)
    (k10 : PySem.W.keepIn K (.ref f10) = true)
    (a11 : PySem.W.nsIn K mainGlobals "visible_of" = some (some (.ref f11)))
    (l11 : K.lookup f11 = some ⟨oc11, od11, .func (PySem.W.fnOf "visible_of" "visible_of" (defArgs sVisibleOf) (defBody sVisibleOf) (defScope sVisibleOf) .none kV11 dc11 pm11 an11 cd11 ct11), sl11⟩)
    (c11 : PySem.W.codeIn K cd11 "visible_of" = true)
    (k11 : PySem.W.keepIn K (.ref f11) = true)
    (a12 : PySem.W.nsIn K mainGlobals "visible" = some (some (.ref f12)))
    (l12 : K.lookup f12 = some ⟨oc12, od12, .func (PySem.W.fnOf "visible" "visible" (defArgs sVisible) (defBody sVisible) (defScope sVisible) .none kV12 dc12 pm12 an12 cd12 ct12), sl12⟩)
    (c12 : PySem.W.codeIn K cd12 "visible" = true)
    (k12 : PySem.W.keepIn K (.ref f12) = true)
    (a13 : PySem.W.nsIn K mainGlobals "require_small" = some (some (.ref f13)))
    (l13 : K.lookup f13 = some ⟨oc13, od13, .func (PySem.W.fnOf "require_small" "require_small" (defArgs sRequireSmall) (defBody sRequireSmall) (defScope sRequireSmall) .none kV13 dc13 pm13 an13 cd13 ct13), sl13⟩)
    (c13 : PySem.W.codeIn K cd13 "require_small" = true)
    (k13 : PySem.W.keepIn K (.ref f13) = true)
    (a14 : PySem.W.nsIn K mainGlobals "rows_of" = some (some (.ref f14)))
    (l14 : K.lookup f14 = some ⟨oc14, od14, .func (PySem.W.fnOf "rows_of" "rows_of" (defArgs sRowsOf) (defBody sRowsOf) (defScope sRowsOf) .none kV14 dc14 pm14 an14 cd14 ct14), sl14⟩)
    (c14 : PySem.W.codeIn K cd14 "rows_of" = true)
    (k14 : PySem.W.keepIn K (.ref f14) = true)
    (a15 : PySem.W.nsIn K mainGlobals "needed_in" = some (some (.ref f15)))
    (l15 : K.lookup f15 = some ⟨oc15, od15, .func (PySem.W.fnOf "needed_in" "needed_in" (defArgs sNeededIn) (defBody sNeededIn) (defScope sNeededIn) .none kV15 dc15 pm15 an15 cd15 ct15), sl15⟩)
    (c15 : PySem.W.codeIn K cd15 "needed_in" = true)
    (k15 : PySem.W.keepIn K (.ref f15) = true)
    (a16 : PySem.W.nsIn K mainGlobals "freed" = some (some (.ref f16)))
    (l16 : K.lookup f16 = some ⟨oc16, od16, .func (PySem.W.fnOf "freed" "freed" (defArgs sFreed) (defBody sFreed) (defScope sFreed) .none kV16 dc16 pm16 an16 cd16 ct16), sl16⟩)
    (c16 : PySem.W.codeIn K cd16 "freed" = true)
    (k16 : PySem.W.keepIn K (.ref f16) = true)
    (a17 : PySem.W.nsIn K mainGlobals "split_runs" = some (some (.ref f17)))
    (l17 : K.lookup f17 = some ⟨oc17, od17, .func (PySem.W.fnOf "split_runs" "split_runs" (defArgs sSplitRuns) (defBody sSplitRuns) (defScope sSplitRuns) .none kV17 dc17 pm17 an17 cd17 ct17), sl17⟩)
    (c17 : PySem.W.codeIn K cd17 "split_runs" = true)
    (k17 : PySem.W.keepIn K (.ref f17) = true)
    (a18 : PySem.W.nsIn K mainGlobals "can_run" = some (some (.ref f18)))
    (l18 : K.lookup f18 = some ⟨oc18, od18, .func (PySem.W.fnOf "can_run" "can_run" (defArgs sCanRun) (defBody sCanRun) (defScope sCanRun) .none kV18 dc18 pm18 an18 cd18 ct18), sl18⟩)
    (c18 : PySem.W.codeIn K cd18 "can_run" = true)
    (k18 : PySem.W.keepIn K (.ref f18) = true)
    (a19 : PySem.W.nsIn K mainGlobals "require_possible" = some (some (.ref f19)))
    (l19 : K.lookup f19 = some ⟨oc19, od19, .func (PySem.W.fnOf "require_possible" "require_possible" (defArgs sRequirePossible) (defBody sRequirePossible) (defScope sRequirePossible) .none kV19 dc19 pm19 an19 cd19 ct19), sl19⟩)
    (c19 : PySem.W.codeIn K cd19 "require_possible" = true)
    (k19 : PySem.W.keepIn K (.ref f19) = true)
    (a20 : PySem.W.nsIn K mainGlobals "last_of" = some (some (.ref f20)))
    (l20 : K.lookup f20 = some ⟨oc20, od20, .func (PySem.W.fnOf "last_of" "last_of" (defArgs sLastOf) (defBody sLastOf) (defScope sLastOf) .none kV20 dc20 pm20 an20 cd20 ct20), sl20⟩)
    (c20 : PySem.W.codeIn K cd20 "last_of" = true)
    (k20 : PySem.W.keepIn K (.ref f20) = true)
    (a21 : PySem.W.nsIn K mainGlobals "run" = some (some (.ref f21)))
    (l21 : K.lookup f21 = some ⟨oc21, od21, .func (PySem.W.fnOf "run" "run" (defArgs sRun) (defBody sRun) (defScope sRun) .none kV21 dc21 pm21 an21 cd21 ct21), sl21⟩)
    (c21 : PySem.W.codeIn K cd21 "run" = true)
    (k21 : PySem.W.keepIn K (.ref f21) = true)
    (a22 : PySem.W.nsIn K mainGlobals "gaps" = some (some (.ref f22)))
    (l22 : K.lookup f22 = some ⟨oc22, od22, .func (PySem.W.fnOf "gaps" "gaps" (defArgs sGaps) (defBody sGaps) (defScope sGaps) .none kV22 dc22 pm22 an22 cd22 ct22), sl22⟩)
    (c22 : PySem.W.codeIn K cd22 "gaps" = true)
    (k22 : PySem.W.keepIn K (.ref f22) = true)
    (a23 : PySem.W.nsIn K mainGlobals "price_between" = some (some (.ref f23)))
    (l23 : K.lookup f23 = some ⟨oc23, od23, .func (PySem.W.fnOf "price_between" "price_between" (defArgs sPriceBetween) (defBody sPriceBetween) (defScope sPriceBetween) .none kV23 dc23 pm23 an23 cd23 ct23), sl23⟩)
    (c23 : PySem.W.codeIn K cd23 "price_between" = true)
    (k23 : PySem.W.keepIn K (.ref f23) = true)
    (a24 : PySem.W.nsIn K mainGlobals "away" = some (some (.ref f24)))
    (l24 : K.lookup f24 = some ⟨oc24, od24, .func (PySem.W.fnOf "away" "away" (defArgs sAway) (defBody sAway) (defScope sAway) .none kV24 dc24 pm24 an24 cd24 ct24), sl24⟩)
    (c24 : PySem.W.codeIn K cd24 "away" = true)
    (k24 : PySem.W.keepIn K (.ref f24) = true)
    (a25 : PySem.W.nsIn K mainGlobals "all_hidden" = some (some (.ref f25)))
    (l25 : K.lookup f25 = some ⟨oc25, od25, .func (PySem.W.fnOf "all_hidden" "all_hidden" (defArgs sAllHidden) (defBody sAllHidden) (defScope sAllHidden) .none kV25 dc25 pm25 an25 cd25 ct25), sl25⟩)
    (c25 : PySem.W.codeIn K cd25 "all_hidden" = true)
    (k25 : PySem.W.keepIn K (.ref f25) = true)
    (a26 : PySem.W.nsIn K mainGlobals "farthest" = some (some (.ref f26)))
    (l26 : K.lookup f26 = some ⟨oc26, od26, .func (PySem.W.fnOf "farthest" "farthest" (defArgs sFarthest) (defBody sFarthest) (defScope sFarthest) .none kV26 dc26 pm26 an26 cd26 ct26), sl26⟩)
    (c26 : PySem.W.codeIn K cd26 "farthest" = true)
    (k26 : PySem.W.keepIn K (.ref f26) = true)
    (a27 : PySem.W.nsIn K mainGlobals "choose" = some (some (.ref f27)))
    (l27 : K.lookup f27 = some ⟨oc27, od27, .func (PySem.W.fnOf "choose" "choose" (defArgs sChoose) (defBody sChoose) (defScope sChoose) .none kV27 dc27 pm27 an27 cd27 ct27), sl27⟩)
    (c27 : PySem.W.codeIn K cd27 "choose" = true)
    (k27 : PySem.W.keepIn K (.ref f27) = true)
    (a28 : PySem.W.nsIn K mainGlobals "place_of" = some (some (.ref f28)))
    (l28 : K.lookup f28 = some ⟨oc28, od28, .func (PySem.W.fnOf "place_of" "place_of" (defArgs sPlaceOf) (defBody sPlaceOf) (defScope sPlaceOf) .none kV28 dc28 pm28 an28 cd28 ct28), sl28⟩)
    (c28 : PySem.W.codeIn K cd28 "place_of" = true)
    (k28 : PySem.W.keepIn K (.ref f28) = true)
    (a29 : PySem.W.nsIn K mainGlobals "require_both" = some (some (.ref f29)))
    (l29 : K.lookup f29 = some ⟨oc29, od29, .func (PySem.W.fnOf "require_both" "require_both" (defArgs sRequireBoth) (defBody sRequireBoth) (defScope sRequireBoth) .none kV29 dc29 pm29 an29 cd29 ct29), sl29⟩)
    (c29 : PySem.W.codeIn K cd29 "require_both" = true)
    (k29 : PySem.W.keepIn K (.ref f29) = true)
    (a30 : PySem.W.nsIn K mainGlobals "distance" = some (some (.ref f30)))
    (l30 : K.lookup f30 = some ⟨oc30, od30, .func (PySem.W.fnOf "distance" "distance" (defArgs sDistance) (defBody sDistance) (defScope sDistance) .none kV30 dc30 pm30 an30 cd30 ct30), sl30⟩)
    (c30 : PySem.W.codeIn K cd30 "distance" = true)
    (k30 : PySem.W.keepIn K (.ref f30) = true)
    (a31 : PySem.W.nsIn K mainGlobals "screen_row" = some (some (.ref f31)))
    (l31 : K.lookup f31 = some ⟨oc31, od31, .func (PySem.W.fnOf "screen_row" "screen_row" (defArgs sScreenRow) (defBody sScreenRow) (defScope sScreenRow) .none kV31 dc31 pm31 an31 cd31 ct31), sl31⟩)
    (c31 : PySem.W.codeIn K cd31 "screen_row" = true)
    (k31 : PySem.W.keepIn K (.ref f31) = true)
    (a32 : PySem.W.nsIn K mainGlobals "is_possible" = some (some (.ref f32)))
    (l32 : K.lookup f32 = some ⟨oc32, od32, .func (PySem.W.fnOf "is_possible" "is_possible" (defArgs sIsPossible) (defBody sIsPossible) (defScope sIsPossible) .none kV32 dc32 pm32 an32 cd32 ct32), sl32⟩)
    (c32 : PySem.W.codeIn K cd32 "is_possible" = true)
    (k32 : PySem.W.keepIn K (.ref f32) = true)
    (a33 : PySem.W.nsIn K mainGlobals "require_number" = some (some (.ref f33)))
    (l33 : K.lookup f33 = some ⟨oc33, od33, .func (PySem.W.fnOf "require_number" "require_number" (defArgs sRequireNumber) (defBody sRequireNumber) (defScope sRequireNumber) .none kV33 dc33 pm33 an33 cd33 ct33), sl33⟩)
    (c33 : PySem.W.codeIn K cd33 "require_number" = true)
    (k33 : PySem.W.keepIn K (.ref f33) = true)
    (a34 : PySem.W.nsIn K mainGlobals "count_from" = some (some (.ref f34)))
    (l34 : K.lookup f34 = some ⟨oc34, od34, .func (PySem.W.fnOf "count_from" "count_from" (defArgs sCountFrom) (defBody sCountFrom) (defScope sCountFrom) .none kV34 dc34 pm34 an34 cd34 ct34), sl34⟩)
    (c34 : PySem.W.codeIn K cd34 "count_from" = true)
    (k34 : PySem.W.keepIn K (.ref f34) = true)
    (a35 : PySem.W.nsIn K mainGlobals "is_wish" = some (some (.ref f35)))
    (l35 : K.lookup f35 = some ⟨oc35, od35, .func (PySem.W.fnOf "is_wish" "is_wish" (defArgs sIsWish) (defBody sIsWish) (defScope sIsWish) .none kV35 dc35 pm35 an35 cd35 ct35), sl35⟩)
    (c35 : PySem.W.codeIn K cd35 "is_wish" = true)
    (k35 : PySem.W.keepIn K (.ref f35) = true)
    (a36 : PySem.W.nsIn K mainGlobals "require_wish" = some (some (.ref f36)))
    (l36 : K.lookup f36 = some ⟨oc36, od36, .func (PySem.W.fnOf "require_wish" "require_wish" (defArgs sRequireWish) (defBody sRequireWish) (defScope sRequireWish) .none kV36 dc36 pm36 an36 cd36 ct36), sl36⟩)
    (c36 : PySem.W.codeIn K cd36 "require_wish" = true)
    (k36 : PySem.W.keepIn K (.ref f36) = true)
    (a37 : PySem.W.nsIn K mainGlobals "best_end" = some (some (.ref f37)))
    (l37 : K.lookup f37 = some ⟨oc37, od37, .func (PySem.W.fnOf "best_end" "best_end" (defArgs sBestEnd) (defBody sBestEnd) (defScope sBestEnd) .none kV37 dc37 pm37 an37 cd37 ct37), sl37⟩)
    (c37 : PySem.W.codeIn K cd37 "best_end" = true)
    (k37 : PySem.W.keepIn K (.ref f37) = true)
    (a38 : PySem.W.nsIn K mainGlobals "fewest_for" = some (some (.ref f38)))
    (l38 : K.lookup f38 = some ⟨oc38, od38, .func (PySem.W.fnOf "fewest_for" "fewest_for" (defArgs sFewestFor) (defBody sFewestFor) (defScope sFewestFor) .none kV38 dc38 pm38 an38 cd38 ct38), sl38⟩)
    (c38 : PySem.W.codeIn K cd38 "fewest_for" = true)
    (k38 : PySem.W.keepIn K (.ref f38) = true)
    (a39 : PySem.W.nsIn K mainGlobals "require_prices" = some (some (.ref f39)))
    (l39 : K.lookup f39 = some ⟨oc39, od39, .func (PySem.W.fnOf "require_prices" "require_prices" (defArgs sRequirePrices) (defBody sRequirePrices) (defScope sRequirePrices) .none kV39 dc39 pm39 an39 cd39 ct39), sl39⟩)
    (c39 : PySem.W.codeIn K cd39 "require_prices" = true)
    (k39 : PySem.W.keepIn K (.ref f39) = true)
    (a40 : PySem.W.nsIn K mainGlobals "least_price" = some (some (.ref f40)))
    (l40 : K.lookup f40 = some ⟨oc40, od40, .func (PySem.W.fnOf "least_price" "least_price" (defArgs sLeastPrice) (defBody sLeastPrice) (defScope sLeastPrice) .none kV40 dc40 pm40 an40 cd40 ct40), sl40⟩)
    (c40 : PySem.W.codeIn K cd40 "least_price" = true)
    (k40 : PySem.W.keepIn K (.ref f40) = true)
    (a41 : PySem.W.nsIn K mainGlobals "route" = some (some (.ref f41)))
    (l41 : K.lookup f41 = some ⟨oc41, od41, .func (PySem.W.fnOf "route" "route" (defArgs sRoute) (defBody sRoute) (defScope sRoute) .none kV41 dc41 pm41 an41 cd41 ct41), sl41⟩)
    (c41 : PySem.W.codeIn K cd41 "route" = true)
    (k41 : PySem.W.keepIn K (.ref f41) = true)
    (a42 : PySem.W.nsIn K mainGlobals "_law_error" = some (some (.ref f42)))
    (l42 : K.lookup f42 = some ⟨oc42, od42, .func (PySem.W.fnOf "_law_error" "_law_error" (defArgs sLawError) (defBody sLawError) (defScope sLawError) .none kV42 dc42 pm42 an42 cd42 ct42), sl42⟩)
    (c42 : PySem.W.codeIn K cd42 "_law_error" = true)
    (k42 : PySem.W.keepIn K (.ref f42) = true)
    (a43 : PySem.W.nsIn K mainGlobals "_law_of" = some (some (.ref f43)))
    (l43 : K.lookup f43 = some ⟨oc43, od43, .func (PySem.W.fnOf "_law_of" "_law_of" (defArgs sLawOf) (defBody sLawOf) (defScope sLawOf) .none kV43 dc43 pm43 an43 cd43 ct43), sl43⟩)
    (c43 : PySem.W.codeIn K cd43 "_law_of" = true)
    (k43 : PySem.W.keepIn K (.ref f43) = true)
    (a44 : PySem.W.nsIn K mainGlobals "_law_bent" = some (some (.ref f44)))
    (l44 : K.lookup f44 = some ⟨oc44, od44, .func (PySem.W.fnOf "_law_bent" "_law_bent" (defArgs sLawBent) (defBody sLawBent) (defScope sLawBent) .none kV44 dc44 pm44 an44 cd44 ct44), sl44⟩)
    (c44 : PySem.W.codeIn K cd44 "_law_bent" = true)
    (k44 : PySem.W.keepIn K (.ref f44) = true)
    (a45 : PySem.W.nsIn K mainGlobals "_law_int" = some (some (.ref f45)))
    (l45 : K.lookup f45 = some ⟨oc45, od45, .func (PySem.W.fnOf "_law_int" "_law_int" (defArgs sLawInt) (defBody sLawInt) (defScope sLawInt) .none kV45 dc45 pm45 an45 cd45 ct45), sl45⟩)
    (c45 : PySem.W.codeIn K cd45 "_law_int" = true)
    (k45 : PySem.W.keepIn K (.ref f45) = true)
    (a46 : PySem.W.nsIn K mainGlobals "_law_is_state" = some (some (.ref f46)))
    (l46 : K.lookup f46 = some ⟨oc46, od46, .func (PySem.W.fnOf "_law_is_state" "_law_is_state" (defArgs sLawIsState) (defBody sLawIsState) (defScope sLawIsState) .none kV46 dc46 pm46 an46 cd46 ct46), sl46⟩)
    (c46 : PySem.W.codeIn K cd46 "_law_is_state" = true)
    (k46 : PySem.W.keepIn K (.ref f46) = true)
    (a47 : PySem.W.nsIn K mainGlobals "law" = some (some (.ref f47)))
    (l47 : K.lookup f47 = some ⟨oc47, od47, .func (PySem.W.fnOf "law" "law" (defArgs sLaw) (defBody sLaw) (defScope sLaw) .none kV47 dc47 pm47 an47 cd47 ct47), sl47⟩)
    (c47 : PySem.W.codeIn K cd47 "law" = true)
    (k47 : PySem.W.keepIn K (.ref f47) = true)
    (gC0 : PySem.W.nsIn K mainGlobals "InvalidNumber" = some (some (.ref C0)))
    (xC0 : PySem.W.excIn K C0 [.type "ValueError", .type "Exception", .type "BaseException", .type "object"] "ValueError.__new__" = true)
    (kC0 : PySem.W.keepIn K (.ref C0) = true)
    (bC0 : PySem.W.subIn K (.ref C0) (.type "BaseException") = some true)
    (tC0 : PySem.W.typeIn K (.ref C0) = some (.type "type"))
    (gC1 : PySem.W.nsIn K mainGlobals "InvalidPlace" = some (some (.ref C1)))
    (xC1 : PySem.W.excIn K C1 [.type "ValueError", .type "Exception", .type "BaseException", .type "object"] "ValueError.__new__" = true)
    (kC1 : PySem.W.keepIn K (.ref C1) = true)
    (bC1 : PySem.W.subIn K (.ref C1) (.type "BaseException") = some true)
    (tC1 : PySem.W.typeIn K (.ref C1) = some (.type "type"))
    (gC2 : PySem.W.nsIn K mainGlobals "InvalidPrice" = some (some (.ref C2)))
    (xC2 : PySem.W.excIn K C2 [.type "ValueError", .type "Exception", .type "BaseException", .type "object"] "ValueError.__new__" = true)
    (kC2 : PySem.W.keepIn K (.ref C2) = true)
    (bC2 : PySem.W.subIn K (.ref C2) (.type "BaseException") = some true)
    (tC2 : PySem.W.typeIn K (.ref C2) = some (.type "type"))
    (gC3 : PySem.W.nsIn K mainGlobals "InvalidScript" = some (some (.ref C3)))
    (xC3 : PySem.W.excIn K C3 [.type "ValueError", .type "Exception", .type "BaseException", .type "object"] "ValueError.__new__" = true)
    (kC3 : PySem.W.keepIn K (.ref C3) = true)
    (bC3 : PySem.W.subIn K (.ref C3) (.type "BaseException") = some true)
    (tC3 : PySem.W.typeIn K (.ref C3) = some (.type "type"))
    (gC4 : PySem.W.nsIn K mainGlobals "InvalidState" = some (some (.ref C4)))
    (xC4 : PySem.W.excIn K C4 [.type "ValueError", .type "Exception", .type "BaseException", .type "object"] "ValueError.__new__" = true)
    (kC4 : PySem.W.keepIn K (.ref C4) = true)
    (bC4 : PySem.W.subIn K (.ref C4) (.type "BaseException") = some true)
    (tC4 : PySem.W.typeIn K (.ref C4) = some (.type "type"))
    (gC5 : PySem.W.nsIn K mainGlobals "InvalidWish" = some (some (.ref C5)))
    (xC5 : PySem.W.excIn K C5 [.type "ValueError", .type "Exception", .type "BaseException", .type "object"] "ValueError.__new__" = true)
    (kC5 : PySem.W.keepIn K (.ref C5) = true)
    (bC5 : PySem.W.subIn K (.ref C5) (.type "BaseException") = some true)
    (tC5 : PySem.W.typeIn K (.ref C5) = some (.type "type"))
    (gC6 : PySem.W.nsIn K mainGlobals "SheetError" = some (some (.ref C6)))
    (xC6 : PySem.W.excIn K C6 [.type "ValueError", .type "Exception", .type "BaseException", .type "object"] "ValueError.__new__" = true)
    (kC6 : PySem.W.keepIn K (.ref C6) = true)
    (bC6 : PySem.W.subIn K (.ref C6) (.type "BaseException") = some true)
    (tC6 : PySem.W.typeIn K (.ref C6) = some (.type "type"))
    (gC7 : PySem.W.nsIn K mainGlobals "TooLarge" = some (some (.ref C7)))
    (xC7 : PySem.W.excIn K C7 [.type "ValueError", .type "Exception", .type "BaseException", .type "object"] "ValueError.__new__" = true)
    (kC7 : PySem.W.keepIn K (.ref C7) = true)
    (bC7 : PySem.W.subIn K (.ref C7) (.type "BaseException") = some true)
    (tC7 : PySem.W.typeIn K (.ref C7) = some (.type "type"))
    (sx0_6 : PySem.W.subIn K (.ref C0) (.ref C6) = some true)
    (sx1_6 : PySem.W.subIn K (.ref C1) (.ref C6) = some true)
    (sx2_6 : PySem.W.subIn K (.ref C2) (.ref C6) = some true)
    (sx3_6 : PySem.W.subIn K (.ref C3) (.ref C6) = some true)
    (ga4 : PySem.W.findIn K (.ref C4) "__getattribute__" = some (some (.builtin "BaseException.__getattribute__")))
    (gk4 : PySem.W.findIn K (.ref C4) "__getattr__" = some none)
    (gd4 : PySem.W.hasDictIn K C4 = true)
    (gc4 : PySem.W.findIn K (.ref C4) "__class__" = some (some (.builtin "object.__class__")))
    (go4 : PySem.W.mroIn K C4 (.type "object") = some true)
    (sx4_6 : PySem.W.subIn K (.ref C4) (.ref C6) = some true)
    (sx5_6 : PySem.W.subIn K (.ref C5) (.ref C6) = some true)
    (sx7_6 : PySem.W.subIn K (.ref C7) (.ref C6) = some true)
    (hd6 : PySem.W.hasDictIn K C6 = true)
    (gn : PySem.W.specialIn K (.builtin "object.__class__") "__get__" = some (some (.builtin "getset_descriptor.__get__")))
    (gt : PySem.W.takesIn K (.builtin "object.__class__") = some true)
    (n0 : PySem.W.nsIn K mainGlobals "HIGHEST" = some (some (.int 1000 tk0)))
    (n1 : PySem.W.nsIn K mainGlobals "LARGEST" = some (some (.int 40 tk1)))
    (n2 : PySem.W.nsIn K mainGlobals "SMALL" = some (some (.int 8 tk2)))
    (z0 : PySem.W.nsIn K mainGlobals "all" = some none)
    (z1 : PySem.W.nsIn K mainGlobals "any" = some none)
    (z2 : PySem.W.nsIn K mainGlobals "bool" = some none)
    (z3 : PySem.W.nsIn K mainGlobals "enumerate" = some none)
    (z4 : PySem.W.nsIn K mainGlobals "int" = some none)
    (z5 : PySem.W.nsIn K mainGlobals "isinstance" = some none)
    (z6 : PySem.W.nsIn K mainGlobals "len" = some none)
    (z7 : PySem.W.nsIn K mainGlobals "list" = some none)
    (z8 : PySem.W.nsIn K mainGlobals "max" = some none)
    (z9 : PySem.W.nsIn K mainGlobals "min" = some none)
    (z10 : PySem.W.nsIn K mainGlobals "range" = some none)
    (z11 : PySem.W.nsIn K mainGlobals "set" = some none)
    (z12 : PySem.W.nsIn K mainGlobals "sorted" = some none)
    (z13 : PySem.W.nsIn K mainGlobals "sum" = some none)
    (z14 : PySem.W.nsIn K mainGlobals "tuple" = some none)
    (z15 : PySem.W.nsIn K mainGlobals "zip" = some none)
    : ∃ fd : FuncData, (∀ (s : Shared) (v : Value), BindsTo s fd ⟨[v], []⟩ [("script", v)]) ∧ ∀ base : Heap, K.In base → base.Ns mainGlobals mg → FnOk P w K mg base (L2.CX P w) 12 fa fd ["script"] (spL K) := by
  have e := hfa.symm.trans (PySem.W.mg_of X G a47)
  cases e
  have T : Tx K mg := {
    b_all := PySem.W.mg_none_of X G z0,
    b_any := PySem.W.mg_none_of X G z1,
    b_bool := PySem.W.mg_none_of X G z2,
    b_enumerate := PySem.W.mg_none_of X G z3,
    b_int := PySem.W.mg_none_of X G z4,
    b_isinstance := PySem.W.mg_none_of X G z5,
    b_len := PySem.W.mg_none_of X G z6,
    b_list := PySem.W.mg_none_of X G z7,
    b_max := PySem.W.mg_none_of X G z8,
    b_min := PySem.W.mg_none_of X G z9,
    b_range := PySem.W.mg_none_of X G z10,
    b_set := PySem.W.mg_none_of X G z11,
    b_sorted := PySem.W.mg_none_of X G z12,
    b_sum := PySem.W.mg_none_of X G z13,
    b_tuple := PySem.W.mg_none_of X G z14,
    b_zip := PySem.W.mg_none_of X G z15,
    c_InvalidNumber := ⟨C0, PySem.W.mg_of X G gC0, xC0, kC0, bC0, tC0⟩,
    c_InvalidPlace := ⟨C1, PySem.W.mg_of X G gC1, xC1, kC1, bC1, tC1⟩,
    c_InvalidPrice := ⟨C2, PySem.W.mg_of X G gC2, xC2, kC2, bC2, tC2⟩,
    c_InvalidScript := ⟨C3, PySem.W.mg_of X G gC3, xC3, kC3, bC3, tC3⟩,
    c_InvalidState := ⟨C4, PySem.W.mg_of X G gC4, xC4, kC4, bC4, tC4⟩,
    c_InvalidWish := ⟨C5, PySem.W.mg_of X G gC5, xC5, kC5, bC5, tC5⟩,
    c_SheetError := ⟨C6, PySem.W.mg_of X G gC6, xC6, kC6, bC6, tC6⟩,
    c_TooLarge := ⟨C7, PySem.W.mg_of X G gC7, xC7, kC7, bC7, tC7⟩,
    s_InvalidNumber_SheetError := subX_mk (PySem.W.mg_of X G gC0) (PySem.W.mg_of X G gC6) (PySem.W.exm_ref bC6 hd6 tC6 sx0_6),
    s_InvalidPlace_SheetError := subX_mk (PySem.W.mg_of X G gC1) (PySem.W.mg_of X G gC6) (PySem.W.exm_ref bC6 hd6 tC6 sx1_6),
    s_InvalidPrice_SheetError := subX_mk (PySem.W.mg_of X G gC2) (PySem.W.mg_of X G gC6) (PySem.W.exm_ref bC6 hd6 tC6 sx2_6),
    s_InvalidScript_SheetError := subX_mk (PySem.W.mg_of X G gC3) (PySem.W.mg_of X G gC6) (PySem.W.exm_ref bC6 hd6 tC6 sx3_6),
    s_InvalidState_SheetError := subX_mk (PySem.W.mg_of X G gC4) (PySem.W.mg_of X G gC6) (PySem.W.exm_ref bC6 hd6 tC6 sx4_6),
    i_InvalidState_InvalidState := isX_mk (PySem.W.mg_of X G gC4) (PySem.W.mg_of X G gC4) (if_pos (beq_self_eq_true _)) ⟨ga4, gk4, bC4, gd4, gc4, gn, gt, go4⟩,
    s_InvalidWish_SheetError := subX_mk (PySem.W.mg_of X G gC5) (PySem.W.mg_of X G gC6) (PySem.W.exm_ref bC6 hd6 tC6 sx5_6),
    s_TooLarge_SheetError := subX_mk (PySem.W.mg_of X G gC7) (PySem.W.mg_of X G gC6) (PySem.W.exm_ref bC6 hd6 tC6 sx7_6),
    g_HIGHEST := cst_int (PySem.W.mg_of X G n0),
    g_LARGEST := cst_int (PySem.W.mg_of X G n1),
    g_SMALL := cst_int (PySem.W.mg_of X G n2),
    f__law_bag := ⟨f0, _, fun_mk (st := sLawBag) l0 c0 k0, PySem.W.mg_of X G a0⟩,
    f__law_take := ⟨f1, _, fun_mk (st := sLawTake) l1 c1 k1, PySem.W.mg_of X G a1⟩,
    f__law_rows := ⟨f2, _, fun_mk (st := sLawRows) l2 c2 k2, PySem.W.mg_of X G a2⟩,
    f__law_state := ⟨f3, _, fun_mk (st := sLawState) l3 c3 k3, PySem.W.mg_of X G a3⟩,
    f_is_integer := ⟨f4, _, fun_mk (st := sIsInteger) l4 c4 k4, PySem.W.mg_of X G a4⟩,
    f_is_size := ⟨f5, _, fun_mk (st := sIsSize) l5 c5 k5, PySem.W.mg_of X G a5⟩,
    f_are_rows := ⟨f6, _, fun_mk (st := sAreRows) l6 c6 k6, PySem.W.mg_of X G a6⟩,
    f_is_state := ⟨f7, _, fun_mk (st := sIsState) l7 c7 k7, PySem.W.mg_of X G a7⟩,
    f_require_state := ⟨f8, _, fun_mk (st := sRequireState) l8 c8 k8, PySem.W.mg_of X G a8⟩,
    f_blocks_of := ⟨f9, _, fun_mk (st := sBlocksOf) l9 c9 k9, PySem.W.mg_of X G a9⟩,
    f_blocks := ⟨f10, _, fun_mk (st := sBlocks) l10 c10 k10, PySem.W.mg_of X G a10⟩,
    f_visible_of := ⟨f11, _, fun_mk (st := sVisibleOf) l11 c11 k11, PySem.W.mg_of X G a11⟩,
    f_visible := ⟨f12, _, fun_mk (st := sVisible) l12 c12 k12, PySem.W.mg_of X G a12⟩,
    f_require_small := ⟨f13, _, fun_mk (st := sRequireSmall) l13 c13 k13, PySem.W.mg_of X G a13⟩,
    f_rows_of := ⟨f14, _, fun_mk (st := sRowsOf) l14 c14 k14, PySem.W.mg_of X G a14⟩,
    f_needed_in := ⟨f15, _, fun_mk (st := sNeededIn) l15 c15 k15, PySem.W.mg_of X G a15⟩,
    f_freed := ⟨f16, _, fun_mk (st := sFreed) l16 c16 k16, PySem.W.mg_of X G a16⟩,
    f_split_runs := ⟨f17, _, fun_mk (st := sSplitRuns) l17 c17 k17, PySem.W.mg_of X G a17⟩,
    f_can_run := ⟨f18, _, fun_mk (st := sCanRun) l18 c18 k18, PySem.W.mg_of X G a18⟩,
    f_require_possible := ⟨f19, _, fun_mk (st := sRequirePossible) l19 c19 k19, PySem.W.mg_of X G a19⟩,
    f_last_of := ⟨f20, _, fun_mk (st := sLastOf) l20 c20 k20, PySem.W.mg_of X G a20⟩,
    f_run := ⟨f21, _, fun_mk (st := sRun) l21 c21 k21, PySem.W.mg_of X G a21⟩,
    f_gaps := ⟨f22, _, fun_mk (st := sGaps) l22 c22 k22, PySem.W.mg_of X G a22⟩,
    f_price_between := ⟨f23, _, fun_mk (st := sPriceBetween) l23 c23 k23, PySem.W.mg_of X G a23⟩,
    f_away := ⟨f24, _, fun_mk (st := sAway) l24 c24 k24, PySem.W.mg_of X G a24⟩,
    f_all_hidden := ⟨f25, _, fun_mk (st := sAllHidden) l25 c25 k25, PySem.W.mg_of X G a25⟩,
    f_farthest := ⟨f26, _, fun_mk (st := sFarthest) l26 c26 k26, PySem.W.mg_of X G a26⟩,
    f_choose := ⟨f27, _, fun_mk (st := sChoose) l27 c27 k27, PySem.W.mg_of X G a27⟩,
    f_place_of := ⟨f28, _, fun_mk (st := sPlaceOf) l28 c28 k28, PySem.W.mg_of X G a28⟩,
    f_require_both := ⟨f29, _, fun_mk (st := sRequireBoth) l29 c29 k29, PySem.W.mg_of X G a29⟩,
    f_distance := ⟨f30, _, fun_mk (st := sDistance) l30 c30 k30, PySem.W.mg_of X G a30⟩,
    f_screen_row := ⟨f31, _, fun_mk (st := sScreenRow) l31 c31 k31, PySem.W.mg_of X G a31⟩,
    f_is_possible := ⟨f32, _, fun_mk (st := sIsPossible) l32 c32 k32, PySem.W.mg_of X G a32⟩,
    f_require_number := ⟨f33, _, fun_mk (st := sRequireNumber) l33 c33 k33, PySem.W.mg_of X G a33⟩,
    f_count_from := ⟨f34, _, fun_mk (st := sCountFrom) l34 c34 k34, PySem.W.mg_of X G a34⟩,
    f_is_wish := ⟨f35, _, fun_mk (st := sIsWish) l35 c35 k35, PySem.W.mg_of X G a35⟩,
    f_require_wish := ⟨f36, _, fun_mk (st := sRequireWish) l36 c36 k36, PySem.W.mg_of X G a36⟩,
    f_best_end := ⟨f37, _, fun_mk (st := sBestEnd) l37 c37 k37, PySem.W.mg_of X G a37⟩,
    f_fewest_for := ⟨f38, _, fun_mk (st := sFewestFor) l38 c38 k38, PySem.W.mg_of X G a38⟩,
    f_require_prices := ⟨f39, _, fun_mk (st := sRequirePrices) l39 c39 k39, PySem.W.mg_of X G a39⟩,
    f_least_price := ⟨f40, _, fun_mk (st := sLeastPrice) l40 c40 k40, PySem.W.mg_of X G a40⟩,
    f_route := ⟨f41, _, fun_mk (st := sRoute) l41 c41 k41, PySem.W.mg_of X G a41⟩,
    f__law_error := ⟨f42, _, fun_mk (st := sLawError) l42 c42 k42, PySem.W.mg_of X G a42⟩,
    f__law_of := ⟨f43, _, fun_mk (st := sLawOf) l43 c43 k43, PySem.W.mg_of X G a43⟩,
    f__law_bent := ⟨f44, _, fun_mk (st := sLawBent) l44 c44 k44, PySem.W.mg_of X G a44⟩,
    f__law_int := ⟨f45, _, fun_mk (st := sLawInt) l45 c45 k45, PySem.W.mg_of X G a45⟩,
    f__law_is_state := ⟨f46, _, fun_mk (st := sLawIsState) l46 c46 k46, PySem.W.mg_of X G a46⟩ }
  exact ⟨_, fun s v => .of_eq rfl, fun base _ _ => law_fn (ok_law (fun_mk (st := sLaw) l47 c47 k47) T) fun ns Q X h q => ⟨ns, rfl, h, q⟩⟩
end HR
open PySem PySem.W PyProof.Rows
set_option maxRecDepth 100000 in
set_option maxHeartbeats 0 in
theorem PySem.Challenge.cw_hiddenrows_k01_states_are_checked_holds : PySem.Challenge.rw_hiddenrows_k01_states_are_checked.Holds := by
  w_on; o_law; k_head; (case hw => w_witness2)
  k_fill
  refine L2.walk_of (l := PySem.Challenge.rw_hiddenrows_k01_states_are_checked) (n := 63) (k := 12) (x := "script") (CX := fun w => L2.CX PySem.Challenge.rw_hiddenrows_k01_states_are_checked.prog w) (sp := fun w => HR.spL _) rfl (by decide) rfl ⟨rfl, by decide, by decide⟩ (fun w h Y => PySem.W.kIn_of Y) ?F (fun w H a ns hl hO hS => ⟨a, ns, rfl, hS, hO, hl, fun _ => rfl⟩) ?Z
  case F =>
    intro w mg fa h KX G hmg
    refine' HR.all_mk KX G hmg ?a0 ?l0 ?c0 ?k0 ?a1 ?l1 ?c1 ?k1 ?a2 ?l2 ?c2 ?k2 ?a3 ?l3 ?c3 ?k3 ?a4 ?l4 ?c4 ?k4 ?a5 ?l5 ?c5 ?k5 ?a6 ?l6 ?c6 ?k6 ?a7 ?l7 ?c7 ?k7 ?a8 ?l8 ?c8 ?k8 ?a9 ?l9 ?c9 ?k9 ?a10 ?l10 ?c10 ?k10 ?a11 ?l11 ?c11 ?k11 ?a12 ?l12 ?c12 ?k12 ?a13 ?l13 ?c13 ?k13 ?a14 ?l14 ?c14 ?k14 ?a15 ?l15 ?c15 ?k15 ?a16 ?l16 ?c16 ?k16 ?a17 ?l17 ?c17 ?k17 ?a18 ?l18 ?c18 ?k18 ?a19 ?l19 ?c19 ?k19 ?a20 ?l20 ?c20 ?k20 ?a21 ?l21 ?c21 ?k21 ?a22 ?l22 ?c22 ?k22 ?a23 ?l23 ?c23 ?k23 ?a24 ?l24 ?c24 ?k24 ?a25 ?l25 ?c25 ?k25 ?a26 ?l26 ?c26 ?k26 ?a27 ?l27 ?c27 ?k27 ?a28 ?l28 ?c28 ?k28 ?a29 ?l29 ?c29 ?k29 ?a30 ?l30 ?c30 ?k30 ?a31 ?l31 ?c31 ?k31 ?a32 ?l32 ?c32 ?k32 ?a33 ?l33 ?c33 ?k33 ?a34 ?l34 ?c34 ?k34 ?a35 ?l35 ?c35 ?k35 ?a36 ?l36 ?c36 ?k36 ?a37 ?l37 ?c37 ?k37 ?a38 ?l38 ?c38 ?k38 ?a39 ?l39 ?c39 ?k39 ?a40 ?l40 ?c40 ?k40 ?a41 ?l41 ?c41 ?k41 ?a42 ?l42 ?c42 ?k42 ?a43 ?l43 ?c43 ?k43 ?a44 ?l44 ?c44 ?k44 ?a45 ?l45 ?c45 ?k45 ?a46 ?l46 ?c46 ?k46 ?a47 ?l47 ?c47 ?k47 ?gC0 ?xC0 ?kC0 ?bC0 ?tC0 ?gC1 ?xC1 ?kC1 ?bC1 ?tC1 ?gC2 ?xC2 ?kC2 ?bC2 ?tC2 ?gC3 ?xC3 ?kC3 ?bC3 ?tC3 ?gC4 ?xC4 ?kC4 ?bC4 ?tC4 ?gC5 ?xC5 ?kC5 ?bC5 ?tC5 ?gC6 ?xC6 ?kC6 ?bC6 ?tC6 ?gC7 ?xC7 ?kC7 ?bC7 ?tC7 ?sx0_6 ?sx1_6 ?sx2_6 ?sx3_6 ?ga4 ?gk4 ?gd4 ?gc4 ?go4 ?sx4_6 ?sx5_6 ?sx7_6 ?hd6 ?gn ?gt ?n0 ?n1 ?n2 ?z0 ?z1 ?z2 ?z3 ?z4 ?z5 ?z6 ?z7 ?z8 ?z9 ?z10 ?z11 ?z12 ?z13 ?z14 ?z15
    (case a0 => k_is)
    (case l0 => k_is)
    (case c0 => k_is)
    (case k0 => k_is)
    (case a1 => k_is)
    (case l1 => k_is)
    (case c1 => k_is)
    (case k1 => k_is)
    (case a2 => k_is)
    (case l2 => k_is)
    (case c2 => k_is)
    (case k2 => k_is)
    (case a3 => k_is)
    (case l3 => k_is)
    (case c3 => k_is)
    (case k3 => k_is)
    (case a4 => k_is)
    (case l4 => k_is)
    (case c4 => k_is)
    (case k4 => k_is)
    (case a5 => k_is)
    (case l5 => k_is)
    (case c5 => k_is)
    (case k5 => k_is)
    (case a6 => k_is)
    (case l6 => k_is)
    (case c6 => k_is)
    (case k6 => k_is)
    (case a7 => k_is)
    (case l7 => k_is)
    (case c7 => k_is)
    (case k7 => k_is)
    (case a8 => k_is)
    (case l8 => k_is)
    (case c8 => k_is)
    (case k8 => k_is)
    (case a9 => k_is)
    (case l9 => k_is)
    (case c9 => k_is)
    (case k9 => k_is)
    (case a10 => k_is)
    (case l10 => k_is)
    (case c10 => k_is)
    (case k10 => k_is)
    (case a11 => k_is)
    (case l11 => k_is)
    (case c11 => k_is)
    (case k11 => k_is)
    (case a12 => k_is)
    (case l12 => k_is)
    (case c12 => k_is)
    (case k12 => k_is)
    (case a13 => k_is)
    (case l13 => k_is)
    (case c13 => k_is)
    (case k13 => k_is)
    (case a14 => k_is)
    (case l14 => k_is)
    (case c14 => k_is)
    (case k14 => k_is)
    (case a15 => k_is)
    (case l15 => k_is)
    (case c15 => k_is)
    (case k15 => k_is)
    (case a16 => k_is)
    (case l16 => k_is)
    (case c16 => k_is)
    (case k16 => k_is)
    (case a17 => k_is)
    (case l17 => k_is)
    (case c17 => k_is)
    (case k17 => k_is)
    (case a18 => k_is)
    (case l18 => k_is)
    (case c18 => k_is)
    (case k18 => k_is)
    (case a19 => k_is)
    (case l19 => k_is)
    (case c19 => k_is)
    (case k19 => k_is)
    (case a20 => k_is)
    (case l20 => k_is)
    (case c20 => k_is)
    (case k20 => k_is)
    (case a21 => k_is)
    (case l21 => k_is)
    (case c21 => k_is)
    (case k21 => k_is)
    (case a22 => k_is)
    (case l22 => k_is)
    (case c22 => k_is)
    (case k22 => k_is)
    (case a23 => k_is)
    (case l23 => k_is)
    (case c23 => k_is)
    (case k23 => k_is)
    (case a24 => k_is)
    (case l24 => k_is)
    (case c24 => k_is)
    (case k24 => k_is)
    (case a25 => k_is)
    (case l25 => k_is)
    (case c25 => k_is)
    (case k25 => k_is)
    (case a26 => k_is)
    (case l26 => k_is)
    (case c26 => k_is)
    (case k26 => k_is)
    (case a27 => k_is)
    (case l27 => k_is)
    (case c27 => k_is)
    (case k27 => k_is)
    (case a28 => k_is)
    (case l28 => k_is)
    (case c28 => k_is)
    (case k28 => k_is)
    (case a29 => k_is)
    (case l29 => k_is)
    (case c29 => k_is)
    (case k29 => k_is)
    (case a30 => k_is)
    (case l30 => k_is)
    (case c30 => k_is)
    (case k30 => k_is)
    (case a31 => k_is)
    (case l31 => k_is)
    (case c31 => k_is)
    (case k31 => k_is)
    (case a32 => k_is)
    (case l32 => k_is)
    (case c32 => k_is)
    (case k32 => k_is)
    (case a33 => k_is)
    (case l33 => k_is)
    (case c33 => k_is)
    (case k33 => k_is)
    (case a34 => k_is)
    (case l34 => k_is)
    (case c34 => k_is)
    (case k34 => k_is)
    (case a35 => k_is)
    (case l35 => k_is)
    (case c35 => k_is)
    (case k35 => k_is)
    (case a36 => k_is)
    (case l36 => k_is)
    (case c36 => k_is)
    (case k36 => k_is)
    (case a37 => k_is)
    (case l37 => k_is)
    (case c37 => k_is)
    (case k37 => k_is)
    (case a38 => k_is)
    (case l38 => k_is)
    (case c38 => k_is)
    (case k38 => k_is)
    (case a39 => k_is)
    (case l39 => k_is)
    (case c39 => k_is)
    (case k39 => k_is)
    (case a40 => k_is)
    (case l40 => k_is)
    (case c40 => k_is)
    (case k40 => k_is)
    (case a41 => k_is)
    (case l41 => k_is)
    (case c41 => k_is)
    (case k41 => k_is)
    (case a42 => k_is)
    (case l42 => k_is)
    (case c42 => k_is)
    (case k42 => k_is)
    (case a43 => k_is)
    (case l43 => k_is)
    (case c43 => k_is)
    (case k43 => k_is)
    (case a44 => k_is)
    (case l44 => k_is)
    (case c44 => k_is)
    (case k44 => k_is)
    (case a45 => k_is)
    (case l45 => k_is)
    (case c45 => k_is)
    (case k45 => k_is)
    (case a46 => k_is)
    (case l46 => k_is)
    (case c46 => k_is)
    (case k46 => k_is)
    (case a47 => k_is)
    (case l47 => k_is)
    (case c47 => k_is)
    (case k47 => k_is)
    (case gC0 => k_is)
    (case xC0 => k_exc)
    (case kC0 => k_is)
    (case bC0 => k_is)
    (case tC0 => k_is)
    (case gC1 => k_is)
    (case xC1 => k_exc)
    (case kC1 => k_is)
    (case bC1 => k_is)
    (case tC1 => k_is)
    (case gC2 => k_is)
    (case xC2 => k_exc)
    (case kC2 => k_is)
    (case bC2 => k_is)
    (case tC2 => k_is)
    (case gC3 => k_is)
    (case xC3 => k_exc)
    (case kC3 => k_is)
    (case bC3 => k_is)
    (case tC3 => k_is)
    (case gC4 => k_is)
    (case xC4 => k_exc)
    (case kC4 => k_is)
    (case bC4 => k_is)
    (case tC4 => k_is)
    (case gC5 => k_is)
    (case xC5 => k_exc)
    (case kC5 => k_is)
    (case bC5 => k_is)
    (case tC5 => k_is)
    (case gC6 => k_is)
    (case xC6 => k_exc)
    (case kC6 => k_is)
    (case bC6 => k_is)
    (case tC6 => k_is)
    (case gC7 => k_is)
    (case xC7 => k_exc)
    (case kC7 => k_is)
    (case bC7 => k_is)
    (case tC7 => k_is)
    (case sx0_6 => k_is)
    (case sx1_6 => k_is)
    (case sx2_6 => k_is)
    (case sx3_6 => k_is)
    (case ga4 => k_is)
    (case gk4 => k_is)
    (case gd4 => k_is)
    (case gc4 => k_is)
    (case go4 => k_is)
    (case sx4_6 => k_is)
    (case sx5_6 => k_is)
    (case sx7_6 => k_is)
    (case hd6 => k_is)
    (case gn => k_is)
    (case gt => k_is)
    (case n0 => k_is)
    (case n1 => k_is)
    (case n2 => k_is)
    (case z0 => k_is)
    (case z1 => k_is)
    (case z2 => k_is)
    (case z3 => k_is)
    (case z4 => k_is)
    (case z5 => k_is)
    (case z6 => k_is)
    (case z7 => k_is)
    (case z8 => k_is)
    (case z9 => k_is)
    (case z10 => k_is)
    (case z11 => k_is)
    (case z12 => k_is)
    (case z13 => k_is)
    (case z14 => k_is)
    (case z15 => k_is)
  case Z =>
    intro w H s e s' h
    obtain ⟨_, _, _, _, _, _, _, _, _, _, _, _, h⟩ := h
    exact h
