import PyProof.Rows.All
import Wide.All
import OpenK.AllK
import Wide.FinOn
import Lean
import PySem.Challenge.RW_pb0106_01
open PySem PySem.W PyProof.Rows PySem.Calls
set_option Elab.async false
set_option linter.unusedVariables false
set_option linter.unusedSimpArgs false
set_option maxRecDepth 100000
namespace Mine
theorem seed : Manifest.canonical = Manifest.canonical := rfl
name_quick tw8075568018651887793 for PySem.Manifest.canonical by Mine.seed
name_quick tw6727518457771090361 for PySem.Manifest.canonical by Mine.seed
name_quick tw14979626087600564940 for PySem.Manifest.canonical by Mine.seed
name_quick tw17104762638478270653 for PySem.Manifest.canonical by Mine.seed
name_quick tw10217763318079391867 for PySem.Manifest.canonical by Mine.seed
name_quick tw11685182791687960590 for PySem.Manifest.canonical by Mine.seed
name_quick tw944884497022049363 for PySem.Manifest.canonical by Mine.seed
name_quick tw2949557819572172630 for PySem.Manifest.canonical by Mine.seed
name_quick tw13123762751457820565 for PySem.Manifest.canonical by Mine.seed
name_quick tw10073347824450446311 for PySem.Manifest.canonical by Mine.seed
name_quick tw10323183001455561277 for PySem.Manifest.canonical by Mine.seed
name_quick tw17740709273134324012 for PySem.Manifest.canonical by Mine.seed
name_quick tw11416177751878317205 for PySem.Manifest.canonical by Mine.seed
name_quick tw17164873540382356111 for PySem.Manifest.canonical by Mine.seed
name_quick tw11853533878840232495 for PySem.Manifest.canonical by Mine.seed
name_quick tw16548257151911338427 for PySem.Manifest.canonical by Mine.seed
name_quick tw3658093133387280835 for PySem.Manifest.canonical by Mine.seed
name_quick tw14126943448341045398 for PySem.Manifest.canonical by Mine.seed
name_quick tw15894407043143930727 for PySem.Manifest.canonical by Mine.seed
name_quick tw7232422423428716515 for PySem.Manifest.canonical by Mine.seed
name_quick tw12290603225136948437 for PySem.Manifest.canonical by Mine.seed
name_quick tw16643379632663270332 for PySem.Manifest.canonical by Mine.seed
name_quick tw3698559305507148144 for PySem.Manifest.canonical by Mine.seed
name_quick tw5529568453561195837 for PySem.Manifest.canonical by Mine.seed
name_quick tw9011979029575296479 for PySem.Manifest.canonical by Mine.seed
name_quick tw8119918657739134586 for PySem.Manifest.canonical by Mine.seed
name_quick tw15755039735206942576 for PySem.Manifest.canonical by Mine.seed
name_quick tw9759809726879904816 for PySem.Manifest.canonical by Mine.seed
name_quick tw17532718790514356516 for PySem.Manifest.canonical by Mine.seed
name_quick tw15066959818950650227 for PySem.Manifest.canonical by Mine.seed
name_quick tw2478078296215019888 for PySem.Manifest.canonical by Mine.seed
name_quick tw5978237884098788730 for PySem.Manifest.canonical by Mine.seed
name_quick tw17100903815162463580 for PySem.Manifest.canonical by Mine.seed
name_quick tw2460228577881660442 for PySem.Manifest.canonical by Mine.seed
name_quick tw3636048126100218174 for PySem.Manifest.canonical by Mine.seed
name_quick tw13180171748994924942 for PySem.Manifest.canonical by Mine.seed
name_quick tw4075660801711882420 for PySem.Manifest.canonical by Mine.seed
name_quick tw7323676302269181137 for PySem.Manifest.canonical by Mine.seed
name_quick tw8719427161674164953 for PySem.Manifest.canonical by Mine.seed
name_quick tw17354465474357448390 for PySem.Manifest.canonical by Mine.seed
name_quick tw11130039905162102590 for PySem.Manifest.canonical by Mine.seed
name_quick tw11306939235166856333 for PySem.Manifest.canonical by Mine.seed
name_quick tw662354867322794072 for PySem.Manifest.canonical by Mine.seed
name_quick tw11277716924127702174 for PySem.Manifest.canonical by Mine.seed
name_quick tw14333388528381170442 for PySem.Manifest.canonical by Mine.seed
name_quick tw11939915149646268982 for PySem.Manifest.canonical by Mine.seed
name_quick tw9136488742655976645 for PySem.Manifest.canonical by Mine.seed
name_quick tw17672482021469178181 for PySem.Manifest.canonical by Mine.seed
name_quick tw1503297043503765363 for PySem.Manifest.canonical by Mine.seed
name_quick tw11420187438672877268 for PySem.Manifest.canonical by Mine.seed
name_quick tw13145125596335152023 for PySem.Manifest.canonical by Mine.seed
name_quick tw4549333791460862111 for PySem.Manifest.canonical by Mine.seed
name_quick tw6004533443673955352 for PySem.Manifest.canonical by Mine.seed
name_quick tw1537898542681612871 for PySem.Manifest.canonical by Mine.seed
name_quick tw13335737130258781183 for PySem.Manifest.canonical by Mine.seed
name_quick tw17964007177503468958 for PySem.Manifest.canonical by Mine.seed
name_quick tw18350330562280901221 for PySem.Manifest.canonical by Mine.seed
name_quick tw9763268239775435451 for PySem.Manifest.canonical by Mine.seed
name_quick tw3362959441861295915 for PySem.Manifest.canonical by Mine.seed
name_quick tw17111948838632640456 for PySem.Manifest.canonical by Mine.seed
name_quick tw4933834842325187142 for PySem.Manifest.canonical by Mine.seed
name_quick tw16049961110935095269 for PySem.Manifest.canonical by Mine.seed
name_quick tw16741492637210864865 for PySem.Manifest.canonical by Mine.seed
name_quick tw900395245841561262 for PySem.Manifest.canonical by Mine.seed
name_quick tw17828083071136270317 for PySem.Manifest.canonical by Mine.seed
name_quick tw4302124980754421698 for PySem.Manifest.canonical by Mine.seed
name_quick tw4679858250743294509 for PySem.Manifest.canonical by Mine.seed
name_quick tw14714103240675001986 for PySem.Manifest.canonical by Mine.seed
name_quick tw6792406925840432001 for PySem.Manifest.canonical by Mine.seed
name_quick tw5200128776193632040 for PySem.Manifest.canonical by Mine.seed
name_quick tw1258299570235058372 for PySem.Manifest.canonical by Mine.seed
name_quick tw13559156169165276386 for PySem.Manifest.canonical by Mine.seed
name_quick tw13254397897704925713 for PySem.Manifest.canonical by Mine.seed
name_quick tw10205541121877940668 for PySem.Manifest.canonical by Mine.seed
name_quick tw2862820112641550484 for PySem.Manifest.canonical by Mine.seed
name_quick tw14168537005229113720 for PySem.Manifest.canonical by Mine.seed
name_quick tw15475462885187679331 for PySem.Manifest.canonical by Mine.seed
name_quick tw12945451867199242903 for PySem.Manifest.canonical by Mine.seed
name_quick tw3976722010076183465 for PySem.Manifest.canonical by Mine.seed
name_quick tw15490439104401381959 for PySem.Manifest.canonical by Mine.seed
name_quick tw4980102563643897964 for PySem.Manifest.canonical by Mine.seed
name_quick tw1218959903707654005 for PySem.Manifest.canonical by Mine.seed
name_quick tw8860024209350480642 for PySem.Manifest.canonical by Mine.seed
name_quick tw3891137856419664920 for PySem.Manifest.canonical by Mine.seed
name_quick tw3972328310683599613 for PySem.Manifest.canonical by Mine.seed
name_quick tw11566699232636054958 for PySem.Manifest.canonical by Mine.seed
name_quick tw9407582987413476825 for PySem.Manifest.canonical by Mine.seed
name_quick tw9948023125614773506 for PySem.Manifest.canonical by Mine.seed
name_quick tw11729385059970357855 for PySem.Manifest.canonical by Mine.seed
name_quick tw15007238320947547705 for PySem.Manifest.canonical by Mine.seed
name_quick tw6245536207120538393 for PySem.Manifest.canonical by Mine.seed
name_quick tw11452132507678324671 for PySem.Manifest.canonical by Mine.seed
name_quick tw14023627001141898710 for PySem.Manifest.canonical by Mine.seed
name_quick tw6589095468515690095 for PySem.Manifest.canonical by Mine.seed
name_quick tw15112985482279097393 for PySem.Manifest.canonical by Mine.seed
name_quick tw17730448691065144110 for PySem.Manifest.canonical by Mine.seed
name_quick tw13900631225919944168 for PySem.Manifest.canonical by Mine.seed
name_quick tw10833955939284561965 for PySem.Manifest.canonical by Mine.seed
name_quick tw16145008321745377990 for PySem.Manifest.canonical by Mine.seed
name_quick tw10010936943081839664 for PySem.Manifest.canonical by Mine.seed
name_quick tw3619232141914619222 for PySem.Manifest.canonical by Mine.seed
name_quick tw1414301608579184545 for PySem.Manifest.canonical by Mine.seed
name_quick tw4658958612460137192 for PySem.Manifest.canonical by Mine.seed
name_quick tw8424611434330503625 for PySem.Manifest.canonical by Mine.seed
name_quick tw18220123701641295943 for PySem.Manifest.canonical by Mine.seed
name_quick tw8753696776887207221 for PySem.Manifest.canonical by Mine.seed
name_quick tw1355338860687761863 for PySem.Manifest.canonical by Mine.seed
name_quick tw682011567655089306 for PySem.Manifest.canonical by Mine.seed
name_quick tw3766158894648301139 for PySem.Manifest.canonical by Mine.seed
name_quick tw4797165386629745026 for PySem.Manifest.canonical by Mine.seed
name_quick tw15278061642289888581 for PySem.Manifest.canonical by Mine.seed
name_quick tw12233582284571471492 for PySem.Manifest.canonical by Mine.seed
name_quick tw2905824091091238844 for PySem.Manifest.canonical by Mine.seed
name_quick tw8579058602437062094 for PySem.Manifest.canonical by Mine.seed
name_quick tw17532440430192770315 for PySem.Manifest.canonical by Mine.seed
name_quick tw17988542015724977305 for PySem.Manifest.canonical by Mine.seed
name_quick tw4071324889030633612 for PySem.Manifest.canonical by Mine.seed
name_quick tw13215998728584607739 for PySem.Manifest.canonical by Mine.seed
name_quick tw9501820088010722379 for PySem.Manifest.canonical by Mine.seed
name_quick tw3560238982266916124 for PySem.Manifest.canonical by Mine.seed
name_quick tw16531745337717519161 for PySem.Manifest.canonical by Mine.seed
name_quick tw13317431791736044220 for PySem.Manifest.canonical by Mine.seed
name_quick tw14326252917377295143 for PySem.Manifest.canonical by Mine.seed
name_quick tw1402947280878808549 for PySem.Manifest.canonical by Mine.seed
name_quick tw6654550962395885724 for PySem.Manifest.canonical by Mine.seed
name_quick tw5032809538720368765 for PySem.Manifest.canonical by Mine.seed
name_quick tw10948738476641704880 for PySem.Manifest.canonical by Mine.seed
name_quick tw6683783046931543321 for PySem.Manifest.canonical by Mine.seed
name_quick tw3093977132361051618 for PySem.Manifest.canonical by Mine.seed
name_quick tw13607416678640721797 for PySem.Manifest.canonical by Mine.seed
name_quick tw8595292554425487202 for PySem.Manifest.canonical by Mine.seed
name_quick tw3764465048917985505 for PySem.Manifest.canonical by Mine.seed
name_quick tw17069979004554194336 for PySem.Manifest.canonical by Mine.seed
name_quick tw2660918139993853925 for PySem.Manifest.canonical by Mine.seed
name_quick tw14433975572909055671 for PySem.Manifest.canonical by Mine.seed
name_quick tw14834023430324568649 for PySem.Manifest.canonical by Mine.seed
name_quick tw11588390666370768167 for PySem.Manifest.canonical by Mine.seed
name_quick tw5770868932273138760 for PySem.Manifest.canonical by Mine.seed
name_quick tw8693227569615203950 for PySem.Manifest.canonical by Mine.seed
name_quick tw18416463498863911781 for PySem.Manifest.canonical by Mine.seed
name_quick tw7299303143086499733 for PySem.Manifest.canonical by Mine.seed
name_quick tw13236226663087606529 for PySem.Manifest.canonical by Mine.seed
name_quick tw8727135674562949291 for PySem.Manifest.canonical by Mine.seed
name_quick tw16916688483869632129 for PySem.Manifest.canonical by Mine.seed
name_quick tw8703263022893421829 for PySem.Manifest.canonical by Mine.seed
name_quick tw6929956602132211858 for PySem.Manifest.canonical by Mine.seed
name_quick tw11317593695737139937 for PySem.Manifest.canonical by Mine.seed
name_quick tw4090926877573551719 for PySem.Manifest.canonical by Mine.seed
name_quick tw16414604833108395602 for PySem.Manifest.canonical by Mine.seed
name_quick tw9862997608875712007 for PySem.Manifest.canonical by Mine.seed
name_quick tw10227693086864044499 for PySem.Manifest.canonical by Mine.seed
name_quick tw14530364306720264245 for PySem.Manifest.canonical by Mine.seed
name_quick tw17975652961387846372 for PySem.Manifest.canonical by Mine.seed
section
set_option maxRecDepth 100000 in
set_option maxHeartbeats 8000000 in
open_top hd for PySem.Challenge.rw_pb0106_01
end
section
abbrev PP : Program := PySem.Challenge.pw_pb0106_01
noncomputable abbrev KF (w : World) : Frag := hd.heap_39 w.params
noncomputable abbrev VP : Program := hd.view_39
noncomputable abbrev looseN : List Str := looseW hd.view_39 [Str.ofString "GitError", Str.ofString "read_pkts", Str.ofString "Advert"]

/-- the octets of a bytes value as numbers -/
def bN (b : Array UInt8) : List Nat := b.toList.map UInt8.toNat

/-- data: what a value means, apart from where it lies -/
inductive D where
  | none
  | bool (b : Bool)
  | int (i : Int)
  | str (l : List Nat)
  | bytes (l : List Nat)
  | tup (ds : List D)
  | list (ds : List D)
  | adv (r c s : List D)
  | rng (a c : Int) (n : Nat)
  | ty (id : String)
  | xlist (a : Addr) (ds : List D)

/-- the class Advert and its instances' two objects -/
def advObj (dx : Addr) : Obj := instObj 211 dx
def advMeths : List Str := [Str.ofString "octets", Str.ofString "id_of", Str.ofString "head_name"]

mutual
inductive Tr (h : Heap) (Z : Addr → Prop) : Value → D → Prop
  | none : Tr h Z Value.none D.none
  | bool (b : Bool) : Tr h Z (Value.bool b) (D.bool b)
  | int (i : Int) (t : Tok) : Tr h Z (Value.int i t) (D.int i)
  | str (x : Str) (t : Tok) {l : List Nat} : x.cps.toList = l → Tr h Z (Value.str x t) (D.str l)
  | bytes (b : Array UInt8) (t : Tok) {l : List Nat} : bN b = l → Tr h Z (Value.bytes b t) (D.bytes l)
  | tup {a : Addr} {vs : List Value} {ds : List D} : Z a → IsTup h a vs.toArray → TrL h Z vs ds → Tr h Z (Value.ref a) (D.tup ds)
  | list {a : Addr} {vs : List Value} {ds : List D} : Z a → h.IsList a vs.toArray → TrL h Z vs ds → Tr h Z (Value.ref a) (D.list ds)
  | adv {a dx : Addr} {es : List DictEntry} {n : Nat} {vr vc vs : Value} {r c s : List D} : Z a → Z dx → h.get? a = some (advObj dx) → h.get? dx = some (dictOf es n) →
      (getL (Str.ofString "refs") es = some (some vr)) → (getL (Str.ofString "capabilities") es = some (some vc)) → (getL (Str.ofString "shallow") es = some (some vs)) → (∀ nm ∈ advMeths, getL nm es = some none) →
      Tr h Z vr (D.list r) → Tr h Z vc (D.list c) → Tr h Z vs (D.list s) → Tr h Z (Value.ref a) (D.adv r c s)
  | ty (id : String) : Tr h Z (Value.type id) (D.ty id)
  | xlist {a : Addr} {vs : List Value} {ds : List D} {n : Nat} : Z a → h.get? a = some (listOf vs.toArray n) → TrL h Z vs ds → Tr h Z (Value.ref a) (D.xlist a ds)
  | rng {r : Addr} {a b c : Int} {t u v : Tok} {n : Nat} : Z r → IsRange h r a b c t u v → Builtin.Range.small a b c = true → Builtin.Range.rangeSize a b c = (n : Int) → Tr h Z (Value.ref r) (D.rng a c n)
inductive TrL (h : Heap) (Z : Addr → Prop) : List Value → List D → Prop
  | nil : TrL h Z [] []
  | cons {v : Value} {vs : List Value} {d : D} {ds : List D} : Tr h Z v d → TrL h Z vs ds → TrL h Z (v :: vs) (d :: ds)
end

section
variable {h h' : Heap} {Z Z' : Addr → Prop}
theorem isTup_at {a : Addr} {items : Array Value} (x : IsTup h a items) (e : ∀ o, h.get? a = some o → h'.get? a = some o) : IsTup h' a items := let ⟨o, ho, r⟩ := x; ⟨o, e o ho, r⟩
mutual
theorem Tr.mono (hz : ∀ a, Z a → Z' a) (hk : ∀ a o, Z a → h.get? a = some o → h'.get? a = some o) : ∀ {v : Value} {d : D}, Tr h Z v d → Tr h' Z' v d
  | _, _, .none => .none
  | _, _, .bool b => .bool b
  | _, _, .int i t => .int i t
  | _, _, .str x t e => .str x t e
  | _, _, .bytes b t e => .bytes b t e
  | _, _, .tup a b c => .tup (hz _ a) (isTup_at b fun o => hk _ o a) (TrL.mono hz hk c)
  | _, _, .list a b c => .list (hz _ a) (b.at fun o => hk _ o a) (TrL.mono hz hk c)
  | _, _, .adv a b c d e f g gm r1 r2 r3 => .adv (hz _ a) (hz _ b) (hk _ _ a c) (hk _ _ b d) e f g gm (Tr.mono hz hk r1) (Tr.mono hz hk r2) (Tr.mono hz hk r3)
  | _, _, .rng a b c d => .rng (hz _ a) (hk _ _ a b) c d
  | _, _, .ty id => .ty id
  | _, _, .xlist a b c => .xlist (hz _ a) (hk _ _ a b) (TrL.mono hz hk c)
theorem TrL.mono (hz : ∀ a, Z a → Z' a) (hk : ∀ a o, Z a → h.get? a = some o → h'.get? a = some o) : ∀ {vs : List Value} {ds : List D}, TrL h Z vs ds → TrL h' Z' vs ds
  | _, _, .nil => .nil
  | _, _, .cons a b => .cons (Tr.mono hz hk a) (TrL.mono hz hk b)
end
@[elab_as_elim] theorem Tr.intC {i : Int} {motive : (v : Value) → Tr h Z v (.int i) → Prop} (int : ∀ t, motive _ (.int i t)) {v : Value} (x : Tr h Z v (.int i)) : motive v x := by cases x with | int i t => exact int t
@[elab_as_elim] theorem Tr.boolC {b : Bool} {motive : (v : Value) → Tr h Z v (.bool b) → Prop} (bool : motive _ (.bool b)) {v : Value} (x : Tr h Z v (.bool b)) : motive v x := by cases x; exact bool
@[elab_as_elim] theorem Tr.noneC {motive : (v : Value) → Tr h Z v .none → Prop} (none : motive _ .none) {v : Value} (x : Tr h Z v .none) : motive v x := by cases x; exact none
@[elab_as_elim] theorem Tr.strC {l : List Nat} {motive : (v : Value) → Tr h Z v (.str l) → Prop} (str : ∀ y t (e : y.cps.toList = l), motive _ (.str y t e)) {v : Value} (x : Tr h Z v (.str l)) : motive v x := by cases x with | str y t e => exact str y t e
@[elab_as_elim] theorem Tr.bytesC {l : List Nat} {motive : (v : Value) → Tr h Z v (.bytes l) → Prop} (bytes : ∀ b t (e : bN b = l), motive _ (.bytes b t e)) {v : Value} (x : Tr h Z v (.bytes l)) : motive v x := by cases x with | bytes y t e => exact bytes y t e
@[elab_as_elim] theorem Tr.listC {ds : List D} {motive : (v : Value) → Tr h Z v (.list ds) → Prop} (list : ∀ {a vs} z l t, motive (.ref a) (.list (vs := vs) z l t)) {v : Value} (x : Tr h Z v (.list ds)) : motive v x := by cases x with | list z l t => exact list z l t
@[elab_as_elim] theorem Tr.tupC {ds : List D} {motive : (v : Value) → Tr h Z v (.tup ds) → Prop} (tup : ∀ {a vs} z l t, motive (.ref a) (.tup (vs := vs) z l t)) {v : Value} (x : Tr h Z v (.tup ds)) : motive v x := by cases x with | tup z l t => exact tup z l t
@[elab_as_elim] theorem Tr.xlistC {a : Addr} {ds : List D} {motive : (v : Value) → Tr h Z v (.xlist a ds) → Prop} (xlist : ∀ {vs n} z l t, motive (.ref a) (.xlist (vs := vs) (n := n) z l t)) {v : Value} (x : Tr h Z v (.xlist a ds)) : motive v x := by cases x with | xlist z l t => exact xlist z l t
@[elab_as_elim] theorem Tr.tyC {id : String} {motive : (v : Value) → Tr h Z v (.ty id) → Prop} (ty : motive _ (.ty id)) {v : Value} (x : Tr h Z v (.ty id)) : motive v x := by cases x; exact ty
@[elab_as_elim] theorem Tr.advC {r c s : List D} {motive : (v : Value) → Tr h Z v (.adv r c s) → Prop} (adv : ∀ {a dx es n vr vc vs} z1 z2 g1 g2 f1 f2 f3 gm q1 q2 q3, motive (.ref a) (.adv (dx := dx) (es := es) (n := n) (vr := vr) (vc := vc) (vs := vs) z1 z2 g1 g2 f1 f2 f3 gm q1 q2 q3)) {v : Value} (x : Tr h Z v (.adv r c s)) : motive v x := by cases x with | adv z1 z2 g1 g2 f1 f2 f3 gm q1 q2 q3 => exact adv z1 z2 g1 g2 f1 f2 f3 gm q1 q2 q3
@[elab_as_elim] theorem TrL.c0 {motive : (v : List Value) → TrL h Z v [] → Prop} (nil : motive _ .nil) {v : List Value} (x : TrL h Z v []) : motive v x := by cases x; exact nil
@[elab_as_elim] theorem TrL.cC {d : D} {ds : List D} {motive : (v : List Value) → TrL h Z v (d :: ds) → Prop} (cons : ∀ {v vs} t r, motive (v :: vs) (.cons t r)) {v : List Value} (x : TrL h Z v (d :: ds)) : motive v x := by cases x with | cons t r => exact cons t r
@[elab_as_elim] theorem TrL.c1 {d : D} {motive : (v : List Value) → TrL h Z v [d] → Prop} (cons : ∀ {v} t, motive [v] (.cons t .nil)) {v : List Value} (x : TrL h Z v [d]) : motive v x := x.cC fun t r => r.c0 (cons t)
@[elab_as_elim] theorem TrL.c2 {d e : D} {motive : (v : List Value) → TrL h Z v [d, e] → Prop} (cons : ∀ {v u} t t', motive [v, u] (.cons t (.cons t' .nil))) {v : List Value} (x : TrL h Z v [d, e]) : motive v x := x.cC fun t r => r.c1 fun t' => cons t t'
@[elab_as_elim] theorem TrL.c3 {d e f : D} {motive : (v : List Value) → TrL h Z v [d, e, f] → Prop} (cons : ∀ {v u w} t t' t'', motive [v, u, w] (.cons t (.cons t' (.cons t'' .nil)))) {v : List Value} (x : TrL h Z v [d, e, f]) : motive v x := x.cC fun t r => r.c2 fun t' t'' => cons t t' t''
theorem TrL.length : ∀ {vs : List Value} {ds : List D}, TrL h Z vs ds → vs.length = ds.length
  | _, _, .nil => rfl
  | _, _, .cons _ r => by rw [List.length_cons, List.length_cons, TrL.length r]
theorem TrL.append : ∀ {vs : List Value} {ds : List D} {ws : List Value} {es : List D}, TrL h Z vs ds → TrL h Z ws es → TrL h Z (vs ++ ws) (ds ++ es)
  | _, _, _, _, .nil, k => k
  | _, _, _, _, .cons a b, k => .cons a (TrL.append b k)
theorem TrL.get : ∀ {vs : List Value} {ds : List D} (_ : TrL h Z vs ds) (i : Nat) (d : D), ds[i]? = some d → ∃ v, vs[i]? = some v ∧ Tr h Z v d
  | _, _, .nil, i, d, e => by simp at e
  | _, _, .cons a b, 0, d, e => by simp at e; subst e; exact ⟨_, rfl, a⟩
  | _, _, .cons a b, i + 1, d, e => by simpa using TrL.get b i d (by simpa using e)
theorem TrL.getV : ∀ {vs : List Value} {ds : List D} (_ : TrL h Z vs ds) (i : Nat) (v : Value), vs[i]? = some v → ∃ d, ds[i]? = some d ∧ Tr h Z v d
  | _, _, .nil, i, d, e => by simp at e
  | _, _, .cons a b, 0, d, e => by simp at e; subst e; exact ⟨_, rfl, a⟩
  | _, _, .cons a b, i + 1, d, e => by simpa using TrL.getV b i d (by simpa using e)
end

/-- what stands around a frame -/
structure Stk (w : World) (A : Around) (outer : List Env) (n : Nat) (h : Heap) : Prop where
  handled : A.handled = none
  frames : A.frames = some outer
  depth : A.depth + n < recursionLimit
  units : A.units + 20 * n + 100 < cLine
  K : (KF w).In h
  top : ∃ mg mb, TopRead VP looseN mg mb h
  fr : h.FunFrames { objs := #[] } outer
  bs : ∃ B : Heap, B.StaysIn h ∧ (KF w).In B ∧ (∃ mg mb, TopRead VP looseN mg mb B) ∧ h.FunFrames B outer

theorem Stk.keeps {w : World} {A : Around} {outer : List Env} {n : Nat} {h h' : Heap} (x : Stk w A outer n h) (k : h.StaysIn h') : Stk w A outer n h' :=
  ⟨x.handled, x.frames, x.depth, x.units, x.K.keeps k, let ⟨mg, mb, t⟩ := x.top; ⟨mg, mb, t.keeps k⟩, x.fr.of_keeps fun b o e _ => ⟨o, k b o e, rfl⟩, let ⟨B, b1, b2, b3, b4⟩ := x.bs; ⟨B, fun b o e => k b o (b1 b o e), b2, b3, b4.of_keeps fun b o e _ => ⟨o, k b o e, rfl⟩⟩⟩
theorem Stk.less {w : World} {A : Around} {outer : List Env} {n m : Nat} {h : Heap} (x : Stk w A outer n h) (k : m ≤ n) : Stk w A outer m h :=
  ⟨x.handled, x.frames, by have := x.depth; omega, by have := x.units; omega, x.K, x.top, x.fr, x.bs⟩

/-- from one state to a later one: nothing old is changed; what is frozen grows by new things alone -/
structure Ext (s : Shared) (Z : Addr → Prop) (s' : Shared) (Z' : Addr → Prop) : Prop where
  same : ∃ h tk, s' = { s with heap := h, toks := tk }
  keep : s.heap.StaysIn s'.heap
  zz : ∀ a, Z a → Z' a
  znew : ∀ a, Z' a → Z a ∨ s.heap.get? a = none
  zok : ∀ a, Z' a → (s'.heap.get? a).isSome = true

def ZOk (Z : Addr → Prop) (h : Heap) : Prop := ∀ a, Z a → (h.get? a).isSome = true

theorem stays_none {h h' : Heap} (k : h.StaysIn h') {a : Addr} (e : h'.get? a = none) : h.get? a = none := by
  cases q : h.get? a with
  | none => rfl
  | some o => rw [k a o q] at e; cases e
theorem get_size (h : Heap) : h.get? h.objs.size = none := by
  cases q : h.get? h.objs.size with
  | none => rfl
  | some o => exact absurd (Heap.lt_size q) (Nat.lt_irrefl _)
theorem stays_some {h h' : Heap} (k : h.StaysIn h') {a : Addr} (e : (h.get? a).isSome = true) : (h'.get? a).isSome = true := by
  obtain ⟨o, q⟩ := Option.isSome_iff_exists.mp e
  rw [k a o q]; rfl

def Do (w : World) (A : Around) (s : Shared) (Z : Addr → Prop) (t : Sem Value) (P : D → Prop) : Prop :=
  ∀ (Q E : Value → Shared → Prop), (∀ v s' Z' d, Ext s Z s' Z' → Tr s'.heap Z' v d → P d → Q v s') → wpAny (model PP w) A t Q E s

/-- what an operation may lean on -/
structure Rdy (w : World) (A : Around) (n : Nat) (s : Shared) (Z : Addr → Prop) : Prop where
  stk : ∃ outer, Stk w A outer n s.heap ∧ ∀ e ∈ outer, ∀ L, e.frame = some L → ¬ Z L
  zok : ZOk Z s.heap

/-- a call's contract; an operation's on one, on two values -/
structure OpC (f : Value) (n : Nat) (ds : List D) (P : D → Prop) : Prop where
  run : ∀ (w : World) (A : Around) (s : Shared) (Z : Addr → Prop) (vs : List Value), Rdy w A n s Z → TrL s.heap Z vs ds → Do w A s Z (call f vs) P
structure Op1 (t : Value → Sem Value) (n : Nat) (d : D) (P : D → Prop) : Prop where
  run : ∀ (w : World) (A : Around) (s : Shared) (Z : Addr → Prop) (v : Value), Rdy w A n s Z → Tr s.heap Z v d → Do w A s Z (t v) P
structure Op2 (t : Value → Value → Sem Value) (n : Nat) (d₁ d₂ : D) (P : D → Prop) : Prop where
  run : ∀ (w : World) (A : Around) (s : Shared) (Z : Addr → Prop) (v₁ v₂ : Value), Rdy w A n s Z → Tr s.heap Z v₁ d₁ → Tr s.heap Z v₂ d₂ → Do w A s Z (t v₁ v₂) P
abbrev FnP (f : Addr) (n : Nat) (ds : List D) (P : D → Prop) : Prop := OpC (.ref f) n ds P
theorem Rdy.handled {w : World} {A : Around} {n : Nat} {s : Shared} {Z : Addr → Prop} (x : Rdy w A n s Z) : A.handled = none := let ⟨_, a, _⟩ := x.stk; a.handled
theorem Rdy.units {w : World} {A : Around} {n : Nat} {s : Shared} {Z : Addr → Prop} (x : Rdy w A n s Z) : A.units + 100 < cLine := let ⟨_, a, _⟩ := x.stk; by have := a.units; omega

inductive Bd where
  | v (d : D)
  | own (ds : List D)
  | deck

abbrev Rho := List (Str × Bd)

/-- where a statement is run: V: what may change of itself (the law's deck), G: what stays true of it, dk: its value; mine: the frame's own cells may be stored -/
structure Cx where
  w : World
  A : Around
  frames : List Env
  env : Env
  n : Nat
  s0 : Shared
  Z0 : Addr → Prop
  V : Addr → Prop
  G : Heap → Prop
  dk : Value
  mine : Bool

abbrev Cx.L (c : Cx) : Addr := c.env.locals

structure Cx.Ok (c : Cx) : Prop where
  base : ∀ h' : Heap, (∀ a o, ¬ c.V a → c.s0.heap.get? a = some o → h'.get? a = some o) → (∃ m, h'.Ns c.L m) → Stk c.w c.A c.frames c.n h'
  gst : ∀ h h' : Heap, c.G h → (∀ a, c.V a → h'.get? a = h.get? a) → c.G h'
  gv : ∀ h a, c.G h → c.V a → ∃ o, h.get? a = some o ∧ ∀ fs, o.data ≠ .fields fs
  z0ok : ZOk c.Z0 c.s0.heap
  fr0 : ∀ e ∈ c.frames, ∀ L, e.frame = some L → L = c.L ∨ ((c.s0.heap.get? L).isSome = true ∧ ¬ c.Z0 L)
  Lnew : c.s0.heap.get? c.L = none
  kind : c.env.scope.kind = .function
  vL : ¬ c.V c.L
  vfr : ∀ e ∈ c.frames, ∀ L, e.frame = some L → ¬ c.V L
  glob : c.env.globals = mainGlobals
  blt : c.env.builtins = builtinsNs
  cinj : ∀ x y a, c.env.cells.lookup x = some a → c.env.cells.lookup y = some a → x = y
  bs : ∃ B : Heap, (KF c.w).In B ∧ (∃ mg mb, TopRead VP looseN mg mb B) ∧ B.StaysIn c.s0.heap ∧ (∀ a, c.V a → B.get? a = none) ∧ ∀ h' : Heap, (∀ a o, ¬ c.V a → c.s0.heap.get? a = some o → h'.get? a = some o) → (∃ m, h'.Ns c.L m) → h'.FunFrames B c.frames

def BdOk (c : Cx) (h : Heap) (Z : Addr → Prop) (v : Value) : Bd → List Addr → Prop
  | .v d, O => O = [] ∧ Tr h Z v d
  | .own ds, O => ∃ a vs n, O = [a] ∧ v = .ref a ∧ h.get? a = some (listOf vs.toArray n) ∧ TrL h Z vs ds
  | .deck, O => O = [] ∧ v = c.dk

def Holds (c : Cx) (h : Heap) (m : Str → Option Value) (x : Str) (v : Value) : Prop := (c.env.cells.lookup x = none ∧ m x = some v) ∨ ∃ a o, c.env.cells.lookup x = some a ∧ h.get? a = some o ∧ o.data = .cell (some v)

structure Loc (c : Cx) (ρ : Rho) (Z : Addr → Prop) (h : Heap) (m : Str → Option Value) (own : Str → List Addr) : Prop where
  ns : h.Ns c.L m
  get : ∀ x b, ρ.lookup x = some b → ∃ v, Holds c h m x v ∧ BdOk c h Z v b (own x)
  off : ∀ x a, a ∈ own x → ¬ Z a ∧ a ≠ c.L ∧ c.s0.heap.get? a = none ∧ (h.get? a).isSome = true ∧ ¬ c.V a
  apart : ∀ x y a, a ∈ own x → a ∈ own y → x = y
  dom : ∀ x, ρ.lookup x = none → own x = []
  cell : ∀ x a, c.env.cells.lookup x = some a → ¬ Z a ∧ ¬ c.V a ∧ (∃ o w, h.get? a = some o ∧ o.data = .cell w) ∧ (c.mine = true → c.s0.heap.get? a = none)

structure St (c : Cx) (ρ : Rho) (Z : Addr → Prop) (s : Shared) : Prop where
  same : ∃ h tk, s = { c.s0 with heap := h, toks := tk }
  ok : c.Ok
  keep : ∀ a o, ¬ c.V a → c.s0.heap.get? a = some o → s.heap.get? a = some o
  z0 : ∀ a, c.Z0 a → Z a
  znew : ∀ a, Z a → c.Z0 a ∨ c.s0.heap.get? a = none
  zok : ZOk Z s.heap
  zL : ¬ Z c.L
  zV : ∀ a, Z a → ¬ c.V a
  g : c.G s.heap
  loc : ∃ m own, Loc c ρ Z s.heap m own

theorem Heap.FunFrames.alive {h b : Heap} {l : List Env} (x : h.FunFrames b l) {e : Env} (he : e ∈ l) {L : Addr} (hL : e.frame = some L) : (h.get? L).isSome = true := by
  obtain ⟨_, o, ho, _⟩ := x.mem (List.mem_filterMap.mpr ⟨e, he, hL⟩)
  rw [ho]; rfl
theorem St.stk {c : Cx} {ρ : Rho} {Z : Addr → Prop} {s : Shared} (S : St c ρ Z s) : Stk c.w c.A c.frames c.n s.heap := by
  obtain ⟨m, own, l⟩ := S.loc
  exact S.ok.base _ S.keep ⟨m, l.ns⟩
theorem St.kind {c : Cx} {ρ : Rho} {Z : Addr → Prop} {s : Shared} (S : St c ρ Z s) : c.env.scope.kind = .function := S.ok.kind
theorem St.zfr {c : Cx} {ρ : Rho} {Z : Addr → Prop} {s : Shared} (S : St c ρ Z s) : ∀ e ∈ c.frames, ∀ L, e.frame = some L → ¬ Z L := fun e he L hL q => by
  rcases S.ok.fr0 e he L hL with rfl | ⟨h1, h2⟩
  · exact S.zL q
  · rcases S.znew L q with q | q
    · exact h2 q
    · rw [q] at h1; cases h1
theorem St.Lalive {c : Cx} {ρ : Rho} {Z : Addr → Prop} {s : Shared} (S : St c ρ Z s) : (s.heap.get? c.L).isSome = true := by
  obtain ⟨m, own, l⟩ := S.loc
  obtain ⟨o, _, _, ho, _⟩ := l.ns
  rw [ho]; rfl

structure Le (h : Heap) (Z : Addr → Prop) (h' : Heap) (Z' : Addr → Prop) : Prop where
  zz : ∀ a, Z a → Z' a
  keep : ∀ a o, Z a → h.get? a = some o → h'.get? a = some o
  flds : ∀ a o fs, h.get? a = some o → o.data = .fields fs → h'.get? a = some o
  fz : ∀ a o fs, h.get? a = some o → o.data = .fields fs → Z' a → Z a
theorem Le.refl (h : Heap) (Z : Addr → Prop) : Le h Z h Z := ⟨fun _ x => x, fun _ _ _ x => x, fun _ _ _ x _ => x, fun _ _ _ _ _ x => x⟩
theorem Le.trans {h h₁ h₂ : Heap} {Z Z₁ Z₂ : Addr → Prop} (a : Le h Z h₁ Z₁) (b : Le h₁ Z₁ h₂ Z₂) : Le h Z h₂ Z₂ :=
  ⟨fun x q => b.zz x (a.zz x q), fun x o q e => b.keep x o (a.zz x q) (a.keep x o q e), fun x o fs e f => b.flds x o fs (a.flds x o fs e f) f, fun x o fs e f q => a.fz x o fs e f (b.fz x o fs (a.flds x o fs e f) f q)⟩
theorem Le.tr {h h₁ : Heap} {Z Z₁ : Addr → Prop} (a : Le h Z h₁ Z₁) {v : Value} {d : D} (x : Tr h Z v d) : Tr h₁ Z₁ v d := x.mono a.zz a.keep
theorem Le.trL {h h₁ : Heap} {Z Z₁ : Addr → Prop} (a : Le h Z h₁ Z₁) {v : List Value} {d : List D} (x : TrL h Z v d) : TrL h₁ Z₁ v d := x.mono a.zz a.keep
theorem Ext.le {s s' : Shared} {Z Z' : Addr → Prop} (x : Ext s Z s' Z') : Le s.heap Z s'.heap Z' :=
  ⟨x.zz, fun a o _ e => x.keep a o e, fun a o _ e _ => x.keep a o e, fun a o fs e _ q => (x.znew a q).elim id fun z => by rw [z] at e; cases e⟩
/-- a is the list of a local of the frame's own -/
def OwnA (c : Cx) (ρ : Rho) (h : Heap) (a : Addr) : Prop := ∃ x ds m, ρ.lookup x = some (Bd.own ds) ∧ h.Ns c.L m ∧ (Holds c h m x (.ref a))
theorem ns_unique {h : Heap} {L : Addr} {m m' : Str → Option Value} (a : h.Ns L m) (b : h.Ns L m') : m = m' := by
  obtain ⟨o, es, ep, h1, h2, _, h3⟩ := a
  obtain ⟨o', es', ep', g1, g2, _, g3⟩ := b
  rw [h1] at g1; cases g1; rw [h2] at g2; cases g2
  funext x; rw [← h3, ← g3]
/-- an expression's step: nothing that it finds is changed, but the deck; what is frozen was so, or is new, or was a list of the frame's own -/
structure LeX (c : Cx) (ρ : Rho) (h : Heap) (Z : Addr → Prop) (ρ' : Rho) (h' : Heap) (Z' : Addr → Prop) : Prop where
  sub : ∀ x ds, ρ'.lookup x = some (Bd.own ds) → ρ.lookup x = some (Bd.own ds)
  zz : ∀ a, Z a → Z' a
  keep : ∀ a o, Z a → h.get? a = some o → h'.get? a = some o
  all : ∀ a o, ¬ c.V a → h.get? a = some o → h'.get? a = some o
  fz : ∀ a o, ¬ c.V a → h.get? a = some o → Z' a → Z a ∨ OwnA c ρ h a
theorem LeX.refl (c : Cx) (ρ : Rho) (h : Heap) (Z : Addr → Prop) : LeX c ρ h Z ρ h Z := ⟨fun _ _ x => x, fun _ x => x, fun _ _ _ x => x, fun _ _ _ x => x, fun _ _ _ _ x => .inl x⟩
theorem LeX.tr {c : Cx} {ρ ρ₁ : Rho} {h h₁ : Heap} {Z Z₁ : Addr → Prop} (a : LeX c ρ h Z ρ₁ h₁ Z₁) {v : Value} {d : D} (x : Tr h Z v d) : Tr h₁ Z₁ v d := x.mono a.zz a.keep
theorem LeX.trL {c : Cx} {ρ ρ₁ : Rho} {h h₁ : Heap} {Z Z₁ : Addr → Prop} (a : LeX c ρ h Z ρ₁ h₁ Z₁) {v : List Value} {d : List D} (x : TrL h Z v d) : TrL h₁ Z₁ v d := x.mono a.zz a.keep
theorem Ext.leX {c : Cx} {ρ : Rho} {s s' : Shared} {Z Z' : Addr → Prop} (x : Ext s Z s' Z') : LeX c ρ s.heap Z ρ s'.heap Z' :=
  ⟨fun _ _ e => e, x.zz, fun a o _ e => x.keep a o e, fun a o _ e => x.keep a o e, fun a o _ e q => (x.znew a q).elim .inl fun z => by rw [z] at e; cases e⟩
theorem Ext.refl {s : Shared} {Z : Addr → Prop} (z : ZOk Z s.heap) : Ext s Z s Z := ⟨⟨_, _, rfl⟩, fun _ _ e => e, fun _ x => x, fun _ x => .inl x, z⟩
/-- a step that makes nothing that is kept -/
theorem Ext.of {s : Shared} {Z : Addr → Prop} {h : Heap} {tk : Nat} (z : ZOk Z s.heap) (k : s.heap.StaysIn h) : Ext s Z { s with heap := h, toks := tk } Z :=
  ⟨⟨_, _, rfl⟩, k, fun _ x => x, fun _ x => .inl x, fun a x => stays_some k (z a x)⟩
/-- a new object is kept -/
theorem Ext.new {s : Shared} {Z : Addr → Prop} {h : Heap} {tk : Nat} {a : Addr} (z : ZOk Z s.heap) (k : s.heap.StaysIn h) (hn : s.heap.get? a = none) (hs : (h.get? a).isSome = true) :
    Ext s Z { s with heap := h, toks := tk } (fun b => Z b ∨ b = a) :=
  ⟨⟨_, _, rfl⟩, k, fun _ x => .inl x, fun b x => x.elim .inl fun e => .inr (by rw [e]; exact hn), fun b x => x.elim (fun x => stays_some k (z b x)) fun e => by rw [e]; exact hs⟩

/-- as Ext, but the deck may change -/
structure ExtV (V : Addr → Prop) (s : Shared) (Z : Addr → Prop) (s' : Shared) (Z' : Addr → Prop) : Prop where
  same : ∃ h tk, s' = { s with heap := h, toks := tk }
  keep : ∀ a o, ¬ V a → s.heap.get? a = some o → s'.heap.get? a = some o
  zz : ∀ a, Z a → Z' a
  znew : ∀ a, Z' a → Z a ∨ s.heap.get? a = none
  zok : ∀ a, Z' a → (s'.heap.get? a).isSome = true

section
variable {c : Cx} {ρ : Rho} {Z Z' : Addr → Prop} {s s' : Shared}
theorem BdOk.mono {h h' : Heap} {v : Value} : ∀ {b : Bd} {O : List Addr}, (∀ a, Z a → Z' a) → (∀ a o, Z a → h.get? a = some o → h'.get? a = some o) → (∀ a ∈ O, ∀ o, h.get? a = some o → h'.get? a = some o) →
    BdOk c h Z v b O → BdOk c h' Z' v b O
  | .v _, _, hz, hk, _, ⟨e, x⟩ => ⟨e, x.mono hz hk⟩
  | .own _, _, hz, hk, ho, ⟨a, vs, n, e, ev, g, x⟩ => ⟨a, vs, n, e, ev, ho a (by rw [e]; exact .head _) _ g, x.mono hz hk⟩
  | .deck, _, _, _, _, x => x
theorem Holds.mono {h h' : Heap} {m : Str → Option Value} {x : Str} {v : Value} (hk : ∀ a o w, h.get? a = some o → o.data = .cell w → c.env.cells.lookup x = some a → h'.get? a = some o) : Holds c h m x v → Holds c h' m x v
  | .inl e => .inl e
  | .inr ⟨a, o, h1, h2, h3⟩ => .inr ⟨a, o, h1, hk a o _ h2 h3 h1, h3⟩

theorem some_of {h h' : Heap} {a : Addr} (k : ∀ o, h.get? a = some o → h'.get? a = some o) (e : (h.get? a).isSome = true) : (h'.get? a).isSome = true := by
  obtain ⟨o, q⟩ := Option.isSome_iff_exists.mp e
  rw [k o q]; rfl

theorem St.va (S : St c ρ Z s) : ∀ a, c.V a → (s.heap.get? a).isSome = true := fun a v => by
  obtain ⟨o, ho, _⟩ := S.ok.gv _ a S.g v
  rw [ho]; rfl
theorem St.vnf (S : St c ρ Z s) : ∀ a o fs, c.V a → s.heap.get? a = some o → o.data ≠ .fields fs := fun a o fs v e => by
  obtain ⟨o', ho, h⟩ := S.ok.gv _ a S.g v
  rw [ho] at e; cases e; exact h fs
theorem St.leV (S : St c ρ Z s) (x : ExtV c.V s Z s' Z') : Le s.heap Z s'.heap Z' :=
  ⟨x.zz, fun a o q e => x.keep a o (S.zV a q) e, fun a o fs e f => x.keep a o (fun v => S.vnf a o fs v e f) e, fun a o fs e _ q => (x.znew a q).elim id fun z => by rw [z] at e; cases e⟩
theorem St.leXV (S : St c ρ Z s) (x : ExtV c.V s Z s' Z') : LeX c ρ s.heap Z ρ s'.heap Z' :=
  ⟨fun _ _ e => e, x.zz, fun a o q e => x.keep a o (S.zV a q) e, fun a o v e => x.keep a o v e, fun a o _ e q => (x.znew a q).elim .inl fun z => by rw [z] at e; cases e⟩
theorem St.owned (S : St c ρ Z s) {a : Addr} (x : OwnA c ρ s.heap a) : ∃ vs n, s.heap.get? a = some (listOf vs n) ∧ ¬ Z a ∧ ¬ c.V a := by
  obtain ⟨y, ds, m, h1, h2, h3⟩ := x
  obtain ⟨m', own, l⟩ := S.loc
  obtain ⟨v, g1, a', vs, n, hO, rfl, g2, _⟩ := l.get y _ h1
  cases ns_unique h2 l.ns
  have e : a' = a := by
    rcases h3 with ⟨p1, p2⟩ | ⟨t, o, p1, p2, p3⟩
    · rcases g1 with ⟨_, q2⟩ | ⟨t, o, q1, _⟩
      · rw [p2] at q2; cases q2; rfl
      · rw [p1] at q1; cases q1
    · rcases g1 with ⟨q1, _⟩ | ⟨t', o', q1, q2, q3⟩
      · rw [p1] at q1; cases q1
      · rw [p1] at q1; cases q1; rw [p2] at q2; cases q2; rw [p3] at q3; cases q3; rfl
  subst e
  have := l.off y a' (by rw [hO]; exact .head _)
  exact ⟨_, _, g2, this.1, this.2.2.2.2⟩
theorem St.ofX {ρ' : Rho} (S : St c ρ Z s) {h' : Heap} (x : LeX c ρ s.heap Z ρ' h' Z') : Le s.heap Z h' Z' :=
  ⟨x.zz, x.keep, fun a o fs e f => x.all a o (fun v => S.vnf a o fs v e f) e, fun a o fs e f q => (x.fz a o (fun v => S.vnf a o fs v e f) e q).elim id fun w => by
    obtain ⟨vs, n, g, _⟩ := S.owned w
    rw [e] at g; rw [Option.some.inj g] at f; cases f⟩
theorem LeX.trans {ρ₁ ρ₂ : Rho} {h₁ h₂ : Heap} {Z₁ Z₂ : Addr → Prop} (S : St c ρ Z s) (a : LeX c ρ s.heap Z ρ₁ h₁ Z₁) (b : LeX c ρ₁ h₁ Z₁ ρ₂ h₂ Z₂) : LeX c ρ s.heap Z ρ₂ h₂ Z₂ := by
  refine ⟨fun x ds e => a.sub x ds (b.sub x ds e), fun x q => b.zz x (a.zz x q), fun x o q e => b.keep x o (a.zz x q) (a.keep x o q e), fun x o v e => b.all x o v (a.all x o v e), fun x o v e q => ?_⟩
  rcases b.fz x o v (a.all x o v e) q with q | ⟨y, ds, m, h1, h2, h3⟩
  · exact a.fz x o v e q
  · refine .inr ⟨y, ds, m, a.sub y ds h1, ?_, ?_⟩
    · obtain ⟨m', own, l⟩ := S.loc
      have : h₁.Ns c.L m' := by obtain ⟨oL, es, ep, hL, r⟩ := l.ns; exact ⟨oL, es, ep, a.all _ _ S.ok.vL hL, r⟩
      rw [ns_unique h2 this]; exact l.ns
    · rcases h3 with h3 | ⟨t, ot, p1, p2, p3⟩
      · exact .inl h3
      · obtain ⟨m', own, l⟩ := S.loc
        obtain ⟨_, hv, ⟨o', w', g1, g2⟩, _⟩ := l.cell y t p1
        have := a.all _ _ hv g1
        rw [p2] at this
        exact .inr ⟨t, ot, p1, by rw [g1]; exact this.symm, p3⟩
theorem St.extVL (S : St c ρ Z s) (x : ExtV c.V s Z s' Z') {m : Str → Option Value} {own : Str → List Addr} (l : Loc c ρ Z s.heap m own) : Loc c ρ Z' s'.heap m own := by
  have fr : ∀ a, ¬ Z a → (s.heap.get? a).isSome = true → ¬ Z' a := fun a h1 h2 q => (x.znew a q).elim h1 fun e => by rw [e] at h2; cases h2
  refine ⟨?_, fun y b e => ?_, fun y a ha => ?_, l.apart, l.dom, fun y a e => ?_⟩
  · obtain ⟨o, es, ep, ho, r⟩ := l.ns; exact ⟨o, es, ep, x.keep _ _ S.ok.vL ho, r⟩
  · obtain ⟨v, h1, h2⟩ := l.get y b e
    exact ⟨v, h1.mono fun a o w e1 _ e3 => x.keep a o (l.cell y a e3).2.1 e1, h2.mono x.zz (fun a o q e => x.keep a o (S.zV a q) e) fun a ha o e => x.keep a o (l.off y a ha).2.2.2.2 e⟩
  · obtain ⟨h1, h2, h3, h4, h5⟩ := l.off y a ha
    exact ⟨fr a h1 h4, h2, h3, some_of (fun o => x.keep a o h5) h4, h5⟩
  · obtain ⟨h1, h2, ⟨o, w, h3, h4⟩, h5⟩ := l.cell y a e
    exact ⟨fr a h1 (by rw [h3]; rfl), h2, ⟨o, w, x.keep a o h2 h3, h4⟩, h5⟩
theorem St.extV (S : St c ρ Z s) (x : ExtV c.V s Z s' Z') (hg : c.G s'.heap) : St c ρ Z' s' := by
  obtain ⟨m, own, l⟩ := S.loc
  refine { S with same := ?_, keep := fun a o v e => x.keep a o v (S.keep a o v e), z0 := fun a q => x.zz a (S.z0 a q), znew := fun a q => ?_, zok := x.zok, zL := fun q => ?_, zV := fun a q v => ?_, g := hg, loc := ⟨m, own, S.extVL x l⟩ }
  · obtain ⟨h, t, e⟩ := S.same; obtain ⟨h', t', e'⟩ := x.same; exact ⟨h', t', by rw [e', e]⟩
  · exact (x.znew a q).elim (S.znew a) fun e => by
      by_cases v : c.V a
      · have := S.va a v; rw [e] at this; cases this
      · refine .inr ?_
        cases q0 : c.s0.heap.get? a with
        | none => rfl
        | some o => rw [S.keep a o v q0] at e; cases e
  · rcases x.znew _ q with q | q
    · exact S.zL q
    · have := S.Lalive; rw [q] at this; cases this
  · rcases x.znew a q with q | q
    · exact S.zV a q v
    · have := S.va a v; rw [q] at this; cases this
theorem St.extL (S : St c ρ Z s) (x : Ext s Z s' Z') {m : Str → Option Value} {own : Str → List Addr} (l : Loc c ρ Z s.heap m own) : Loc c ρ Z' s'.heap m own := by
  have fr : ∀ a, ¬ Z a → (s.heap.get? a).isSome = true → ¬ Z' a := fun a h1 h2 q => (x.znew a q).elim h1 fun e => by rw [e] at h2; cases h2
  refine ⟨l.ns.keeps x.keep, fun y b e => ?_, fun y a ha => ?_, l.apart, l.dom, fun y a e => ?_⟩
  · obtain ⟨v, h1, h2⟩ := l.get y b e
    exact ⟨v, h1.mono fun a o w e1 _ e3 => x.keep a o e1, h2.mono x.zz (fun a o q e => x.keep a o e) fun a ha o e => x.keep a o e⟩
  · obtain ⟨h1, h2, h3, h4, h5⟩ := l.off y a ha
    exact ⟨fr a h1 h4, h2, h3, some_of (fun o => x.keep a o) h4, h5⟩
  · obtain ⟨h1, h2, ⟨o, w, h3, h4⟩, h5⟩ := l.cell y a e
    exact ⟨fr a h1 (by rw [h3]; rfl), h2, ⟨o, w, x.keep a o h3, h4⟩, h5⟩
theorem St.ext (S : St c ρ Z s) (x : Ext s Z s' Z') : St c ρ Z' s' := by
  obtain ⟨m, own, l⟩ := S.loc
  refine { S with same := ?_, keep := fun a o v e => x.keep a o (S.keep a o v e), z0 := fun a q => x.zz a (S.z0 a q), znew := fun a q => ?_, zok := x.zok, zL := fun q => ?_, zV := fun a q v => ?_, g := S.ok.gst _ _ S.g fun a v => ?_, loc := ⟨m, own, S.extL x l⟩ }
  · obtain ⟨h, t, e⟩ := S.same; obtain ⟨h', t', e'⟩ := x.same; exact ⟨h', t', by rw [e', e]⟩
  · exact (x.znew a q).elim (S.znew a) fun e => by
      by_cases v : c.V a
      · have := S.va a v; rw [e] at this; cases this
      · refine .inr ?_
        cases q0 : c.s0.heap.get? a with
        | none => rfl
        | some o => rw [S.keep a o v q0] at e; cases e
  · rcases x.znew _ q with q | q
    · exact S.zL q
    · have := S.Lalive; rw [q] at this; cases this
  · rcases x.znew a q with q | q
    · exact S.zV a q v
    · have := S.va a v; rw [q] at this; cases this
  · obtain ⟨o, ho⟩ := Option.isSome_iff_exists.mp (S.va a v)
    rw [ho, x.keep a o ho]
theorem St.weak {ρ' : Rho} (S : St c ρ Z s) (h : ∀ x b, ρ'.lookup x = some b → ρ.lookup x = some b) : St c ρ' Z s := by
  obtain ⟨m, own, l⟩ := S.loc
  refine { S with loc := ⟨m, fun x => if (ρ'.lookup x).isSome then own x else [], l.ns, fun x b e => ?_, fun x a ha => ?_, fun x y a ha hb => ?_, fun x e => by simp [e], l.cell⟩ }
  · have := l.get x b (h x b e)
    simpa [e] using this
  · split at ha
    · exact l.off x a ha
    · cases ha
  · split at ha
    · split at hb
      · exact l.apart x y a ha hb
      · cases hb
    · cases ha
end

/-- an expression's run: from ρ to ρ', the datum fits P -/
structure EvP (c : Cx) (ρ : Rho) (t : Sem Value) (ρ' : Rho) (P : D → Prop) : Prop where
  run : ∀ (s : Shared) (Z : Addr → Prop) (Q E : Value → Shared → Prop), St c ρ Z s → (∀ v s' Z' d, St c ρ' Z' s' → LeX c ρ s.heap Z ρ' s'.heap Z' → Tr s'.heap Z' v d → P d → Q v s') → wpAny (model PP c.w) c.A t Q E s
abbrev Ev (c : Cx) (ρ : Rho) (e : Expr) (ρ' : Rho) (d : D) : Prop := EvP c ρ (eval e c.env) ρ' (· = d)
structure EvL (c : Cx) (ρ : Rho) (es : List Expr) (ρ' : Rho) (ds : List D) : Prop where
  run : ∀ (pos : Pos) (s : Shared) (Z : Addr → Prop) (Q : List Value → Shared → Prop) (E : Value → Shared → Prop), St c ρ Z s → (∀ vs s' Z', St c ρ' Z' s' → LeX c ρ s.heap Z ρ' s'.heap Z' → TrL s'.heap Z' vs ds → Q vs s') →
    wpAny (model PP c.w) c.A (spliced (backTo pos (starEach es c.env))) Q E s
/-- a test's run -/
structure EvT (c : Cx) (ρ : Rho) (e : Expr) (ρ' : Rho) (b : Bool) : Prop where
  run : ∀ (s : Shared) (Z : Addr → Prop) (Q : Bool → Shared → Prop) (E : Value → Shared → Prop), St c ρ Z s → (∀ s' Z', St c ρ' Z' s' → LeX c ρ s.heap Z ρ' s'.heap Z' → Q b s') → wpAny (model PP c.w) c.A (isTrue e c.env (eval e c.env)) Q E s
inductive Out where
  | next | brk | cont
  | ret (d : D)

def FlowIs (h : Heap) (Z : Addr → Prop) : Out → Flow → Prop
  | .next, f => f = .next
  | .brk, f => f = .brk
  | .cont, f => f = .cont
  | .ret d, f => ∃ v, f = .ret v ∧ Tr h Z v d

/-- a statement's run, by the ways that it may end -/
structure Ex (c : Cx) (ρ : Rho) (t : Sem Flow) (P : Out → Rho → Prop) : Prop where
  run : ∀ (s : Shared) (Z : Addr → Prop) (Q : Flow → Shared → Prop) (E : Value → Shared → Prop), St c ρ Z s → (∀ o ρ' f s' Z', P o ρ' → St c ρ' Z' s' → Le s.heap Z s'.heap Z' → FlowIs s'.heap Z' o f → Q f s') → wpAny (model PP c.w) c.A t Q E s
abbrev Ex1 (c : Cx) (ρ : Rho) (st : Stmt) (ρ' : Rho) : Prop := Ex c ρ (exec st c.env) fun o r => o = .next ∧ r = ρ'
abbrev Exs (c : Cx) (ρ : Rho) (sts : List Stmt) (P : Out → Rho → Prop) : Prop := Ex c ρ (execs sts c.env) P
end
section
section
variable {c : Cx} {ρ ρ₁ ρ₂ ρ₃ : Rho} {x : Str} {pos : Pos} {d : D}

theorem St.rdy {Z : Addr → Prop} {s : Shared} (S : St c ρ Z s) {n : Nat} (hn : n ≤ c.n) : Rdy c.w c.A n s Z := ⟨⟨_, S.stk.less hn, S.zfr⟩, S.zok⟩

/-- a step of one's own that keeps all: from Do -/
theorem EvP.of_do {t : Sem Value} {P : D → Prop} (h : ∀ s Z, St c ρ Z s → Do c.w c.A s Z t P) : EvP c ρ t ρ P := .mk fun s Z Q E S k =>
  h s Z S Q E fun v s' Z' d x y z => k v s' Z' d (S.ext x) x.leX y z


theorem EvP.weak {t : Sem Value} {P P' : D → Prop} (h : EvP c ρ t ρ₁ P) (k : ∀ d, P d → P' d) : EvP c ρ t ρ₁ P' := .mk fun s Z Q E S q => h.run s Z Q E S fun v s' Z' d a b e p => q v s' Z' d a b e (k d p)

/-- local names -/
theorem ev_local (hl : ρ.lookup x = some (.v d)) (hk : c.env.kindOf x = some .local) (hc : c.env.cells.lookup x = none) (hd : (x == ("__debug__" : Str)) = false) : Ev c ρ (.Name x pos) ρ d := .mk fun s Z Q E S k => by
  obtain ⟨m, own, l⟩ := S.loc
  obtain ⟨v, h1, _, h2⟩ := l.get x _ hl
  rcases h1 with ⟨_, h1⟩ | ⟨a, o, h1, _⟩
  · exact wpAny_Name (wpAny_loadName_local S.kind hk l.ns h1 (k v s Z d S (LeX.refl _ _ _ _) h2 rfl)) hd
  · rw [hc] at h1; cases h1
theorem ev_cell (hl : ρ.lookup x = some (.v d)) (hk : c.env.kindOf x = some .cell) (hc : (c.env.cells.lookup x).isSome = true) (hd : (x == ("__debug__" : Str)) = false) : Ev c ρ (.Name x pos) ρ d := .mk fun s Z Q E S k => by
  obtain ⟨m, own, l⟩ := S.loc
  obtain ⟨v, h1, _, h2⟩ := l.get x _ hl
  rcases h1 with ⟨h1, _⟩ | ⟨a, o, h1, h3, h4⟩
  · rw [h1] at hc; cases hc
  · exact wpAny_Name (wpAny_loadName_cell S.kind hk h1 ⟨o, h3, h4⟩ (k v s Z d S (LeX.refl _ _ _ _) h2 rfl)) hd

/-- a list of the frame's own is handed on: it is frozen -/
theorem ev_own {ds : List D} (hl : ρ.lookup x = some (.own ds)) (hk : c.env.kindOf x = some .local) (hc : c.env.cells.lookup x = none) (hd : (x == ("__debug__" : Str)) = false) : Ev c ρ (.Name x pos) ((x, .v (.list ds)) :: ρ) (.list ds) := .mk fun s Z Q E S k => by
  obtain ⟨m, own, l⟩ := S.loc
  obtain ⟨v, h1, a, vs, n, hO, rfl, hg, ht⟩ := l.get x _ hl
  have hax := l.off x a (by rw [hO]; exact .head _)
  have hsub : ∀ y es, List.lookup y ((x, Bd.v (.list ds)) :: ρ) = some (Bd.own es) → ρ.lookup y = some (Bd.own es) := fun y es e => by
    rw [List.lookup_cons] at e
    cases hy : (y == x) with
    | true => rw [hy] at e; cases e
    | false => rw [hy] at e; exact e
  have hle : LeX c ρ s.heap Z ((x, Bd.v (.list ds)) :: ρ) s.heap (fun b => Z b ∨ b = a) := ⟨hsub, fun _ q => .inl q, fun _ _ _ e => e, fun _ _ _ e => e, fun b o _ e q => q.elim .inl fun z => .inr ⟨x, ds, m, hl, l.ns, by rw [z]; exact h1⟩⟩
  have htr : Tr s.heap (fun b => Z b ∨ b = a) (.ref a) (.list ds) := .list (.inr rfl) ⟨_, hg, rfl, n, rfl⟩ (hle.trL ht)
  have hne : ∀ y b, c.env.cells.lookup y = some b → b ≠ a := fun y b e q => by
    obtain ⟨_, _, ⟨o, w, g1, g2⟩, _⟩ := l.cell y b e
    rw [q, hg] at g1; rw [← Option.some.inj g1] at g2; cases g2
  have h1' : m x = some (.ref a) := by
    rcases h1 with ⟨_, h1⟩ | ⟨b, o, h1, _⟩
    · exact h1
    · rw [hc] at h1; cases h1
  refine wpAny_Name (wpAny_loadName_local S.kind hk l.ns h1' (k _ s _ _ ?_ hle htr rfl)) hd
  refine { S with z0 := fun b q => .inl (S.z0 b q), znew := fun b q => q.elim (S.znew b) fun e => .inr (by rw [e]; exact hax.2.2.1), zok := fun b q => q.elim (S.zok b) fun e => by rw [e]; exact hax.2.2.2.1, zL := fun q => q.elim S.zL fun e => hax.2.1 e.symm, zV := fun b q v => q.elim (fun q => S.zV b q v) fun e => hax.2.2.2.2 (e ▸ v), loc := ⟨m, fun y => if y = x then [] else own y, l.ns, fun y b e => ?_, fun y b hb => ?_, fun y z b hb hc => ?_, fun y e => ?_, fun y b e => ?_⟩ }
  · by_cases hy : y = x
    · subst hy
      simp only [List.lookup_cons, beq_self_eq_true, Option.some.injEq] at e
      subst e
      exact ⟨_, h1, by simp, htr⟩
    · rw [List.lookup_cons, show (y == x) = false by simpa using hy] at e
      obtain ⟨v', g1, g2⟩ := l.get y b e
      refine ⟨v', g1, ?_⟩
      rw [if_neg hy]
      exact g2.mono hle.zz hle.keep fun _ _ _ q => q
  · by_cases hy : y = x
    · rw [if_pos hy] at hb; cases hb
    · rw [if_neg hy] at hb
      obtain ⟨g1, g2⟩ := l.off y b hb
      exact ⟨fun q => q.elim g1 fun e => hy (l.apart y x b hb (by rw [hO, e]; exact .head _)), g2⟩
  · by_cases hy : y = x
    · rw [if_pos hy] at hb; cases hb
    · by_cases hz : z = x
      · rw [if_pos hz] at hc; cases hc
      · rw [if_neg hy] at hb; rw [if_neg hz] at hc; exact l.apart y z b hb hc
  · by_cases hy : y = x
    · rw [if_pos hy]
    · rw [List.lookup_cons, show (y == x) = false by simpa using hy] at e
      rw [if_neg hy]; exact l.dom y e
  · obtain ⟨g1, g2⟩ := l.cell y b e
    exact ⟨fun q => q.elim g1 (hne y b e), g2⟩

theorem St.le_of {Z : Addr → Prop} {s : Shared} (_ : St c ρ Z s) : LeX c ρ s.heap Z ρ s.heap Z := LeX.refl _ _ _ _


theorem do_const {w : World} {A : Around} {s : Shared} {Z : Addr → Prop} {t : Sem Value} {d : D} (z : ZOk Z s.heap) (h : ∀ (Q E : Value → Shared → Prop), (∀ v tk, Tr s.heap Z v d → Q v { s with toks := tk }) → wpAny (model PP w) A t Q E s) : Do w A s Z t (· = d) := fun Q E k =>
  h Q E fun v tk x => k v _ Z d (Ext.of z fun _ _ e => e) x rfl

theorem ev_int {i : Int} {k : Nat} : Ev c ρ (.Constant (.int i) k pos) ρ (.int i) := EvP.of_do fun s Z S => do_const S.zok fun Q E k => wpAny_Constant_int (k _ _ (.int _ _))
theorem ev_str {y : Str} {k : Nat} {l : List Nat} (e : y.cps.toList = l) : Ev c ρ (.Constant (.str y) k pos) ρ (.str l) := EvP.of_do fun s Z S => do_const S.zok fun Q E k => Calls.Constant_str (k _ _ (.str _ _ e))
theorem ev_bytes {y : List UInt8} {k : Nat} {l : List Nat} (e : y.map UInt8.toNat = l) : Ev c ρ (.Constant (.bytes y) k pos) ρ (.bytes l) := EvP.of_do fun s Z S => do_const S.zok fun Q E k => by
  show wpAny _ _ (mkTextBytes y.toArray) Q E s
  unfold mkTextBytes
  exact wpAny_bind (wpAny_fresh (wpAny_pure (k _ _ (.bytes _ _ (by simpa [bN] using e)))))
theorem ev_none {k : Nat} : Ev c ρ (.Constant .none k pos) ρ .none := EvP.of_do fun s Z S => do_const S.zok fun Q E k => (show wpAny _ _ (pure Value.none) Q E s from wpAny_pure (k _ s.toks .none))
theorem ev_bool {b : Bool} {k : Nat} : Ev c ρ (.Constant (.bool b) k pos) ρ (.bool b) := EvP.of_do fun s Z S => do_const S.zok fun Q E k => (show wpAny _ _ (pure (Value.bool b)) Q E s from wpAny_pure (k _ s.toks (.bool b)))

/-- a name of the text's top -/
theorem name_glob {v : Value} {s : Shared} {Z : Addr → Prop} {Q E : Value → Shared → Prop} (S : St c ρ Z s) (e : nsIn (KF c.w) mainGlobals x = some (some v)) (hk : c.env.kindOf x = some .globalImplicit) (hd : (x == ("__debug__" : Str)) = false) (h : Q v s) :
    wpAny (model PP c.w) c.A (eval (.Name x pos) c.env) Q E s := by
  obtain ⟨mg, mb, T⟩ := S.stk.top
  exact Name_function_global S.kind hk (loadGlobal_global (env := c.env) (by rw [S.ok.glob]; exact T.g) (mg_of S.stk.K T.g e) h) hd
theorem name_boot {v : Value} {s : Shared} {Z : Addr → Prop} {Q E : Value → Shared → Prop} (S : St c ρ Z s) (e : nsIn (KF c.w) mainGlobals x = some none) (hv : bootBuiltins x = some v) (hn : x ≠ "__name__") (hk : c.env.kindOf x = some .globalImplicit) (hd : (x == ("__debug__" : Str)) = false) (h : Q v s) :
    wpAny (model PP c.w) c.A (eval (.Name x pos) c.env) Q E s := by
  obtain ⟨mg, mb, T⟩ := S.stk.top
  exact Name_function_global S.kind hk (loadGlobal_builtin (env := c.env) (by rw [S.ok.glob]; exact T.g) (mg_none_of S.stk.K T.g e) (by rw [S.ok.blt]; exact T.b) ((T.builtins x hn).trans hv) h) hd
theorem ev_glob {v : Value} (e : ∀ w, nsIn (KF w) mainGlobals x = some (some v)) (hv : ∀ h Z, Tr h Z v d) (hk : c.env.kindOf x = some .globalImplicit) (hd : (x == ("__debug__" : Str)) = false) : Ev c ρ (.Name x pos) ρ d := .mk fun s Z Q E S k =>
  name_glob S (e _) hk hd (k _ _ _ _ S S.le_of (hv _ _) rfl)

/-- lists of arguments -/
theorem evl_nil : EvL c ρ [] ρ [] := .mk fun pos s Z Q E S k => spliced_none (k _ _ _ S S.le_of .nil)
theorem evl_cons {e : Expr} {es : List Expr} {ds : List D} (h : Ev c ρ e ρ₁ d) (r : EvL c ρ₁ es ρ₂ ds) (he : starEach (e :: es) c.env = (false, eval e c.env) :: starEach es c.env) : EvL c ρ (e :: es) ρ₂ (d :: ds) := .mk fun pos s Z Q E S k =>
  spliced_more (h.run s Z _ E S fun v s₁ Z₁ d' S₁ l₁ t₁ hd => r.run pos s₁ Z₁ _ E S₁ fun vs s₂ Z₂ S₂ l₂ t₂ => k _ _ _ S₂ (LeX.trans S l₁ l₂) (.cons (l₂.tr (hd ▸ t₁)) t₂)) he
end
end
section
section
variable {c : Cx} {ρ ρ₁ ρ₂ ρ₃ : Rho} {x : Str} {pos : Pos} {d d₁ d₂ : D} {P : D → Prop} {n : Nat}

theorem EvL.cast {es : List Expr} {ds ds' : List D} (h : EvL c ρ es ρ₁ ds) (e : ds = ds') : EvL c ρ es ρ₁ ds' := e ▸ h

/-- the rest of a step: an operation that keeps all -/
theorem fin_op {t : Sem Value} {ρ₀ : Rho} {s s₀ : Shared} {Z Z₀ : Addr → Prop} {Q E : Value → Shared → Prop} (S₀ : St c ρ₀ Z₀ s₀) (S : St c ρ Z s) (l : LeX c ρ₀ s₀.heap Z₀ ρ s.heap Z) (h : Do c.w c.A s Z t P)
    (k : ∀ v s' Z' d, St c ρ Z' s' → LeX c ρ₀ s₀.heap Z₀ ρ s'.heap Z' → Tr s'.heap Z' v d → P d → Q v s') : wpAny (model PP c.w) c.A t Q E s :=
  h Q E fun v s' Z' d x y z => k v s' Z' d (S.ext x) (LeX.trans S₀ l x.leX) y z

theorem ev_bin {l r : Expr} {op : Operator} (h₁ : Ev c ρ l ρ₁ d₁) (h₂ : Ev c ρ₁ r ρ₂ d₂) (o : Op2 (binaryOp op) n d₁ d₂ P) (hn : n ≤ c.n := by exact Nat.le_of_ble_eq_true rfl) : EvP c ρ (eval (.BinOp l op r pos) c.env) ρ₂ P := .mk fun s Z Q E S k =>
  wpAny_BinOp (h₁.run s Z _ E S fun a s₁ Z₁ _ S₁ l₁ t₁ e₁ => h₂.run s₁ Z₁ _ E S₁ fun b s₂ Z₂ _ S₂ l₂ t₂ e₂ =>
    fin_op S S₂ (LeX.trans S l₁ l₂) (o.run _ _ s₂ Z₂ a b (S₂.rdy hn) (l₂.tr (e₁ ▸ t₁)) (e₂ ▸ t₂)) k)
theorem ev_sub {v i : Expr} (h₁ : Ev c ρ v ρ₁ d₁) (h₂ : Ev c ρ₁ i ρ₂ d₂) (o : Op2 (subscriptTail v i) n d₁ d₂ P) (hn : n ≤ c.n := by exact Nat.le_of_ble_eq_true rfl) : EvP c ρ (eval (.Subscript v i pos) c.env) ρ₂ P := .mk fun s Z Q E S k =>
  Subscript_ (h₁.run s Z _ E S fun a s₁ Z₁ _ S₁ l₁ t₁ e₁ => h₂.run s₁ Z₁ _ E S₁ fun b s₂ Z₂ _ S₂ l₂ t₂ e₂ =>
    fin_op S S₂ (LeX.trans S l₁ l₂) (o.run _ _ s₂ Z₂ a b (S₂.rdy hn) (l₂.tr (e₁ ▸ t₁)) (e₂ ▸ t₂)) k)

/-- new lists and tuples -/
theorem new_seq {s : Shared} {Z : Addr → Prop} {o : Obj} (z : ZOk Z s.heap) (hf : o.isFreed = false) : Ext s Z { s with heap := s.heap.push o } (fun b => Z b ∨ b = s.heap.objs.size) :=
  Ext.new (tk := s.toks) z (fun a o e => Heap.get?_push_of_some _ e) (get_size _) (by rw [Heap.get?_push_size _ hf]; rfl)
theorem ev_list {es : List Expr} {ds : List D} (h : EvL c ρ es ρ₁ ds) (hz : ds.length ≤ sizeLine) : Ev c ρ (.List es pos) ρ₁ (.list ds) := .mk fun s Z Q E S k =>
  List_ (h.run pos s Z _ E S fun vs s₁ Z₁ S₁ l₁ t₁ => wpAny_newList (by
    have X := new_seq (o := { cls := .type "list", data := .seq vs.toArray }) S₁.zok rfl
    exact k _ _ _ _ (S₁.ext X) (LeX.trans S l₁ X.leX) (.list (.inr rfl) ⟨_, Heap.get?_push_size _ rfl, rfl, 0, rfl⟩ (X.le.trL t₁)) rfl) (by rw [t₁.length]; exact hz))
theorem ev_tup {es : List Expr} {ds : List D} {k' : Nat} (h : EvL c ρ es ρ₁ ds) (hz : ds.length ≤ sizeLine) : Ev c ρ (.Tuple es k' pos) ρ₁ (.tup ds) := .mk fun s Z Q E S k =>
  Tuple_ (h.run pos s Z _ E S fun vs s₁ Z₁ S₁ l₁ t₁ => wpAny_newTuple (by
    have X := new_seq (o := { cls := .type "tuple", data := .seq vs.toArray }) S₁.zok rfl
    exact k _ _ _ _ (S₁.ext X) (LeX.trans S l₁ X.leX) (.tup (.inr rfl) ⟨_, Heap.get?_push_size _ rfl, rfl, 0, rfl⟩ (X.le.trL t₁)) rfl) (by rw [t₁.length]; exact hz))

/-- calls -/
theorem ev_call_fn {f : Str} {p : Pos} {a : Addr} {e : Expr} {es : List Expr} {ds : List D} (hf : ∀ w, nsIn (KF w) mainGlobals f = some (some (.ref a))) (hkeep : ∀ w, keepIn (KF w) (.ref a) = true) (hk : c.env.kindOf f = some .globalImplicit)
    (h : EvL c ρ (e :: es) ρ₁ ds) (o : OpC (.ref a) n ds P)
    (hd : (f == ("__debug__" : Str)) = false) (he : starEach (e :: es) c.env = (false, eval e c.env) :: starEach es c.env) (hp : (backTo pos (starEach es c.env)).any (·.1) = false)
    (h1 : eval (.Call (.Name f p) (e :: es) [] pos) c.env = (do callWith pos (← eval (.Name f p) c.env) [] (backTo pos (starEach (e :: es) c.env)) (backToKw pos (keywordEach [] c.env)))) (hn : n ≤ c.n := by exact Nat.le_of_ble_eq_true rfl) :
    EvP c ρ (eval (.Call (.Name f p) (e :: es) [] pos) c.env) ρ₁ P := .mk fun s Z Q E S k =>
  Call_ (name_glob S (hf _) hk hd (callWith_K (K := KF c.w) (h₀ := s.heap) S.stk.K (hkeep _) (h.run pos s Z _ E S fun vs s₁ Z₁ S₁ l₁ t₁ => ⟨S₁.stk.K, fin_op S S₁ l₁ (by simpa using o.run _ _ s₁ Z₁ vs (S₁.rdy hn) t₁) k⟩) he hp)) h1
theorem ev_call_bi {f : Str} {p : Pos} {id : String} {e : Expr} {es : List Expr} {ds : List D} (hf : ∀ w, nsIn (KF w) mainGlobals f = some none) (hb : bootBuiltins f = some (.builtin id)) (hnn : f ≠ "__name__") (hk : c.env.kindOf f = some .globalImplicit)
    (h : EvL c ρ (e :: es) ρ₁ ds) (o : OpC (.builtin id) n ds P)
    (hd : (f == ("__debug__" : Str)) = false) (he : starEach (e :: es) c.env = (false, eval e c.env) :: starEach es c.env) (hp : (backTo pos (starEach es c.env)).any (·.1) = false)
    (h1 : eval (.Call (.Name f p) (e :: es) [] pos) c.env = (do callWith pos (← eval (.Name f p) c.env) [] (backTo pos (starEach (e :: es) c.env)) (backToKw pos (keywordEach [] c.env)))) (hn : n ≤ c.n := by exact Nat.le_of_ble_eq_true rfl) :
    EvP c ρ (eval (.Call (.Name f p) (e :: es) [] pos) c.env) ρ₁ P := .mk fun s Z Q E S k =>
  Call_ (name_boot S (hf _) hb hnn hk hd (PyProof.Rows.callWith_builtin1 (h.run pos s Z _ E S fun vs s₁ Z₁ S₁ l₁ t₁ => fin_op S S₁ l₁ (o.run _ _ s₁ Z₁ vs (S₁.rdy hn) t₁) k) he hp)) h1
theorem ev_call_ty {f : Str} {p : Pos} {id : String} {e : Expr} {es : List Expr} {ds : List D} (hf : ∀ w, nsIn (KF w) mainGlobals f = some none) (hb : bootBuiltins f = some (.type id)) (hnn : f ≠ "__name__") (hk : c.env.kindOf f = some .globalImplicit)
    (h : EvL c ρ (e :: es) ρ₁ ds) (o : OpC (.type id) n ds P)
    (hd : (f == ("__debug__" : Str)) = false) (he : starEach (e :: es) c.env = (false, eval e c.env) :: starEach es c.env) (hp : (backTo pos (starEach es c.env)).any (·.1) = false)
    (h1 : eval (.Call (.Name f p) (e :: es) [] pos) c.env = (do callWith pos (← eval (.Name f p) c.env) [] (backTo pos (starEach (e :: es) c.env)) (backToKw pos (keywordEach [] c.env)))) (hn : n ≤ c.n := by exact Nat.le_of_ble_eq_true rfl) :
    EvP c ρ (eval (.Call (.Name f p) (e :: es) [] pos) c.env) ρ₁ P := .mk fun s Z Q E S k =>
  Call_ (name_boot S (hf _) hb hnn hk hd (PyProof.Rows.callWith_type1 (h.run pos s Z _ E S fun vs s₁ Z₁ S₁ l₁ t₁ => fin_op S S₁ l₁ (o.run _ _ s₁ Z₁ vs (S₁.rdy hn) t₁) k) he hp)) h1
/-- a method of a built-in kind: getMethod gives the built-in and the object -/
def Meth (d : D) (name : Str) (id : String) : Prop := ∀ (w : World) (A : Around) (s : Shared) (Z : Addr → Prop) (v : Value) (pl : Sem Bool) (Q : Value × List Value → Shared → Prop) (E : Value → Shared → Prop), Tr s.heap Z v d → Q (.builtin id, [v]) s → wpAny (model PP w) A (getMethod v name pl) Q E s
theorem ev_meth {o e : Expr} {name : Str} {apos : Pos} {id : String} {es : List Expr} {ds : List D} {pl : Sem Bool} (h₀ : Ev c ρ o ρ₁ d) (m : Meth d name id) (h : EvL c ρ₁ (e :: es) ρ₂ ds) (f : OpC (.builtin id) n (d :: ds) P)
    (he : starEach (e :: es) c.env = (false, eval e c.env) :: starEach es c.env) (hp : (backTo pos (starEach es c.env)).any (·.1) = false)
    (h1 : eval (.Call (.Attribute o name apos) (e :: es) [] pos) c.env = (do let ov ← eval o c.env; standAt apos.atName; let (f, first) ← holding [ov] (getMethod ov name pl); callWith pos f first (backTo pos (starEach (e :: es) c.env)) [])) (hn : n ≤ c.n := by exact Nat.le_of_ble_eq_true rfl) :
    EvP c ρ (eval (.Call (.Attribute o name apos) (e :: es) [] pos) c.env) ρ₂ P := .mk fun s Z Q E S k =>
  MethodCall_ (pl := pl) (h₀.run s Z _ E S fun v s₁ Z₁ _ S₁ l₁ t₁ e₁ => m _ _ s₁ Z₁ v _ _ E (e₁ ▸ t₁) (callWith_method1 (h.run pos s₁ Z₁ _ E S₁ fun vs s₂ Z₂ S₂ l₂ t₂ =>
    fin_op S S₂ (LeX.trans S l₁ l₂) (f.run _ _ s₂ Z₂ (v :: vs) (S₂.rdy hn) (.cons (l₂.tr (e₁ ▸ t₁)) t₂)) k) he hp)) h1

/-- tests -/
theorem evt_cmp {l r : Expr} {op : CmpOp} {b : Bool} (h₁ : Ev c ρ l ρ₁ d₁) (h₂ : Ev c ρ₁ r ρ₂ d₂) (o : Op2 (compareOp op) n d₁ d₂ (· = .bool b)) (hm : behindInMarks op r = false) (hn : n ≤ c.n := by exact Nat.le_of_ble_eq_true rfl) : EvT c ρ (.Compare l [op] [r] pos) ρ₂ b := .mk fun s Z Q E S k =>
  wpAny_isTrue_Compare1 (h₁.run s Z _ E S fun a s₁ Z₁ _ S₁ l₁ t₁ e₁ => h₂.run s₁ Z₁ _ E S₁ fun b' s₂ Z₂ _ S₂ l₂ t₂ e₂ =>
    fin_op S S₂ (LeX.trans S l₁ l₂) (o.run _ _ s₂ Z₂ a b' (S₂.rdy hn) (l₂.tr (e₁ ▸ t₁)) (e₂ ▸ t₂)) fun v s' Z' d S' l' t' e' => by
      subst e'
      cases t' using Tr.boolC
      exact wpAny_truthy_bool (k _ _ S' l')) hm
theorem evt_not {e : Expr} {b : Bool} (h : EvT c ρ e ρ₁ b) : EvT c ρ (.UnaryOp .Not e pos) ρ₁ (!b) := .mk fun s Z Q E S k => isTrue_not (h.run s Z _ E S k)
theorem evt_and_f {e : Expr} {es : List Expr} (h : EvT c ρ e ρ₁ false) : EvT c ρ (.BoolOp .And (e :: es) pos) ρ₁ false := .mk fun s Z Q E S k =>
  isTrue_and (h.run s Z _ E S fun s₁ Z₁ S₁ l₁ => by simpa using k s₁ Z₁ S₁ l₁)
theorem evt_or_f {e : Expr} {es : List Expr} {b : Bool} (h : EvT c ρ e ρ₁ false) (r : EvT c ρ₁ (.BoolOp .Or es pos) ρ₂ b) : EvT c ρ (.BoolOp .Or (e :: es) pos) ρ₂ b := .mk fun s Z Q E S k =>
  isTrue_or (h.run s Z _ E S fun s₁ Z₁ S₁ l₁ => by rw [if_neg Bool.false_ne_true]; exact r.run s₁ Z₁ Q E S₁ fun s₂ Z₂ S₂ l₂ => k s₂ Z₂ S₂ (LeX.trans S l₁ l₂))
theorem evt_or_t {e : Expr} {es : List Expr} (h : EvT c ρ e ρ₁ true) : EvT c ρ (.BoolOp .Or (e :: es) pos) ρ₁ true := .mk fun s Z Q E S k =>
  isTrue_or (h.run s Z _ E S fun s₁ Z₁ S₁ l₁ => by simpa using k s₁ Z₁ S₁ l₁)
theorem evt_or_nil : EvT c ρ (.BoolOp .Or [] pos) ρ false := .mk fun s Z Q E S k => isTrue_or_nil (k s Z S S.le_of)
/-- a call that gives a bool, as a test -/
theorem evt_plain {e : Expr} {b : Bool} (h : Ev c ρ e ρ₁ (.bool b)) (he : isTrue e c.env (eval e c.env) = (do let v ← eval e c.env; standAt e.pos; holding [v] (truthy v))) : EvT c ρ e ρ₁ b := .mk fun s Z Q E S k =>
  isTrue_plain (h.run s Z _ E S fun v s₁ Z₁ d S₁ l₁ t₁ e₁ => by
    subst e₁
    cases t₁ using Tr.boolC
    exact wpAny_truthy_bool (k _ _ S₁ l₁)) he
theorem ev_if_t {t a b : Expr} (h : EvT c ρ t ρ₁ true) (r : EvP c ρ₁ (eval a c.env) ρ₂ P) : EvP c ρ (eval (.IfExp t a b pos) c.env) ρ₂ P := .mk fun s Z Q E S k =>
  wpAny_IfExp (h.run s Z _ E S fun s₁ Z₁ S₁ l₁ => by simpa using r.run s₁ Z₁ Q E S₁ fun v s₂ Z₂ d S₂ l₂ => k v s₂ Z₂ d S₂ (LeX.trans S l₁ l₂))
theorem ev_if_f {t a b : Expr} (h : EvT c ρ t ρ₁ false) (r : EvP c ρ₁ (eval b c.env) ρ₂ P) : EvP c ρ (eval (.IfExp t a b pos) c.env) ρ₂ P := .mk fun s Z Q E S k =>
  wpAny_IfExp (h.run s Z _ E S fun s₁ Z₁ S₁ l₁ => by simpa using r.run s₁ Z₁ Q E S₁ fun v s₂ Z₂ d S₂ l₂ => k v s₂ Z₂ d S₂ (LeX.trans S l₁ l₂))
end
end
section
section
variable {c : Cx} {ρ ρ₁ ρ₂ ρ₃ : Rho} {x : Str} {pos : Pos} {d d₁ d₂ : D} {n : Nat} {Z : Addr → Prop} {s : Shared}

/-- one object changes: no data, no object of fields, not the deck, not an old one -/
theorem St.upd {ρ' : Rho} {t : Addr} {h' : Heap} {tk : Nat} (S : St c ρ Z s) (hs : Heap.SameBut t s.heap h') (hz : ¬ Z t) (h0 : c.s0.heap.get? t = none) (hv : ¬ c.V t)
    (hl : ∃ m own, Loc c ρ' Z h' m own) : St c ρ' Z { s with heap := h', toks := tk } := by
  refine { S with same := ?_, keep := fun a o v e => (hs.2 a fun q => by rw [q, h0] at e; cases e).trans (S.keep a o v e), zok := fun a q => by rw [hs.2 a fun e => hz (e ▸ q)]; exact S.zok a q, g := S.ok.gst _ _ S.g fun a v => hs.2 a fun q => hv (q ▸ v), loc := hl }
  obtain ⟨h, t, e⟩ := S.same; exact ⟨h', tk, by rw [e]⟩

theorem le_upd {h h' : Heap} {t : Addr} {Z : Addr → Prop} {o : Obj} (hs : Heap.SameBut t h h') (hz : ¬ Z t) (ho : h.get? t = some o) (hf : ∀ fs, o.data ≠ .fields fs) : Le h Z h' Z :=
  ⟨fun _ q => q, fun a o q e => (hs.2 a fun z => hz (z ▸ q)).trans e, fun a o' fs e f => (hs.2 a fun z => by rw [z, ho] at e; rw [← Option.some.inj e] at f; exact hf fs f).trans e, fun _ _ _ _ _ q => q⟩

/-- what the frame holds, behind a change at t: the name x is new -/
theorem Loc.put {h h' : Heap} {m m' : Str → Option Value} {own : Str → List Addr} {t : Addr} {b : Bd} {O : List Addr} {v : Value} (l : Loc c ρ Z h m own) (hs : Heap.SameBut t h h') (hn : h'.Ns c.L m') (hz : ¬ Z t)
    (hx : Holds c h' m' x v) (hy : ∀ y, y ≠ x → ∀ u, Holds c h m y u → Holds c h' m' y u) (hb : BdOk c h' Z v b O) (hal : (h.get? t).isSome = true → (h'.get? t).isSome = true)
    (ho : ∀ a ∈ O, ¬ Z a ∧ a ≠ c.L ∧ c.s0.heap.get? a = none ∧ (h'.get? a).isSome = true ∧ ¬ c.V a) (hO : ∀ a ∈ O, ∀ y, y ≠ x → a ∉ own y)
    (hto : ∀ y, y ≠ x → t ∉ own y) (hcell : ∀ y o w, c.env.cells.lookup y = some t → h.get? t = some o → o.data = .cell w → ∃ o' w', h'.get? t = some o' ∧ o'.data = .cell w') :
    Loc c ((x, b) :: ρ) Z h' m' (fun y => if y = x then O else own y) := by
  have al : ∀ a, (h.get? a).isSome = true → (h'.get? a).isSome = true := fun a e => by
    by_cases q : a = t
    · rw [q] at e ⊢; exact hal e
    · rw [hs.2 a q]; exact e
  refine ⟨hn, fun y b' e => ?_, fun y a ha => ?_, fun y z a ha hz => ?_, fun y e => ?_, fun y a e => ?_⟩
  · by_cases hy' : y = x
    · subst hy'
      simp only [List.lookup_cons, beq_self_eq_true, Option.some.injEq] at e
      subst e
      exact ⟨v, hx, by simpa using hb⟩
    · rw [List.lookup_cons, show (y == x) = false by simpa using hy'] at e
      obtain ⟨v', g1, g2⟩ := l.get y b' e
      refine ⟨v', hy y hy' v' g1, ?_⟩
      rw [if_neg hy']
      exact g2.mono (fun _ q => q) (fun a o q e => (hs.2 a fun z => hz (z ▸ q)).trans e) fun a ha o e => (hs.2 a fun z => hto y hy' (z ▸ ha)).trans e
  · by_cases hy' : y = x
    · rw [if_pos hy'] at ha
      exact ho a ha
    · rw [if_neg hy'] at ha
      obtain ⟨h1, h2, h3, h4, h5⟩ := l.off y a ha
      exact ⟨h1, h2, h3, al a h4, h5⟩
  · by_cases hy' : y = x
    · by_cases hz' : z = x
      · rw [hy', hz']
      · rw [if_pos hy'] at ha; rw [if_neg hz'] at hz
        exact absurd hz (hO a ha z hz')
    · by_cases hz' : z = x
      · rw [if_neg hy'] at ha; rw [if_pos hz'] at hz
        exact absurd ha (hO a hz y hy')
      · rw [if_neg hy'] at ha; rw [if_neg hz'] at hz; exact l.apart y z a ha hz
  · by_cases hy' : y = x
    · subst hy'; simp at e
    · rw [List.lookup_cons, show (y == x) = false by simpa using hy'] at e
      rw [if_neg hy']; exact l.dom y e
  · obtain ⟨h1, h2, ⟨o, w, h3, h4⟩, h5⟩ := l.cell y a e
    refine ⟨h1, h2, ?_, h5⟩
    by_cases q : a = t
    · subst q; exact hcell y o w e h3 h4
    · exact ⟨o, w, (hs.2 a q).trans h3, h4⟩

theorem Loc.own_ne {h : Heap} {m : Str → Option Value} {own : Str → List Addr} (l : Loc c ρ Z h m own) {y : Str} {a : Addr} (ha : a ∈ own y) {o : Obj} (ho : h.get? a = some o) : ∃ vs n, o = listOf vs n := by
  cases hx : ρ.lookup y with
  | none => rw [l.dom y hx] at ha; cases ha
  | some b =>
    obtain ⟨v, _, hb⟩ := l.get y b hx
    cases b with
    | v d => rw [hb.1] at ha; cases ha
    | own ds =>
      obtain ⟨a', vs, n, hO, _, hg, _⟩ := hb
      rw [hO] at ha
      rw [List.mem_singleton.mp ha, hg] at ho
      exact ⟨_, _, (Option.some.inj ho).symm⟩
    | deck => rw [hb.1] at ha; cases ha

/-- a store changes the frame and its cells alone -/
def Kp (c : Cx) (s s' : Shared) : Prop := ∀ a o, a ≠ c.L → (∀ y, c.env.cells.lookup y ≠ some a) → s.heap.get? a = some o → s'.heap.get? a = some o
theorem Kp.trans {s₁ s₂ : Shared} (a : Kp c s s₁) (b : Kp c s₁ s₂) : Kp c s s₂ := fun x o h1 h2 e => b x o h1 h2 (a x o h1 h2 e)
/-- the name x is stored: b is what it means behind it -/
theorem store_any {v : Value} {b : Bd} {O : List Addr} {m : Str → Option Value} {own : Str → List Addr} {Q : Unit → Shared → Prop} {E : Value → Shared → Prop} (S : St c ρ Z s) (l : Loc c ρ Z s.heap m own)
    (hb : ∀ h', (∀ a o, Z a → s.heap.get? a = some o → h'.get? a = some o) → (∀ a ∈ O, ∀ o, s.heap.get? a = some o → h'.get? a = some o) → BdOk c h' Z v b O) (ho : ∀ a ∈ O, ¬ Z a ∧ a ≠ c.L ∧ c.s0.heap.get? a = none ∧ (s.heap.get? a).isSome = true ∧ ¬ c.V a) (hO : ∀ a ∈ O, ∀ y, y ≠ x → a ∉ own y)
    (hOl : ∀ a ∈ O, ∃ vs n, s.heap.get? a = some (listOf vs n))
    (hk : (c.env.kindOf x = some .local ∧ c.env.cells.lookup x = none) ∨ (c.env.kindOf x = some .cell ∧ (c.env.cells.lookup x).isSome = true ∧ c.mine = true))
    (k : ∀ s', St c ((x, b) :: ρ) Z s' → Le s.heap Z s'.heap Z → Kp c s s' → Q () s') : wpAny (model PP c.w) c.A (storeName c.env x v) Q E s := by
  rcases hk with ⟨hk, hc⟩ | ⟨hk, hc, hm⟩
  · obtain ⟨oL, es, ep, hoL, hdL, _⟩ := id l.ns
    refine wpAny_storeName_local hk l.ns (fun h' hn hs => ?_) (by show (c.env.scope.kind == .class || (c.env.scope.kind == .module && c.env.locals != c.env.globals)) = false; rw [S.kind]; rfl)
    have hle : Le s.heap Z h' Z := le_upd hs S.zL hoL fun fs q => by rw [hdL] at q; cases q
    have hOk : ∀ a ∈ O, ∀ o, s.heap.get? a = some o → h'.get? a = some o := fun a ha o e => (hs.2 a (ho a ha).2.1).trans e
    refine k _ (S.upd hs S.zL S.ok.Lnew S.ok.vL ⟨_, _, l.put hs hn S.zL (.inl ⟨hc, by simp⟩) (fun y hy u hu => ?_) (hb h' hle.keep hOk) (fun _ => by obtain ⟨o, _, _, e, _⟩ := hn; rw [show c.env.locals = c.L from rfl] at e; rw [e]; rfl)
      (fun a ha => by obtain ⟨h1, h2, h3, h4, h5⟩ := ho a ha; exact ⟨h1, h2, h3, some_of (hOk a ha) h4, h5⟩) hO (fun y hy q => (l.off y _ q).2.1 rfl) fun y o w e e1 e2 => ?_⟩) hle fun a o q _ e => (hs.2 a q).trans e
    · rcases hu with ⟨g1, g2⟩ | ⟨a, o, g1, g2, g3⟩
      · exact .inl ⟨g1, by simp only [if_neg hy]; exact g2⟩
      · exact .inr ⟨a, o, g1, (hs.2 a fun q => by rw [q, hoL] at g2; rw [← Option.some.inj g2, hdL] at g3; cases g3).trans g2, g3⟩
    · rw [hoL] at e1; rw [← Option.some.inj e1, hdL] at e2; cases e2
  · obtain ⟨t, ht⟩ := Option.isSome_iff_exists.mp hc
    obtain ⟨hz, hv, ⟨o, w, ho1, hd⟩, h0⟩ := l.cell x t ht
    refine wpAny_storeName_cell S.kind hk ht ⟨o, ho1, hd⟩ fun h' hv' hs => ?_
    obtain ⟨o', ho', hd'⟩ := hv'
    have hle : Le s.heap Z h' Z := le_upd hs hz ho1 fun fs q => by rw [hd] at q; cases q
    have hOk : ∀ a ∈ O, ∀ o, s.heap.get? a = some o → h'.get? a = some o := fun a ha o'' e => (hs.2 a fun q => by
      obtain ⟨vs, n, g⟩ := hOl a ha
      rw [q, ho1] at g; rw [Option.some.inj g] at hd; cases hd).trans e
    have htL : c.L ≠ t := fun q => by
      obtain ⟨oL, es, ep, hoL, hdL, _⟩ := l.ns
      rw [q, ho1] at hoL; rw [← Option.some.inj hoL, hd] at hdL; cases hdL
    have hnL : h'.Ns c.L m := by obtain ⟨oL, es, ep, hoL, r⟩ := l.ns; exact ⟨oL, es, ep, (hs.2 _ htL).trans hoL, r⟩
    refine k _ (S.upd (tk := s.toks) hs hz (h0 hm) hv ⟨_, _, l.put hs hnL hz (.inr ⟨t, o', ht, ho', hd'⟩) (fun y hy u hu => ?_) (hb h' hle.keep hOk) (fun _ => by rw [ho']; rfl)
      (fun a ha => by obtain ⟨h1, h2, h3, h4, h5⟩ := ho a ha; exact ⟨h1, h2, h3, some_of (hOk a ha) h4, h5⟩) hO (fun y hy q => ?_) fun y o w e e1 e2 => ⟨o', _, ho', hd'⟩⟩) hle fun a o _ q e => (hs.2 a fun z => q x (z ▸ ht)).trans e
    · rcases hu with ⟨g1, g2⟩ | ⟨a, o, g1, g2, g3⟩
      · exact .inl ⟨g1, g2⟩
      · exact .inr ⟨a, o, g1, (hs.2 a fun q => hy (S.ok.cinj _ _ _ (q ▸ g1) ht)).trans g2, g3⟩
    · obtain ⟨vs, n, g⟩ := l.own_ne q ho1
      rw [g] at hd; cases hd

abbrev Cx.Sto (c : Cx) (x : Str) : Prop := (c.env.kindOf x = some .local ∧ c.env.cells.lookup x = none) ∨ (c.env.kindOf x = some .cell ∧ (c.env.cells.lookup x).isSome = true ∧ c.mine = true)
theorem store_v {v : Value} {Q : Unit → Shared → Prop} {E : Value → Shared → Prop} (S : St c ρ Z s) (t : Tr s.heap Z v d) (hk : c.Sto x)
    (k : ∀ s', St c ((x, .v d) :: ρ) Z s' → Le s.heap Z s'.heap Z → Kp c s s' → Q () s') : wpAny (model PP c.w) c.A (storeName c.env x v) Q E s := by
  obtain ⟨m, own, l⟩ := S.loc
  exact store_any (b := .v d) (O := []) S l (fun h' hk _ => ⟨rfl, t.mono (fun _ q => q) hk⟩) (fun a ha => nomatch ha) (fun a ha => nomatch ha) (fun a ha => nomatch ha) hk k
/-- a list that nothing else knows is stored: the frame's own -/
theorem store_own {a : Addr} {vs : List Value} {ds : List D} {k₀ : Nat} {Q : Unit → Shared → Prop} {E : Value → Shared → Prop} (S : St c ρ Z s) (ha : s.heap.get? a = some (listOf vs.toArray k₀)) (t : TrL s.heap Z vs ds)
    (hz : ¬ Z a) (hL : a ≠ c.L) (h0 : c.s0.heap.get? a = none) (hv : ¬ c.V a) {m : Str → Option Value} {own : Str → List Addr} (l : Loc c ρ Z s.heap m own) (hown : ∀ y, y ≠ x → a ∉ own y) (hk : c.Sto x)
    (k : ∀ s', St c ((x, .own ds) :: ρ) Z s' → Le s.heap Z s'.heap Z → Kp c s s' → Q () s') : wpAny (model PP c.w) c.A (storeName c.env x (.ref a)) Q E s := by
  refine store_any (b := .own ds) (O := [a]) S l (fun h' hk ho => ⟨a, vs, k₀, rfl, rfl, ho a (by simp) _ ha, t.mono (fun _ q => q) hk⟩) (fun b hb => ?_) (fun b hb y hy => ?_) (fun b hb => ?_) hk k
  · rw [List.mem_singleton.mp hb]; exact ⟨hz, hL, h0, by rw [ha]; rfl, hv⟩
  · rw [List.mem_singleton.mp hb]; exact hown y hy
  · rw [List.mem_singleton.mp hb]; exact ⟨_, _, ha⟩

/-- statements -/
theorem Ex.weak {t : Sem Flow} {P P' : Out → Rho → Prop} (h : Ex c ρ t P) (k : ∀ o r, P o r → P' o r) : Ex c ρ t P' := .mk fun s Z Q E S q => h.run s Z Q E S fun o r f s' Z' p => q o r f s' Z' (k o r p)
theorem Ex.pre {t : Sem Flow} {P : Out → Rho → Prop} (h : Ex c ρ₁ t P) (k : ∀ x b, ρ₁.lookup x = some b → ρ.lookup x = some b) : Ex c ρ t P := .mk fun s Z Q E S q => h.run s Z Q E (S.weak k) q
theorem exs_nil : Exs c ρ [] fun o r => o = .next ∧ r = ρ := .mk fun s Z Q E S k => wpAny_execs_nil (k .next ρ _ _ _ ⟨rfl, rfl⟩ S (Le.refl _ _) rfl)
theorem exs_cons {st : Stmt} {rest : List Stmt} {P R : Out → Rho → Prop} (h : Ex c ρ (exec st c.env) P) (hn : ∀ r, P .next r → Exs c r rest R) (ho : ∀ o r, o ≠ .next → P o r → R o r) : Exs c ρ (st :: rest) R := .mk fun s Z Q E S k =>
  wpAny_execs_cons (h.run s Z _ E S fun o r f s₁ Z₁ p S₁ l₁ fl => by
    cases o with
    | next => cases (fl : f = .next); exact (hn r p).run s₁ Z₁ Q E S₁ fun o' r' f' s₂ Z₂ p' S₂ l₂ => k o' r' f' s₂ Z₂ p' S₂ (l₁.trans l₂)
    | brk => cases (fl : f = .brk); exact k .brk r _ _ _ (ho _ _ (fun e => nomatch e) p) S₁ l₁ rfl
    | cont => cases (fl : f = .cont); exact k .cont r _ _ _ (ho _ _ (fun e => nomatch e) p) S₁ l₁ rfl
    | ret d =>
      obtain ⟨v, rfl, t⟩ := fl
      exact k (.ret d) r _ _ _ (ho _ _ (fun e => nomatch e) p) S₁ l₁ ⟨v, rfl, t⟩)
/-- one statement that goes on, then the rest -/
theorem exs_step {st : Stmt} {rest : List Stmt} {R : Out → Rho → Prop} (h : Ex1 c ρ st ρ₁) (r : Exs c ρ₁ rest R) : Exs c ρ (st :: rest) R :=
  exs_cons h (fun r' p => p.2 ▸ r) fun o r' hne p => absurd p.1 hne

theorem ex_assign {e : Expr} {p' : Pos} (h : Ev c ρ e ρ₁ d) (hk : c.Sto x) (hs : swapsWith e (some (.Name x p')) pos.line c.env = pure false) : Ex1 c ρ (.Assign [.Name x p'] e pos) ((x, .v d) :: ρ₁) := .mk fun s Z Q E S k =>
  wpAny_Assign_Name (h.run s Z _ E S fun v s₁ Z₁ d' S₁ l₁ t₁ e₁ => store_v S₁ (e₁ ▸ t₁) hk fun s₂ S₂ l₂ _ => k .next _ _ _ _ ⟨rfl, rfl⟩ S₂ ((S.ofX l₁).trans l₂) rfl) hs
theorem ex_assignP {e : Expr} {p' : Pos} {P : D → Prop} (h : EvP c ρ (eval e c.env) ρ₁ P) (hk : c.Sto x) (hs : swapsWith e (some (.Name x p')) pos.line c.env = pure false) : Ex c ρ (exec (.Assign [.Name x p'] e pos) c.env) fun o r => o = .next ∧ ∃ d, P d ∧ r = (x, .v d) :: ρ₁ := .mk fun s Z Q E S k =>
  wpAny_Assign_Name (h.run s Z _ E S fun v s₁ Z₁ d' S₁ l₁ t₁ e₁ => store_v S₁ t₁ hk fun s₂ S₂ l₂ _ => k .next _ _ _ _ ⟨rfl, d', e₁, rfl⟩ S₂ ((S.ofX l₁).trans l₂) rfl) hs
/-- x = [e, ..]: a list of the frame's own -/
theorem ex_list {es : List Expr} {ds : List D} {p' lp : Pos} (h : EvL c ρ es ρ₁ ds) (hz : ds.length ≤ sizeLine) (hk : c.Sto x) (hs : swapsWith (.List es lp) (some (.Name x p')) pos.line c.env = pure false) : Ex1 c ρ (.Assign [.Name x p'] (.List es lp) pos) ((x, .own ds) :: ρ₁) := .mk fun s Z Q E S k =>
  wpAny_Assign_Name (List_ (h.run lp s Z _ E S fun vs s₁ Z₁ S₁ l₁ t₁ => wpAny_newList (by
    have X : Ext s₁ Z₁ { s₁ with heap := s₁.heap.push { cls := .type "list", data := .seq vs.toArray } } Z₁ := Ext.of (tk := s₁.toks) S₁.zok fun a o e => Heap.get?_push_of_some _ e
    obtain ⟨m, own, l⟩ := S₁.loc
    have hno : ∀ a, (s₁.heap.get? a).isSome = true → a ≠ s₁.heap.objs.size := fun a e q => by rw [q, get_size] at e; cases e
    refine store_own (S₁.ext X) (k₀ := 0) (Heap.get?_push_size _ rfl) (X.le.trL t₁) (fun q => hno _ (S₁.zok _ q) rfl) (fun q => hno _ S₁.Lalive q.symm) ?_ (fun v => hno _ (S₁.va _ v) rfl) (S₁.extL X l) (fun y hy q => hno _ (l.off y _ q).2.2.2.1 rfl) hk fun s₂ S₂ l₂ _ => k .next _ _ _ _ ⟨rfl, rfl⟩ S₂ ((S.ofX l₁).trans (X.le.trans l₂)) rfl
    cases q : c.s0.heap.get? s₁.heap.objs.size with
    | none => rfl
    | some o => exact absurd (S₁.keep _ o (fun v => hno _ (S₁.va _ v) rfl) q) (by rw [get_size]; exact fun e => nomatch e)) (by rw [t₁.length]; exact hz))) hs
theorem ex_if_t {t : Expr} {a b : List Stmt} {P : Out → Rho → Prop} (h : EvT c ρ t ρ₁ true) (r : Exs c ρ₁ a P) : Ex c ρ (exec (.If t a b pos) c.env) P := .mk fun s Z Q E S k =>
  wpAny_If (h.run s Z _ E S fun s₁ Z₁ S₁ l₁ => by rw [if_pos rfl]; exact r.run s₁ Z₁ Q E S₁ fun o r' f s₂ Z₂ p S₂ l₂ => k o r' f s₂ Z₂ p S₂ ((S.ofX l₁).trans l₂))
theorem ex_if_f {t : Expr} {a b : List Stmt} {P : Out → Rho → Prop} (h : EvT c ρ t ρ₁ false) (r : Exs c ρ₁ b P) : Ex c ρ (exec (.If t a b pos) c.env) P := .mk fun s Z Q E S k =>
  wpAny_If (h.run s Z _ E S fun s₁ Z₁ S₁ l₁ => by rw [if_neg Bool.false_ne_true]; exact r.run s₁ Z₁ Q E S₁ fun o r' f s₂ Z₂ p S₂ l₂ => k o r' f s₂ Z₂ p S₂ ((S.ofX l₁).trans l₂))
theorem ex_break : Ex c ρ (exec (.Break pos) c.env) fun o r => o = .brk ∧ r = ρ := .mk fun s Z Q E S k => by
  show wpAny _ _ (do standAt pos; pure Flow.brk) Q E s
  exact wpAny_bind (wpAny_standAt (wpAny_pure (k .brk ρ _ _ _ ⟨rfl, rfl⟩ S (Le.refl _ _) rfl)))
end
end
section
theorem zip_lookup {c : Cx} {h : Heap} {Z : Addr → Prop} : ∀ {names : List Str} {vs : List Value} {ds : List D} (_ : TrL h Z vs ds) (accv : List (Str × Value)) (accd : Rho)
    (_ : ∀ x b, accd.lookup x = some b → ∃ v, accv.lookup x = some v ∧ BdOk c h Z v b []) (x : Str) (b : Bd),
    ((names.zip (ds.map Bd.v)).reverse ++ accd).lookup x = some b → ∃ v, ((names.zip vs).reverse ++ accv).lookup x = some v ∧ BdOk c h Z v b []
  | [], _, _, _, accv, accd, ha, x, b, e => by simpa using ha x b (by simpa using e)
  | _ :: _, _, _, .nil, accv, accd, ha, x, b, e => by simpa using ha x b (by simpa using e)
  | n :: ns, v :: vs, d :: ds, .cons t r, accv, accd, ha, x, b, e => by
    have q := zip_lookup (names := ns) r ((n, v) :: accv) ((n, .v d) :: accd) (fun y b' e' => by
      rw [List.lookup_cons] at e' ⊢
      cases hy : (y == n) with
      | true => rw [hy] at e'; cases e'; exact ⟨v, rfl, rfl, t⟩
      | false => rw [hy] at e'; exact ha y b' e') x b (by simpa using e)
    simpa using q

/-- a def's frame -/
abbrev cxFn (w : World) (qual : Str) (scope : Scope) (a : Addr) (cdv : Value) (A0 : Around) (outer : List Env) (n : Nat) (L : Addr) (s0 : Shared) (Z0 : Addr → Prop) (cells : List (Str × Addr)) : Cx :=
  { w, A := A0.deeper (envX qual scope L a cdv cells), frames := envX qual scope L a cdv cells :: outer, env := envX qual scope L a cdv cells, n, s0, Z0, V := fun _ => False, G := fun _ => True, dk := .none, mine := true }

theorem cxFn_ok {w : World} {qual : Str} {scope : Scope} {a : Addr} {cdv : Value} {A0 : Around} {outer : List Env} {n : Nat} {s0 : Shared} {Z0 : Addr → Prop} {cells : List (Str × Addr)} (X : Stk w A0 outer (n + 1) s0.heap) (zok : ZOk Z0 s0.heap)
    (hfr : ∀ e ∈ outer, ∀ L, e.frame = some L → ¬ Z0 L) (hk : scope.kind = .function) (hi : ∀ x y b, cells.lookup x = some b → cells.lookup y = some b → x = y) : (cxFn w qual scope a cdv A0 outer n s0.heap.objs.size s0 Z0 cells).Ok where
  base := fun h' hk' hn => by
    obtain ⟨m, hn⟩ := hn
    have kk : s0.heap.StaysIn h' := fun a o e => hk' a o (fun v => v.elim) e
    have x := X.keeps kk
    obtain ⟨B, b1, b2, b3, b4⟩ := X.bs
    exact ⟨x.handled, Around.frames_deeper x.frames, by have := x.depth; show A0.depth + 1 + n < _; omega, by have := x.units; show A0.units + 3 + 20 * n + 100 < _; omega, x.K, x.top, .cons (by show scope.kind ≠ _; rw [hk]; decide) rfl hn rfl x.fr, B, fun b o e => kk b o (b1 b o e), b2, b3, .cons (by show scope.kind ≠ _; rw [hk]; decide) rfl hn (stays_none b1 (get_size _)) (b4.of_keeps fun b o e _ => ⟨o, kk b o e, rfl⟩)⟩
  gst := fun _ _ _ _ => trivial
  gv := fun _ _ _ v => v.elim
  z0ok := zok
  fr0 := fun e he L hL => by
    rcases List.mem_cons.mp he with rfl | he
    · exact .inl (Option.some.inj hL).symm
    · exact .inr ⟨Heap.FunFrames.alive X.fr he hL, hfr e he L hL⟩
  Lnew := get_size _
  kind := hk
  vL := fun v => v
  vfr := fun _ _ _ _ v => v
  glob := rfl
  blt := rfl
  cinj := hi
  bs := by
    obtain ⟨B, b1, b2, b3, b4⟩ := X.bs
    refine ⟨B, b2, b3, b1, fun _ v => v.elim, fun h' hk' hn => ?_⟩
    obtain ⟨m, hn⟩ := hn
    exact .cons (by show scope.kind ≠ _; rw [hk]; decide) rfl hn (stays_none b1 (get_size _)) (b4.of_keeps fun b o e _ => ⟨o, hk' b o (fun v => v.elim) e, rfl⟩)

theorem FnP.intro {a n : Nat} {ds : List D} {P : D → Prop} {name qual : Str} {params : Arguments} {body : List Stmt} {scope : Scope} {dV kV doc pm cdv ct oc : Value} {an od : Option Addr} {osl : Array (Option Value)} {names : List Str} {ρ₀ : Rho}
    (ho : ∀ w : World, List.lookup a (hd.heap_39 w.params) = some ⟨oc, od, .func (fnX name qual params body scope [] dV kV doc pm an cdv ct), osl⟩) (hcd : ∀ w : World, codeIn (hd.heap_39 w.params) cdv qual = true)
    (hbind : ∀ (w : World) (s : Shared) (vs : List Value), (KF w).In s.heap → vs.length = ds.length → BindsTo s (fnX name qual params body scope [] dV kV doc pm an cdv ct) ⟨vs, []⟩ (names.zip vs))
    (hloc : ∀ y ∈ names, scope.names.lookup y = some .local) (hcell : ∀ x ∈ scope.names, x.2 ≠ .cell) (hρ : ρ₀ = (names.zip (ds.map Bd.v)).reverse)
    (h : ∀ w A0 outer L s0 Z0, Exs (cxFn w qual scope a cdv A0 outer n L s0 Z0 []) ρ₀ body fun o _ => ∃ d, o = .ret d ∧ P d)
    (hco : scope.isCoroutine = false) (hgen : scope.isGenerator = false) (hk : scope.kind = .function) : FnP a (n + 1) ds P := by
  refine .mk fun w A s Z vs R T Q E k => ?_
  obtain ⟨outer, X, hfr⟩ := R.stk
  obtain ⟨mg, mb, TT⟩ := X.top
  have ho' := X.K _ _ (ho w)
  refine wpAny_call (codeAny_call_def (fd := fnX name qual params body scope [] dV kV doc pm an cdv ct) (body := body) (binds := names.zip vs) (by have := X.depth; omega) ho' rfl TT.nolimit (codeRec_of X.K (hcd w)) rfl
    (hbind w s vs X.K T.length) hcell (fun x hx => hloc _ (List.of_mem_zip hx).1) (fun h₀ hns hk₀ => ?_) hco hgen hk)
  have S : St (cxFn w qual scope a cdv A outer n s.heap.objs.size s Z []) ρ₀ Z { s with heap := h₀, toks := s.toks + (names.zip vs).length } := by
    refine ⟨⟨_, _, rfl⟩, cxFn_ok X R.zok hfr hk (fun x y b e _ => by cases e), fun a o _ e => hk₀ a o e, fun _ q => q, fun _ q => .inl q, fun a q => stays_some hk₀ (R.zok a q), fun q => ?_, fun _ _ v => v, trivial, _, fun _ => [], hns, fun x b e => ?_, fun _ _ q => (nomatch q), fun _ _ _ q => (nomatch q), fun _ _ => rfl, fun x a e => by cases e⟩
    · have := R.zok _ q
      rw [get_size] at this; cases this
    · have := zip_lookup (c := cxFn w qual scope a cdv A outer n s.heap.objs.size s Z []) (names := names) (T.mono (fun _ q => q) fun a o _ e => hk₀ a o e) [] [] (fun x b e => by cases e) x b (by rw [List.append_nil, ← hρ]; exact e)
      obtain ⟨v, h1, h2⟩ := this
      exact ⟨v, .inl ⟨rfl, by simpa using h1⟩, h2⟩
  refine (h w A outer s.heap.objs.size s Z).run _ Z _ _ S fun o ρ' f s' Z' p S' l fl => ?_
  obtain ⟨d, rfl, pd⟩ := p
  obtain ⟨v, rfl, t⟩ := fl
  exact k v s' Z' d ⟨S'.same, fun a o e => S'.keep a o (fun v => v) e, S'.z0, S'.znew, S'.zok⟩ t pd

theorem bindL_loc {kindOf : Str → Option NameKind} : ∀ (binds : List (Str × Value)) (m : Str → Option Value), (∀ x ∈ binds, kindOf x.1 = some .local) → ∀ y, bindL kindOf binds m y = (binds.reverse.lookup y).or (m y)
  | [], m, _, y => by simp [bindL]
  | (n, v) :: r, m, h, y => by
    rw [bindL, if_pos (h _ (.head _)), bindL_loc r _ fun x hx => h x (.tail _ hx)]
    simp only [List.reverse_cons, List.lookup_append, List.lookup_cons, List.lookup_nil]
    cases hl : List.lookup y r.reverse with
    | some u => simp
    | none =>
      by_cases e : y = n
      · subst e; simp
      · rw [if_neg e, show (y == n) = false by simpa using e]; simp

theorem lookup_mem {β : Type} {x : Str} {b : β} : ∀ {l : List (Str × β)}, l.lookup x = some b → (x, b) ∈ l
  | [], e => by cases e
  | (y, c) :: r, e => by
    rw [List.lookup_cons] at e
    cases h : (x == y) with
    | true => rw [h] at e; cases e; rw [beq_iff_eq.mp h]; exact .head _
    | false => rw [h] at e; exact .tail _ (lookup_mem e)

/-- a def with cells of its own, none of them a parameter -/
theorem FnP.introC {a n : Nat} {ds : List D} {P : D → Prop} {name qual : Str} {params : Arguments} {body : List Stmt} {scope : Scope} {dV kV doc pm cdv ct oc : Value} {an od : Option Addr} {osl : Array (Option Value)} {names : List Str} {ρ₀ : Rho}
    (ho : ∀ w : World, List.lookup a (hd.heap_39 w.params) = some ⟨oc, od, .func (fnX name qual params body scope [] dV kV doc pm an cdv ct), osl⟩) (hcd : ∀ w : World, codeIn (hd.heap_39 w.params) cdv qual = true)
    (hbind : ∀ (w : World) (s : Shared) (vs : List Value), (KF w).In s.heap → vs.length = ds.length → BindsTo s (fnX name qual params body scope [] dV kV doc pm an cdv ct) ⟨vs, []⟩ (names.zip vs))
    (hloc : ∀ y ∈ names, scope.names.lookup y = some .local) (hlocc : ∀ L : Nat, ∀ y ∈ names, (cellsFrom (L + 1) scope.names []).lookup y = none) (hnd : ∀ L x y b, (cellsFrom (L + 1) scope.names []).lookup x = some b → (cellsFrom (L + 1) scope.names []).lookup y = some b → x = y) (hρ : ρ₀ = (names.zip (ds.map Bd.v)).reverse)
    (h : ∀ w A0 outer L s0 Z0, Exs (cxFn w qual scope a cdv A0 outer n L s0 Z0 (cellsFrom (L + 1) scope.names [])) ρ₀ body fun o _ => ∃ d, o = .ret d ∧ P d)
    (hco : scope.isCoroutine = false) (hgen : scope.isGenerator = false) (hk : scope.kind = .function) : FnP a (n + 1) ds P := by
  refine .mk fun w A s Z vs R T Q E k => ?_
  obtain ⟨outer, X, hfr⟩ := R.stk
  obtain ⟨mg, mb, TT⟩ := X.top
  have ho' := X.K _ _ (ho w)
  refine wpAny_call (codeAny_call_function (fd := fnX name qual params body scope [] dV kV doc pm an cdv ct) (body := body) (by have := X.depth; omega) ho' rfl hco hgen rfl (codeRec_of X.K (hcd w)) (hbind w s vs X.K T.length _ _ _ _ ?_))
  refine wpAny_newFunctionEnv_cells hk (fun x hx => .inl (hloc _ (List.of_mem_zip hx).1)) fun env' he s' x => ?_
  subst he
  refine ⟨TT.nolimit.keeps x.toInCall.keep, codeAny_func ?_⟩
  obtain ⟨h₁, tk, rfl, hk₁⟩ := x.done
  have hns := x.toInCall.ns
  have hbl : ∀ y, bindL (newEnv scope s.heap.objs.size mainGlobals (cellsFrom (s.heap.objs.size + 1) scope.names []) (qual ++ ".<locals>.") (some a) cdv none builtinsNs).kindOf (names.zip vs) (fun _ => none) y = (names.zip vs).reverse.lookup y := fun y => by
    rw [bindL_loc _ _ (fun x hx => hloc _ (List.of_mem_zip hx).1)]; simp
  have S : St (cxFn w qual scope a cdv A outer n s.heap.objs.size s Z (cellsFrom (s.heap.objs.size + 1) scope.names [])) ρ₀ Z { s with heap := h₁, toks := tk } := by
    refine ⟨⟨_, _, rfl⟩, cxFn_ok X R.zok hfr hk (hnd _), fun a o _ e => hk₁ a o e, fun _ q => q, fun _ q => .inl q, fun a q => stays_some hk₁ (R.zok a q), fun q => ?_, fun _ _ v => v, trivial, _, fun _ => [], hns, fun x b e => ?_, fun _ _ q => (nomatch q), fun _ _ _ q => (nomatch q), fun _ _ => rfl, fun y b e => ?_⟩
    · have := R.zok _ q
      rw [get_size] at this; cases this
    · have := zip_lookup (c := cxFn w qual scope a cdv A outer n s.heap.objs.size s Z (cellsFrom (s.heap.objs.size + 1) scope.names [])) (names := names) (T.mono (fun _ q => q) fun a o _ e => hk₁ a o e) [] [] (fun x b e => by cases e) x b (by rw [List.append_nil, ← hρ]; exact e)
      obtain ⟨v, h1, h2⟩ := this
      rw [List.append_nil] at h1
      refine ⟨v, .inl ⟨?_, (hbl x).trans h1⟩, h2⟩
      have hm : x ∈ names := by
        have := lookup_mem h1
        exact (List.of_mem_zip (List.mem_reverse.mp this)).1
      exact hlocc _ x hm
    · obtain ⟨o, ho1, hd1⟩ := x.cell y b e
      have hm := lookup_mem e
      have hb := x.above y b hm
      have hb0 : s.heap.get? b = none := by
        cases q : s.heap.get? b with
        | none => rfl
        | some o => exact absurd (Heap.lt_size q) (Nat.not_lt.mpr (Nat.le_of_lt hb))
      exact ⟨fun q => (by have := R.zok _ q; rw [hb0] at this; cases this), fun v => v, ⟨o, _, ho1, hd1⟩, fun _ => hb0⟩
  refine (h w A outer s.heap.objs.size s Z).run _ Z _ _ S fun o ρ' f s' Z' p S' l fl => ?_
  obtain ⟨d, rfl, pd⟩ := p
  obtain ⟨v, rfl, t⟩ := fl
  exact k v s' Z' d ⟨S'.same, fun a o e => S'.keep a o (fun v => v) e, S'.z0, S'.znew, S'.zok⟩ t pd
end
section
def itemsOf : D → Option (List D)
  | .list ds => some ds
  | .xlist _ ds => some ds
  | .tup ds => some ds
  | .bytes l => some (l.map fun n : Nat => D.int (n : Int))
  | .str l => some (l.map fun n => .str [n])
  | .rng a c n => some ((List.range n).map fun i : Nat => D.int (a + (i : Int) * c))
  | _ => none

def itCls : List String := ["enumerate", "zip", "dict_itemiterator", "dict_reverseitemiterator", "odict_iterator", "itertools.zip_longest", "itertools.pairwise"]
/-- an iterator that has just been made, over data -/
structure Itr (w : World) (h₀ h₁ : Heap) (Z : Addr → Prop) (I : Addr) (ds : List D) (fp : List Addr) (P : Nat → Value → Prop) (W : Nat → Heap → Prop) : Prop where
  walks : ∀ A : Around, A.handled = none → Walks PP w A I fp [I] ds.length P W
  foot : ∀ b ∈ fp, b = I ∨ Z b
  zero : W 0 h₁
  item : ∀ i v, P i v → ∃ d, ds[i]? = some d ∧ ∀ h Z', Le h₀ Z h Z' → Tr h Z' v d
  obj : ∀ i h, W i h → ∃ o T fs, h.get? I = some o ∧ o.cls = .type T ∧ itCls.contains T = false ∧ o.data = .fields fs

theorem pyIter_D {w : World} {A : Around} {s : Shared} {Z : Addr → Prop} {v : Value} {d : D} {ds : List D} {Q E : Value → Shared → Prop} (hh : A.handled = none) (t : Tr s.heap Z v d) (hd : itemsOf d = some ds) (z : ZOk Z s.heap)
    (k : ∀ o fp P W, Itr w s.heap (s.heap.push o) Z s.heap.objs.size ds fp P W → Q (.ref s.heap.objs.size) { s with heap := s.heap.push o }) : wpAny (model PP w) A (pyIter v) Q E s := by
  have hne : ∀ a, Z a → a ≠ s.heap.objs.size := fun a q e => by have := z a q; rw [e, get_size] at this; cases this
  cases t with
  | none => cases hd
  | ty id => cases hd
  | bool b => cases hd
  | int i t => cases hd
  | adv a b c d e f g gm r1 r2 r3 => cases hd
  | @list a vs ds' hz hl ht =>
    cases hd
    refine wpAny_pyIter_list hl (k _ [s.heap.objs.size, a] (fun i v => vs.toArray[i]? = some v) (fun i h => h.IsListIter s.heap.objs.size a i ∧ h.IsList a vs.toArray) ⟨fun A' hA => ?_, ?_, ?_, ?_, ?_⟩)
    · have W := Walks.list (prog := PP) (w := w) hA s.heap.objs.size a (hne a hz) vs.toArray
      rw [show vs.toArray.size = ds.length by simp [ht.length]] at W
      exact W
    · intro b hb; simp only [List.mem_cons, List.not_mem_nil, or_false] at hb; exact hb.imp id fun e => by rw [e]; exact hz
    · exact ⟨⟨_, Heap.get?_push_size _ rfl, rfl, rfl⟩, hl.at fun o e => Heap.get?_push_of_some _ e⟩
    · intro i v hP
      obtain ⟨d, e, t⟩ := ht.getV i v (by simpa using hP)
      exact ⟨d, e, fun h Z' l => l.tr t⟩
    · rintro i h ⟨⟨o, h1, h2, h3⟩, _⟩; exact ⟨o, _, _, h1, h2, by decide, h3⟩
  | @xlist a vs ds' nn hz hx ht =>
    have hl : s.heap.IsList a vs.toArray := ⟨_, hx, rfl, nn, rfl⟩
    cases hd
    refine wpAny_pyIter_list hl (k _ [s.heap.objs.size, a] (fun i v => vs.toArray[i]? = some v) (fun i h => h.IsListIter s.heap.objs.size a i ∧ h.IsList a vs.toArray) ⟨fun A' hA => ?_, ?_, ?_, ?_, ?_⟩)
    · have W := Walks.list (prog := PP) (w := w) hA s.heap.objs.size a (hne a hz) vs.toArray
      rw [show vs.toArray.size = ds.length by simp [ht.length]] at W
      exact W
    · intro b hb; simp only [List.mem_cons, List.not_mem_nil, or_false] at hb; exact hb.imp id fun e => by rw [e]; exact hz
    · exact ⟨⟨_, Heap.get?_push_size _ rfl, rfl, rfl⟩, hl.at fun o e => Heap.get?_push_of_some _ e⟩
    · intro i v hP
      obtain ⟨d, e, t⟩ := ht.getV i v (by simpa using hP)
      exact ⟨d, e, fun h Z' l => l.tr t⟩
    · rintro i h ⟨⟨o, h1, h2, h3⟩, _⟩; exact ⟨o, _, _, h1, h2, by decide, h3⟩
  | @tup a vs ds' hz hl ht =>
    cases hd
    refine wpAny_pyIter_tuple hl (k _ [s.heap.objs.size, a] (fun i v => vs.toArray[i]? = some v) (fun i h => h.IsTupleIter s.heap.objs.size a i ∧ h.IsTuple a vs.toArray) ⟨fun A' hA => ?_, ?_, ?_, ?_, ?_⟩)
    · have W := Walks.tuple (prog := PP) (w := w) hA s.heap.objs.size a (hne a hz) vs.toArray
      rw [show vs.toArray.size = ds.length by simp [ht.length]] at W
      exact W
    · intro b hb; simp only [List.mem_cons, List.not_mem_nil, or_false] at hb; exact hb.imp id fun e => by rw [e]; exact hz
    · exact ⟨⟨_, Heap.get?_push_size _ rfl, rfl, rfl⟩, isTup_at hl fun o e => Heap.get?_push_of_some _ e⟩
    · intro i v hP
      obtain ⟨d, e, t⟩ := ht.getV i v (by simpa using hP)
      exact ⟨d, e, fun h Z' l => l.tr t⟩
    · rintro i h ⟨⟨o, h1, h2, h3⟩, _⟩; exact ⟨o, _, _, h1, h2, by decide, h3⟩
  | @bytes b tk l e =>
    cases hd
    refine KBw.pyIter_bytes (k _ [s.heap.objs.size] (fun i v => ∃ c u, b[i]? = some c ∧ v = .int (c.toNat : Int) u) (fun i h => KBw.IsBytesIter h s.heap.objs.size b tk i) ⟨fun A' hA => ?_, ?_, ?_, ?_, ?_⟩)
    · have W := KBw.walks (prog := PP) (w := w) hA s.heap.objs.size b tk
      rw [show b.size = (l.map fun n : Nat => D.int (n : Int)).length by rw [← e]; simp [bN]] at W
      exact W
    · intro b hb; simp only [List.mem_cons, List.not_mem_nil, or_false] at hb; exact .inl hb
    · exact ⟨_, Heap.get?_push_size _ rfl, rfl, rfl⟩
    · rintro i v ⟨c, u, h1, rfl⟩
      refine ⟨.int c.toNat, ?_, fun h Z' l => .int _ _⟩
      rw [← e]
      simp only [bN, List.map_map, List.getElem?_map, Array.getElem?_toList, h1]; rfl
    · rintro i h ⟨o, h1, h2, h3⟩; exact ⟨o, _, _, h1, h2, by decide, h3⟩
  | @str x tk l e =>
    cases hd
    by_cases ha : x.cps.all (· < 128) = true
    · refine wpAny_pyIter_ascii ha (k _ [s.heap.objs.size] (SignAt x) (fun i h => h.IsStrIter s.heap.objs.size "str_ascii_iterator" x tk i) ⟨fun A' hA => ?_, ?_, ?_, ?_, ?_⟩)
      · have W := Walks.strAscii (prog := PP) (w := w) hA s.heap.objs.size x tk
        rw [show x.cps.size = (l.map fun n : Nat => D.str [n]).length by rw [← e]; simp] at W
        exact W
      · intro b hb; simp only [List.mem_cons, List.not_mem_nil, or_false] at hb; exact .inl hb
      · exact ⟨_, Heap.get?_push_size _ rfl, rfl, rfl⟩
      · rintro i v ⟨c, u, h1, rfl⟩
        refine ⟨.str [c], ?_, fun h Z' l => .str _ _ rfl⟩
        rw [← e, List.getElem?_map, Array.getElem?_toList, h1]; rfl
      · rintro i h ⟨o, h1, h2, h3⟩; exact ⟨o, _, _, h1, h2, by decide, h3⟩
    · refine wpAny_pyIter_wide (by simpa using ha) (k _ [s.heap.objs.size] (SignAt x) (fun i h => h.IsStrIter s.heap.objs.size "str_iterator" x tk i) ⟨fun A' hA => ?_, ?_, ?_, ?_, ?_⟩)
      · have W := Walks.strWide (prog := PP) (w := w) hA s.heap.objs.size x tk
        rw [show x.cps.size = (l.map fun n : Nat => D.str [n]).length by rw [← e]; simp] at W
        exact W
      · intro b hb; simp only [List.mem_cons, List.not_mem_nil, or_false] at hb; exact .inl hb
      · exact ⟨_, Heap.get?_push_size _ rfl, rfl, rfl⟩
      · rintro i v ⟨c, u, h1, rfl⟩
        refine ⟨.str [c], ?_, fun h Z' l => .str _ _ rfl⟩
        rw [← e, List.getElem?_map, Array.getElem?_toList, h1]; rfl
      · rintro i h ⟨o, h1, h2, h3⟩; exact ⟨o, _, _, h1, h2, by decide, h3⟩
  | @rng r a b c t u v n hz hr hs hn =>
    cases hd
    refine wpAny_pyIter_range hr hs (k _ [s.heap.objs.size] (fun i v => i < n ∧ ∃ t, v = .int (a + i * c) t) (fun i h => IsRangeIter h s.heap.objs.size (a + (i : Nat) * c) ((n : Int) - (i : Nat)) c) ⟨fun A' hA => ?_, ?_, ?_, ?_, ?_⟩)
    · have W := (Walks.range (prog := PP) (w := w) hA s.heap.objs.size a c n).bound
      simpa only [List.length_map, List.length_range] using W
    · intro b hb; simp only [List.mem_cons, List.not_mem_nil, or_false] at hb; exact .inl hb
    · show IsRangeIter _ _ _ _ _
      rw [hn]; simpa using Heap.get?_push_size _ rfl
    · rintro i v ⟨hi, t, rfl⟩
      exact ⟨.int (a + (i : Int) * c), by simp [hi], fun h Z' l => .int _ _⟩
    · intro i h e; exact ⟨_, _, _, e, rfl, by decide, rfl⟩
end
section
abbrev Sub (ρ' ρ : Rho) : Prop := ∀ x b, ρ'.lookup x = some b → ρ.lookup x = some b

/-- a loop over data, turn by turn: bind says what the target's names are -/
def Loop (c : Cx) (bind : D → Rho → Option Rho) (body : List Stmt) (P : Out → Rho → Prop) : List D → Rho → Prop
  | [], ρ => ∃ ρ', Sub ρ' ρ ∧ P .next ρ'
  | d :: ds, ρ => ∃ ρ' ρ₁, Sub ρ' ρ ∧ bind d ρ' = some ρ₁ ∧ Exs c ρ₁ body fun o r => match o with
    | .next => Loop c bind body P ds r
    | .cont => Loop c bind body P ds r
    | .brk => P .next r
    | .ret v => P (.ret v) r

/-- the target is bound -/
def Binds (c : Cx) (target : Expr) (bind : D → Rho → Option Rho) : Prop :=
  ∀ (ρ ρ₁ : Rho) (d : D) (s : Shared) (Z : Addr → Prop) (v : Value) (Q : Unit → Shared → Prop) (E : Value → Shared → Prop), bind d ρ = some ρ₁ → St c ρ Z s → Tr s.heap Z v d →
    (∀ s', St c ρ₁ Z s' → Le s.heap Z s'.heap Z → Kp c s s' → Q () s') → wpAny (model PP c.w) c.A (assign target c.env v) Q E s

theorem binds_name {c : Cx} {x : Str} {pos : Pos} (hk : c.Sto x) : Binds c (.Name x pos) fun d ρ => some ((x, .v d) :: ρ) := fun ρ ρ₁ d s Z v Q E hb S t k => by
  cases hb
  exact wpAny_assign_Name (store_v S t hk k)

theorem St.swap {c : Cx} {ρ : Rho} {Z : Addr → Prop} {s : Shared} (S : St c ρ Z s) {I : Addr} {h' : Heap} {tk : Nat} (hI : ∃ o T fs, s.heap.get? I = some o ∧ o.cls = .type T ∧ itCls.contains T = false ∧ o.data = .fields fs) (h0 : c.s0.heap.get? I = none) (hz : ¬ Z I)
    (hk : ∀ b o, b ∉ [I] → s.heap.get? b = some o → h'.get? b = some o) : St c ρ Z { s with heap := h', toks := tk } := by
  obtain ⟨oI, _, fs, hoI, _, _, hfs⟩ := hI
  have hk' : ∀ b o, b ≠ I → s.heap.get? b = some o → h'.get? b = some o := fun b o q => hk b o (by simpa using q)
  obtain ⟨m, own, l⟩ := S.loc
  have hL : c.L ≠ I := fun q => by
    obtain ⟨o, es, ep, ho, hd, _⟩ := l.ns
    rw [q, hoI] at ho
    rw [← Option.some.inj ho, hfs] at hd; cases hd
  have hal : ∀ a, a ≠ I → (s.heap.get? a).isSome = true → (h'.get? a).isSome = true := fun a q => some_of (fun o => hk' a o q)
  have hown : ∀ x, ∀ a ∈ own x, a ≠ I := fun x a ha q => by
    obtain ⟨vs, n, e⟩ := l.own_ne ha (q ▸ hoI)
    rw [e] at hfs; cases hfs
  have hcell : ∀ x a, c.env.cells.lookup x = some a → a ≠ I := fun x a e q => by
    obtain ⟨_, _, ⟨o, w, h1, h2⟩, _⟩ := l.cell x a e
    rw [q, hoI] at h1; rw [← Option.some.inj h1, hfs] at h2; cases h2
  have hZ : ∀ a, Z a → a ≠ I := fun a q e => hz (e ▸ q)
  have hV : ∀ a, c.V a → a ≠ I := fun a v q => S.vnf I oI fs (q ▸ v) hoI hfs
  refine { S with same := ?_, keep := fun a o v e => hk' a o (fun q => by rw [q, h0] at e; cases e) (S.keep a o v e), zok := fun a q => hal a (hZ a q) (S.zok a q), g := S.ok.gst _ _ S.g fun a v => ?_, loc := ⟨m, own, ?_, fun x b e => ?_, fun x a ha => ?_, l.apart, l.dom, fun x a e => ?_⟩ }
  · obtain ⟨h, t, e⟩ := S.same; exact ⟨h', tk, by rw [e]⟩
  · obtain ⟨o, ho⟩ := Option.isSome_iff_exists.mp (S.va a v)
    rw [ho, hk' a o (hV a v) ho]
  · obtain ⟨o, es, ep, ho, r⟩ := l.ns; exact ⟨o, es, ep, hk' _ _ hL ho, r⟩
  · obtain ⟨v, h1, h2⟩ := l.get x b e
    exact ⟨v, h1.mono fun a o w g1 _ g3 => hk' a o (hcell x a g3) g1, h2.mono (fun _ q => q) (fun a o q e => hk' a o (hZ a q) e) fun a ha o e => hk' a o (hown x a ha) e⟩
  · obtain ⟨h1, h2, h3, h4, h5⟩ := l.off x a ha
    exact ⟨h1, h2, h3, hal a (hown x a ha) h4, h5⟩
  · obtain ⟨h1, h2, ⟨o, w, h3, h4⟩, h5⟩ := l.cell x a e
    exact ⟨h1, h2, ⟨o, w, hk' _ _ (hcell x a e) h3, h4⟩, h5⟩

theorem Le.skip {h₁ h h' : Heap} {Z₁ Z : Addr → Prop} {I : Addr} (l : Le h₁ Z₁ h Z) (h0 : h₁.get? I = none) (hk : ∀ b o, b ∉ [I] → h.get? b = some o → h'.get? b = some o) : Le h₁ Z₁ h' Z :=
  have ne : ∀ a o, h₁.get? a = some o → a ∉ [I] := fun a o e q => by rw [List.mem_singleton.mp q, h0] at e; cases e
  ⟨l.zz, fun a o q e => hk a o (ne a o e) (l.keep a o q e), fun a o fs e f => hk a o (ne a o e) (l.flds a o fs e f), l.fz⟩

theorem letGo_ok {M : Model} {A : Around} {target : Expr} {I : Addr} {v : Value} {s : Shared} {Q : Unit → Shared → Prop} {E : Value → Shared → Prop} (hI : ∃ o T fs, s.heap.get? I = some o ∧ o.cls = .type T ∧ itCls.contains T = false ∧ o.data = .fields fs) (k : Q () s) :
    wpAny M A (letOwnedTupleGo target (.ref I) v) Q E s := by
  obtain ⟨o, T, fs, ho, hc, ht, hd⟩ := hI
  unfold letOwnedTupleGo
  have hgo : wpAny M A (do
      let (.ref r, .ref a) := (Value.ref I, v) | return
      let o ← load r
      match o.cls, o.data with
      | .type n, .fields vs =>
        if (["enumerate", "zip", "dict_itemiterator", "dict_reverseitemiterator", "odict_iterator", "itertools.zip_longest", "itertools.pairwise"] : List String).contains n && vs[0]? == some (rawInt a) then do
          rule "for.unpacks-the-owned-tuple"
          updateField r 0 .none
      | _, _ => pure ()) Q E s := by
    cases v with
    | ref a =>
      refine wpAny_bind (wpAny_load ho ?_)
      rw [hc, hd]
      dsimp only
      rw [if_neg (by rw [show (["enumerate", "zip", "dict_itemiterator", "dict_reverseitemiterator", "odict_iterator", "itertools.zip_longest", "itertools.pairwise"] : List String) = itCls from rfl, ht]; simp)]
      exact wpAny_pure k
    | _ => exact wpAny_pure k
  split
  · exact hgo
  · exact hgo
  · exact wpAny_pure k

theorem ex_for {c : Cx} {ρ ρ₁ : Rho} {target iter : Expr} {body : List Stmt} {pos : Pos} {d : D} {ds : List D} {bind : D → Rho → Option Rho} {P : Out → Rho → Prop} (h : Ev c ρ iter ρ₁ d) (hd : itemsOf d = some ds) (hb : Binds c target bind) (hl : Loop c bind body P ds ρ₁)
    (hs : ∀ x, foldedSetIterable iter c.env x = pure x) : Ex c ρ (exec (.For target iter body [] pos) c.env) P := .mk fun s Z Q E S k =>
  wpAny_For (h.run s Z _ E S fun v s₁ Z₁ d' S₁ l₁ t₁ e₁ => by
    subst e₁
    refine pyIter_D S₁.stk.handled t₁ hd S₁.zok fun o fp Pw W X => ?_
    have hI0 : s₁.heap.get? s₁.heap.objs.size = none := get_size _
    have hIc : c.s0.heap.get? s₁.heap.objs.size = none := by
      cases q : c.s0.heap.get? s₁.heap.objs.size with
      | none => rfl
      | some o =>
        have hv : ¬ c.V s₁.heap.objs.size := fun v => by have := S₁.va _ v; rw [hI0] at this; cases this
        exact absurd (S₁.keep _ o hv q) (by rw [hI0]; exact fun e => nomatch e)
    have hf : o.isFreed = false := by
      obtain ⟨o', _, fs, h1, _, _, h2⟩ := X.obj 0 _ X.zero
      cases q : o.isFreed with
      | false => rfl
      | true =>
        exfalso
        have hg : (s₁.heap.push o).get? s₁.heap.objs.size = none := by
          cases z : (s₁.heap.push o).get? s₁.heap.objs.size with
          | none => rfl
          | some o'' =>
            obtain ⟨e1, e2⟩ := Heap.get?_some_iff.mp z
            have : (s₁.heap.push o).objs[s₁.heap.objs.size]? = some o := by
              obtain ⟨objs, life⟩ : Heap := s₁.heap
              simp [Heap.push]
            rw [this] at e1; cases e1; rw [q] at e2; cases e2
        rw [hg] at h1; cases h1
    have E₁ : Ext s₁ Z₁ { s₁ with heap := s₁.heap.push o, toks := s₁.toks } Z₁ := Ext.of S₁.zok fun a o' e => Heap.get?_push_of_some _ e
    refine codeAny_forLoop_any (I := fun j s' => ∃ i ρ' Z', i ≤ ds.length ∧ j = ds.length - i ∧ St c ρ' Z' s' ∧ W i s'.heap ∧ Loop c bind body P (ds.drop i) ρ' ∧ Le s₁.heap Z₁ s'.heap Z' ∧ ¬ Z' s₁.heap.objs.size) ?_ ds.length ⟨0, ρ₁, Z₁, Nat.zero_le _, by simp, S₁.ext E₁, X.zero, by simpa using hl, E₁.le, fun q => by have := S₁.zok _ q; rw [hI0] at this; cases this⟩
    rintro j s' ⟨i, ρ', Z', hi, rfl, S', hW, hL, l', hz'⟩
    have hWk := X.walks c.A S₁.stk.handled
    rcases Nat.lt_or_ge i ds.length with hlt | hge
    · refine hWk.item i s' _ _ hlt hW fun v' h' tk hP hW' hk' => ?_
      have S'' := S'.swap (tk := tk) (X.obj i _ hW) hIc hz' hk'
      have l'' := l'.skip hI0 hk'
      obtain ⟨d', hd', htr⟩ := X.item i v' hP
      refine letGo_ok (X.obj (i + 1) _ hW') ?_
      have hdrop : ds.drop i = d' :: ds.drop (i + 1) := by
        rw [List.drop_eq_getElem_cons hlt]
        congr 1
        rw [List.getElem?_eq_getElem hlt] at hd'
        exact Option.some.inj hd'
      rw [hdrop] at hL
      obtain ⟨ρa, ρb, hsub, hbd, hbody⟩ := hL
      have tv : Tr h' Z' v' d' := htr h' Z' l''
      refine hb ρa ρb d' _ Z' v' _ _ hbd (S''.weak hsub) tv fun s₃ S₃ l₃ _ => ?_
      refine hbody.run s₃ Z' _ _ S₃ fun o' r f s₄ Z₄ p S₄ l₄ fl => ?_
      have hWf : W (i + 1) s₄.heap := hWk.frame _ _ _ hW' fun b hb' o'' e => by
        rcases X.foot b hb' with rfl | hz
        · obtain ⟨oI, _, fs, h1, _, _, h2⟩ := X.obj (i + 1) _ hW'
          rw [h1] at e; cases e
          exact (l₃.trans l₄).flds _ _ _ h1 h2
        · exact (l₃.trans l₄).keep _ _ (l''.zz _ hz) e
      have lend : Le s₁.heap Z₁ s₄.heap Z₄ := l''.trans (l₃.trans l₄)
      have hz4 : ¬ Z₄ s₁.heap.objs.size := fun q => by
        obtain ⟨oI, _, fs, h1, _, _, h2⟩ := X.obj (i + 1) _ hW'
        exact hz' ((l₃.trans l₄).fz _ _ _ h1 h2 q)
      cases o' with
      | next =>
        cases (fl : f = .next)
        exact ⟨ds.length - (i + 1), by omega, i + 1, r, Z₄, hlt, rfl, S₄, hWf, p, lend, hz4⟩
      | cont =>
        cases (fl : f = .cont)
        exact ⟨ds.length - (i + 1), by omega, i + 1, r, Z₄, hlt, rfl, S₄, hWf, p, lend, hz4⟩
      | brk =>
        cases (fl : f = .brk)
        exact k .next r _ _ _ p S₄ ((S.ofX l₁).trans lend) rfl
      | ret d =>
        obtain ⟨v, rfl, t⟩ := fl
        exact k (.ret d) r _ _ _ p S₄ ((S.ofX l₁).trans lend) ⟨v, rfl, t⟩
    · have hie : i = ds.length := Nat.le_antisymm hi hge
      subst hie
      refine hWk.done s' _ _ hW fun h' tk hk' => wpAny_execs_nil ?_
      rw [List.drop_length] at hL
      obtain ⟨ρa, hsub, p⟩ := hL
      exact k .next ρa .next _ Z' p ((S'.swap (tk := tk) (X.obj _ _ hW) hIc hz' hk').weak hsub) ((S.ofX l₁).trans (l'.skip hI0 hk')) rfl) hs
end
section
def bindPair (x y : Str) : D → Rho → Option Rho
  | .tup [d₁, d₂], ρ => some ((y, .v d₂) :: (x, .v d₁) :: ρ)
  | _, _ => none
section
variable {c : Cx} {ρ ρ₁ ρ₂ ρ₃ : Rho} {x y : Str} {pos : Pos} {d d₁ d₂ : D} {n : Nat} {Z : Addr → Prop} {s : Shared}

theorem St.own_at (S : St c ρ Z s) {ds : List D} (hl : ρ.lookup x = some (.own ds)) (hc : c.env.cells.lookup x = none) {m : Str → Option Value} {own : Str → List Addr} (l : Loc c ρ Z s.heap m own) :
    ∃ a vs n, m x = some (.ref a) ∧ own x = [a] ∧ s.heap.get? a = some (listOf vs.toArray n) ∧ TrL s.heap Z vs ds := by
  obtain ⟨v, g1, a, vs, n, hO, rfl, hg, ht⟩ := l.get x _ hl
  rcases g1 with ⟨_, q⟩ | ⟨t, o, q, _⟩
  · exact ⟨a, vs, n, q, hO, hg, ht⟩
  · rw [hc] at q; cases q

/-- the frame's own list changes -/
theorem St.own_upd (S : St c ρ Z s) {ds ds' : List D} (hl : ρ.lookup x = some (.own ds)) (hc : c.env.cells.lookup x = none) {m : Str → Option Value} {own : Str → List Addr} (l : Loc c ρ Z s.heap m own) {a : Addr} {n' : Nat} {vs' : List Value} {h' : Heap} {tk : Nat}
    (hO : own x = [a]) (hm : m x = some (.ref a)) {o : Obj} (ho : s.heap.get? a = some o) (hoo : ∃ vs n, o = listOf vs n) (hs : Heap.SameBut a s.heap h') (ha : h'.get? a = some (listOf vs'.toArray n')) (ht : TrL s.heap Z vs' ds') : St c ((x, .own ds') :: ρ) Z { s with heap := h', toks := tk } ∧ Le s.heap Z h' Z := by
  obtain ⟨h1, h2, h3, h4, h5⟩ := l.off x a (by rw [hO]; exact .head _)
  obtain ⟨vs₀, n₀, rfl⟩ := hoo
  have hle : Le s.heap Z h' Z := le_upd hs h1 ho fun fs q => by cases q
  have hnL : h'.Ns c.L m := by obtain ⟨oL, es, ep, hoL, r⟩ := l.ns; exact ⟨oL, es, ep, (hs.2 _ (Ne.symm h2)).trans hoL, r⟩
  refine ⟨S.upd hs h1 h3 h5 ⟨_, _, l.put (v := .ref a) (O := [a]) hs hnL h1 (.inl ⟨hc, hm⟩) (fun y hy u hu => ?_) (b := .own ds') ⟨a, vs', n', rfl, rfl, ha, hle.trL ht⟩ (fun _ => by rw [ha]; rfl) (fun b hb => ?_) (fun b hb y hy q => ?_) (fun y hy q => hy (l.apart y x a q (by rw [hO]; exact .head _))) fun y o w e e1 e2 => ?_⟩, hle⟩
  · refine hu.mono fun b o w g1 g2 g3 => (hs.2 b fun q => ?_).trans g1
    rw [q, ho] at g1; rw [← Option.some.inj g1] at g2; cases g2
  · rw [List.mem_singleton.mp hb]; exact ⟨h1, h2, h3, by rw [ha]; rfl, h5⟩
  · rw [List.mem_singleton.mp hb] at q
    exact hy (l.apart y x a q (by rw [hO]; exact .head _))
  · rw [ho] at e1; rw [← Option.some.inj e1] at e2; cases e2

/-- x.append(e) -/
theorem ex_append {e : Expr} {p ap cp : Pos} {pl : Sem Bool} {ds : List D} (hl : ρ.lookup x = some (.own ds)) (hk : c.env.kindOf x = some .local) (hc : c.env.cells.lookup x = none) (h : EvL c ρ [e] ρ₁ [d]) (hl₁ : ρ₁.lookup x = some (.own ds)) (hz : ds.length ≤ sizeLine)
    (hd : (x == ("__debug__" : Str)) = false) (he : starEach [e] c.env = [(false, eval e c.env)])
    (h1 : eval (.Call (.Attribute (.Name x p) ("append" : Str) ap) [e] [] cp) c.env = (do let ov ← eval (.Name x p) c.env; standAt ap.atName; let (f, first) ← holding [ov] (getMethod ov ("append" : Str) pl); callWith cp f first (backTo cp (starEach [e] c.env)) []))
    (h2 : interactive c.env = false) (h3 : swapsWith (.Call (.Attribute (.Name x p) ("append" : Str) ap) [e] [] cp) none pos.line c.env = pure false) :
    Ex1 c ρ (.Expr (.Call (.Attribute (.Name x p) ("append" : Str) ap) [e] [] cp) pos) ((x, .own (ds ++ [d])) :: ρ₁) := .mk fun s Z Q E S k => by
  obtain ⟨m, own, l⟩ := S.loc
  obtain ⟨a, vs, n, hm, hO, hg, ht⟩ := S.own_at hl hc l
  have hoff := l.off x a (by rw [hO]; exact .head _)
  refine wpAny_Expr (MethodCall_ (pl := pl) (wpAny_Name (wpAny_loadName_local S.kind hk l.ns hm (getMethod_list_append hg rfl rfl (callWith_method1 (h.run cp s Z _ E S fun ws s₁ Z₁ S₁ l₁ t₁ => ?_) (by simpa [starEach] using he) rfl))) hd) h1) h2 h3
  obtain ⟨m₁, own₁, l₁'⟩ := S₁.loc
  obtain ⟨a₁, vs₁, n₁, hm₁, hO₁, hg₁, ht₁⟩ := S₁.own_at hl₁ hc l₁'
  have hmm : m₁ = m := ns_unique l₁'.ns (by obtain ⟨oL, es, ep, hoL, r⟩ := l.ns; exact ⟨oL, es, ep, l₁.all _ _ S.ok.vL hoL, r⟩)
  have haa : a₁ = a := by rw [hmm, hm] at hm₁; cases hm₁; rfl
  subst haa
  cases t₁ using TrL.c1 with
  | @cons v tv =>
    refine append_at (n := n₁) hg₁ (fun h' hs hg' => ?_) (by have := ht₁.length; simp only [List.size_toArray]; omega)
    obtain ⟨S', l'⟩ := S₁.own_upd (tk := s₁.toks) (ds' := ds ++ [d]) hl₁ hc l₁' (n' := n₁ + 1) (vs' := vs₁ ++ [v]) hO₁ hm₁ hg₁ ⟨_, _, rfl⟩ hs (by simpa using hg') (ht₁.append (.cons tv .nil))
    exact k .next _ _ _ _ ⟨rfl, rfl⟩ S' ((S.ofX l₁).trans l') rfl

/-- while, by a measure over the data -/
def WLoop (c : Cx) (test : Expr) (body : List Stmt) (P : Out → Rho → Prop) : Nat → Rho → Prop
  | 0, _ => False
  | n + 1, ρ => ∃ ρ', Sub ρ' ρ ∧ ((∃ ρ₁, EvT c ρ' test ρ₁ false ∧ P .next ρ₁) ∨ ∃ ρ₁, EvT c ρ' test ρ₁ true ∧ Exs c ρ₁ body fun o r => match o with
    | .next => WLoop c test body P n r
    | .cont => WLoop c test body P n r
    | .brk => P .next r
    | .ret v => P (.ret v) r)
theorem ex_while {test : Expr} {body : List Stmt} {P : Out → Rho → Prop} {n : Nat} (h : WLoop c test body P n ρ) : Ex c ρ (exec (.While test body [] pos) c.env) P := .mk fun s Z Q E S k => by
  refine wpAny_While (codeAny_whileLoop (I := fun j s' => ∃ ρ' Z', St c ρ' Z' s' ∧ WLoop c test body P j ρ' ∧ Le s.heap Z s'.heap Z') ?_ n ⟨ρ, Z, S, h, Le.refl _ _⟩)
  rintro j s' ⟨ρ', Z', S', hw, l'⟩
  cases j with
  | zero => exact hw.elim
  | succ j =>
    obtain ⟨ρa, hsub, ⟨ρb, ht, p⟩ | ⟨ρb, ht, hb⟩⟩ := hw
    · refine ht.run s' Z' _ _ (S'.weak hsub) fun s₁ Z₁ S₁ l₁ => ?_
      rw [if_neg Bool.false_ne_true]
      exact wpAny_execs_nil (k .next ρb .next _ _ p S₁ (l'.trans ((S'.weak hsub).ofX l₁)) rfl)
    · refine ht.run s' Z' _ _ (S'.weak hsub) fun s₁ Z₁ S₁ l₁ => ?_
      rw [if_pos rfl]
      refine hb.run s₁ Z₁ _ _ S₁ fun o r f s₂ Z₂ p S₂ l₂ fl => ?_
      have lend := l'.trans (((S'.weak hsub).ofX l₁).trans l₂)
      cases o with
      | next => cases (fl : f = .next); exact ⟨j, Nat.lt_succ_self _, r, Z₂, S₂, p, lend⟩
      | cont => cases (fl : f = .cont); exact ⟨j, Nat.lt_succ_self _, r, Z₂, S₂, p, lend⟩
      | brk => cases (fl : f = .brk); exact k .next r .next _ _ p S₂ lend rfl
      | ret d => obtain ⟨v, rfl, t⟩ := fl; exact k (.ret d) r _ _ _ p S₂ lend ⟨v, rfl, t⟩

theorem ext_but {s : Shared} {Z : Addr → Prop} (z : ZOk Z s.heap) {h' : Heap} (x : Heap.ExtBut s.heap.objs.size s.heap h') : Ext s Z { s with heap := h', toks := s.toks } Z :=
  Ext.of z fun a o e => x a o (fun q => by rw [q, get_size] at e; cases e) e

/-- a, b = a pair -/
theorem assign_pair {v : Value} {Q : Unit → Shared → Prop} {E : Value → Shared → Prop} {p q pt : Pos} {k' : Nat} (S : St c ρ Z s) (t : Tr s.heap Z v (.tup [d₁, d₂])) (hx : c.Sto x) (hy : c.Sto y)
    (k : ∀ s', St c ((y, .v d₂) :: (x, .v d₁) :: ρ) Z s' → Le s.heap Z s'.heap Z → Kp c s s' → Q () s') : wpAny (model PP c.w) c.A (assign (.Tuple [.Name x p, .Name y q] k' pt) c.env v) Q E s := by
  cases t using Tr.tupC with
  | @tup a vs hz ha ht =>
    cases ht using TrL.c2 with
      | @cons v₁ v₂ t₁ t₂ =>
        refine wpAny_assign_Tuple S.stk.handled ha rfl rfl fun h' hb => ?_
        have X := ext_but S.zok hb
        have S' := S.ext X
        show wpAny _ _ (assignInOrder [assign (.Name x p) c.env, assign (.Name y q) c.env] [v₁, v₂]) _ _ _
        unfold assignInOrder assignInOrder assignInOrder
        refine wpAny_bind (wpAny_holding (wpAny_assign_Name (store_v S' (X.le.tr t₁) hx fun s₁ S₁ l₁ p₁ => ?_)))
        refine wpAny_bind (wpAny_holding (wpAny_assign_Name (store_v S₁ ((X.le.trans l₁).tr t₂) hy fun s₂ S₂ l₂ p₂ => ?_)))
        exact wpAny_pure (k s₂ S₂ (X.le.trans (l₁.trans l₂)) fun a o q1 q2 e => (p₁.trans p₂) a o q1 q2 (X.keep a o e))
theorem binds_pair {p q pt : Pos} {k' : Nat} (hx : c.Sto x) (hy : c.Sto y) : Binds c (.Tuple [.Name x p, .Name y q] k' pt) (bindPair x y) := by
  intro ρ ρ₁ d s Z v Q E hb S t k
  unfold bindPair at hb
  split at hb
  · cases hb
    exact assign_pair S t hx hy k
  · cases hb
theorem ex_assign_pair {e : Expr} {p q pt : Pos} {k' : Nat} (h : Ev c ρ e ρ₁ (.tup [d₁, d₂])) (hx : c.Sto x) (hy : c.Sto y) (hs : swapsWithSole [.Tuple [.Name x p, .Name y q] k' pt] e pos.line c.env = pure false)
    (hw : swappedStores [.Tuple [.Name x p, .Name y q] k' pt] e c.env = pure none) : Ex1 c ρ (.Assign [.Tuple [.Name x p, .Name y q] k' pt] e pos) ((y, .v d₂) :: (x, .v d₁) :: ρ₁) := .mk fun s Z Q E S k =>
  Assign_Tuple (h.run s Z _ E S fun v s₁ Z₁ d' S₁ l₁ t₁ e₁ => assign_pair S₁ (e₁ ▸ t₁) hx hy fun s₂ S₂ l₂ _ => k .next _ _ _ _ ⟨rfl, rfl⟩ S₂ ((S.ofX l₁).trans l₂) rfl) hs hw
/-- a, b = e1, e2: stored from behind -/
theorem ex_swap {e₁ e₂ : Expr} {p q pt ep : Pos} {k' ek : Nat} (h : EvL c ρ [e₁, e₂] ρ₁ [d₁, d₂]) (hx : c.Sto x) (hy : c.Sto y) (hs : swapsWithSole [.Tuple [.Name x p, .Name y q] k' pt] (.Tuple [e₁, e₂] ek ep) pos.line c.env = pure false)
    (hw : swappedStores [.Tuple [.Name x p, .Name y q] k' pt] (.Tuple [e₁, e₂] ek ep) c.env = pure (some [x, y])) : Ex1 c ρ (.Assign [.Tuple [.Name x p, .Name y q] k' pt] (.Tuple [e₁, e₂] ek ep) pos) ((x, .v d₁) :: (y, .v d₂) :: ρ₁) := .mk fun s Z Q E S k =>
  Assign_Tuple_swapped (names := [x, y]) (Tuple_ (h.run ep s Z _ E S fun vs s₁ Z₁ S₁ l₁ t₁ => wpAny_newTuple (by
    have X : Ext s₁ Z₁ { s₁ with heap := s₁.heap.push { cls := .type "tuple", data := .seq vs.toArray } } Z₁ := Ext.of (tk := s₁.toks) S₁.zok fun a o e => Heap.get?_push_of_some _ e
    cases t₁ using TrL.c2 with
      | @cons v₁ v₂ t₁ t₂ =>
        refine wpAny_unpackItems_tuple S₁.stk.handled (items := #[v₁, v₂]) ⟨_, Heap.get?_push_size _ rfl, rfl, 0, rfl⟩ fun h' hb => ?_
        have X' := ext_but (s := { s₁ with heap := s₁.heap.push { cls := .type "tuple", data := .seq [v₁, v₂].toArray } }) X.zok hb
        have S' := (S₁.ext X).ext X'
        show wpAny _ _ (assignInOrder [fun v => bindName c.env y v, fun v => bindName c.env x v] [v₂, v₁]) _ _ _
        unfold assignInOrder assignInOrder assignInOrder
        refine wpAny_bind (wpAny_holding (wpAny_bindName (store_v S' ((X.le.trans X'.le).tr t₂) hy fun s₂ S₂ l₂ _ => ?_)))
        refine wpAny_bind (wpAny_holding (wpAny_bindName (store_v S₂ (((X.le.trans X'.le).trans l₂).tr t₁) hx fun s₃ S₃ l₃ _ => ?_)))
        exact wpAny_pure (k .next _ _ _ _ ⟨rfl, rfl⟩ S₃ ((S.ofX l₁).trans ((X.le.trans X'.le).trans (l₂.trans l₃))) rfl)) (by rw [t₁.length]; exact Nat.le_of_ble_eq_true rfl))) hs hw
end
end
section
/-- a comprehension's frame within c -/
abbrev cxComp (c : Cx) (scope : Scope) (cl : List (Str × Addr)) (C : Addr) (s : Shared) (Z : Addr → Prop) : Cx :=
  { c with env := compEnvC scope cl C c.env, s0 := s, Z0 := Z, mine := false }

abbrev NoOwn (ρ : Rho) : Prop := ∀ x ds, ρ.lookup x ≠ some (Bd.own ds)

theorem cxComp_ok {c : Cx} {ρ : Rho} {Z : Addr → Prop} {s : Shared} (S : St c ρ Z s) {scope : Scope} {cl : List (Str × Addr)} {C : Addr} (hC : s.heap.get? C = none) (hk : scope.kind = .function) (hcl : ∀ x a, cl.lookup x = some a → c.env.cells.lookup x = some a) : (cxComp c scope cl C s Z).Ok where
  base := fun h' hk' _ => by
    obtain ⟨m, own, l⟩ := S.loc
    exact S.ok.base h' (fun a o v e => hk' a o v (S.keep a o v e)) ⟨m, by obtain ⟨oL, es, ep, hL, r⟩ := l.ns; exact ⟨oL, es, ep, hk' _ _ S.ok.vL hL, r⟩⟩
  gst := S.ok.gst
  gv := S.ok.gv
  z0ok := S.zok
  fr0 := fun e he L hL => .inr ⟨Heap.FunFrames.alive S.stk.fr he hL, S.zfr e he L hL⟩
  Lnew := hC
  kind := hk
  vL := fun v => by have := S.va _ v; rw [show (cxComp c scope cl C s Z).L = C from rfl, hC] at this; cases this
  vfr := S.ok.vfr
  glob := S.ok.glob
  blt := S.ok.blt
  cinj := fun x y a e1 e2 => S.ok.cinj x y a (hcl x a e1) (hcl y a e2)
  bs := by
    obtain ⟨B, b1, b2, b3, b4, b5⟩ := S.ok.bs
    refine ⟨B, b1, b2, fun b o e => S.keep b o (fun v => by rw [b4 b v] at e; cases e) (b3 b o e), b4, fun h' hk' _ => ?_⟩
    obtain ⟨m, own, l⟩ := S.loc
    exact b5 h' (fun a o v e => hk' a o v (S.keep a o v e)) ⟨m, by obtain ⟨oL, es, ep, hL, r⟩ := l.ns; exact ⟨oL, es, ep, hk' _ _ S.ok.vL hL, r⟩⟩

/-- a change at a thing that the frame doesn't know -/
theorem St.junk {c : Cx} {ρ : Rho} {Z : Addr → Prop} {s : Shared} (S : St c ρ Z s) {t : Addr} {h' : Heap} {tk : Nat} (hs : Heap.SameBut t s.heap h') {o : Obj} (ho : s.heap.get? t = some o) (hz : ¬ Z t) (h0 : c.s0.heap.get? t = none) (hv : ¬ c.V t)
    (hL : t ≠ c.L) (hc : ∀ w, o.data ≠ .cell w) (hown : ∀ m own, Loc c ρ Z s.heap m own → ∀ x, t ∉ own x) : St c ρ Z { s with heap := h', toks := tk } := by
  obtain ⟨m, own, l⟩ := S.loc
  have hk : ∀ a o', a ≠ t → s.heap.get? a = some o' → h'.get? a = some o' := fun a o' q e => (hs.2 a q).trans e
  have hce : ∀ x a, c.env.cells.lookup x = some a → a ≠ t := fun x a e q => by
    obtain ⟨_, _, ⟨o', w, g1, g2⟩, _⟩ := l.cell x a e
    rw [q, ho] at g1; rw [← Option.some.inj g1] at g2; exact hc w g2
  have hO := hown m own l
  refine S.upd hs hz h0 hv ⟨m, own, ?_, fun x b e => ?_, fun x a ha => ?_, l.apart, l.dom, fun x a e => ?_⟩
  · obtain ⟨oL, es, ep, hoL, r⟩ := l.ns; exact ⟨oL, es, ep, hk _ _ (Ne.symm hL) hoL, r⟩
  · obtain ⟨v, h1, h2⟩ := l.get x b e
    exact ⟨v, h1.mono fun a o' w g1 _ g3 => hk a o' (hce x a g3) g1, h2.mono (fun _ q => q) (fun a o' q e => hk a o' (fun z => hz (z ▸ q)) e) fun a ha o' e => hk a o' (fun z => hO x (z ▸ ha)) e⟩
  · obtain ⟨h1, h2, h3, h4, h5⟩ := l.off x a ha
    exact ⟨h1, h2, h3, some_of (fun o' => hk a o' fun z => hO x (z ▸ ha)) h4, h5⟩
  · obtain ⟨h1, h2, ⟨o', w, h3, h4⟩, h5⟩ := l.cell x a e
    exact ⟨h1, h2, ⟨o', w, hk _ _ (hce x a e) h3, h4⟩, h5⟩
theorem Loc.no_own {c : Cx} {ρ : Rho} {Z : Addr → Prop} {h : Heap} {m : Str → Option Value} {own : Str → List Addr} (l : Loc c ρ Z h m own) (hn : NoOwn ρ) (x : Str) : own x = [] := by
  cases hx : ρ.lookup x with
  | none => exact l.dom x hx
  | some b =>
    obtain ⟨v, _, hb⟩ := l.get x b hx
    cases b with
    | v d => exact hb.1
    | own ds => exact absurd hx (hn x ds)
    | deck => exact hb.1

/-- the turns of a comprehension: no test, or one -/
structure Turn (c : Cx) (scope : Scope) (cl : List (Str × Addr)) (target elt : Expr) (ifs : List Expr) (bind : D → Rho → Option Rho) (ρf : Rho) (keepd : D → Bool) (P : D → D → Prop) (d : D) : Prop where
  step : ∃ ρ₁, bind d ρf = some ρ₁ ∧ Sub ρf ρ₁ ∧ NoOwn ρ₁ ∧ ∀ C s0 Z0, (match ifs with | [] => keepd d = true | [t] => EvT (cxComp c scope cl C s0 Z0) ρ₁ t ρ₁ (keepd d) | _ => False) ∧
    (keepd d = true → EvP (cxComp c scope cl C s0 Z0) ρ₁ (eval elt (compEnvC scope cl C c.env)) ρ₁ (P d))

inductive All2 (P : D → D → Prop) : List D → List D → Prop
  | nil : All2 P [] []
  | cons {a b : D} {as bs : List D} : P a b → All2 P as bs → All2 P (a :: as) (b :: bs)
theorem All2.snoc {P : D → D → Prop} : ∀ {as bs : List D} {a b : D}, All2 P as bs → P a b → All2 P (as ++ [a]) (bs ++ [b])
  | _, _, _, _, .nil, h => .cons h .nil
  | _, _, _, _, .cons p r, h => .cons p (r.snoc h)
theorem All2.map {f : D → D} : ∀ {as bs : List D}, All2 (fun a b => b = f a) as bs → bs = as.map f
  | _, _, .nil => rfl
  | _, _, .cons p r => by rw [List.map_cons, p, r.map]
theorem All2.length {P : D → D → Prop} : ∀ {as bs : List D}, All2 P as bs → bs.length = as.length
  | _, _, .nil => rfl
  | _, _, .cons _ r => by rw [List.length_cons, List.length_cons, r.length]
end
section
section
variable {prog : Program} {w : World} {A : Around} {s : Shared}
theorem codeAny_comp {elt iter target : Expr} {ifs : List Expr} {scope : Scope} {pos : Pos} {it acc : Value} {env : Env} {R : Result → Shared → Prop} (I : Nat → Shared → Prop)
    (turn : ∀ n s, I n s → wpAny (model prog w) A (pyNext it) (fun r s₁ => match r with
      | none => R (.ok .next) s₁
      | some v => wpAny (model prog w) A (letOwnedTupleGo target it v) (fun _ s₁' => wpAny (model prog w) A (assign target env v) (fun _ s₂ =>
          wpAny (model prog w) A (forIn ifs true fun c r => if r = true then do let ok ← isTrue c env (eval c env); pure (ForInStep.yield ok) else pure (ForInStep.yield r)) (fun ok s₃ =>
            if ok = true then wpAny (model prog w) A (eval elt env) (fun x s₄ =>
              wpAny (model prog w) A (call (.builtin "list.append") [acc, x]) (fun _ s₅ => ∃ m, m < n ∧ I m s₅) (notedBy (model prog w) A env fun e s' => R (.error e) s') s₄) (notedBy (model prog w) A env fun e s' => R (.error e) s') s₃
            else ∃ m, m < n ∧ I m s₃) (notedBy (model prog w) A env fun e s' => R (.error e) s') s₂) (notedBy (model prog w) A env fun e s' => R (.error e) s') s₁') (notedBy (model prog w) A env fun e s' => R (.error e) s') s₁) (notedBy (model prog w) A env fun e s' => R (.error e) s') s)
    (n : Nat) (h : I n s) : codeAny (model prog w) A (.compLoop (.ListComp elt [⟨target, iter, ifs, 0⟩] scope pos) 0 it acc env) R s := by
  refine codeAny_loop rfl I (fun n s hI => ?_) n h
  show wpAny _ A ((compTurn (.ListComp elt [⟨target, iter, ifs, 0⟩] scope pos) 0 it acc env).onRaise (fun x => do noteFrame x env; theTreesLotGoes x)) _ _ s
  refine wpAny_noted ?_
  rw [compTurn_list]
  refine wpAny_bind (wpAny_standAt (wpAny_bind (wpAny_mono (turn n s hI) (fun r s₁ h₁ => ?_) fun _ _ h' => h')))
  cases r with
  | none => exact wpAny_pure h₁
  | some v =>
    refine wpAny_bind (wpAny_mono h₁ (fun _ s₁' h₁' => ?_) fun _ _ h' => h')
    refine wpAny_bind (wpAny_mono h₁' (fun _ s₂ h₂ => wpAny_bind (wpAny_mono h₂ (fun ok s₃ h₃ => ?_) fun _ _ h' => h')) fun _ _ h' => h')
    cases ok with
    | false => exact wpAny_pure ⟨rfl, h₃⟩
    | true =>
      exact wpAny_bind (wpAny_bind (wpAny_mono h₃ (fun x s₄ h₄ => wpAny_bind (wpAny_mono h₄ (fun _ s₅ h₅ => wpAny_pure (wpAny_pure ⟨rfl, h₅⟩)) fun _ _ h' => h')) fun _ _ h' => h'))
end

theorem itr_free {s : Shared} {w : World} {Z : Addr → Prop} {o : Obj} {ds : List D} {fp : List Addr} {Pw : Nat → Value → Prop} {W : Nat → Heap → Prop} (X : Itr w s.heap (s.heap.push o) Z s.heap.objs.size ds fp Pw W) : o.isFreed = false := by
  obtain ⟨o', _, fs, h1, _, _, h2⟩ := X.obj 0 _ X.zero
  cases q : o.isFreed with
  | false => rfl
  | true =>
    exfalso
    have hg : (s.heap.push o).get? s.heap.objs.size = none := by
      cases z : (s.heap.push o).get? s.heap.objs.size with
      | none => rfl
      | some o'' =>
        obtain ⟨e1, e2⟩ := Heap.get?_some_iff.mp z
        have : (s.heap.push o).objs[s.heap.objs.size]? = some o := by
          obtain ⟨objs, life⟩ : Heap := s.heap
          simp [Heap.push]
        rw [this] at e1; cases e1; rw [q] at e2; cases e2
    rw [hg] at h1; cases h1

/-- a comprehension's walk over data, from the state behind its source -/
theorem comp_block {c : Cx} {ρ ρf : Rho} {Z : Addr → Prop} {s : Shared} {elt iter target : Expr} {ifs : List Expr} {scope : Scope} {cl : List (Str × Addr)} {pos : Pos} {v : Value} {d : D} {ds : List D} {bind : D → Rho → Option Rho} {keepd : D → Bool} {P : D → D → Prop}
    {RR : Value → Addr → Result → Shared → Prop} {E : Value → Shared → Prop} (S : St c ρ Z s) (t : Tr s.heap Z v d) (hd : itemsOf d = some ds) (hz : ds.length ≤ sizeLine)
    (hk : scope.kind = .function) (hcell : ∀ y ∈ scope.names, y.2 ≠ .cell) (hcl : ∀ x a, cl.lookup x = some a → c.env.cells.lookup x = some a) (hb : ∀ C s0 Z0, Binds (cxComp c scope cl C s0 Z0) target bind)
    (hf : ∀ x b, ρf.lookup x = some b → ρ.lookup x = some b ∧ (cl.lookup x).isSome = true ∧ ∀ ds, b ≠ .own ds)
    (ht : ∀ d ∈ ds, Turn c scope cl target elt ifs bind ρf keepd P d)
    (k : ∀ D C s' Z' ρ' rs vs n, s.heap.get? D = none → s.heap.get? C = none → D ≠ C → St (cxComp c scope cl C s Z) ρ' Z' s' → s'.heap.get? D = some (listOf vs n) → TrL s'.heap Z' vs.toList rs → ¬ Z' D → All2 P (ds.filter keepd) rs → RR (.ref D) C (.ok .next) s') :
    wpAny (model PP c.w) c.A (pyIter v) (fun it s₂ => wpAny (model PP c.w) c.A (newList []) (fun acc s₃ => wpAny (model PP c.w) c.A (newFunctionEnv scope c.env.globals cl [] c.env.qual none .none (some c.env)) (fun cenv s₄ =>
      codeAny (model PP c.w) c.A (.compStart (.ListComp elt [⟨target, iter, ifs, 0⟩] scope pos) 0 it acc { cenv with scope := relabel scope c.env }) (RR acc cenv.locals) s₄) E s₃) E s₂) E s := by
  refine pyIter_D S.stk.handled t hd S.zok fun o fp Pw W X => ?_
  have hfr := itr_free X
  have hI0 : s.heap.get? s.heap.objs.size = none := get_size _
  refine wpAny_newList ?_
  refine wpAny_newFunctionEnv hcell (by intro y hy; simp at hy) (fun h₁ hns₁ hsb₁ => ?_) hk
  have hH0 : ∀ a, (s.heap.get? a).isSome = true → a < s.heap.objs.size := fun a e => by obtain ⟨o', q⟩ := Option.isSome_iff_exists.mp e; exact Heap.lt_size q
  have hge : ∀ a, s.heap.objs.size ≤ a → s.heap.get? a = none := fun a q => by
    cases z : s.heap.get? a with
    | none => rfl
    | some o' => exact absurd (Heap.lt_size z) (Nat.not_lt.mpr q)
  obtain ⟨H, hH⟩ : ∃ H, H = (s.heap.push o).push { cls := .type "list", data := .seq ([] : List Value).toArray } := ⟨_, rfl⟩
  have hns₂ : h₁.Ns H.objs.size (fun x => ([] : List (Str × Value)).reverse.lookup x) := by rw [hH]; exact hns₁
  have hsb₂ : ∀ b o', b ≠ H.objs.size → H.get? b = some o' → h₁.get? b = some o' := fun b o' q e => by
    rw [hH] at q e
    exact hsb₁.extBut b o' q (Heap.get?_push_of_some _ e)
  obtain ⟨I, hI⟩ : ∃ I, I = s.heap.objs.size := ⟨_, rfl⟩
  obtain ⟨D, hD⟩ : ∃ D, D = (s.heap.push o).objs.size := ⟨_, rfl⟩
  obtain ⟨C, hC⟩ : ∃ C, C = H.objs.size := ⟨_, rfl⟩
  have hDs : D = s.heap.objs.size + 1 := by rw [hD, Heap.size_push]
  have hCs : C = s.heap.objs.size + 2 := by rw [hC, hH, Heap.size_push, Heap.size_push]
  have hID : I ≠ D := by rw [hI, hDs]; exact Nat.ne_of_lt (Nat.lt_succ_self _)
  have hIC : I ≠ C := by rw [hI, hCs]; exact Nat.ne_of_lt (Nat.lt_succ_of_lt (Nat.lt_succ_self _))
  have hDC : D ≠ C := by rw [hDs, hCs]; exact Nat.ne_of_lt (Nat.lt_succ_self _)
  have dI : s.heap.get? I = none := hge _ (by rw [hI]; exact Nat.le_refl _)
  have dD : s.heap.get? D = none := hge _ (by rw [hDs]; exact Nat.le_succ _)
  have dC : s.heap.get? C = none := hge _ (by rw [hCs]; exact Nat.le_add_right _ _)
  have ne_of : ∀ {a b : Addr}, (s.heap.get? a).isSome = true → s.heap.get? b = none → a ≠ b := fun e q z => by rw [z, q] at e; cases e
  have keep1 : ∀ a o', (s.heap.push o).get? a = some o' → a ≠ C → h₁.get? a = some o' := fun a o' e q => hsb₂ a o' (hC ▸ q) (by rw [hH]; exact Heap.get?_push_of_some _ e)
  have keep0 : ∀ a o', s.heap.get? a = some o' → h₁.get? a = some o' := fun a o' e => keep1 a o' (Heap.get?_push_of_some _ e) (ne_of (by rw [e]; rfl) dC)
  have hDo : h₁.get? D = some (listOf #[] 0) := hsb₂ D _ (hC ▸ hDC) (by rw [hH, hD]; exact Heap.get?_push_size _ rfl)
  have zn : ∀ {a b : Addr}, Z a → s.heap.get? b = none → a ≠ b := fun q e => ne_of (S.zok _ q) e
  have vn : ∀ {a b : Addr}, c.V a → s.heap.get? b = none → a ≠ b := fun q e => ne_of (S.va _ q) e
  have hok := cxComp_ok S (scope := scope) (cl := cl) dC hk hcl
  obtain ⟨m₀, own₀, l₀⟩ := S.loc
  have S₄ : ∀ tk, St (cxComp c scope cl C s Z) ρf Z { s with heap := h₁, toks := tk } := fun tk => by
    refine ⟨⟨_, _, rfl⟩, hok, fun a o' _ e => keep0 a o' e, fun _ q => q, fun _ q => .inl q, fun a q => some_of (keep0 a) (S.zok a q), fun q => zn q dC rfl, S.zV, S.ok.gst _ _ S.g fun a v => ?_, _, fun _ => [], by rw [show (cxComp c scope cl C s Z).L = H.objs.size from hC]; exact hns₂, fun x b e => ?_, fun _ _ q => (nomatch q), fun _ _ _ q => (nomatch q), fun _ _ => rfl, fun x a e => ?_⟩
    · obtain ⟨o', q⟩ := Option.isSome_iff_exists.mp (S.va a v)
      rw [q, keep0 a o' q]
    · obtain ⟨h1, h2, h3⟩ := hf x b e
      obtain ⟨v', g1, g2⟩ := l₀.get x b h1
      obtain ⟨a, ha⟩ := Option.isSome_iff_exists.mp h2
      refine ⟨v', ?_, ?_⟩
      · rcases g1 with ⟨q, _⟩ | ⟨a', o', q1, q2, q3⟩
        · rw [hcl x a ha] at q; cases q
        · rw [hcl x a ha] at q1; cases q1
          exact .inr ⟨a, o', ha, keep0 _ _ q2, q3⟩
      · cases b with
        | v d => exact ⟨rfl, g2.2.mono (fun _ q => q) fun a o' _ e => keep0 a o' e⟩
        | own ds => exact absurd rfl (h3 ds)
        | deck => exact ⟨rfl, g2.2⟩
    · obtain ⟨h1, h2, ⟨o', w, h3, h4⟩, _⟩ := l₀.cell x a (hcl x a e)
      exact ⟨h1, h2, ⟨o', w, keep0 _ _ h3, h4⟩, fun q => nomatch q⟩
  have hW0 : W 0 h₁ := (X.walks c.A S.stk.handled).frame _ _ _ X.zero fun b hb' o' e => keep1 b o' e (by
    rcases X.foot b hb' with rfl | hz
    · exact hI ▸ hIC
    · exact zn hz dC)
  have noF : NoOwn ρf := fun x ds e => (hf x _ e).2.2 ds rfl
  have leOf : ∀ {ρ' Z' s'}, St (cxComp c scope cl C s Z) ρ' Z' s' → Le s.heap Z s'.heap Z' := fun S' => ⟨S'.z0, fun a o' q e => S'.keep a o' (S.zV a q) e, fun a o' fs e f => S'.keep a o' (fun v => S.vnf a o' fs v e f) e, fun a o' fs e f q => (S'.znew a q).elim id fun z => by rw [z] at e; cases e⟩
  have nV : ∀ {b : Addr}, s.heap.get? b = none → ¬ c.V b := fun e v => vn v e rfl
  have loop : ∀ s₀ : Shared, (∃ tk, s₀ = { s with heap := h₁, toks := tk }) → codeAny (model PP c.w) c.A (.compLoop (.ListComp elt [⟨target, iter, ifs, 0⟩] scope pos) 0 (.ref I) (.ref D) (compEnvC scope cl C c.env)) (RR (.ref D) C) s₀ := by
    rintro s₀ ⟨tk₀, rfl⟩
    refine codeAny_comp (I := fun j s' => ∃ i ρ' Z' rs vs n, i ≤ ds.length ∧ j = ds.length - i ∧ St (cxComp c scope cl C s Z) ρ' Z' s' ∧ Sub ρf ρ' ∧ NoOwn ρ' ∧ W i s'.heap ∧ s'.heap.get? D = some (listOf vs n) ∧ TrL s'.heap Z' vs.toList rs ∧ ¬ Z' D ∧ ¬ Z' I ∧ All2 P ((ds.take i).filter keepd) rs) ?_ ds.length
      ⟨0, ρf, Z, [], #[], 0, Nat.zero_le _, by simp, S₄ _, fun _ _ e => e, noF, hW0, hDo, .nil, fun q => zn q dD rfl, fun q => zn q dI rfl, .nil⟩
    rintro j s' ⟨i, ρ', Z', rs, vs, n, hi, rfl, S', hsub, hno, hW, hDg, hT, hzD, hzI, hA⟩
    have hWk := X.walks c.A S.stk.handled
    rw [← hI] at X hWk
    rcases Nat.lt_or_ge i ds.length with hlt | hge'
    · refine hWk.item i s' _ _ hlt hW fun v' h' tk hP hW' hk' => ?_
      have S'' := S'.swap (tk := tk) (X.obj i _ hW) dI hzI hk'
      obtain ⟨d', hd', htr⟩ := X.item i v' hP
      have tv : Tr h' Z' v' d' := htr h' Z' (leOf S'')
      refine letGo_ok (X.obj (i + 1) _ hW') ?_
      have hmem : d' ∈ ds := List.mem_of_getElem? hd'
      obtain ⟨ρ₁, hbd, hsub₁, hno₁, hstep⟩ := (ht d' hmem).step
      have hDg' : h'.get? D = some (listOf vs n) := hk' D _ (by simpa using Ne.symm hID) hDg
      have hT' : TrL h' Z' vs.toList rs := hT.mono (fun _ q => q) fun a o' q e => hk' a o' (fun z => hzI (by rw [← List.mem_singleton.mp z]; exact q)) e
      refine hb C s Z ρf ρ₁ d' _ Z' v' _ _ hbd (S''.weak hsub) tv fun s₃ S₃ l₃ p₃ => ?_
      obtain ⟨ht1, he1⟩ := hstep C s Z
      have htake : (ds.take (i + 1)).filter keepd = (ds.take i).filter keepd ++ (if keepd d' = true then [d'] else []) := by
        rw [List.take_add_one, hd', List.filter_append]
        cases q : keepd d' <;> simp [q]
      have hDcell : ∀ y, (cxComp c scope cl C s Z).env.cells.lookup y ≠ some D := fun y e => by
        obtain ⟨_, _, ⟨o', w, g1, g2⟩, _⟩ := l₀.cell y D (hcl y D e)
        rw [dD] at g1; cases g1
      have hDg₃ : s₃.heap.get? D = some (listOf vs n) := p₃ D _ hDC hDcell hDg'
      have hIo := X.obj (i + 1) _ hW'
      -- the tests
      have tests : ∀ (Q : Bool → Shared → Prop) (E' : Value → Shared → Prop), (∀ s₄ Z₄, St (cxComp c scope cl C s Z) ρ₁ Z₄ s₄ → LeX (cxComp c scope cl C s Z) ρ₁ s₃.heap Z' ρ₁ s₄.heap Z₄ → Q (keepd d') s₄) →
          wpAny (model PP c.w) c.A (forIn ifs true fun cc r => if r = true then do let ok ← isTrue cc (compEnvC scope cl C c.env) (eval cc (compEnvC scope cl C c.env)); pure (ForInStep.yield ok) else pure (ForInStep.yield r)) Q E' s₃ := fun Q E' q => by
        match ifs, ht1 with
        | [], ht1 => exact wpAny_tests_nil (by rw [← show keepd d' = true from ht1]; exact q s₃ Z' S₃ (LeX.refl _ _ _ _))
        | [t], ht1 => exact wpAny_tests_one (ht1.run s₃ Z' Q E' S₃ q)
      refine tests _ _ fun s₄ Z₄ S₄' l₄ => ?_
      have trans_W : ∀ {s₅ : Shared} {Z₅ : Addr → Prop}, LeX (cxComp c scope cl C s Z) ρ₁ s₃.heap Z' ρ₁ s₅.heap Z₅ → W (i + 1) s₅.heap ∧ s₅.heap.get? D = some (listOf vs n) ∧ TrL s₅.heap Z₅ vs.toList rs ∧ ¬ Z₅ D ∧ ¬ Z₅ I := fun {s₅ Z₅} l₅ => by
        obtain ⟨oI, TI, fsI, g1, _, _, g2⟩ := hIo
        have hI3 : s₃.heap.get? I = some oI := l₃.flds I oI fsI g1 g2
        refine ⟨hWk.frame _ _ _ hW' fun b hb' o' e => ?_, l₅.all D _ (nV dD) hDg₃, l₅.trL (l₃.trL hT'), fun q => ?_, fun q => ?_⟩
        · rcases X.foot b hb' with hb2 | hz
          · rw [hb2] at e ⊢; rw [g1] at e; cases e; exact l₅.all I oI (nV dI) hI3
          · exact l₅.keep b o' (S'.z0 b hz) (l₃.keep b o' (S'.z0 b hz) e)
        · rcases l₅.fz D _ (nV dD) hDg₃ q with q | ⟨x, ds', m, q1, _⟩
          · exact hzD q
          · exact hno₁ x ds' q1
        · rcases l₅.fz I _ (nV dI) hI3 q with q | ⟨x, ds', m, q1, _⟩
          · exact hzI q
          · exact hno₁ x ds' q1
      cases hkd : keepd d' with
      | false =>
        rw [if_neg Bool.false_ne_true]
        obtain ⟨a1, a2, a3, a4, a5⟩ := trans_W l₄
        exact ⟨ds.length - (i + 1), by omega, i + 1, ρ₁, Z₄, rs, vs, n, hlt, rfl, S₄', hsub₁, hno₁, a1, a2, a3, a4, a5, by rw [htake, hkd]; simpa using hA⟩
      | true =>
        rw [if_pos rfl]
        refine (he1 hkd).run s₄ Z₄ _ _ S₄' fun x s₅ Z₅ r S₅ l₅ tx hPr => ?_
        have l₄₅ := LeX.trans S₃ l₄ l₅
        obtain ⟨a1, a2, a3, a4, a5⟩ := trans_W l₄₅
        have hlen := hA.length
        have hvl := a3.length
        have hfl : ((ds.take i).filter keepd).length ≤ i := Nat.le_trans (List.length_filter_le _ _) (by rw [List.length_take]; exact Nat.min_le_left _ _)
        refine append_at (n := n) a2 (fun h₆ hs₆ hg₆ => ?_) (by rw [← Array.length_toList, hvl, hlen]; exact Nat.le_trans hfl (Nat.le_trans (Nat.le_of_lt hlt) hz))
        have k6 : ∀ a o', a ≠ D → s₅.heap.get? a = some o' → h₆.get? a = some o' := fun a o' q e => (hs₆.2 a q).trans e
        have S₆ := S₅.junk (tk := s₅.toks) hs₆ a2 a4 dD (nV dD) hDC (fun w q => by cases q) fun m own l x => by rw [l.no_own hno₁ x]; exact fun q => nomatch q
        have tz : ∀ a o', Z₅ a → s₅.heap.get? a = some o' → h₆.get? a = some o' := fun a o' q e => k6 a o' (fun z => a4 (z ▸ q)) e
        refine ⟨ds.length - (i + 1), by omega, i + 1, ρ₁, Z₅, rs ++ [r], vs.push x, n + 1, hlt, rfl, S₆, hsub₁, hno₁, ?_, hg₆, ?_, a4, a5, ?_⟩
        · refine hWk.frame _ _ _ a1 fun b hb' o' e => ?_
          rcases X.foot b hb' with hb2 | hz
          · exact k6 b o' (hb2 ▸ hID) e
          · exact tz b o' (l₄₅.zz b (S'.z0 b hz)) e
        · rw [Array.toList_push]
          exact (a3.mono (fun _ q => q) tz).append (.cons (tx.mono (fun _ q => q) tz) .nil)
        · rw [htake, hkd]
          exact hA.snoc hPr
    · have hie : i = ds.length := Nat.le_antisymm hi hge'
      subst hie
      refine hWk.done s' _ _ hW fun h' tk hk' => ?_
      have S'' := S'.swap (tk := tk) (X.obj _ _ hW) dI hzI hk'
      rw [List.take_length] at hA
      exact k D C _ Z' ρ' rs vs n dD dC hDC S'' (hk' D _ (by simpa using Ne.symm hID) hDg) (hT.mono (fun _ q => q) fun a o' q e => hk' a o' (fun z => hzI (by rw [← List.mem_singleton.mp z]; exact q)) e) hzD hA
  have main := loop { s with heap := h₁, toks := s.toks + ([] : List (Str × Value)).length } ⟨_, rfl⟩
  rw [hI, hD, hC, hH] at main
  exact codeAny_compStart_list main ((X.walks c.A S.stk.handled).self 0 _ _ _ hW0 main)
end
section
/-- what stands behind a comprehension: its frame dropped, its list kept (or not yet) -/
theorem comp_out {c : Cx} {ρ ρ' : Rho} {Z Z' : Addr → Prop} {s s' : Shared} {scope : Scope} {cl : List (Str × Addr)} {C : Addr} (S : St c ρ Z s) (dC : s.heap.get? C = none) (S' : St (cxComp c scope cl C s Z) ρ' Z' s') {h' : Heap} (hs : Heap.SameBut C s'.heap h') :
    ExtV c.V s Z { s' with heap := h' } Z' ∧ c.G h' := by
  have hne : ∀ {a}, (s.heap.get? a).isSome = true → a ≠ C := fun e q => by rw [q, dC] at e; cases e
  refine ⟨⟨?_, fun a o v e => (hs.2 a (hne (by rw [e]; rfl))).trans (S'.keep a o v e), S'.z0, S'.znew, fun a q => ?_⟩, S'.ok.gst _ _ S'.g fun a v => hs.2 a (hne (S.va a v))⟩
  · obtain ⟨h, t, e⟩ := S'.same; exact ⟨h', t, by rw [e]⟩
  · rw [hs.2 a fun z => S'.zL (by rw [show (cxComp c scope cl C s Z).L = C from rfl, ← z]; exact q)]; exact S'.zok a q

section
variable {c : Cx} {ρ ρ₁ ρf : Rho} {elt iter target : Expr} {ifs : List Expr} {scope : Scope} {cl : List (Str × Addr)} {pos : Pos} {d : D} {ds : List D} {bind : D → Rho → Option Rho} {keepd : D → Bool} {P : D → D → Prop}

theorem ev_comp (h : Ev c ρ iter ρ₁ d) (hd : itemsOf d = some ds) (hz : ds.length ≤ sizeLine) (hclos : closureFor scope c.env = pure cl)
    (hk : scope.kind = .function) (hcell : ∀ y ∈ scope.names, y.2 ≠ .cell) (hnames : ∀ x ∈ scope.names, x.2 = .local → scope.names.lookup x.1 = some .local) (hcl : ∀ x a, cl.lookup x = some a → c.env.cells.lookup x = some a) (hb : ∀ C s0 Z0, Binds (cxComp c scope cl C s0 Z0) target bind)
    (hf : ∀ x b, ρf.lookup x = some b → ρ₁.lookup x = some b ∧ (cl.lookup x).isSome = true ∧ ∀ ds, b ≠ .own ds)
    (ht : ∀ d ∈ ds, Turn c scope cl target elt ifs bind ρf keepd P d) (hs : ∀ x, foldedSetIterable iter c.env x = pure x) :
    EvP c ρ (eval (.ListComp elt [⟨target, iter, ifs, 0⟩] scope pos) c.env) ρ₁ fun r => ∃ rs, r = .list rs ∧ All2 P (ds.filter keepd) rs := .mk fun s Z Q E S k => by
  rw [eval_ListComp]
  refine wpAny_comprehension_free (use := none) (g := ⟨target, iter, ifs, 0⟩) (gs := []) rfl hs hclos hk hnames (h.run s Z _ E S fun v s₁ Z₁ d' S₁ l₁ t₁ e₁ => ?_)
  subst e₁
  refine comp_block (RR := fun acc C => compPost (model PP c.w) c.A E none Q acc C) S₁ t₁ hd hz hk hcell hcl hb hf ht fun D C s' Z' ρ' rs vs n dD dC hDC S' hg hT hzD hA => ?_
  obtain ⟨m, own, l⟩ := S'.loc
  refine ⟨m, l.ns, fun h' hsb => ?_⟩
  have hDg : h'.get? D = some (listOf vs n) := (hsb.2 D hDC).trans hg
  have hCz : ¬ Z' C := S'.zL
  have hzk : ∀ a o, Z' a → s'.heap.get? a = some o → h'.get? a = some o := fun a o q e => (hsb.2 a fun z => hCz (z ▸ q)).trans e
  have hne : ∀ {a}, (s₁.heap.get? a).isSome = true → a ≠ C := fun e q => by rw [q, dC] at e; cases e
  have X : ExtV c.V s₁ Z₁ { s' with heap := h' } (fun a => Z' a ∨ a = D) := by
    refine ⟨?_, fun a o v e => (hsb.2 a (hne (by rw [e]; rfl))).trans (S'.keep a o v e), fun a q => .inl (S'.z0 a q), fun a q => q.elim (S'.znew a) fun e => .inr (by rw [e]; exact dD), fun a q => ?_⟩
    · obtain ⟨h, t, e⟩ := S'.same; exact ⟨h', t, by rw [e]⟩
    · rcases q with q | q
      · exact some_of (fun o => hzk a o q) (S'.zok a q)
      · rw [q, hDg]; rfl
  have hG : c.G h' := S'.ok.gst _ _ S'.g fun a v => hsb.2 a (hne (S₁.va a v))
  refine k (.ref D) { s' with heap := h' } _ (.list rs) (S₁.extV X hG) (LeX.trans S l₁ (S₁.leXV X)) (.list (.inr rfl) ⟨_, hDg, rfl, n, rfl⟩ (hT.mono (fun _ q => .inl q) hzk)) ⟨rs, rfl, hA⟩

theorem ex_comp {x : Str} {px spos : Pos} (h : Ev c ρ iter ρ₁ d) (hd : itemsOf d = some ds) (hz : ds.length ≤ sizeLine) (hclos : closureFor scope c.env = pure cl)
    (hk : scope.kind = .function) (hcell : ∀ y ∈ scope.names, y.2 ≠ .cell) (hnames : ∀ x ∈ scope.names, x.2 = .local → scope.names.lookup x.1 = some .local) (hcl : ∀ x a, cl.lookup x = some a → c.env.cells.lookup x = some a) (hb : ∀ C s0 Z0, Binds (cxComp c scope cl C s0 Z0) target bind)
    (hf : ∀ x b, ρf.lookup x = some b → ρ₁.lookup x = some b ∧ (cl.lookup x).isSome = true ∧ ∀ ds, b ≠ .own ds)
    (ht : ∀ d ∈ ds, Turn c scope cl target elt ifs bind ρf keepd P d) (hs : ∀ x, foldedSetIterable iter c.env x = pure x)
    (hx : c.Sto x) (hsw : swapsWith (.ListComp elt [⟨target, iter, ifs, 0⟩] scope pos) (some (.Name x px)) spos.line c.env = pure true) :
    Ex c ρ (exec (.Assign [.Name x px] (.ListComp elt [⟨target, iter, ifs, 0⟩] scope pos) spos) c.env) fun o r => o = .next ∧ ∃ rs, r = (x, .own rs) :: ρ₁ ∧ All2 P (ds.filter keepd) rs := .mk fun s Z Q E S k => by
  rw [exec_Assign_Name_used _ _ _ _ hsw]
  refine wpAny_bind (wpAny_standAt (wpAny_bind ?_))
  show wpAny _ c.A (do let _ ← comprehension (.ListComp elt [⟨target, iter, ifs, 0⟩] scope pos) scope c.env _ (newList []) false (eval iter c.env) (some (assign (.Name x px) c.env))) _ _ s
  refine wpAny_bind (wpAny_mono (wpAny_comprehension_free (g := ⟨target, iter, ifs, 0⟩) (gs := []) (use := some (assign (.Name x px) c.env)) (Q := fun _ s' => Q .next s') rfl hs hclos hk hnames (h.run s Z _ E S fun v s₁ Z₁ d' S₁ l₁ t₁ e₁ => ?_)) (fun _ s' hq => wpAny_pure (wpAny_pure hq)) fun _ _ e => e)
  subst e₁
  refine comp_block (RR := fun acc C => compPost (model PP c.w) c.A E (some (assign (.Name x px) c.env)) (fun _ s' => Q .next s') acc C) S₁ t₁ hd hz hk hcell hcl hb hf ht fun D C s' Z' ρ' rs vs n dD dC hDC S' hg hT hzD hA => ?_
  show wpAny _ _ (assign (.Name x px) c.env (.ref D)) _ _ s'
  have X := comp_out S₁ dC S' (h' := s'.heap) ⟨rfl, fun _ _ => rfl⟩
  have S₂ : St c ρ₁ Z' s' := S₁.extV X.1 X.2
  obtain ⟨m₁, own₁, l₁'⟩ := S₁.loc
  have hne : ∀ {a b}, (s₁.heap.get? a).isSome = true → s₁.heap.get? b = none → a ≠ b := fun e e' q => by rw [q, e'] at e; cases e
  have d0 : ∀ {b}, s₁.heap.get? b = none → c.s0.heap.get? b = none := fun {b} e => by
    cases q : c.s0.heap.get? b with
    | none => rfl
    | some o => rw [S₁.keep b o (fun v => hne (S₁.va b v) e rfl) q] at e; cases e
  refine wpAny_assign_Name (store_own S₂ (a := D) (vs := vs.toList) (k₀ := n) (by simpa using hg) hT hzD (fun q => hne S₁.Lalive dD q.symm) (d0 dD) (fun v => hne (S₁.va _ v) dD rfl) (S₁.extVL X.1 l₁') (fun y hy q => hne (l₁'.off y _ q).2.2.2.1 dD rfl) hx fun s₃ S₃ l₃ p₃ => ?_)
  have hCne : ∀ y, c.env.cells.lookup y ≠ some C := fun y e => by
    obtain ⟨_, _, ⟨o, w, g1, _⟩, _⟩ := l₁'.cell y C e
    rw [dC] at g1; cases g1
  have hCL : C ≠ c.L := fun q => hne S₁.Lalive dC q.symm
  obtain ⟨m', own', l'⟩ := S'.loc
  obtain ⟨oC, es, ep, hoC, hdC, r⟩ := l'.ns
  have hoC₃ : s₃.heap.get? C = some oC := p₃ C oC hCL hCne hoC
  refine ⟨m', ⟨oC, es, ep, hoC₃, hdC, r⟩, fun h' hsb => ?_⟩
  have hzC : ¬ Z' C := S'.zL
  have S₄ := S₃.junk (tk := s₃.toks) hsb hoC₃ hzC (d0 dC) (fun v => hne (S₁.va _ v) dC rfl) hCL (fun w q => by rw [hdC] at q; cases q) fun m own l y q => by
    obtain ⟨vs', n', e⟩ := l.own_ne q hoC₃
    rw [e] at hdC; cases hdC
  have l₄ : Le s₃.heap Z' h' Z' := le_upd hsb hzC hoC₃ fun fs q => by rw [hdC] at q; cases q
  exact k .next _ .next _ Z' ⟨rfl, rs, rfl, hA⟩ S₄ (((S.ofX l₁).trans (S₁.leV X.1)).trans (l₃.trans l₄)) rfl
end
end
section
theorem bN_append (a b : Array UInt8) : bN (a ++ b) = bN a ++ bN b := by simp [bN]
theorem bN_size (a : Array UInt8) : (bN a).length = a.size := by simp [bN]
theorem bN_inj {a b : Array UInt8} : bN a = bN b ↔ a.toList = b.toList := by
  constructor
  · intro h
    exact (List.map_inj_right (f := UInt8.toNat) (fun x y e => UInt8.toNat_inj.mp e)).mp h
  · intro h; unfold bN; rw [h]
theorem bInts_bN (a : Array UInt8) : KBw.bInts a = (bN a).map fun n : Nat => (n : Int) := by simp [KBw.bInts, bN]

theorem sizeLine_is : sizeLine = 16777216 := by decide

section
variable {n : Nat} {a b : Int} {l l' : List Nat}
theorem op_i2 {t : Value → Value → Sem Value} {d : D} (h : ∀ (w : World) (A : Around) (s : Shared) (u v : Tok) (Q E : Value → Shared → Prop), (∀ x tk, (∀ h Z, Tr h Z x d) → Q x { s with toks := tk }) → wpAny (model PP w) A (t (.int a u) (.int b v)) Q E s) : Op2 t n (.int a) (.int b) (· = d) := by
  refine .mk fun w A s Z v₁ v₂ R t₁ t₂ => ?_
  cases t₁ using Tr.intC; cases t₂ using Tr.intC
  exact do_const R.zok fun Q E k => h w A s _ _ Q E fun x tk hx => k x tk (hx _ _)

theorem op_add : Op2 (binaryOp .Add) n (.int a) (.int b) (· = .int (a + b)) := op_i2 fun w A s u v Q E k => add_int (k _ _ fun _ _ => .int _ _)
theorem op_sub : Op2 (binaryOp .Sub) n (.int a) (.int b) (· = .int (a - b)) := op_i2 fun w A s u v Q E k => sub_int (k _ _ fun _ _ => .int _ _)
theorem mulOk (h : Builtin.Int.intBits a ≤ 64 ∨ Builtin.Int.intBits b ≤ 64) : IntMulOk a b := by
  unfold IntMulOk
  rcases h with h | h
  · rw [show decide (Builtin.Int.intBits a > shortFactorBits) = false from decide_eq_false (by show ¬ _ > 64; omega)]; simp
  · rw [show decide (Builtin.Int.intBits b > shortFactorBits) = false from decide_eq_false (by show ¬ _ > 64; omega)]; simp
theorem op_mul (h : Builtin.Int.intBits a ≤ 64 ∨ Builtin.Int.intBits b ≤ 64) : Op2 (binaryOp .Mult) n (.int a) (.int b) (· = .int (a * b)) := op_i2 fun w A s u v Q E k => mul_int (k _ _ fun _ _ => .int _ _) (mulOk h)
theorem op_div (hb : b ≠ 0) (h : Builtin.divisionGoesByPylong a b = false) : Op2 (binaryOp .FloorDiv) n (.int a) (.int b) (· = .int (a.fdiv b)) := op_i2 fun w A s u v Q E k => floordiv_int hb (k _ _ fun _ _ => .int _ _) (.inl h)
theorem op_mod (hb : b ≠ 0) : Op2 (binaryOp .Mod) n (.int a) (.int b) (· = .int (a.fmod b)) := op_i2 fun w A s u v Q E k => mod_int' hb (k _ _ fun _ _ => .int _ _)
theorem op_lt : Op2 (compareOp .Lt) n (.int a) (.int b) (· = .bool (decide (a < b))) := op_i2 fun w A s u v Q E k => lt_int (k _ s.toks fun _ _ => .bool _)
theorem op_gt : Op2 (compareOp .Gt) n (.int a) (.int b) (· = .bool (decide (b < a))) := op_i2 fun w A s u v Q E k => gt_int (k _ s.toks fun _ _ => .bool _)
theorem op_le : Op2 (compareOp .LtE) n (.int a) (.int b) (· = .bool (decide (a ≤ b))) := op_i2 fun w A s u v Q E k => le_int (k _ s.toks fun _ _ => .bool _)
theorem op_ge : Op2 (compareOp .GtE) n (.int a) (.int b) (· = .bool (decide (b ≤ a))) := op_i2 fun w A s u v Q E k => ge_int (k _ s.toks fun _ _ => .bool _)
theorem op_eq : Op2 (compareOp .Eq) n (.int a) (.int b) (· = .bool (a == b)) := op_i2 fun w A s u v Q E k => eq_int (k _ s.toks fun _ _ => .bool _)
theorem op_ne : Op2 (compareOp .NotEq) n (.int a) (.int b) (· = .bool (a != b)) := op_i2 fun w A s u v Q E k => ne_int (k _ s.toks fun _ _ => .bool _)

theorem str_eq_iff {x y : Str} : (x == y) = (x.cps.toList == y.cps.toList) := by
  rw [Bool.eq_iff_iff]
  simp only [beq_iff_eq]
  constructor
  · rintro rfl; rfl
  · intro h
    obtain ⟨⟨a⟩⟩ := x; obtain ⟨⟨b⟩⟩ := y
    simp at h; rw [h]
theorem op_eq_str : Op2 (compareOp .Eq) n (.str l) (.str l') (· = .bool (l == l')) := by
  refine .mk fun w A s Z v₁ v₂ R t₁ t₂ => ?_
  cases t₁ using Tr.strC with
  | str x t e => cases t₂ using Tr.strC with
    | str y u e' => exact do_const R.zok fun Q E k => eq_str (k _ s.toks (by rw [str_eq_iff, e, e']; exact .bool _))
theorem op_ne_str : Op2 (compareOp .NotEq) n (.str l) (.str l') (· = .bool (l != l')) := by
  refine .mk fun w A s Z v₁ v₂ R t₁ t₂ => ?_
  cases t₁ using Tr.strC with
  | str x t e => cases t₂ using Tr.strC with
    | str y u e' => exact do_const R.zok fun Q E k => ne_str (k _ s.toks (by unfold bne; rw [str_eq_iff, e, e']; exact .bool _))
theorem bytes_eq_iff {x y : Array UInt8} : (x.toList == y.toList) = (bN x == bN y) := by
  rw [Bool.eq_iff_iff]; simp only [beq_iff_eq]; exact bN_inj.symm
theorem op_eq_bytes : Op2 (compareOp .Eq) n (.bytes l) (.bytes l') (· = .bool (l == l')) := by
  refine .mk fun w A s Z v₁ v₂ R t₁ t₂ => ?_
  cases t₁ using Tr.bytesC with
  | bytes x t e => cases t₂ using Tr.bytesC with
    | bytes y u e' => exact do_const R.zok fun Q E k => eq_bytes (k _ s.toks (by rw [bytes_eq_iff, e, e']; exact .bool _))
theorem op_ne_bytes : Op2 (compareOp .NotEq) n (.bytes l) (.bytes l') (· = .bool (l != l')) := by
  refine .mk fun w A s Z v₁ v₂ R t₁ t₂ => ?_
  cases t₁ using Tr.bytesC with
  | bytes x t e => cases t₂ using Tr.bytesC with
    | bytes y u e' => exact do_const R.zok fun Q E k => ne_bytes (k _ s.toks (by unfold bne; rw [bytes_eq_iff, e, e']; exact .bool _))
theorem op_add_str (h : l.length + l'.length ≤ 16777216) : Op2 (binaryOp .Add) n (.str l) (.str l') (· = .str (l ++ l')) := by
  refine .mk fun w A s Z v₁ v₂ R t₁ t₂ => ?_
  cases t₁ using Tr.strC with
  | str x t e => cases t₂ using Tr.strC with
    | str y u e' =>
      refine do_const R.zok fun Q E k => add_str (fun t' tk => k _ tk (.str _ _ ?_)) ?_
      · rw [Str.cps_append]; simp [e, e']
      · rw [sizeLine_is]; show x.cps.size + y.cps.size ≤ _; rw [← Array.length_toList, ← Array.length_toList, e, e']; exact h
theorem op_add_bytes (h : l.length + l'.length ≤ 16777216) : Op2 (binaryOp .Add) n (.bytes l) (.bytes l') (· = .bytes (l ++ l')) := by
  refine .mk fun w A s Z v₁ v₂ R t₁ t₂ => ?_
  cases t₁ using Tr.bytesC with
  | bytes x t e => cases t₂ using Tr.bytesC with
    | bytes y u e' => exact do_const R.zok fun Q E k => KBa.add_K rfl rfl (by rw [bInts_bN, bInts_bN, e, e']; simpa using h) fun t' tk _ => k _ tk (.bytes _ _ (by rw [bN_append, e, e']))
theorem op_len_bytes (h : l.length ≤ 16777216) : OpC (.builtin "len") n [.bytes l] (· = .int l.length) := by
  refine .mk fun w A s Z vs R t => ?_
  cases t using TrL.c1 with
  | cons t => cases t using Tr.bytesC with
    | bytes x t e => exact do_const R.zok fun Q E k => len_bytes (by rw [← bN_size, e]; omega) (k _ _ (by rw [← e, bN_size]; exact .int _ _))
theorem op_len_str (h : l.length ≤ 16777216) : OpC (.builtin "len") n [.str l] (· = .int l.length) := by
  refine .mk fun w A s Z vs R t => ?_
  cases t using TrL.c1 with
  | cons t => cases t using Tr.strC with
    | str x t e => exact do_const R.zok fun Q E k => len_str (by show ¬ ((x.cps.size : Nat) : Int) ≥ 2 ^ 63; rw [← Array.length_toList, e]; omega) (k _ _ (by rw [show ((x.length : Nat) : Int) = (l.length : Int) by show ((x.cps.size : Nat) : Int) = _; rw [← Array.length_toList, e]]; exact .int _ _))
theorem op_len_list {ds : List D} (h : ds.length ≤ 16777216) : OpC (.builtin "len") n [.list ds] (· = .int ds.length) := by
  refine .mk fun w A s Z vs R t => ?_
  cases t using TrL.c1 with
  | cons t => cases t using Tr.listC with
    | list hz hl ht => exact do_const R.zok fun Q E k => call_len_list hl (by rw [List.size_toArray, ht.length]; omega) (k _ _ (by rw [List.size_toArray, ht.length]; exact .int _ _))
theorem op_chr {k : Nat} (h : k ≤ 1114111) : OpC (.builtin "chr") n [.int k] (· = .str [k]) := by
  refine .mk fun w A s Z vs R t => ?_
  cases t using TrL.c1 with
  | cons t => cases t using Tr.intC with
    | int t => exact do_const R.zok fun Q E q => P.chr_of_int (by simp; omega) (q _ _ (.str _ _ (by simp)))
end
end
section
def cut {α : Type} (l : List α) (lo hi : Option Int) : List α := (l.drop (lo.elim 0 (clipAt l.length))).take (hi.elim l.length (clipAt l.length) - lo.elim 0 (clipAt l.length))
theorem cut_from {α : Type} (l : List α) (a : Nat) : cut l (some (a : Int)) none = l.drop a := by
  unfold cut
  simp only [Option.elim, clipAt_nat]
  rcases Nat.le_total a l.length with h | h
  · rw [Nat.min_eq_left h, List.take_of_length_le (by simp)]
  · rw [Nat.min_eq_right h, List.drop_of_length_le (Nat.le_refl _), List.drop_of_length_le h]; simp
theorem cut_upto {α : Type} (l : List α) (b : Nat) : cut l none (some (b : Int)) = l.take b := by
  unfold cut
  simp only [Option.elim, clipAt_nat, List.drop_zero, Nat.sub_zero]
  rcases Nat.le_total b l.length with h | h
  · rw [Nat.min_eq_left h]
  · rw [Nat.min_eq_right h, List.take_of_length_le (Nat.le_refl _), List.take_of_length_le h]
theorem cut_both {α : Type} (l : List α) (a b : Nat) : cut l (some (a : Int)) (some (b : Int)) = (l.drop a).take (b - a) := by
  unfold cut
  simp only [Option.elim, clipAt_nat]
  rcases Nat.le_total a l.length with h | h
  · rw [Nat.min_eq_left h]
    rcases Nat.le_total b l.length with h' | h'
    · rw [Nat.min_eq_left h']
    · rw [Nat.min_eq_right h', List.take_of_length_le (by simp), List.take_of_length_le (by simp; omega)]
  · rw [Nat.min_eq_right h, List.drop_of_length_le (Nat.le_refl _), List.drop_of_length_le h]; simp
theorem cut_butlast {α : Type} (l : List α) (k : Nat) (hk : 1 ≤ k) : cut l none (some (-(k : Int))) = l.take (l.length - k) := by
  unfold cut
  simp only [Option.elim, clipAt_neg _ _ hk, List.drop_zero, Nat.sub_zero]
theorem cut_mid {α : Type} (l : List α) (a k : Nat) (hk : 1 ≤ k) : cut l (some (a : Int)) (some (-(k : Int))) = (l.drop a).take (l.length - k - a) := by
  unfold cut
  simp only [Option.elim, clipAt_neg _ _ hk, clipAt_nat]
  rcases Nat.le_total a l.length with h | h
  · rw [Nat.min_eq_left h]
  · rw [Nat.min_eq_right h, List.drop_of_length_le (Nat.le_refl _), List.drop_of_length_le h]; simp
theorem cut_last {α : Type} (l : List α) (k : Nat) (hk : 1 ≤ k) : cut l (some (-(k : Int))) none = l.drop (l.length - k) := by
  unfold cut
  simp only [Option.elim, clipAt_neg _ _ hk]
  rw [List.take_of_length_le (by simp)]

theorem txt_slice (x : Str) (lo hi : Option Int) : (Txt.slice x lo hi).cps.toList = cut x.cps.toList lo hi := by
  have e : (Builtin.Str.strSliceIndices lo hi 1 x.length).filterMap (x.cps[·]?) = cut x.cps.toList lo hi := by
    have h : Builtin.Str.strSliceIndices lo hi 1 x.length = sliceRange ((lo.elim 0 (clipAt x.length) : Nat) : Int) ((hi.elim x.length (clipAt x.length) : Nat) : Int) 1 := by
      unfold Builtin.Str.strSliceIndices
      cases lo <;> cases hi <;> simp [clipAt_cast]
    rw [h, sliceRange_one, pick_run]
    rfl
  have h1 : Builtin.Str.strSliceIndices lo hi 1 x.length = sliceRange ((lo.elim 0 (clipAt x.length) : Nat) : Int) ((hi.elim x.length (clipAt x.length) : Nat) : Int) 1 := by
    unfold Builtin.Str.strSliceIndices
    cases lo <;> cases hi <;> simp [clipAt_cast]
  unfold Txt.slice
  split
  · rename_i h
    have hl : (Builtin.Str.strSliceIndices lo hi 1 x.length).length = x.length := by simpa using h
    rw [h1, sliceRange_one, List.length_map, List.length_range] at hl
    have h3 : x.cps.toList.length = x.length := by simp [Str.length]
    unfold cut
    rw [h3]
    generalize lo.elim 0 (clipAt x.length) = a at hl
    have c2 : hi.elim x.length (clipAt x.length) ≤ x.length := by
      cases hi with
      | none => exact Nat.le_refl _
      | some i => have := clipAt_cast x.length i; show clipAt x.length i ≤ _; omega
    generalize hi.elim x.length (clipAt x.length) = b at hl c2
    by_cases h0 : x.length = 0
    · have : x.cps.toList = [] := List.length_eq_zero_iff.mp (by rw [h3]; exact h0)
      rw [this]; simp
    · have h4 : a = 0 := by omega
      rw [h4, List.drop_zero, List.take_of_length_le (by omega)]
  · simpa using e

structure EvO (c : Cx) (ρ : Rho) (e : Option Expr) (ρ' : Rho) (k : Option Int) : Prop where
  run : ∀ (s : Shared) (Z : Addr → Prop) (Q E : Value → Shared → Prop), St c ρ Z s → (∀ v s' Z', St c ρ' Z' s' → LeX c ρ s.heap Z ρ' s'.heap Z' → IsPart v k → Q v s') → wpAny (model PP c.w) c.A (evalPart e c.env) Q E s
/-- a slice of d: getItem with a slice object -/
def SlP (d : D) (lo hi : Option Int) (n : Nat) (P : D → Prop) : Prop := ∀ (w : World) (A : Around) (s : Shared) (Z : Addr → Prop) (v : Value) (sl : Addr) (vl vu : Value), Rdy w A n s Z → Tr s.heap Z v d → s.heap.IsSliceOf sl vl vu .none → IsPart vl lo → IsPart vu hi → Do w A s Z (getItem v (.ref sl)) P
def tyOf : D → String
  | .str _ => "str"
  | .bytes _ => "bytes"
  | .list _ => "list"
  | .tup _ => "tuple"
  | _ => "int"
theorem Tr.typeIs {s : Shared} {Z : Addr → Prop} {v : Value} {d : D} (t : Tr s.heap Z v d) (h : tyOf d ≠ "int") : s.TypeIs v (tyOf d) := by
  cases t with
  | none => exact absurd rfl h
  | ty id => exact absurd rfl h
  | xlist a b c => exact absurd rfl h
  | bool b => exact absurd rfl h
  | int i t => exact absurd rfl h
  | adv a b c d e f g gm r1 r2 r3 => exact absurd rfl h
  | rng a b c d => exact absurd rfl h
  | str x t e => exact typeIs_str _ _ _
  | bytes b t e => exact typeIs_bytes _ _ _
  | list z l t => exact l.typeIs
  | tup z l t => obtain ⟨o, h1, h2, _⟩ := l; exact ⟨o, h1, h2⟩

section
variable {c : Cx} {ρ ρ₁ ρ₂ ρ₃ : Rho} {x : Str} {pos : Pos} {d d₁ d₂ : D} {P : D → Prop} {n : Nat} {l l' : List Nat}
theorem evo_none : EvO c ρ none ρ none := .mk fun s Z Q E S k => by rw [evalPart_none]; exact wpAny_pure (k _ s Z S S.le_of .none)
theorem evo_some {e : Expr} {i : Int} (h : Ev c ρ e ρ₁ (.int i)) : EvO c ρ (some e) ρ₁ (some i) := .mk fun s Z Q E S k => by
  rw [evalPart_some]
  refine h.run s Z _ E S fun v s' Z' d S' l t e => ?_
  subst e
  cases t using Tr.intC
  exact k _ _ _ S' l (.int _ _)
theorem ev_slice {v : Expr} {lo hi : Option Expr} {kl ku : Option Int} {p : Pos} {id : String} (hid : typeLookup (.type (tyOf d)) "__getitem__" = pure (some (.builtin id))) (h₁ : Ev c ρ v ρ₁ d) (h₂ : EvO c ρ₁ lo ρ₂ kl) (h₃ : EvO c ρ₂ hi ρ₃ ku) (o : SlP d kl ku n P) (hd : tyOf d ≠ "int")
    (ht : ∀ h Z o r, Tr h Z o d → letTemporaryGo v o r = pure ()) (hn : n ≤ c.n := by exact Nat.le_of_ble_eq_true rfl) : EvP c ρ (eval (.Subscript v (.Slice lo hi none p) pos) c.env) ρ₃ P := .mk fun s Z Q E S k =>
  Subscript_ (h₁.run s Z _ E S fun a s₁ Z₁ _ S₁ l₁ t₁ e₁ => wpAny_Slice (h₂.run s₁ Z₁ _ E S₁ fun vl s₂ Z₂ S₂ l₂ pl => h₃.run s₂ Z₂ _ E S₂ fun vu s₃ Z₃ S₃ l₃ pu => by
    subst e₁
    rw [evalPart_none]
    refine wpAny_pure ?_
    have X : Ext s₃ Z₃ { s₃ with heap := s₃.heap.push { cls := .type "slice", data := .fields #[vl, vu, .none] }, toks := s₃.toks } Z₃ := Ext.of S₃.zok fun a o e => Heap.get?_push_of_some _ e
    have t := X.le.tr (l₃.tr (l₂.tr t₁))
    exact subscriptTail_ops (t.typeIs hd) hid (fin_op S (S₃.ext X) (LeX.trans S l₁ (LeX.trans S₁ l₂ (LeX.trans S₂ l₃ X.leX))) (o _ _ _ Z₃ a _ vl vu ((S₃.ext X).rdy hn) t (Heap.IsSliceOf.new _ _ _ _) pl pu) k) rfl fun r => ht _ _ _ r t))

/-- d[i] by getItem -/
theorem op_sub_of {v i : Expr} {id : String} (h : Op2 getItem n d₁ d₂ P) (hd : tyOf d₁ ≠ "int") (hid : typeLookup (.type (tyOf d₁)) "__getitem__" = pure (some (.builtin id)))
    (hs : ∀ o k, subscripted i false o k = operate [o, k] (getItem o k)) (ht : ∀ h Z o r, Tr h Z o d₁ → letTemporaryGo v o r = pure ()) : Op2 (subscriptTail v i) n d₁ d₂ P := .mk fun w A s Z v₁ v₂ R t₁ t₂ Q E k =>
  subscriptTail_ops (t₁.typeIs hd) hid (h.run w A s Z v₁ v₂ R t₁ t₂ Q E k) (hs _ _) fun r => ht _ _ _ r t₁
theorem lt_str {v : Expr} : ∀ h Z o r, Tr h Z o (.str l) → letTemporaryGo v o r = pure () := fun h Z o r t => by
  cases t using Tr.strC; cases v <;> rfl
theorem lt_bytes {v : Expr} : ∀ h Z o r, Tr h Z o (.bytes l) → letTemporaryGo v o r = pure () := fun h Z o r t => by
  cases t using Tr.bytesC; cases v <;> rfl
theorem lt_any {v : Expr} (h : ∀ o r, letTemporaryGo v o r = pure ()) : ∀ h Z o r, Tr h Z o d → letTemporaryGo v o r = pure () := fun _ _ o r _ => h o r
end
end
section
section
variable {c : Cx} {ρ ρ₁ ρ₂ ρ₃ : Rho} {x : Str} {pos : Pos} {d d₁ d₂ : D} {P : D → Prop} {n : Nat} {l l' : List Nat} {a b i : Int}

theorem getN {α : Type} {l : List α} {k : Nat} {y : α} (h : l[k]? = some y) : k < l.length := by
  obtain ⟨h, _⟩ := List.getElem?_eq_some_iff.mp h; exact h
theorem op_idx_str {k y : Nat} (h : l[k]? = some y) (hl : l.length ≤ 16777216) : Op2 getItem n (.str l) (.int k) (· = .str [y]) := by
  refine .mk fun w A s Z v₁ v₂ R t₁ t₂ => ?_
  have hk := getN h
  cases t₁ using Tr.strC with
  | str x t e => cases t₂ using Tr.intC; exact do_const R.zok fun Q E q => PyProof.Rows.getItem_str (c := y) (by simp; omega) (by
      rw [seqIndex_of (by omega) (by show (k : Int) < (x.cps.size : Nat); rw [← Array.length_toList, e]; omega)]
      show x.cps[(k : Int).toNat]? = some y
      rw [Int.toNat_natCast, ← Array.getElem?_toList, e, h]) (q _ _ (.str _ _ (by simp)))
theorem idx_bytes_i {w : World} {A : Around} {s : Shared} {b : Array UInt8} {t u : Tok} {k : Int} {c : UInt8} {Q E : Value → Shared → Prop} (hr : Builtin.Bytes.fitsIndex k = true) (h : (seqIndex? k b.size).bind (b[·]?) = some c) (q : Q (.int c.toNat s.toks) { s with toks := s.toks + 1 }) :
    wpAny (model PP w) A (getItem (.bytes b t) (.int k u)) Q E s :=
  getItem_gives (typeIs_bytes s _ t) (by decide) FB.slot_bytes_getitem FB.entry_bytes_getitem (FB.args_bytes_getitem_2 _ _) (gives_bytes_getitem b k t u c hr h) q
theorem op_idx_bytes {k y : Nat} (h : l[k]? = some y) (hl : l.length ≤ 16777216) : Op2 getItem n (.bytes l) (.int k) (· = .int y) := by
  refine .mk fun w A s Z v₁ v₂ R t₁ t₂ => ?_
  have hk := getN h
  obtain ⟨i, hi⟩ : ∃ i : Int, i = k := ⟨_, rfl⟩
  rw [← hi] at t₂
  cases t₁ using Tr.bytesC with
  | bytes x t e =>
    cases t₂ using Tr.intC
    have hs : x.size = l.length := by rw [← e, bN_size]
    obtain ⟨c, hc, rfl⟩ : ∃ c, x[k]? = some c ∧ c.toNat = y := by
      rw [← e] at h
      simp only [bN, List.getElem?_map, Array.getElem?_toList, Option.map_eq_some_iff] at h
      exact h
    have hr : Builtin.Bytes.fitsIndex i = true := by
      simp only [Builtin.Bytes.fitsIndex, Bool.and_eq_true, decide_eq_true_eq]; omega
    have hb : (seqIndex? i x.size).bind (x[·]?) = some c := by
      rw [seqIndex_of (by omega) (by rw [hs]; omega), hi]
      exact hc
    exact do_const R.zok fun Q E q => idx_bytes_i hr hb (q _ _ (.int _ _))
theorem op_idx_list {ds : List D} {k : Nat} (h : ds[k]? = some d) (hl : ds.length ≤ 16777216) : Op2 getItem n (.list ds) (.int k) (· = d) := by
  refine .mk fun w A s Z v₁ v₂ R t₁ t₂ Q E q => ?_
  have hk := getN h
  cases t₁ using Tr.listC with
  | list hz hl' ht =>
    cases t₂ using Tr.intC
    obtain ⟨v, hv, tv⟩ := ht.get k d h
    exact wpAny_getItem_list hl' (by omega) (by omega) (by simpa using hv) (q v s Z d (Ext.refl R.zok) tv rfl)
theorem op_idx_last {ds : List D} (h : ds.getLast? = some d) (hl : ds.length ≤ 16777216) : Op2 getItem n (.list ds) (.int (-1)) (· = d) := by
  refine .mk fun w A s Z v₁ v₂ R t₁ t₂ Q E q => ?_
  rw [List.getLast?_eq_getElem?] at h
  have hk := getN h
  cases t₁ using Tr.listC with
  | list hz hl' ht =>
    cases t₂ using Tr.intC
    have hsz := ht.length
    obtain ⟨v, hv, tv⟩ := ht.get _ d h
    exact wpAny_getItem_list_neg hl' (by omega) (by simp only [List.size_toArray]; omega) (by omega) (by simp only [List.size_toArray]; rw [show ((-1 : Int) + ((_ : Nat) : Int)).toNat = ds.length - 1 by rw [hsz]; omega]; simpa using hv) (q v s Z d (Ext.refl R.zok) tv rfl)

/-- slices -/
theorem sl_bytes {lo hi : Option Int} (hz : l.length ≤ 16777216) : SlP (.bytes l) lo hi n (· = .bytes (cut l lo hi)) := by
  intro w A s Z v sl vl vu R t hs pl pu
  cases t using Tr.bytesC with
  | bytes b t e =>
    refine do_const R.zok fun Q E q => getItem_meets (typeIs_bytes _ _ _) (by decide) FB.slot_bytes_getitem FB.entry_bytes_getitem (FB.args_bytes_getitem_2 _ _) (KBc.meets_slice2 b t _ pl pu)
      ⟨hs, Nat.le_trans (KBc.size_picked_le b lo hi) (by rw [← bN_size, e, sizeLine_is]; exact hz), fun t' k => q _ k (.bytes _ _ ?_)⟩
    rw [KBc.picked_eq, ← e]
    simp [bN, cut, List.map_take, List.map_drop]
theorem TrL.drop {h : Heap} {Z : Addr → Prop} : ∀ {vs : List Value} {ds : List D} (_ : TrL h Z vs ds) (k : Nat), TrL h Z (vs.drop k) (ds.drop k)
  | _, _, h, 0 => h
  | _, _, .nil, _ + 1 => .nil
  | _, _, .cons _ r, k + 1 => r.drop k
theorem TrL.take {h : Heap} {Z : Addr → Prop} : ∀ {vs : List Value} {ds : List D} (_ : TrL h Z vs ds) (k : Nat), TrL h Z (vs.take k) (ds.take k)
  | _, _, _, 0 => .nil
  | _, _, .nil, _ + 1 => .nil
  | _, _, .cons a r, k + 1 => .cons a (r.take k)
theorem sl_list {lo hi : Option Int} {ds : List D} (hz : ds.length ≤ 16777216) : SlP (.list ds) lo hi n (· = .list (cut ds lo hi)) := by
  intro w A s Z v sl vl vu R t hs pl pu Q E q
  cases t using Tr.listC with
  | @list a vs hz' hl ht =>
    refine wpAny_getItem_list_slice hl hs pl pu .none (by simp) ?_ (by rw [List.size_toArray, ht.length, sizeLine_is]; exact hz)
    have X := new_seq (s := s) (o := { cls := .type "list", data := .seq (slicePick vs.toArray lo hi none) }) R.zok rfl
    refine q _ _ _ _ X (.list (vs := cut vs lo hi) (.inr rfl) ⟨_, Heap.get?_push_size _ rfl, rfl, 0, ?_⟩ (X.le.trL ?_)) rfl
    · show Data.seq (slicePick vs.toArray lo hi none) 0 = _
      rw [slicePick_plain]; rfl
    · unfold cut
      rw [ht.length]
      exact (ht.drop _).take _
theorem isPart_some {v : Value} {k : Option Int} (h : IsPart v k) : ∃ p : Option (Int × Tok), p.map (·.1) = k ∧ v = partValue p := by
  cases h with
  | none => exact ⟨none, rfl, rfl⟩
  | int i t => exact ⟨some (i, t), rfl, rfl⟩
theorem sl_str {lo hi : Option Int} (hz : l.length ≤ 16777216) : SlP (.str l) lo hi n (· = .str (cut l lo hi)) := by
  intro w A s Z v sl vl vu R t hs pl pu
  obtain ⟨pl', rfl, rfl⟩ := isPart_some pl
  obtain ⟨pu', rfl, rfl⟩ := isPart_some pu
  cases t using Tr.strC with
  | str x t e =>
    have hsz : (Txt.slice x (pl'.map (·.1)) (pu'.map (·.1))).length ≤ sizeLine := Nat.le_trans (Txt.slice_le x _ _) (by rw [sizeLine_is]; show x.cps.size ≤ _; rw [← Array.length_toList, e]; exact hz)
    have hcut := txt_slice x (pl'.map (·.1)) (pu'.map (·.1))
    rw [e] at hcut
    refine do_const R.zok fun Q E q => wpAny_getItem_str_slice (l := pl') (u := pu') (st := none) hs rfl ?_
    unfold Txt.slice at hsz hcut
    exact post_val_or_str ⟨hsz, fun t' k => q _ k (.str _ _ hcut)⟩

theorem op_ord {k : Nat} : OpC (.builtin "ord") n [.str [k]] (· = .int k) := by
  refine .mk fun w A s Z vs R t => ?_
  cases t using TrL.c1 with
  | cons t => cases t using Tr.strC with
    | str x t e =>
      have h1 : x.cps.size = 1 := by rw [← Array.length_toList, e]; rfl
      refine do_const R.zok fun Q E q => ord_of_one h1 (q _ _ ?_)
      have : x.cps.getD 0 0 = k := by
        have : x.cps.toList[0]? = some k := by rw [e]; rfl
        rw [Array.getElem?_toList] at this
        simp [Array.getD_eq_getD_getElem?, this]
      rw [this]; exact .int _ _
theorem op_int : OpC (.type "int") n [.int a] (· = .int a) := by
  refine .mk fun w A s Z vs R t => ?_
  cases t using TrL.c1 with
  | cons t => cases t using Tr.intC with
    | int t => exact do_const R.zok fun Q E q => call_int_int (q _ s.toks (.int _ _))
theorem op_rshift (h : 0 ≤ b) : Op2 (binaryOp .RShift) n (.int a) (.int b) (· = .int (a.fdiv (2 ^ b.toNat))) := op_i2 fun w A s u v Q E k => rshift_int h (k _ _ fun _ _ => .int _ _)
theorem op_and : Op2 (binaryOp .BitAnd) n (.int a) (.int b) (· = .int (Builtin.bitAnd a b)) := op_i2 fun w A s u v Q E k => and_int (k _ _ fun _ _ => .int _ _)
theorem op_pow (h0 : 0 ≤ b) (hn : b ≤ 1000000) (ha : a.natAbs < 2 ^ 64) : Op2 (binaryOp .Pow) n (.int a) (.int b) (· = .int (a ^ b.toNat)) := op_i2 fun w A s u v Q E k => pow_int_small h0 hn ha (k _ _ fun _ _ => .int _ _)
theorem ev_neg {e : Expr} (h : Ev c ρ e ρ₁ (.int a)) : Ev c ρ (.UnaryOp .USub e pos) ρ₁ (.int (-a)) := .mk fun s Z Q E S k =>
  wpAny_UnaryOp (h.run s Z _ E S fun v s₁ Z₁ d S₁ l₁ t₁ e₁ => by
    subst e₁
    cases t₁ using Tr.intC
    exact neg_int (k _ _ Z₁ _ (S₁.ext (Ext.of S₁.zok fun _ _ e => e)) l₁ (.int _ _) rfl))
theorem Tr.ne_none {h : Heap} {Z : Addr → Prop} {v : Value} (t : Tr h Z v d) (hd : d ≠ .none) : (v == Value.none) = false := by
  cases t <;> first | rfl | exact absurd rfl hd
theorem op_is_none_f (h : d ≠ .none) : Op2 (compareOp .Is) n d .none (· = .bool false) := by
  refine .mk fun w A s Z v₁ v₂ R t₁ t₂ => ?_
  cases t₂ using Tr.noneC
  exact do_const R.zok fun Q E q => is_none_gen (q _ s.toks (by rw [t₁.ne_none h]; exact .bool _))
theorem op_isnot_none (h : d = .none) : Op2 (compareOp .IsNot) n d .none (· = .bool false) := by
  refine .mk fun w A s Z v₁ v₂ R t₁ t₂ => ?_
  subst h
  cases t₁ using Tr.noneC; cases t₂ using Tr.noneC
  exact do_const R.zok fun Q E q => wpAny_isNot_plain rfl (q _ s.toks (.bool _))
theorem op_isnot_none_t (h : ∃ l, d = .bytes l) : Op2 (compareOp .IsNot) n d .none (· = .bool true) := by
  refine .mk fun w A s Z v₁ v₂ R t₁ t₂ => ?_
  obtain ⟨l, rfl⟩ := h
  cases t₁ using Tr.bytesC; cases t₂ using Tr.noneC
  exact do_const R.zok fun Q E q => wpAny_isNot_plain rfl (q _ s.toks (.bool _))
end
end
section
def joinN (sep : List Nat) : List (List Nat) → List Nat
  | [] => []
  | [x] => x
  | x :: r => x ++ sep ++ joinN sep r
theorem join_str (sep : Str) : ∀ l : List Str, (Str.join sep l).cps.toList = joinN sep.cps.toList (l.map fun x => x.cps.toList)
  | [] => rfl
  | [x] => rfl
  | x :: y :: r => by
    show (x ++ sep ++ Str.join sep (y :: r)).cps.toList = _
    have := join_str sep (y :: r)
    rw [Str.cps_append, Str.cps_append, Array.toList_append, Array.toList_append, this]
    rfl
theorem join_txt (sep : Str) (l : List Str) : (Txt.join sep l).cps.toList = joinN sep.cps.toList (l.map fun x => x.cps.toList) := by
  show (Builtin.Str.glued sep l).cps.toList = _
  rw [StrLaws.glued_eq_join]; exact join_str sep l
theorem TrL.strs {h : Heap} {Z : Addr → Prop} : ∀ {ls : List (List Nat)} {vs : List Value} (_ : TrL h Z vs (ls.map D.str)), ∃ ys : List Str, StrsAre vs ys ∧ ys.map (fun x => x.cps.toList) = ls
  | [], _, .nil => ⟨[], .nil, rfl⟩
  | l :: ls, _, .cons t r => by
    obtain ⟨ys, h1, h2⟩ := TrL.strs r
    cases t using Tr.strC with
    | str x t e => exact ⟨x :: ys, .cons x t h1, by rw [List.map_cons, h2, e]⟩
theorem TrL.ints {h : Heap} {Z : Addr → Prop} : ∀ {ns : List Int} {vs : List Value} (_ : TrL h Z vs (ns.map D.int)), IntsAre vs ns
  | [], _, .nil => .nil
  | l :: ls, _, .cons t r => by
    cases t using Tr.intC
    exact .cons _ _ (TrL.ints r)
section
variable {c : Cx} {ρ ρ₁ ρ₂ ρ₃ : Rho} {x : Str} {pos : Pos} {d d₁ d₂ : D} {P : D → Prop} {n : Nat} {l l' : List Nat} {a b i : Int}

theorem op_join {sep : List Nat} {ls : List (List Nat)} (h : (ls.map List.length).sum + ls.length * sep.length ≤ 16777216) : OpC (.builtin "str.join") n [.str sep, .list (ls.map D.str)] (· = .str (joinN sep ls)) := by
  refine .mk fun w A s Z vs R t => ?_
  cases t using TrL.c2 with
  | cons t t' => cases t using Tr.strC with
      | str x u e => cases t' using Tr.listC with
        | list hz hl ht =>
          obtain ⟨ys, h1, h2⟩ := ht.strs
          refine do_const R.zok fun Q E q => join_list hl h1 ?_ fun t' k => q _ k (.str _ _ ?_)
          · have e1 : ys.map (·.length) = ls.map List.length := by rw [← h2, List.map_map]; apply List.map_congr_left; intro y _; simp [Str.length]
            have e2 : ys.length = ls.length := by rw [← h2, List.length_map]
            have e3 : x.length = sep.length := by rw [← e]; simp [Str.length]
            rw [e1, e2, e3]; exact h
          · rw [join_txt, e, h2]

end
end
section
section
variable {c : Cx} {ρ ρ₁ ρ₂ ρ₃ : Rho} {x : Str} {pos : Pos} {d d₁ d₂ : D} {P : D → Prop} {n : Nat} {l l' : List Nat} {a b i : Int}
/-- the name of a built-in kind -/
theorem ev_ty {id : String} (e : ∀ w, nsIn (KF w) mainGlobals x = some none) (hv : bootBuiltins x = some (.type id)) (hn : x ≠ "__name__") (hk : c.env.kindOf x = some .globalImplicit) (hd : (x == ("__debug__" : Str)) = false) : Ev c ρ (.Name x pos) ρ (.ty id) := .mk fun s Z Q E S k =>
  name_boot S (e _) hv hn hk hd (k _ s Z _ S S.le_of (.ty _) rfl)
theorem op_isint_t : OpC (.builtin "isinstance") n [.int a, .ty "int"] (· = .bool true) := by
  refine .mk fun w A s Z vs R t => ?_
  cases t using TrL.c2 with
  | cons t t' => cases t using Tr.intC; cases t' using Tr.tyC; exact do_const R.zok fun Q E q => IsiPair.int_int (q _ s.toks (.bool _))
theorem isb_meets {b : Array UInt8} {u : Tok} : Meets (Builtin.«isinstance» ⟨[.bytes b u, .type "int"], []⟩) (fun _ R s => R (.ok (.ret (.bool false))) { s with toks := s.toks + 1 }) :=
  fun _ _ _ _ s hs => by
    obtain ⟨h, g, d, t, os⟩ := s
    exact isinstance_outer (isinstance_nested_false_bytes (by decide +kernel) F.isi_meta_int (by rw [isSubtype_type]; kernel_rfl) hs)
theorem op_isint_f : OpC (.builtin "isinstance") n [.bytes l, .ty "int"] (· = .bool false) := by
  refine .mk fun w A s Z vs R t => ?_
  cases t using TrL.c2 with
  | cons t t' => cases t using Tr.bytesC; cases t' using Tr.tyC; exact do_const R.zok fun Q E q => call_isinstance isb_meets (q _ _ (.bool _))
theorem bN_make {ns : List Nat} (h : ∀ k ∈ ns, k < 256) : bN (byteArr (ns.map fun k : Nat => (k : Int))) = ns := by
  unfold bN byteArr
  simp only [List.map_map]
  rw [List.map_congr_left (g := id)]
  · simp
  · intro k hk
    have := h k hk
    simp [Nat.mod_eq_of_lt this]
theorem op_bytes_ints {ns : List Nat} (hr : ∀ k ∈ ns, k < 256) (hz : ns.length ≤ 16777216) : OpC (.type "bytes") n [.list (ns.map fun k : Nat => .int (k : Int))] (· = .bytes ns) := by
  refine .mk fun w A s Z vs R t Q E q => ?_
  cases t using TrL.c1 with
  | cons t => cases t using Tr.listC with
    | list hz' hl ht =>
      have e : ns.map (fun k : Nat => D.int (k : Int)) = (ns.map fun k : Nat => (k : Int)).map D.int := by rw [List.map_map]; rfl
      have hlen := ht.length
      rw [e] at ht
      refine call_bytes_ints hl ht.ints (fun k hk => ?_) (by rw [sizeLine_is, hlen, List.length_map]; exact hz) R.handled fun h' t' k hk => q _ _ Z _ (Ext.of R.zok hk) (.bytes _ _ (bN_make hr)) rfl
      obtain ⟨j, hj, rfl⟩ := List.mem_map.mp hk
      have := hr j hj
      omega
theorem range_tr {s : Shared} {Z : Addr → Prop} {w : World} {a b : Int} {c : Int} {t u v : Tok} {tk : Nat} {Q : Value → Shared → Prop} {m : Nat} (z : ZOk Z s.heap) (hs : Builtin.Range.small a b c = true) (hm : Builtin.Range.rangeSize a b c = (m : Int))
    (k : ∀ v s' Z' d, Ext s Z s' Z' → Tr s'.heap Z' v d → d = .rng a c m → Q v s') : Q (.ref s.heap.objs.size) { s with heap := s.heap.push { cls := .type "range", data := .fields #[.int a t, .int b u, .int c v] }, toks := tk } := by
  have X := Ext.new (tk := tk) (h := s.heap.push { cls := .type "range", data := .fields #[.int a t, .int b u, .int c v] }) z (fun a o e => Heap.get?_push_of_some _ e) (get_size _) (by rw [Heap.get?_push_size _ rfl]; rfl)
  exact k _ _ _ _ X (.rng (.inr rfl) (Heap.get?_push_size _ rfl) hs hm) rfl
theorem fits {i : Int} (h : -9223372036854775808 ≤ i) (h' : i < 9223372036854775808) : Builtin.Range.rangeFitsLong i = true := by
  unfold Builtin.Range.rangeFitsLong
  simp only [Bool.and_eq_true, decide_eq_true_eq]
  omega
theorem small_of {a b c r : Int} (hr : Builtin.Range.rangeSize a b c = r) (h1 : 0 ≤ a) (h2 : 0 ≤ b) (h3 : b ≤ 16777216) (ha : a ≤ 16777216) (h4 : 0 < c) (h5 : c ≤ 16) (h6 : 0 ≤ r) (h7 : r ≤ 16777216) : Builtin.Range.small a b c = true := by
  unfold Builtin.Range.small
  rw [hr, if_pos h4, fits (by omega) (by omega), fits (by omega) (by omega), fits (by omega) (by omega), fits (by omega) (by omega), fits (by omega) (by omega)]
  simp
theorem size_1 (h0 : 0 ≤ a) : Builtin.Range.rangeSize 0 a 1 = a := by
  unfold Builtin.Range.rangeSize
  by_cases h : 0 < a
  · simp [h]
  · simp [h]; omega
theorem op_range1 (h0 : 0 ≤ a) (h1 : a ≤ 16777216) : OpC (.type "range") n [.int a] (· = .rng 0 1 a.toNat) := by
  refine .mk fun w A s Z vs R t Q E q => ?_
  cases t using TrL.c1 with
  | cons t => cases t using Tr.intC; exact call_range_1 (range_tr (w := w) (m := a.toNat) R.zok (small_of (size_1 h0) (by omega) h0 h1 (by omega) (by omega) (by omega) h0 h1) (by rw [size_1 h0]; omega) q)
theorem op_range3 (h0 : 0 ≤ a) (h1 : a ≤ b) (h2 : b ≤ 16777216) (h3 : 0 < i) (h4 : i ≤ 16) (hd : Builtin.divisionGoesByPylong (b - a) i = false) {m : Nat} (hm : Builtin.Range.rangeSize a b i = m) (hm' : m ≤ 16777216) : OpC (.type "range") n [.int a, .int b, .int i] (· = .rng a i m) := by
  refine .mk fun w A s Z vs R t Q E q => ?_
  cases t using TrL.c3 with
  | cons t t' t'' => cases t using Tr.intC; cases t' using Tr.intC; cases t'' using Tr.intC; exact call_range_3 (by omega) (range_tr (w := w) R.zok (small_of hm h0 (by omega) h2 (by omega) h3 h4 (by omega) (by omega)) hm q) (.inl hd)
theorem op_list_list {ds : List D} (h : ds.length ≤ 16777216) : OpC (.type "list") n [.list ds] (· = .list ds) := by
  refine .mk fun w A s Z vs R t Q E q => ?_
  cases t using TrL.c1 with
  | cons t => cases t using Tr.listC with
    | @list a vs hz hl ht =>
      obtain ⟨o, ho, hc, m, hd⟩ := hl
      refine call_list_seq a (.inl rfl) ho hc hd (fun h' c' hk hg => ?_) (by rw [List.size_toArray, ht.length, sizeLine_is]; exact h)
      have X := Ext.new (s := s) (tk := s.toks) (h := h') R.zok hk (get_size _) (by rw [hg]; rfl)
      exact q _ _ _ _ X (.list (.inr rfl) ⟨_, hg, rfl, c', rfl⟩ (X.le.trL ht)) rfl
end
end
section
theorem fill0 : PySem.Challenge.rw_pb0106_01 = PySem.Challenge.rw_pb0106_01 ∧ hd.heap_39 = hd.heap_39 := by
  k_fill
  exact ⟨rfl, rfl⟩

theorem gl_text_of (w : World) : nsIn (hd.heap_39 w.params) mainGlobals "text_of" = some (some (.ref 64)) := by k_is
theorem kp_text_of (w : World) : keepIn (hd.heap_39 w.params) (.ref 64) = true := by k_is
theorem gl_octets_of (w : World) : nsIn (hd.heap_39 w.params) mainGlobals "octets_of" = some (some (.ref 69)) := by k_is
theorem kp_octets_of (w : World) : keepIn (hd.heap_39 w.params) (.ref 69) = true := by k_is
theorem gl_hex_of (w : World) : nsIn (hd.heap_39 w.params) mainGlobals "hex_of" = some (some (.ref 76)) := by k_is
theorem kp_hex_of (w : World) : keepIn (hd.heap_39 w.params) (.ref 76) = true := by k_is
theorem gl_hex_digit (w : World) : nsIn (hd.heap_39 w.params) mainGlobals "hex_digit" = some (some (.ref 83)) := by k_is
theorem kp_hex_digit (w : World) : keepIn (hd.heap_39 w.params) (.ref 83) = true := by k_is
theorem gl_octets_of_hex (w : World) : nsIn (hd.heap_39 w.params) mainGlobals "octets_of_hex" = some (some (.ref 90)) := by k_is
theorem kp_octets_of_hex (w : World) : keepIn (hd.heap_39 w.params) (.ref 90) = true := by k_is
theorem gl_is_plain_hex (w : World) : nsIn (hd.heap_39 w.params) mainGlobals "is_plain_hex" = some (some (.ref 97)) := by k_is
theorem kp_is_plain_hex (w : World) : keepIn (hd.heap_39 w.params) (.ref 97) = true := by k_is
theorem gl_zero_id (w : World) : nsIn (hd.heap_39 w.params) mainGlobals "zero_id" = some (some (.ref 104)) := by k_is
theorem kp_zero_id (w : World) : keepIn (hd.heap_39 w.params) (.ref 104) = true := by k_is
theorem gl_pkt (w : World) : nsIn (hd.heap_39 w.params) mainGlobals "pkt" = some (some (.ref 111)) := by k_is
theorem kp_pkt (w : World) : keepIn (hd.heap_39 w.params) (.ref 111) = true := by k_is
theorem gl_wire_figure (w : World) : nsIn (hd.heap_39 w.params) mainGlobals "wire_figure" = some (some (.ref 118)) := by k_is
theorem kp_wire_figure (w : World) : keepIn (hd.heap_39 w.params) (.ref 118) = true := by k_is
theorem gl_wire_line (w : World) : nsIn (hd.heap_39 w.params) mainGlobals "wire_line" = some (some (.ref 125)) := by k_is
theorem kp_wire_line (w : World) : keepIn (hd.heap_39 w.params) (.ref 125) = true := by k_is
theorem gl_read_pkts (w : World) : nsIn (hd.heap_39 w.params) mainGlobals "read_pkts" = some (some (.ref 133)) := by k_is
theorem kp_read_pkts (w : World) : keepIn (hd.heap_39 w.params) (.ref 133) = true := by k_is
theorem gl_wire_row (w : World) : nsIn (hd.heap_39 w.params) mainGlobals "wire_row" = some (some (.ref 140)) := by k_is
theorem kp_wire_row (w : World) : keepIn (hd.heap_39 w.params) (.ref 140) = true := by k_is
theorem gl_wire_id (w : World) : nsIn (hd.heap_39 w.params) mainGlobals "wire_id" = some (some (.ref 147)) := by k_is
theorem kp_wire_id (w : World) : keepIn (hd.heap_39 w.params) (.ref 147) = true := by k_is
theorem gl_wire_hex (w : World) : nsIn (hd.heap_39 w.params) mainGlobals "wire_hex" = some (some (.ref 154)) := by k_is
theorem kp_wire_hex (w : World) : keepIn (hd.heap_39 w.params) (.ref 154) = true := by k_is
theorem gl_wire_told (w : World) : nsIn (hd.heap_39 w.params) mainGlobals "wire_told" = some (some (.ref 161)) := by k_is
theorem kp_wire_told (w : World) : keepIn (hd.heap_39 w.params) (.ref 161) = true := by k_is
theorem gl__law_deck (w : World) : nsIn (hd.heap_39 w.params) mainGlobals "_law_deck" = some (some (.ref 220)) := by k_is
theorem kp__law_deck (w : World) : keepIn (hd.heap_39 w.params) (.ref 220) = true := by k_is
theorem gl__law_draw (w : World) : nsIn (hd.heap_39 w.params) mainGlobals "_law_draw" = some (some (.ref 227)) := by k_is
theorem kp__law_draw (w : World) : keepIn (hd.heap_39 w.params) (.ref 227) = true := by k_is
theorem gl__law_octets (w : World) : nsIn (hd.heap_39 w.params) mainGlobals "_law_octets" = some (some (.ref 232)) := by k_is
theorem kp__law_octets (w : World) : keepIn (hd.heap_39 w.params) (.ref 232) = true := by k_is
theorem gl__law_hex (w : World) : nsIn (hd.heap_39 w.params) mainGlobals "_law_hex" = some (some (.ref 237)) := by k_is
theorem kp__law_hex (w : World) : keepIn (hd.heap_39 w.params) (.ref 237) = true := by k_is
theorem gl__law_framed (w : World) : nsIn (hd.heap_39 w.params) mainGlobals "_law_framed" = some (some (.ref 242)) := by k_is
theorem kp__law_framed (w : World) : keepIn (hd.heap_39 w.params) (.ref 242) = true := by k_is
theorem gl__law_rows (w : World) : nsIn (hd.heap_39 w.params) mainGlobals "_law_rows" = some (some (.ref 247)) := by k_is
theorem kp__law_rows (w : World) : keepIn (hd.heap_39 w.params) (.ref 247) = true := by k_is
theorem gl__law_seen (w : World) : nsIn (hd.heap_39 w.params) mainGlobals "_law_seen" = some (some (.ref 252)) := by k_is
theorem kp__law_seen (w : World) : keepIn (hd.heap_39 w.params) (.ref 252) = true := by k_is
theorem gl__law_told (w : World) : nsIn (hd.heap_39 w.params) mainGlobals "_law_told" = some (some (.ref 259)) := by k_is
theorem kp__law_told (w : World) : keepIn (hd.heap_39 w.params) (.ref 259) = true := by k_is
theorem gl__law_spoilt (w : World) : nsIn (hd.heap_39 w.params) mainGlobals "_law_spoilt" = some (some (.ref 266)) := by k_is
theorem kp__law_spoilt (w : World) : keepIn (hd.heap_39 w.params) (.ref 266) = true := by k_is
theorem gb_chr (w : World) : nsIn (hd.heap_39 w.params) mainGlobals "chr" = some none := by k_is
theorem gb_ord (w : World) : nsIn (hd.heap_39 w.params) mainGlobals "ord" = some none := by k_is
theorem gb_len (w : World) : nsIn (hd.heap_39 w.params) mainGlobals "len" = some none := by k_is
theorem gb_isinstance (w : World) : nsIn (hd.heap_39 w.params) mainGlobals "isinstance" = some none := by k_is
theorem gb_bytes (w : World) : nsIn (hd.heap_39 w.params) mainGlobals "bytes" = some none := by k_is
theorem gb_list (w : World) : nsIn (hd.heap_39 w.params) mainGlobals "list" = some none := by k_is
theorem gb_tuple (w : World) : nsIn (hd.heap_39 w.params) mainGlobals "tuple" = some none := by k_is
theorem gb_range (w : World) : nsIn (hd.heap_39 w.params) mainGlobals "range" = some none := by k_is
theorem gb_int (w : World) : nsIn (hd.heap_39 w.params) mainGlobals "int" = some none := by k_is
section
variable {c : Cx} {ρ ρ₁ ρ₂ ρ₃ : Rho} {x : Str} {p pos : Pos} {d d₁ d₂ : D} {P : D → Prop} {n : Nat} {e : Expr} {es : List Expr} {ds : List D}
theorem ec_text_of (hk : c.env.kindOf "text_of" = some .globalImplicit) (h : EvL c ρ (e :: es) ρ₁ ds) (o : OpC (.ref 64) 1 ds P) (he : starEach (e :: es) c.env = (false, eval e c.env) :: starEach es c.env) (hp : (backTo pos (starEach es c.env)).any (·.1) = false)
    (h1 : eval (.Call (.Name "text_of" p) (e :: es) [] pos) c.env = (do callWith pos (← eval (.Name "text_of" p) c.env) [] (backTo pos (starEach (e :: es) c.env)) (backToKw pos (keywordEach [] c.env)))) (hn : 1 ≤ c.n) :
    EvP c ρ (eval (.Call (.Name "text_of" p) (e :: es) [] pos) c.env) ρ₁ P := ev_call_fn gl_text_of kp_text_of hk h o rfl he hp h1 hn
theorem ec_octets_of (hk : c.env.kindOf "octets_of" = some .globalImplicit) (h : EvL c ρ (e :: es) ρ₁ ds) (o : OpC (.ref 69) 1 ds P) (he : starEach (e :: es) c.env = (false, eval e c.env) :: starEach es c.env) (hp : (backTo pos (starEach es c.env)).any (·.1) = false)
    (h1 : eval (.Call (.Name "octets_of" p) (e :: es) [] pos) c.env = (do callWith pos (← eval (.Name "octets_of" p) c.env) [] (backTo pos (starEach (e :: es) c.env)) (backToKw pos (keywordEach [] c.env)))) (hn : 1 ≤ c.n) :
    EvP c ρ (eval (.Call (.Name "octets_of" p) (e :: es) [] pos) c.env) ρ₁ P := ev_call_fn gl_octets_of kp_octets_of hk h o rfl he hp h1 hn
theorem ec_hex_of (hk : c.env.kindOf "hex_of" = some .globalImplicit) (h : EvL c ρ (e :: es) ρ₁ ds) (o : OpC (.ref 76) 1 ds P) (he : starEach (e :: es) c.env = (false, eval e c.env) :: starEach es c.env) (hp : (backTo pos (starEach es c.env)).any (·.1) = false)
    (h1 : eval (.Call (.Name "hex_of" p) (e :: es) [] pos) c.env = (do callWith pos (← eval (.Name "hex_of" p) c.env) [] (backTo pos (starEach (e :: es) c.env)) (backToKw pos (keywordEach [] c.env)))) (hn : 1 ≤ c.n) :
    EvP c ρ (eval (.Call (.Name "hex_of" p) (e :: es) [] pos) c.env) ρ₁ P := ev_call_fn gl_hex_of kp_hex_of hk h o rfl he hp h1 hn
theorem ec_hex_digit (hk : c.env.kindOf "hex_digit" = some .globalImplicit) (h : EvL c ρ (e :: es) ρ₁ ds) (o : OpC (.ref 83) 1 ds P) (he : starEach (e :: es) c.env = (false, eval e c.env) :: starEach es c.env) (hp : (backTo pos (starEach es c.env)).any (·.1) = false)
    (h1 : eval (.Call (.Name "hex_digit" p) (e :: es) [] pos) c.env = (do callWith pos (← eval (.Name "hex_digit" p) c.env) [] (backTo pos (starEach (e :: es) c.env)) (backToKw pos (keywordEach [] c.env)))) (hn : 1 ≤ c.n) :
    EvP c ρ (eval (.Call (.Name "hex_digit" p) (e :: es) [] pos) c.env) ρ₁ P := ev_call_fn gl_hex_digit kp_hex_digit hk h o rfl he hp h1 hn
theorem ec_octets_of_hex (hk : c.env.kindOf "octets_of_hex" = some .globalImplicit) (h : EvL c ρ (e :: es) ρ₁ ds) (o : OpC (.ref 90) 2 ds P) (he : starEach (e :: es) c.env = (false, eval e c.env) :: starEach es c.env) (hp : (backTo pos (starEach es c.env)).any (·.1) = false)
    (h1 : eval (.Call (.Name "octets_of_hex" p) (e :: es) [] pos) c.env = (do callWith pos (← eval (.Name "octets_of_hex" p) c.env) [] (backTo pos (starEach (e :: es) c.env)) (backToKw pos (keywordEach [] c.env)))) (hn : 2 ≤ c.n) :
    EvP c ρ (eval (.Call (.Name "octets_of_hex" p) (e :: es) [] pos) c.env) ρ₁ P := ev_call_fn gl_octets_of_hex kp_octets_of_hex hk h o rfl he hp h1 hn
theorem ec_is_plain_hex (hk : c.env.kindOf "is_plain_hex" = some .globalImplicit) (h : EvL c ρ (e :: es) ρ₁ ds) (o : OpC (.ref 97) 1 ds P) (he : starEach (e :: es) c.env = (false, eval e c.env) :: starEach es c.env) (hp : (backTo pos (starEach es c.env)).any (·.1) = false)
    (h1 : eval (.Call (.Name "is_plain_hex" p) (e :: es) [] pos) c.env = (do callWith pos (← eval (.Name "is_plain_hex" p) c.env) [] (backTo pos (starEach (e :: es) c.env)) (backToKw pos (keywordEach [] c.env)))) (hn : 1 ≤ c.n) :
    EvP c ρ (eval (.Call (.Name "is_plain_hex" p) (e :: es) [] pos) c.env) ρ₁ P := ev_call_fn gl_is_plain_hex kp_is_plain_hex hk h o rfl he hp h1 hn
theorem ec_zero_id (hk : c.env.kindOf "zero_id" = some .globalImplicit) (h : EvL c ρ (e :: es) ρ₁ ds) (o : OpC (.ref 104) 1 ds P) (he : starEach (e :: es) c.env = (false, eval e c.env) :: starEach es c.env) (hp : (backTo pos (starEach es c.env)).any (·.1) = false)
    (h1 : eval (.Call (.Name "zero_id" p) (e :: es) [] pos) c.env = (do callWith pos (← eval (.Name "zero_id" p) c.env) [] (backTo pos (starEach (e :: es) c.env)) (backToKw pos (keywordEach [] c.env)))) (hn : 1 ≤ c.n) :
    EvP c ρ (eval (.Call (.Name "zero_id" p) (e :: es) [] pos) c.env) ρ₁ P := ev_call_fn gl_zero_id kp_zero_id hk h o rfl he hp h1 hn
theorem ec_pkt (hk : c.env.kindOf "pkt" = some .globalImplicit) (h : EvL c ρ (e :: es) ρ₁ ds) (o : OpC (.ref 111) 1 ds P) (he : starEach (e :: es) c.env = (false, eval e c.env) :: starEach es c.env) (hp : (backTo pos (starEach es c.env)).any (·.1) = false)
    (h1 : eval (.Call (.Name "pkt" p) (e :: es) [] pos) c.env = (do callWith pos (← eval (.Name "pkt" p) c.env) [] (backTo pos (starEach (e :: es) c.env)) (backToKw pos (keywordEach [] c.env)))) (hn : 1 ≤ c.n) :
    EvP c ρ (eval (.Call (.Name "pkt" p) (e :: es) [] pos) c.env) ρ₁ P := ev_call_fn gl_pkt kp_pkt hk h o rfl he hp h1 hn
theorem ec_wire_figure (hk : c.env.kindOf "wire_figure" = some .globalImplicit) (h : EvL c ρ (e :: es) ρ₁ ds) (o : OpC (.ref 118) 1 ds P) (he : starEach (e :: es) c.env = (false, eval e c.env) :: starEach es c.env) (hp : (backTo pos (starEach es c.env)).any (·.1) = false)
    (h1 : eval (.Call (.Name "wire_figure" p) (e :: es) [] pos) c.env = (do callWith pos (← eval (.Name "wire_figure" p) c.env) [] (backTo pos (starEach (e :: es) c.env)) (backToKw pos (keywordEach [] c.env)))) (hn : 1 ≤ c.n) :
    EvP c ρ (eval (.Call (.Name "wire_figure" p) (e :: es) [] pos) c.env) ρ₁ P := ev_call_fn gl_wire_figure kp_wire_figure hk h o rfl he hp h1 hn
theorem ec_wire_line (hk : c.env.kindOf "wire_line" = some .globalImplicit) (h : EvL c ρ (e :: es) ρ₁ ds) (o : OpC (.ref 125) 2 ds P) (he : starEach (e :: es) c.env = (false, eval e c.env) :: starEach es c.env) (hp : (backTo pos (starEach es c.env)).any (·.1) = false)
    (h1 : eval (.Call (.Name "wire_line" p) (e :: es) [] pos) c.env = (do callWith pos (← eval (.Name "wire_line" p) c.env) [] (backTo pos (starEach (e :: es) c.env)) (backToKw pos (keywordEach [] c.env)))) (hn : 2 ≤ c.n) :
    EvP c ρ (eval (.Call (.Name "wire_line" p) (e :: es) [] pos) c.env) ρ₁ P := ev_call_fn gl_wire_line kp_wire_line hk h o rfl he hp h1 hn
theorem ec_read_pkts (hk : c.env.kindOf "read_pkts" = some .globalImplicit) (h : EvL c ρ (e :: es) ρ₁ ds) (o : OpC (.ref 133) 3 ds P) (he : starEach (e :: es) c.env = (false, eval e c.env) :: starEach es c.env) (hp : (backTo pos (starEach es c.env)).any (·.1) = false)
    (h1 : eval (.Call (.Name "read_pkts" p) (e :: es) [] pos) c.env = (do callWith pos (← eval (.Name "read_pkts" p) c.env) [] (backTo pos (starEach (e :: es) c.env)) (backToKw pos (keywordEach [] c.env)))) (hn : 3 ≤ c.n) :
    EvP c ρ (eval (.Call (.Name "read_pkts" p) (e :: es) [] pos) c.env) ρ₁ P := ev_call_fn gl_read_pkts kp_read_pkts hk h o rfl he hp h1 hn
theorem ec_wire_row (hk : c.env.kindOf "wire_row" = some .globalImplicit) (h : EvL c ρ (e :: es) ρ₁ ds) (o : OpC (.ref 140) 1 ds P) (he : starEach (e :: es) c.env = (false, eval e c.env) :: starEach es c.env) (hp : (backTo pos (starEach es c.env)).any (·.1) = false)
    (h1 : eval (.Call (.Name "wire_row" p) (e :: es) [] pos) c.env = (do callWith pos (← eval (.Name "wire_row" p) c.env) [] (backTo pos (starEach (e :: es) c.env)) (backToKw pos (keywordEach [] c.env)))) (hn : 1 ≤ c.n) :
    EvP c ρ (eval (.Call (.Name "wire_row" p) (e :: es) [] pos) c.env) ρ₁ P := ev_call_fn gl_wire_row kp_wire_row hk h o rfl he hp h1 hn
theorem ec_wire_id (hk : c.env.kindOf "wire_id" = some .globalImplicit) (h : EvL c ρ (e :: es) ρ₁ ds) (o : OpC (.ref 147) 3 ds P) (he : starEach (e :: es) c.env = (false, eval e c.env) :: starEach es c.env) (hp : (backTo pos (starEach es c.env)).any (·.1) = false)
    (h1 : eval (.Call (.Name "wire_id" p) (e :: es) [] pos) c.env = (do callWith pos (← eval (.Name "wire_id" p) c.env) [] (backTo pos (starEach (e :: es) c.env)) (backToKw pos (keywordEach [] c.env)))) (hn : 3 ≤ c.n) :
    EvP c ρ (eval (.Call (.Name "wire_id" p) (e :: es) [] pos) c.env) ρ₁ P := ev_call_fn gl_wire_id kp_wire_id hk h o rfl he hp h1 hn
theorem ec_wire_hex (hk : c.env.kindOf "wire_hex" = some .globalImplicit) (h : EvL c ρ (e :: es) ρ₁ ds) (o : OpC (.ref 154) 2 ds P) (he : starEach (e :: es) c.env = (false, eval e c.env) :: starEach es c.env) (hp : (backTo pos (starEach es c.env)).any (·.1) = false)
    (h1 : eval (.Call (.Name "wire_hex" p) (e :: es) [] pos) c.env = (do callWith pos (← eval (.Name "wire_hex" p) c.env) [] (backTo pos (starEach (e :: es) c.env)) (backToKw pos (keywordEach [] c.env)))) (hn : 2 ≤ c.n) :
    EvP c ρ (eval (.Call (.Name "wire_hex" p) (e :: es) [] pos) c.env) ρ₁ P := ev_call_fn gl_wire_hex kp_wire_hex hk h o rfl he hp h1 hn
theorem ec_wire_told (hk : c.env.kindOf "wire_told" = some .globalImplicit) (h : EvL c ρ (e :: es) ρ₁ ds) (o : OpC (.ref 161) 4 ds P) (he : starEach (e :: es) c.env = (false, eval e c.env) :: starEach es c.env) (hp : (backTo pos (starEach es c.env)).any (·.1) = false)
    (h1 : eval (.Call (.Name "wire_told" p) (e :: es) [] pos) c.env = (do callWith pos (← eval (.Name "wire_told" p) c.env) [] (backTo pos (starEach (e :: es) c.env)) (backToKw pos (keywordEach [] c.env)))) (hn : 4 ≤ c.n) :
    EvP c ρ (eval (.Call (.Name "wire_told" p) (e :: es) [] pos) c.env) ρ₁ P := ev_call_fn gl_wire_told kp_wire_told hk h o rfl he hp h1 hn
theorem ec__law_octets (hk : c.env.kindOf "_law_octets" = some .globalImplicit) (h : EvL c ρ (e :: es) ρ₁ ds) (o : OpC (.ref 232) 1 ds P) (he : starEach (e :: es) c.env = (false, eval e c.env) :: starEach es c.env) (hp : (backTo pos (starEach es c.env)).any (·.1) = false)
    (h1 : eval (.Call (.Name "_law_octets" p) (e :: es) [] pos) c.env = (do callWith pos (← eval (.Name "_law_octets" p) c.env) [] (backTo pos (starEach (e :: es) c.env)) (backToKw pos (keywordEach [] c.env)))) (hn : 1 ≤ c.n) :
    EvP c ρ (eval (.Call (.Name "_law_octets" p) (e :: es) [] pos) c.env) ρ₁ P := ev_call_fn gl__law_octets kp__law_octets hk h o rfl he hp h1 hn
theorem ec__law_hex (hk : c.env.kindOf "_law_hex" = some .globalImplicit) (h : EvL c ρ (e :: es) ρ₁ ds) (o : OpC (.ref 237) 1 ds P) (he : starEach (e :: es) c.env = (false, eval e c.env) :: starEach es c.env) (hp : (backTo pos (starEach es c.env)).any (·.1) = false)
    (h1 : eval (.Call (.Name "_law_hex" p) (e :: es) [] pos) c.env = (do callWith pos (← eval (.Name "_law_hex" p) c.env) [] (backTo pos (starEach (e :: es) c.env)) (backToKw pos (keywordEach [] c.env)))) (hn : 1 ≤ c.n) :
    EvP c ρ (eval (.Call (.Name "_law_hex" p) (e :: es) [] pos) c.env) ρ₁ P := ev_call_fn gl__law_hex kp__law_hex hk h o rfl he hp h1 hn
theorem ec__law_framed (hk : c.env.kindOf "_law_framed" = some .globalImplicit) (h : EvL c ρ (e :: es) ρ₁ ds) (o : OpC (.ref 242) 1 ds P) (he : starEach (e :: es) c.env = (false, eval e c.env) :: starEach es c.env) (hp : (backTo pos (starEach es c.env)).any (·.1) = false)
    (h1 : eval (.Call (.Name "_law_framed" p) (e :: es) [] pos) c.env = (do callWith pos (← eval (.Name "_law_framed" p) c.env) [] (backTo pos (starEach (e :: es) c.env)) (backToKw pos (keywordEach [] c.env)))) (hn : 1 ≤ c.n) :
    EvP c ρ (eval (.Call (.Name "_law_framed" p) (e :: es) [] pos) c.env) ρ₁ P := ev_call_fn gl__law_framed kp__law_framed hk h o rfl he hp h1 hn
theorem ec__law_rows (hk : c.env.kindOf "_law_rows" = some .globalImplicit) (h : EvL c ρ (e :: es) ρ₁ ds) (o : OpC (.ref 247) 2 ds P) (he : starEach (e :: es) c.env = (false, eval e c.env) :: starEach es c.env) (hp : (backTo pos (starEach es c.env)).any (·.1) = false)
    (h1 : eval (.Call (.Name "_law_rows" p) (e :: es) [] pos) c.env = (do callWith pos (← eval (.Name "_law_rows" p) c.env) [] (backTo pos (starEach (e :: es) c.env)) (backToKw pos (keywordEach [] c.env)))) (hn : 2 ≤ c.n) :
    EvP c ρ (eval (.Call (.Name "_law_rows" p) (e :: es) [] pos) c.env) ρ₁ P := ev_call_fn gl__law_rows kp__law_rows hk h o rfl he hp h1 hn
theorem ec__law_seen (hk : c.env.kindOf "_law_seen" = some .globalImplicit) (h : EvL c ρ (e :: es) ρ₁ ds) (o : OpC (.ref 252) 1 ds P) (he : starEach (e :: es) c.env = (false, eval e c.env) :: starEach es c.env) (hp : (backTo pos (starEach es c.env)).any (·.1) = false)
    (h1 : eval (.Call (.Name "_law_seen" p) (e :: es) [] pos) c.env = (do callWith pos (← eval (.Name "_law_seen" p) c.env) [] (backTo pos (starEach (e :: es) c.env)) (backToKw pos (keywordEach [] c.env)))) (hn : 1 ≤ c.n) :
    EvP c ρ (eval (.Call (.Name "_law_seen" p) (e :: es) [] pos) c.env) ρ₁ P := ev_call_fn gl__law_seen kp__law_seen hk h o rfl he hp h1 hn
theorem ec__law_told (hk : c.env.kindOf "_law_told" = some .globalImplicit) (h : EvL c ρ (e :: es) ρ₁ ds) (o : OpC (.ref 259) 6 ds P) (he : starEach (e :: es) c.env = (false, eval e c.env) :: starEach es c.env) (hp : (backTo pos (starEach es c.env)).any (·.1) = false)
    (h1 : eval (.Call (.Name "_law_told" p) (e :: es) [] pos) c.env = (do callWith pos (← eval (.Name "_law_told" p) c.env) [] (backTo pos (starEach (e :: es) c.env)) (backToKw pos (keywordEach [] c.env)))) (hn : 6 ≤ c.n) :
    EvP c ρ (eval (.Call (.Name "_law_told" p) (e :: es) [] pos) c.env) ρ₁ P := ev_call_fn gl__law_told kp__law_told hk h o rfl he hp h1 hn
theorem ec_chr (hk : c.env.kindOf "chr" = some .globalImplicit) (h : EvL c ρ (e :: es) ρ₁ ds) (o : OpC (.builtin "chr") 0 ds P) (he : starEach (e :: es) c.env = (false, eval e c.env) :: starEach es c.env) (hp : (backTo pos (starEach es c.env)).any (·.1) = false)
    (h1 : eval (.Call (.Name "chr" p) (e :: es) [] pos) c.env = (do callWith pos (← eval (.Name "chr" p) c.env) [] (backTo pos (starEach (e :: es) c.env)) (backToKw pos (keywordEach [] c.env)))) (hn : 0 ≤ c.n) :
    EvP c ρ (eval (.Call (.Name "chr" p) (e :: es) [] pos) c.env) ρ₁ P := ev_call_bi gb_chr rfl (by decide) hk h o rfl he hp h1 hn
theorem ec_ord (hk : c.env.kindOf "ord" = some .globalImplicit) (h : EvL c ρ (e :: es) ρ₁ ds) (o : OpC (.builtin "ord") 0 ds P) (he : starEach (e :: es) c.env = (false, eval e c.env) :: starEach es c.env) (hp : (backTo pos (starEach es c.env)).any (·.1) = false)
    (h1 : eval (.Call (.Name "ord" p) (e :: es) [] pos) c.env = (do callWith pos (← eval (.Name "ord" p) c.env) [] (backTo pos (starEach (e :: es) c.env)) (backToKw pos (keywordEach [] c.env)))) (hn : 0 ≤ c.n) :
    EvP c ρ (eval (.Call (.Name "ord" p) (e :: es) [] pos) c.env) ρ₁ P := ev_call_bi gb_ord rfl (by decide) hk h o rfl he hp h1 hn
theorem ec_len (hk : c.env.kindOf "len" = some .globalImplicit) (h : EvL c ρ (e :: es) ρ₁ ds) (o : OpC (.builtin "len") 0 ds P) (he : starEach (e :: es) c.env = (false, eval e c.env) :: starEach es c.env) (hp : (backTo pos (starEach es c.env)).any (·.1) = false)
    (h1 : eval (.Call (.Name "len" p) (e :: es) [] pos) c.env = (do callWith pos (← eval (.Name "len" p) c.env) [] (backTo pos (starEach (e :: es) c.env)) (backToKw pos (keywordEach [] c.env)))) (hn : 0 ≤ c.n) :
    EvP c ρ (eval (.Call (.Name "len" p) (e :: es) [] pos) c.env) ρ₁ P := ev_call_bi gb_len rfl (by decide) hk h o rfl he hp h1 hn
theorem ec_isinstance (hk : c.env.kindOf "isinstance" = some .globalImplicit) (h : EvL c ρ (e :: es) ρ₁ ds) (o : OpC (.builtin "isinstance") 0 ds P) (he : starEach (e :: es) c.env = (false, eval e c.env) :: starEach es c.env) (hp : (backTo pos (starEach es c.env)).any (·.1) = false)
    (h1 : eval (.Call (.Name "isinstance" p) (e :: es) [] pos) c.env = (do callWith pos (← eval (.Name "isinstance" p) c.env) [] (backTo pos (starEach (e :: es) c.env)) (backToKw pos (keywordEach [] c.env)))) (hn : 0 ≤ c.n) :
    EvP c ρ (eval (.Call (.Name "isinstance" p) (e :: es) [] pos) c.env) ρ₁ P := ev_call_bi gb_isinstance rfl (by decide) hk h o rfl he hp h1 hn
theorem ec_bytes (hk : c.env.kindOf "bytes" = some .globalImplicit) (h : EvL c ρ (e :: es) ρ₁ ds) (o : OpC (.type "bytes") 0 ds P) (he : starEach (e :: es) c.env = (false, eval e c.env) :: starEach es c.env) (hp : (backTo pos (starEach es c.env)).any (·.1) = false)
    (h1 : eval (.Call (.Name "bytes" p) (e :: es) [] pos) c.env = (do callWith pos (← eval (.Name "bytes" p) c.env) [] (backTo pos (starEach (e :: es) c.env)) (backToKw pos (keywordEach [] c.env)))) (hn : 0 ≤ c.n) :
    EvP c ρ (eval (.Call (.Name "bytes" p) (e :: es) [] pos) c.env) ρ₁ P := ev_call_ty gb_bytes rfl (by decide) hk h o rfl he hp h1 hn
theorem ec_list (hk : c.env.kindOf "list" = some .globalImplicit) (h : EvL c ρ (e :: es) ρ₁ ds) (o : OpC (.type "list") 0 ds P) (he : starEach (e :: es) c.env = (false, eval e c.env) :: starEach es c.env) (hp : (backTo pos (starEach es c.env)).any (·.1) = false)
    (h1 : eval (.Call (.Name "list" p) (e :: es) [] pos) c.env = (do callWith pos (← eval (.Name "list" p) c.env) [] (backTo pos (starEach (e :: es) c.env)) (backToKw pos (keywordEach [] c.env)))) (hn : 0 ≤ c.n) :
    EvP c ρ (eval (.Call (.Name "list" p) (e :: es) [] pos) c.env) ρ₁ P := ev_call_ty gb_list rfl (by decide) hk h o rfl he hp h1 hn
theorem ec_tuple (hk : c.env.kindOf "tuple" = some .globalImplicit) (h : EvL c ρ (e :: es) ρ₁ ds) (o : OpC (.type "tuple") 0 ds P) (he : starEach (e :: es) c.env = (false, eval e c.env) :: starEach es c.env) (hp : (backTo pos (starEach es c.env)).any (·.1) = false)
    (h1 : eval (.Call (.Name "tuple" p) (e :: es) [] pos) c.env = (do callWith pos (← eval (.Name "tuple" p) c.env) [] (backTo pos (starEach (e :: es) c.env)) (backToKw pos (keywordEach [] c.env)))) (hn : 0 ≤ c.n) :
    EvP c ρ (eval (.Call (.Name "tuple" p) (e :: es) [] pos) c.env) ρ₁ P := ev_call_ty gb_tuple rfl (by decide) hk h o rfl he hp h1 hn
theorem ec_range (hk : c.env.kindOf "range" = some .globalImplicit) (h : EvL c ρ (e :: es) ρ₁ ds) (o : OpC (.type "range") 0 ds P) (he : starEach (e :: es) c.env = (false, eval e c.env) :: starEach es c.env) (hp : (backTo pos (starEach es c.env)).any (·.1) = false)
    (h1 : eval (.Call (.Name "range" p) (e :: es) [] pos) c.env = (do callWith pos (← eval (.Name "range" p) c.env) [] (backTo pos (starEach (e :: es) c.env)) (backToKw pos (keywordEach [] c.env)))) (hn : 0 ≤ c.n) :
    EvP c ρ (eval (.Call (.Name "range" p) (e :: es) [] pos) c.env) ρ₁ P := ev_call_ty gb_range rfl (by decide) hk h o rfl he hp h1 hn
theorem ec_int (hk : c.env.kindOf "int" = some .globalImplicit) (h : EvL c ρ (e :: es) ρ₁ ds) (o : OpC (.type "int") 0 ds P) (he : starEach (e :: es) c.env = (false, eval e c.env) :: starEach es c.env) (hp : (backTo pos (starEach es c.env)).any (·.1) = false)
    (h1 : eval (.Call (.Name "int" p) (e :: es) [] pos) c.env = (do callWith pos (← eval (.Name "int" p) c.env) [] (backTo pos (starEach (e :: es) c.env)) (backToKw pos (keywordEach [] c.env)))) (hn : 0 ≤ c.n) :
    EvP c ρ (eval (.Call (.Name "int" p) (e :: es) [] pos) c.env) ρ₁ P := ev_call_ty gb_int rfl (by decide) hk h o rfl he hp h1 hn
end
end
section
theorem meth_join {l : List Nat} : Meth (.str l) "join" "str.join" := by
  intro w A s Z v pl Q E t k
  cases t using Tr.strC
  exact GM.join k
theorem meth_sfind {l : List Nat} : Meth (.str l) "find" "str.find" := by
  intro w A s Z v pl Q E t k
  cases t using Tr.strC
  exact GM.find k
theorem meth_split {l : List Nat} : Meth (.str l) "split" "str.split" := by
  intro w A s Z v pl Q E t k
  cases t using Tr.strC
  exact GM.split k

theorem Sub.nil {ρ : Rho} : Sub [] ρ := fun x b e => by cases e
theorem Sub.cons {ρ ρ' : Rho} {x : Str} {b : Bd} (h : ρ.lookup x = some b) (r : Sub ρ' ρ) : Sub ((x, b) :: ρ') ρ := fun y b' e => by
  rw [List.lookup_cons] at e
  cases q : (y == x) with
  | true => rw [q] at e; cases e; rw [beq_iff_eq.mp q]; exact h
  | false => rw [q] at e; exact r y b' e
theorem Sub.refl {ρ : Rho} : Sub ρ ρ := fun x b e => e

section
variable {c : Cx} {ρ ρ₁ ρ₂ ρ₃ ρf : Rho} {x y : Str} {pos p q pt : Pos} {d d₁ d₂ : D} {P : D → Prop} {n : Nat} {elt iter target t : Expr} {ifs : List Expr} {scope : Scope} {cl : List (Str × Addr)} {ds : List D}

theorem Loop.inv {bind : D → Rho → Option Rho} {body : List Stmt} {P : Out → Rho → Prop} (I : List D → Rho) (fin : P .next (I ds)) : ∀ (rest done : List D) (ρ : Rho), ds = done ++ rest → Sub (I done) ρ →
    (∀ done d rest, ds = done ++ d :: rest → ∃ ρ₁, bind d (I done) = some ρ₁ ∧ Exs c ρ₁ body fun o r => (o = .next ∨ o = .cont) ∧ Sub (I (done ++ [d])) r) → Loop c bind body P rest ρ
  | [], done, ρ, e, hs, _ => ⟨I done, hs, by rw [List.append_nil] at e; rw [← e]; exact fin⟩
  | d :: rest, done, ρ, e, hs, step => by
    obtain ⟨ρ₁, h1, h2⟩ := step done d rest e
    refine ⟨I done, ρ₁, hs, h1, h2.weak ?_⟩
    rintro o r ⟨ho, hr⟩
    have := Loop.inv I fin rest (done ++ [d]) r (by rw [e, List.append_assoc]; rfl) hr step
    rcases ho with rfl | rfl <;> exact this
/-- for, by an invariant over what is done -/
theorem ex_for_inv {body : List Stmt} {bind : D → Rho → Option Rho} (I : List D → Rho) (h : Ev c ρ iter ρ₁ d) (hd : itemsOf d = some ds) (hb : Binds c target bind) (h0 : Sub (I []) ρ₁)
    (step : ∀ done d rest, ds = done ++ d :: rest → ∃ ρ₁, bind d (I done) = some ρ₁ ∧ Exs c ρ₁ body fun o r => (o = .next ∨ o = .cont) ∧ Sub (I (done ++ [d])) r)
    (hs : ∀ x, foldedSetIterable iter c.env x = pure x) : Ex1 c ρ (.For target iter body [] pos) (I ds) :=
  ex_for h hd hb (Loop.inv I ⟨rfl, rfl⟩ ds [] ρ₁ rfl h0 step) hs

theorem evt_or2 {e e' : Expr} {b b' : Bool} (h : EvT c ρ e ρ b) (r : b = false → EvT c ρ e' ρ b') : EvT c ρ (.BoolOp .Or [e, e'] pos) ρ (b || b') := by
  cases b with
  | true => exact evt_or_t h
  | false =>
    cases b' with
    | true => exact evt_or_f h (evt_or_t (r rfl))
    | false => exact evt_or_f h (evt_or_f (r rfl) evt_or_nil)
theorem EvT.cast {e : Expr} {b b' : Bool} (h : EvT c ρ e ρ₁ b) (q : b = b') : EvT c ρ e ρ₁ b' := q ▸ h
theorem Ev.cast {e : Expr} {d d' : D} (h : Ev c ρ e ρ₁ d) (q : d = d') : Ev c ρ e ρ₁ d' := q ▸ h
/-- a chain of two comparisons -/
theorem evt_chain {l r₁ r₂ : Expr} {o₁ o₂ : CmpOp} {d₃ : D} {b b' : Bool} (h₁ : Ev c ρ l ρ d₁) (h₂ : Ev c ρ r₁ ρ d₂) (op : Op2 (compareOp o₁) 0 d₁ d₂ (· = .bool b)) (h₃ : Ev c ρ r₂ ρ d₃) (op' : Op2 (compareOp o₂) 0 d₂ d₃ (· = .bool b'))
    (hm : lastMarks [o₁, o₂] [r₁, r₂] = false) : EvT c ρ (.Compare l [o₁, o₂] [r₁, r₂] pos) ρ (b && b') := .mk fun s Z Q E S k =>
  isTrue_chain (h₁.run s Z _ E S fun v₁ s₁ Z₁ _ S₁ l₁ t₁ e₁ => test_link (h₂.run s₁ Z₁ _ E S₁ fun v₂ s₂ Z₂ _ S₂ l₂ t₂ e₂ => by
    subst e₁; subst e₂
    refine op.run _ _ s₂ Z₂ v₁ v₂ (S₂.rdy (Nat.zero_le _)) (l₂.tr t₁) t₂ _ _ fun u s₃ Z₃ _ X tu eu => ?_
    subst eu
    cases tu using Tr.boolC
    refine wpAny_truthy_bool ?_
    have S₃ := S₂.ext X
    have L := LeX.trans S l₁ (LeX.trans S₁ l₂ X.leX)
    cases b with
    | false => exact k s₃ Z₃ S₃ L
    | true =>
      rw [if_pos rfl]
      refine test_last (h₃.run s₃ Z₃ _ E S₃ fun v₃ s₄ Z₄ _ S₄ l₄ t₄ e₄ => ?_)
      subst e₄
      refine op'.run _ _ s₄ Z₄ v₂ v₃ (S₄.rdy (Nat.zero_le _)) (l₄.tr (X.le.tr t₂)) t₄ _ _ fun u s₅ Z₅ _ X₅ tu eu => ?_
      subst eu
      cases tu using Tr.boolC
      exact wpAny_truthy_bool (k s₅ Z₅ (S₄.ext X₅) (LeX.trans S L (LeX.trans S₃ l₄ X₅.leX))))) hm

/-- [elt for x in iter]: no test, one name -/
theorem ev_comp1 (f : D → D) (h : Ev c ρ iter ρ₁ d) (hd : itemsOf d = some ds) (hclos : closureFor scope c.env = pure cl) (hk : scope.kind = .function) (hcell : (scope.names.all fun y => y.2 != .cell) = true)
    (hnames : (scope.names.all fun x => x.2 != .local || scope.names.lookup x.1 == some .local) = true) (hcl : ∀ x a, cl.lookup x = some a → c.env.cells.lookup x = some a) (hx : ∀ C s0 Z0, (cxComp c scope cl C s0 Z0).Sto x)
    (hf : ∀ x b, ρf.lookup x = some b → ρ₁.lookup x = some b ∧ (cl.lookup x).isSome = true ∧ ∀ ds, b ≠ .own ds) (hs : ∀ x, foldedSetIterable iter c.env x = pure x) (hxf : ρf.lookup x = none) (hz : ds.length ≤ 16777216)
    (ht : ∀ d ∈ ds, ∀ C s0 Z0, Ev (cxComp c scope cl C s0 Z0) ((x, .v d) :: ρf) elt ((x, .v d) :: ρf) (f d)) :
    Ev c ρ (.ListComp elt [⟨.Name x p, iter, [], 0⟩] scope pos) ρ₁ (.list (ds.map f)) := by
  refine EvP.weak (ev_comp (bind := fun d ρ => some ((x, .v d) :: ρ)) (keepd := fun _ => true) (P := fun a b => b = f a) h hd (by rw [sizeLine_is]; exact hz) hclos hk (fun y hy q => ?_) (fun y hy q => ?_) hcl (fun C s0 Z0 => binds_name (hx C s0 Z0)) hf (fun d hd => ⟨_, rfl, ?_, ?_, fun C s0 Z0 => ⟨rfl, fun _ => ht d hd C s0 Z0⟩⟩) hs) ?_
  · have := List.all_eq_true.mp hcell y hy; rw [q] at this; cases this
  · have := List.all_eq_true.mp hnames y hy
    rw [q] at this
    simpa using this
  · intro y b e
    rw [List.lookup_cons]
    cases q : (y == x) with
    | true => rw [beq_iff_eq.mp q, hxf] at e; cases e
    | false => exact e
  · intro y ds' e
    rw [List.lookup_cons] at e
    cases q : (y == x) with
    | true => rw [q] at e; cases e
    | false => rw [q] at e; exact (hf y _ e).2.2 _ rfl
  · rintro r ⟨rs, rfl, h⟩
    rw [show ds.filter (fun _ => true) = ds by simp] at h
    rw [h.map]
/-- as ev_comp1, over what the data were made from -/
theorem ev_compA {α : Type} (f : D → D) (g f' : α → D) {as : List α} (h : Ev c ρ iter ρ₁ d) (hd : itemsOf d = some (as.map g)) (hclos : closureFor scope c.env = pure cl) (hk : scope.kind = .function) (hcell : (scope.names.all fun y => y.2 != .cell) = true)
    (hnames : (scope.names.all fun x => x.2 != .local || scope.names.lookup x.1 == some .local) = true) (hcl : ∀ x a, cl.lookup x = some a → c.env.cells.lookup x = some a) (hx : ∀ C s0 Z0, (cxComp c scope cl C s0 Z0).Sto x)
    (hf : ∀ x b, ρf.lookup x = some b → ρ₁.lookup x = some b ∧ (cl.lookup x).isSome = true ∧ ∀ ds, b ≠ .own ds) (hs : ∀ x, foldedSetIterable iter c.env x = pure x) (hxf : ρf.lookup x = none) (hz : as.length ≤ 16777216) (hfg : ∀ a, f (g a) = f' a)
    (ht : ∀ a ∈ as, ∀ C s0 Z0, Ev (cxComp c scope cl C s0 Z0) ((x, .v (g a)) :: ρf) elt ((x, .v (g a)) :: ρf) (f' a)) :
    Ev c ρ (.ListComp elt [⟨.Name x p, iter, [], 0⟩] scope pos) ρ₁ (.list (as.map f')) :=
  Ev.cast (ev_comp1 f h hd hclos hk hcell hnames hcl hx hf hs hxf (by rw [List.length_map]; exact hz) fun d hd C s0 Z0 => by
    obtain ⟨a, ha, rfl⟩ := List.mem_map.mp hd
    rw [hfg]; exact ht a ha C s0 Z0) (by rw [List.map_map]; exact congrArg _ (List.map_congr_left fun a _ => hfg a))
end
end
section
section
variable {c : Cx} {ρ ρ₁ ρ₂ ρ₃ ρf : Rho} {x y : Str} {pos p q pt : Pos} {d d₁ d₂ : D} {P : D → Prop} {n : Nat} {v i e t : Expr} {ds : List D} {l : List Nat} {k : Int}
theorem ty_str {l : List Nat} : tyOf (.str l) ≠ "int" := by show "str" ≠ "int"; decide
theorem ty_bytes {l : List Nat} : tyOf (.bytes l) ≠ "int" := by show "bytes" ≠ "int"; decide
theorem ty_list {l : List D} : tyOf (.list l) ≠ "int" := by show "list" ≠ "int"; decide
theorem getD_some {α : Type} {l : List α} {j : Nat} {z : α} (h : j < l.length) : l[j]? = some (l.getD j z) := by
  rw [List.getD_eq_getElem?_getD, List.getElem?_eq_getElem h]; rfl
theorem op_item_str (hk : 0 ≤ k) (h : k < l.length) (hl : l.length ≤ 16777216) (hs : ∀ o k, subscripted i false o k = operate [o, k] (getItem o k)) : Op2 (subscriptTail v i) n (.str l) (.int k) (· = .str [l.getD k.toNat 0]) := by
  obtain ⟨j, rfl⟩ : ∃ j : Nat, k = j := ⟨k.toNat, by omega⟩
  exact op_sub_of (op_idx_str (getD_some (by omega)) hl) ty_str F.slot_str_getitem.lookup hs lt_str
theorem op_item_bytes (hk : 0 ≤ k) (h : k < l.length) (hl : l.length ≤ 16777216) (hs : ∀ o k, subscripted i false o k = operate [o, k] (getItem o k)) : Op2 (subscriptTail v i) n (.bytes l) (.int k) (· = .int (l.getD k.toNat 0 : Nat)) := by
  obtain ⟨j, rfl⟩ : ∃ j : Nat, k = j := ⟨k.toNat, by omega⟩
  exact op_sub_of (op_idx_bytes (getD_some (by omega)) hl) ty_bytes FB.slot_bytes_getitem.lookup hs lt_bytes
theorem op_item_list (hk : 0 ≤ k) (h : k < ds.length) (hl : ds.length ≤ 16777216) (hs : ∀ o k, subscripted i false o k = operate [o, k] (getItem o k)) (ht : ∀ o r, letTemporaryGo v o r = pure ()) : Op2 (subscriptTail v i) n (.list ds) (.int k) (· = ds.getD k.toNat .none) := by
  obtain ⟨j, rfl⟩ : ∃ j : Nat, k = j := ⟨k.toNat, by omega⟩
  exact op_sub_of (op_idx_list (getD_some (by omega)) hl) ty_list list_getitem_lookup hs (lt_any ht)
theorem op_item_last (h : ds.getLast? = some d) (hl : ds.length ≤ 16777216) (hs : ∀ o k, subscripted i false o k = operate [o, k] (getItem o k)) (ht : ∀ o r, letTemporaryGo v o r = pure ()) : Op2 (subscriptTail v i) n (.list ds) (.int (-1)) (· = d) :=
  op_sub_of (op_idx_last h hl) ty_list list_getitem_lookup hs (lt_any ht)
theorem ev_slice_bytes {lo hi : Option Expr} {kl ku : Option Int} (h₁ : Ev c ρ v ρ₁ (.bytes l)) (h₂ : EvO c ρ₁ lo ρ₂ kl) (h₃ : EvO c ρ₂ hi ρ₃ ku) (hz : l.length ≤ 16777216) : Ev c ρ (.Subscript v (.Slice lo hi none p) pos) ρ₃ (.bytes (cut l kl ku)) :=
  ev_slice (d := .bytes l) (n := 0) FB.slot_bytes_getitem.lookup h₁ h₂ h₃ (sl_bytes hz) ty_bytes lt_bytes (Nat.zero_le _)
theorem ev_slice_str {lo hi : Option Expr} {kl ku : Option Int} (h₁ : Ev c ρ v ρ₁ (.str l)) (h₂ : EvO c ρ₁ lo ρ₂ kl) (h₃ : EvO c ρ₂ hi ρ₃ ku) (hz : l.length ≤ 16777216) : Ev c ρ (.Subscript v (.Slice lo hi none p) pos) ρ₃ (.str (cut l kl ku)) :=
  ev_slice (d := .str l) (n := 0) F.slot_str_getitem.lookup h₁ h₂ h₃ (sl_str hz) ty_str lt_str (Nat.zero_le _)
theorem ev_slice_list {lo hi : Option Expr} {kl ku : Option Int} (h₁ : Ev c ρ v ρ₁ (.list ds)) (h₂ : EvO c ρ₁ lo ρ₂ kl) (h₃ : EvO c ρ₂ hi ρ₃ ku) (hz : ds.length ≤ 16777216) (ht : ∀ o r, letTemporaryGo v o r = pure ()) : Ev c ρ (.Subscript v (.Slice lo hi none p) pos) ρ₃ (.list (cut ds kl ku)) :=
  ev_slice (d := .list ds) (n := 0) list_getitem_lookup h₁ h₂ h₃ (sl_list hz) ty_list (lt_any ht) (Nat.zero_le _)
theorem evt_cmp' {l r : Expr} {op : CmpOp} {b : Bool} (h₁ : Ev c ρ l ρ₁ d₁) (h₂ : Ev c ρ₁ r ρ₂ d₂) (o : Op2 (compareOp op) 0 d₁ d₂ (· = .bool b)) (hm : behindInMarks op r = false) : EvT c ρ (.Compare l [op] [r] pos) ρ₂ b := evt_cmp h₁ h₂ o hm (Nat.zero_le _)
theorem ev_bin' {l r : Expr} {op : Operator} (h₁ : Ev c ρ l ρ₁ d₁) (h₂ : Ev c ρ₁ r ρ₂ d₂) (o : Op2 (binaryOp op) 0 d₁ d₂ P) : EvP c ρ (eval (.BinOp l op r pos) c.env) ρ₂ P := ev_bin h₁ h₂ o (Nat.zero_le _)
theorem ev_sub' {v i : Expr} (h₁ : Ev c ρ v ρ₁ d₁) (h₂ : Ev c ρ₁ i ρ₂ d₂) (o : Op2 (subscriptTail v i) 0 d₁ d₂ P) : EvP c ρ (eval (.Subscript v i pos) c.env) ρ₂ P := ev_sub h₁ h₂ o (Nat.zero_le _)
theorem ev_ifx {t a b : Expr} {bb : Bool} (h : EvT c ρ t ρ₁ bb) (ha : bb = true → EvP c ρ₁ (eval a c.env) ρ₂ P) (hb : bb = false → EvP c ρ₁ (eval b c.env) ρ₂ P) : EvP c ρ (eval (.IfExp t a b pos) c.env) ρ₂ P := by
  cases bb with
  | true => exact ev_if_t h (ha rfl)
  | false => exact ev_if_f h (hb rfl)
theorem evt_val {e : Expr} {b : Bool} (h : Ev c ρ e ρ₁ (.bool b)) (he : isTrue e c.env (eval e c.env) = (do let v ← eval e c.env; standAt e.pos; holding [v] (truthy v))) : EvT c ρ e ρ₁ b := evt_plain h he
/-- a statement that returns -/
theorem exs_ret {e : Expr} {rest : List Stmt} {R : Out → Rho → Prop} (h : EvP c ρ (eval e c.env) ρ₁ P) (k : ∀ d, P d → R (.ret d) ρ₁) : Exs c ρ (.Return (some e) pos :: rest) R := .mk fun s Z Q E S q =>
  wpAny_execs_cons (wpAny_Return_some (h.run s Z _ E S fun v s₁ Z₁ d' S₁ l₁ t₁ e₁ => q (.ret d') ρ₁ _ _ Z₁ (k d' e₁) S₁ (S.ofX l₁) ⟨v, rfl, t₁⟩))
/-- if with a suite that ends the call -/
theorem exs_if_ret {b : Bool} {aa rest : List Stmt} {R : Out → Rho → Prop} (h : EvT c ρ t ρ₁ b) (ht : b = true → Exs c ρ₁ aa fun o r => o ≠ .next ∧ R o r) (hf : b = false → Exs c ρ₁ rest R) : Exs c ρ (.If t aa [] pos :: rest) R := by
  cases b with
  | true => exact exs_cons (ex_if_t h (ht rfl)) (fun r p => absurd rfl p.1) fun o r _ p => p.2
  | false => exact exs_step (ex_if_f h exs_nil) (hf rfl)
theorem exs_asg {e : Expr} {rest : List Stmt} {R : Out → Rho → Prop} (h : Ev c ρ e ρ₁ d) (hk : c.Sto x) (hs : swapsWith e (some (.Name x q)) pos.line c.env = pure false) (r : Exs c ((x, .v d) :: ρ₁) rest R) : Exs c ρ (.Assign [.Name x q] e pos :: rest) R := exs_step (ex_assign h hk hs) r
end
end
section
theorem fill_J19 : PySem.Challenge.rw_pb0106_01 = PySem.Challenge.rw_pb0106_01 ∧ hd.heap_39 = hd.heap_39 := by
  k_fill
  exact ⟨rfl, rfl⟩
theorem gl_HEX_SIGNS : ∃ t, ∀ w : World, nsIn (hd.heap_39 w.params) mainGlobals "HEX_SIGNS" = some (some (.str (Str.ofString "0123456789abcdef") t)) := ⟨_, fun w => by k_is⟩
theorem gl_FLUSH : ∃ t, ∀ w : World, nsIn (hd.heap_39 w.params) mainGlobals "FLUSH" = some (some (.int 0 t)) := ⟨_, fun w => by k_is⟩
theorem gl_END : ∃ t, ∀ w : World, nsIn (hd.heap_39 w.params) mainGlobals "END" = some (some (.int 2 t)) := ⟨_, fun w => by k_is⟩
theorem gl_WIRE_LONGEST : ∃ t, ∀ w : World, nsIn (hd.heap_39 w.params) mainGlobals "WIRE_LONGEST" = some (some (.int 65516 t)) := ⟨_, fun w => by k_is⟩
theorem gl_WIRE_NO_REFS : ∃ t, ∀ w : World, nsIn (hd.heap_39 w.params) mainGlobals "WIRE_NO_REFS" = some (some (.str (Str.ofString "capabilities^{}") t)) := ⟨_, fun w => by k_is⟩
theorem gl_WIRE_FIGURES : ∃ t, ∀ w : World, nsIn (hd.heap_39 w.params) mainGlobals "WIRE_FIGURES" = some (some (.bytes #[48, 49, 50, 51, 52, 53, 54, 55, 56, 57, 97, 98, 99, 100, 101, 102] t)) := ⟨_, fun w => by k_is⟩
def hexN : List Nat := [48, 49, 50, 51, 52, 53, 54, 55, 56, 57, 97, 98, 99, 100, 101, 102]
def capN : List Nat := [99, 97, 112, 97, 98, 105, 108, 105, 116, 105, 101, 115, 94, 123, 125]
section
variable {c : Cx} {ρ ρ₁ ρ₂ ρ₃ ρf : Rho} {x y z : Str} {pos p q pt : Pos} {d d₁ d₂ d₃ : D} {P : D → Prop} {n : Nat} {v i e t elt iter target : Expr} {ds : List D} {l : List Nat} {k : Int} {scope : Scope} {cl : List (Str × Addr)}
theorem ev_HEX (hk : c.env.kindOf "HEX_SIGNS" = some .globalImplicit) : Ev c ρ (.Name "HEX_SIGNS" pos) ρ (.str hexN) := let ⟨t, h⟩ := gl_HEX_SIGNS; ev_glob h (fun _ _ => .str _ _ rfl) hk rfl
theorem ev_FLUSH (hk : c.env.kindOf "FLUSH" = some .globalImplicit) : Ev c ρ (.Name "FLUSH" pos) ρ (.int 0) := let ⟨t, h⟩ := gl_FLUSH; ev_glob h (fun _ _ => .int _ _) hk rfl
theorem ev_END (hk : c.env.kindOf "END" = some .globalImplicit) : Ev c ρ (.Name "END" pos) ρ (.int 2) := let ⟨t, h⟩ := gl_END; ev_glob h (fun _ _ => .int _ _) hk rfl
theorem ev_LONGEST (hk : c.env.kindOf "WIRE_LONGEST" = some .globalImplicit) : Ev c ρ (.Name "WIRE_LONGEST" pos) ρ (.int 65516) := let ⟨t, h⟩ := gl_WIRE_LONGEST; ev_glob h (fun _ _ => .int _ _) hk rfl
theorem ev_NOREFS (hk : c.env.kindOf "WIRE_NO_REFS" = some .globalImplicit) : Ev c ρ (.Name "WIRE_NO_REFS" pos) ρ (.str capN) := let ⟨t, h⟩ := gl_WIRE_NO_REFS; ev_glob h (fun _ _ => .str _ _ rfl) hk rfl
theorem ev_FIGURES (hk : c.env.kindOf "WIRE_FIGURES" = some .globalImplicit) : Ev c ρ (.Name "WIRE_FIGURES" pos) ρ (.bytes hexN) := let ⟨t, h⟩ := gl_WIRE_FIGURES; ev_glob h (fun _ _ => .bytes _ _ rfl) hk rfl
theorem ev_tyint (hk : c.env.kindOf "int" = some .globalImplicit) : Ev c ρ (.Name "int" pos) ρ (.ty "int") := ev_ty gb_int rfl (by decide) hk rfl

/-- x = [elt for y in iter]: a list of the frame's own -/
theorem exs_compA {α : Type} {rest : List Stmt} {R : Out → Rho → Prop} (f : D → D) (g f' : α → D) {as : List α} {px spos : Pos} (h : Ev c ρ iter ρ₁ d) (hd : itemsOf d = some (as.map g)) (hclos : closureFor scope c.env = pure cl) (hk : scope.kind = .function) (hcell : (scope.names.all fun y => y.2 != .cell) = true)
    (hnames : (scope.names.all fun x => x.2 != .local || scope.names.lookup x.1 == some .local) = true) (hcl : ∀ x a, cl.lookup x = some a → c.env.cells.lookup x = some a) (hx : ∀ C s0 Z0, (cxComp c scope cl C s0 Z0).Sto y)
    (hf : ∀ x b, ρf.lookup x = some b → ρ₁.lookup x = some b ∧ (cl.lookup x).isSome = true ∧ ∀ ds, b ≠ .own ds) (hs : ∀ x, foldedSetIterable iter c.env x = pure x) (hxf : ρf.lookup y = none) (hz : as.length ≤ 16777216) (hfg : ∀ a, f (g a) = f' a)
    (ht : ∀ a ∈ as, ∀ C s0 Z0, Ev (cxComp c scope cl C s0 Z0) ((y, .v (g a)) :: ρf) elt ((y, .v (g a)) :: ρf) (f' a))
    (hsx : c.Sto x) (hsw : swapsWith (.ListComp elt [⟨.Name y p, iter, [], 0⟩] scope pos) (some (.Name x px)) spos.line c.env = pure true) (r : Exs c ((x, .own (as.map f')) :: ρ₁) rest R) :
    Exs c ρ (.Assign [.Name x px] (.ListComp elt [⟨.Name y p, iter, [], 0⟩] scope pos) spos :: rest) R := by
  refine exs_cons (ex_comp (bind := fun d ρ => some ((y, .v d) :: ρ)) (keepd := fun _ => true) (P := fun a b => b = f a) h hd (by rw [sizeLine_is, List.length_map]; exact hz) hclos hk (fun y hy q => ?_) (fun y hy q => ?_) hcl (fun C s0 Z0 => binds_name (hx C s0 Z0)) hf (fun d hd => ⟨_, rfl, ?_, ?_, fun C s0 Z0 => ⟨rfl, fun _ => ?_⟩⟩) hs hsx hsw) ?_ ?_
  · have := List.all_eq_true.mp hcell y hy; rw [q] at this; cases this
  · have := List.all_eq_true.mp hnames y hy
    rw [q] at this
    simpa using this
  · intro y b e
    rw [List.lookup_cons]
    split
    · rename_i q; rw [beq_iff_eq.mp q, hxf] at e; cases e
    · exact e
  · intro y ds' e
    rw [List.lookup_cons] at e
    split at e
    · cases e
    · exact (hf y _ e).2.2 _ rfl
  · obtain ⟨a, ha, rfl⟩ := List.mem_map.mp hd
    rw [hfg]; exact ht a ha C s0 Z0
  · rintro r' ⟨_, rs, rfl, h⟩
    rw [show (as.map g).filter (fun _ => true) = as.map g by simp] at h
    rw [h.map, List.map_map, show f ∘ g = f' from funext hfg]
    exact r
  · rintro o r' hn ⟨h, _⟩
    exact absurd h hn

/-- defs of one, two, three parameters -/
theorem Fn1 (x : Str) {a n : Nat} {P : D → Prop} {name qual : Str} {params : Arguments} {body : List Stmt} {scope : Scope} {dV kV doc pm cdv ct oc : Value} {an od : Option Addr} {osl : Array (Option Value)}
    (ho : ∀ w : World, List.lookup a (hd.heap_39 w.params) = some ⟨oc, od, .func (fnX name qual params body scope [] dV kV doc pm an cdv ct), osl⟩) (hcd : ∀ w : World, codeIn (hd.heap_39 w.params) cdv qual = true)
    (hbind : ∀ v : Value, bindArgs (fnX name qual params body scope [] dV kV doc pm an cdv ct) ⟨[v], []⟩ = pure [(x, v)]) (hloc : scope.names.lookup x = some .local) (hcell : (scope.names.all fun x => x.2 != .cell) = true)
    (h : ∀ w A0 outer L s0 Z0, Exs (cxFn w qual scope a cdv A0 outer n L s0 Z0 []) [(x, .v d)] body fun o _ => ∃ d, o = .ret d ∧ P d)
    (hco : scope.isCoroutine = false) (hgen : scope.isGenerator = false) (hk : scope.kind = .function) : FnP a (n + 1) [d] P :=
  FnP.intro (names := [x]) (ρ₀ := [(x, .v d)]) ho hcd (fun w s vs X e => BindsTo.of_eq (by
    rcases vs with _ | ⟨v, _ | ⟨u, r⟩⟩
    · simp at e
    · exact hbind v
    · simp at e)) (fun y hy => by rw [List.mem_singleton.mp hy]; exact hloc) (fun y hy q => by have := List.all_eq_true.mp hcell y hy; rw [q] at this; cases this) rfl h hco hgen hk
theorem Fn2 (x y : Str) {a n : Nat} {P : D → Prop} {name qual : Str} {params : Arguments} {body : List Stmt} {scope : Scope} {dV kV doc pm cdv ct oc : Value} {an od : Option Addr} {osl : Array (Option Value)}
    (ho : ∀ w : World, List.lookup a (hd.heap_39 w.params) = some ⟨oc, od, .func (fnX name qual params body scope [] dV kV doc pm an cdv ct), osl⟩) (hcd : ∀ w : World, codeIn (hd.heap_39 w.params) cdv qual = true)
    (hbind : ∀ u v : Value, bindArgs (fnX name qual params body scope [] dV kV doc pm an cdv ct) ⟨[u, v], []⟩ = pure [(x, u), (y, v)]) (hloc : scope.names.lookup x = some .local ∧ scope.names.lookup y = some .local) (hcell : (scope.names.all fun x => x.2 != .cell) = true)
    (h : ∀ w A0 outer L s0 Z0, Exs (cxFn w qual scope a cdv A0 outer n L s0 Z0 []) [(y, .v d₂), (x, .v d₁)] body fun o _ => ∃ d, o = .ret d ∧ P d)
    (hco : scope.isCoroutine = false) (hgen : scope.isGenerator = false) (hk : scope.kind = .function) : FnP a (n + 1) [d₁, d₂] P :=
  FnP.intro (names := [x, y]) (ρ₀ := [(y, .v d₂), (x, .v d₁)]) ho hcd (fun w s vs X e => BindsTo.of_eq (by
    rcases vs with _ | ⟨v, _ | ⟨u, _ | ⟨t, r⟩⟩⟩
    · simp at e
    · simp at e
    · exact hbind v u
    · simp at e)) (fun z hz => by
      rcases List.mem_cons.mp hz with rfl | hz
      · exact hloc.1
      · rw [List.mem_singleton.mp hz]; exact hloc.2) (fun y hy q => by have := List.all_eq_true.mp hcell y hy; rw [q] at this; cases this) rfl h hco hgen hk
/-- two parameters, with defaults that aren't used -/
theorem Fn2d (x y : Str) {a n : Nat} {P : D → Prop} {name qual : Str} {params : Arguments} {body : List Stmt} {scope : Scope} {dV kV doc pm cdv ct oc : Value} {an od : Option Addr} {osl : Array (Option Value)} {T : Addr} {o : Obj} {items : Array Value} {m : Nat}
    (ho : ∀ w : World, List.lookup a (hd.heap_39 w.params) = some ⟨oc, od, .func (fnX name qual params body scope [] dV kV doc pm an cdv ct), osl⟩) (hcd : ∀ w : World, codeIn (hd.heap_39 w.params) cdv qual = true)
    (hT : ∀ w : World, List.lookup T (hd.heap_39 w.params) = some o) (hdf : dV = .ref T) (hoo : o.data = .seq items m)
    (hbind : ∀ u v : Value, ∃ k : Option (Array Value) → Sem (List (Str × Value)), bindArgs (fnX name qual params body scope [] dV kV doc pm an cdv ct) ⟨[u, v], []⟩ = seqItems? dV >>= k ∧ k (some items) = pure [(x, u), (y, v)]) (hloc : scope.names.lookup x = some .local ∧ scope.names.lookup y = some .local) (hcell : (scope.names.all fun x => x.2 != .cell) = true)
    (h : ∀ w A0 outer L s0 Z0, Exs (cxFn w qual scope a cdv A0 outer n L s0 Z0 []) [(y, .v d₂), (x, .v d₁)] body fun o _ => ∃ d, o = .ret d ∧ P d)
    (hco : scope.isCoroutine = false) (hgen : scope.isGenerator = false) (hk : scope.kind = .function) : FnP a (n + 1) [d₁, d₂] P :=
  FnP.intro (names := [x, y]) (ρ₀ := [(y, .v d₂), (x, .v d₁)]) ho hcd (fun w s vs X e => by
    rcases vs with _ | ⟨v, _ | ⟨u, _ | ⟨t, r⟩⟩⟩
    · simp at e
    · simp at e
    · obtain ⟨k, h1, h2⟩ := hbind v u
      exact BindsTo.of_defaults hdf (X _ _ (hT w)) hoo h1 h2
    · simp at e) (fun z hz => by
      rcases List.mem_cons.mp hz with rfl | hz
      · exact hloc.1
      · rw [List.mem_singleton.mp hz]; exact hloc.2) (fun y hy q => by have := List.all_eq_true.mp hcell y hy; rw [q] at this; cases this) rfl h hco hgen hk
theorem Fn3 (x y z : Str) {a n : Nat} {P : D → Prop} {name qual : Str} {params : Arguments} {body : List Stmt} {scope : Scope} {dV kV doc pm cdv ct oc : Value} {an od : Option Addr} {osl : Array (Option Value)}
    (ho : ∀ w : World, List.lookup a (hd.heap_39 w.params) = some ⟨oc, od, .func (fnX name qual params body scope [] dV kV doc pm an cdv ct), osl⟩) (hcd : ∀ w : World, codeIn (hd.heap_39 w.params) cdv qual = true)
    (hbind : ∀ u v t : Value, bindArgs (fnX name qual params body scope [] dV kV doc pm an cdv ct) ⟨[u, v, t], []⟩ = pure [(x, u), (y, v), (z, t)]) (hloc : scope.names.lookup x = some .local ∧ scope.names.lookup y = some .local ∧ scope.names.lookup z = some .local) (hcell : (scope.names.all fun x => x.2 != .cell) = true)
    (h : ∀ w A0 outer L s0 Z0, Exs (cxFn w qual scope a cdv A0 outer n L s0 Z0 []) [(z, .v d₃), (y, .v d₂), (x, .v d₁)] body fun o _ => ∃ d, o = .ret d ∧ P d)
    (hco : scope.isCoroutine = false) (hgen : scope.isGenerator = false) (hk : scope.kind = .function) : FnP a (n + 1) [d₁, d₂, d₃] P :=
  FnP.intro (names := [x, y, z]) (ρ₀ := [(z, .v d₃), (y, .v d₂), (x, .v d₁)]) ho hcd (fun w s vs X e => BindsTo.of_eq (by
    rcases vs with _ | ⟨v, _ | ⟨u, _ | ⟨t, _ | ⟨t', r⟩⟩⟩⟩
    · simp at e
    · simp at e
    · simp at e
    · exact hbind v u t
    · simp at e)) (fun w hw => by
      rcases List.mem_cons.mp hw with rfl | hw
      · exact hloc.1
      · rcases List.mem_cons.mp hw with rfl | hw
        · exact hloc.2.1
        · rw [List.mem_singleton.mp hw]; exact hloc.2.2) (fun y hy q => by have := List.all_eq_true.mp hcell y hy; rw [q] at this; cases this) rfl h hco hgen hk
end
end
section
section
variable {c : Cx} {ρ ρ₁ ρ₂ ρ₃ ρf : Rho} {x y z : Str} {pos p q pt : Pos} {d d₁ d₂ d₃ : D} {P : D → Prop} {n : Nat} {v i e t elt iter target : Expr} {ds : List D} {l : List Nat} {k : Int} {scope : Scope} {cl : List (Str × Addr)}
theorem exs_append {p ap cp : Pos} {pl : Sem Bool} {ds : List D} {rest : List Stmt} {R : Out → Rho → Prop} (hl : ρ.lookup x = some (.own ds)) (hk : c.env.kindOf x = some .local) (hc : c.env.cells.lookup x = none) (h : EvL c ρ [e] ρ₁ [d]) (hl₁ : ρ₁.lookup x = some (.own ds)) (hz : ds.length ≤ 16777216)
    (hd : (x == ("__debug__" : Str)) = false) (he : starEach [e] c.env = [(false, eval e c.env)])
    (h1 : eval (.Call (.Attribute (.Name x p) ("append" : Str) ap) [e] [] cp) c.env = (do let ov ← eval (.Name x p) c.env; standAt ap.atName; let (f, first) ← holding [ov] (getMethod ov ("append" : Str) pl); callWith cp f first (backTo cp (starEach [e] c.env)) []))
    (h2 : interactive c.env = false) (h3 : swapsWith (.Call (.Attribute (.Name x p) ("append" : Str) ap) [e] [] cp) none pos.line c.env = pure false)
    (r : Exs c ((x, .own (ds ++ [d])) :: ρ₁) rest R) :
    Exs c ρ (.Expr (.Call (.Attribute (.Name x p) ("append" : Str) ap) [e] [] cp) pos :: rest) R := exs_step (ex_append hl hk hc h hl₁ (by rw [sizeLine_is]; exact hz) hd he h1 h2 h3) r
theorem exs_list {es : List Expr} {p' lp : Pos} {rest : List Stmt} {R : Out → Rho → Prop} (h : EvL c ρ es ρ₁ ds) (hz : ds.length ≤ 16777216) (hk : c.Sto x) (hs : swapsWith (.List es lp) (some (.Name x p')) pos.line c.env = pure false) (r : Exs c ((x, .own ds) :: ρ₁) rest R) :
    Exs c ρ (.Assign [.Name x p'] (.List es lp) pos :: rest) R := exs_step (ex_list h (by rw [sizeLine_is]; exact hz) hk hs) r
/-- for over data made from as -/
theorem exs_forA {α : Type} {rest : List Stmt} {R : Out → Rho → Prop} {body : List Stmt} (g : α → D) (I : List α → Rho) {as : List α} (h : Ev c ρ iter ρ₁ d) (hd : itemsOf d = some (as.map g)) (hb : c.Sto x) (h0 : Sub (I []) ρ₁)
    (step : ∀ done a rest, as = done ++ a :: rest → Exs c ((x, .v (g a)) :: I done) body fun o r => (o = .next ∨ o = .cont) ∧ Sub (I (done ++ [a])) r)
    (hs : ∀ x, foldedSetIterable iter c.env x = pure x) (r : Exs c (I as) rest R) : Exs c ρ (.For (.Name x p) iter body [] pos :: rest) R := by
  refine exs_cons (P := fun o r => o = .next ∧ r = I as) (ex_for h hd (binds_name hb) ?_ hs) (fun r' p => p.2 ▸ r) fun o r' hn p => absurd p.1 hn
  have key : ∀ (rs done : List α) (ρ : Rho), as = done ++ rs → Sub (I done) ρ → Loop c (fun d ρ => some ((x, .v d) :: ρ)) body (fun o r => o = .next ∧ r = I as) (rs.map g) ρ := by
    intro rs
    induction rs with
    | nil => intro done ρ e hs; exact ⟨I done, hs, rfl, by rw [List.append_nil] at e; rw [e]⟩
    | cons a rs ih =>
      intro done ρ e hs
      refine ⟨I done, _, hs, rfl, Ex.weak (step done a rs e) ?_⟩
      rintro o r ⟨ho, hr⟩
      have := ih (done ++ [a]) r (by rw [e, List.append_assoc]; rfl) hr
      rcases ho with rfl | rfl <;> exact this
  exact key as [] ρ₁ rfl h0
/-- the same, two names, data pairs -/
theorem exs_forA2 {α : Type} {rest : List Stmt} {R : Out → Rho → Prop} {body : List Stmt} (g g' : α → D) (I : List α → Rho) {as : List α} {pt : Pos} {k' : Nat} (h : Ev c ρ iter ρ₁ d) (hd : itemsOf d = some (as.map fun a => .tup [g a, g' a])) (hb : c.Sto x) (hb' : c.Sto y) (h0 : Sub (I []) ρ₁)
    (step : ∀ done a rest, as = done ++ a :: rest → Exs c ((y, .v (g' a)) :: (x, .v (g a)) :: I done) body fun o r => (o = .next ∨ o = .cont) ∧ Sub (I (done ++ [a])) r)
    (hs : ∀ x, foldedSetIterable iter c.env x = pure x) (r : Exs c (I as) rest R) : Exs c ρ (.For (.Tuple [.Name x p, .Name y q] k' pt) iter body [] pos :: rest) R := by
  refine exs_cons (P := fun o r => o = .next ∧ r = I as) (ex_for h hd (binds_pair hb hb') ?_ hs) (fun r' p => p.2 ▸ r) fun o r' hn p => absurd p.1 hn
  have key : ∀ (rs done : List α) (ρ : Rho), as = done ++ rs → Sub (I done) ρ → Loop c (bindPair x y) body (fun o r => o = .next ∧ r = I as) (rs.map fun a => .tup [g a, g' a]) ρ := by
    intro rs
    induction rs with
    | nil => intro done ρ e hs; exact ⟨I done, hs, rfl, by rw [List.append_nil] at e; rw [e]⟩
    | cons a rs ih =>
      intro done ρ e hs
      refine ⟨I done, _, hs, rfl, Ex.weak (step done a rs e) ?_⟩
      rintro o r ⟨ho, hr⟩
      have := ih (done ++ [a]) r (by rw [e, List.append_assoc]; rfl) hr
      rcases ho with rfl | rfl <;> exact this
  exact key as [] ρ₁ rfl h0
theorem exs_done {R : Out → Rho → Prop} (h : R .next ρ) : Exs c ρ [] R := Ex.weak exs_nil fun o r q => by rw [q.1, q.2]; exact h
end
end
section
section
variable {c : Cx} {ρ ρ₁ ρ₂ ρ₃ ρf : Rho} {x y z : Str} {pos p q pt : Pos} {d d₁ d₂ d₃ : D} {P : D → Prop} {n : Nat} {v i e t elt iter target : Expr} {ds : List D} {l : List Nat} {k : Int} {scope : Scope} {cl : List (Str × Addr)}
/-- for with a way out: the first that is bad ends the call -/
theorem loopF {α : Type} {R : Out → Rho → Prop} {body : List Stmt} {bind : D → Rho → Option Rho} (g : α → D) (I : Rho) (bad : α → Bool) (rd : α → D) {as : List α}
    (hbind : ∀ a ∈ as, ∃ ρ₁, bind (g a) I = some ρ₁ ∧ Exs c ρ₁ body fun o r => if bad a = true then o = .ret (rd a) else (o = .next ∨ o = .cont) ∧ Sub I r) (hR : ∀ o r, ((∃ a, as.find? bad = some a ∧ o = .ret (rd a)) ∨ (as.find? bad = none ∧ o = .next ∧ r = I)) → R o r) {ρ : Rho} (h0 : Sub I ρ) :
    Loop c bind body R (as.map g) ρ := by
  induction as generalizing ρ with
  | nil => exact ⟨I, h0, hR _ _ (.inr ⟨rfl, rfl, rfl⟩)⟩
  | cons a rs ih =>
    obtain ⟨ρ₁, h1, h2⟩ := hbind a (.head _)
    refine ⟨I, ρ₁, h0, h1, Ex.weak h2 ?_⟩
    intro o r ho
    cases hb : bad a with
    | true =>
      rw [if_pos hb] at ho
      subst ho
      exact hR _ _ (.inl ⟨a, by simp [List.find?, hb], rfl⟩)
    | false =>
      rw [if_neg (by rw [hb]; exact Bool.false_ne_true)] at ho
      have := ih (fun a' h => hbind a' (.tail _ h)) (fun o r q => hR o r (by simpa [List.find?, hb] using q)) ho.2
      rcases ho.1 with rfl | rfl <;> exact this
theorem exs_forF {α : Type} {rest : List Stmt} {R : Out → Rho → Prop} {body : List Stmt} (g : α → D) (I : Rho) (bad : α → Bool) (rd : α → D) {as : List α} (h : Ev c ρ iter ρ₁ d) (hd : itemsOf d = some (as.map g)) (hb : c.Sto x) (h0 : Sub I ρ₁)
    (step : ∀ a ∈ as, Exs c ((x, .v (g a)) :: I) body fun o r => if bad a = true then o = .ret (rd a) else (o = .next ∨ o = .cont) ∧ Sub I r)
    (hs : ∀ x, foldedSetIterable iter c.env x = pure x) (k1 : ∀ a r, as.find? bad = some a → R (.ret (rd a)) r) (k2 : as.find? bad = none → Exs c I rest R) : Exs c ρ (.For (.Name x p) iter body [] pos :: rest) R := by
  refine exs_cons (P := fun o r => (∃ a, as.find? bad = some a ∧ o = .ret (rd a)) ∨ (as.find? bad = none ∧ o = .next ∧ r = I)) (ex_for h hd (binds_name hb) (loopF g I bad rd (fun a ha => ⟨_, rfl, step a ha⟩) (fun o r q => q) h0) hs) ?_ ?_
  · rintro r (⟨a, _, q⟩ | ⟨q, _, rfl⟩)
    · cases q
    · exact k2 q
  · rintro o r hn (⟨a, q, rfl⟩ | ⟨_, q, _⟩)
    · exact k1 a r q
    · exact absurd q hn
theorem exs_forF2 {α : Type} {rest : List Stmt} {R : Out → Rho → Prop} {body : List Stmt} (g g' : α → D) (I : Rho) (bad : α → Bool) (rd : α → D) {as : List α} {k' : Nat} (h : Ev c ρ iter ρ₁ d) (hd : itemsOf d = some (as.map fun a => .tup [g a, g' a])) (hb : c.Sto x) (hb' : c.Sto y) (h0 : Sub I ρ₁)
    (step : ∀ a ∈ as, Exs c ((y, .v (g' a)) :: (x, .v (g a)) :: I) body fun o r => if bad a = true then o = .ret (rd a) else (o = .next ∨ o = .cont) ∧ Sub I r)
    (hs : ∀ x, foldedSetIterable iter c.env x = pure x) (k1 : ∀ a r, as.find? bad = some a → R (.ret (rd a)) r) (k2 : as.find? bad = none → Exs c I rest R) : Exs c ρ (.For (.Tuple [.Name x p, .Name y q] k' pt) iter body [] pos :: rest) R := by
  refine exs_cons (P := fun o r => (∃ a, as.find? bad = some a ∧ o = .ret (rd a)) ∨ (as.find? bad = none ∧ o = .next ∧ r = I)) (ex_for h hd (binds_pair hb hb') (loopF _ I bad rd (fun a ha => ⟨_, rfl, step a ha⟩) (fun o r q => q) h0) hs) ?_ ?_
  · rintro r (⟨a, _, q⟩ | ⟨q, _, rfl⟩)
    · cases q
    · exact k2 q
  · rintro o r hn (⟨a, q, rfl⟩ | ⟨_, q, _⟩)
    · exact k1 a r q
    · exact absurd q hn
theorem op_find_hex {k : Nat} (hk : k < 16) : OpC (.builtin "str.find") n [.str hexN, .str [hexN.getD k 0]] (· = .int (k : Nat)) := by
  refine .mk fun w A s Z vs R t => ?_
  cases t using TrL.c2 with
  | cons t t' => cases t using Tr.strC with
      | @str x u e => cases t' using Tr.strC with
        | @str y u' e' =>
          refine do_const R.zok fun Q E q => SC.find (q _ _ ?_)
          have hx : x = ⟨hexN.toArray⟩ := by
            obtain ⟨⟨a⟩⟩ := x
            simp at e; rw [e]
          have hy : y = ⟨[hexN.getD k 0].toArray⟩ := by
            obtain ⟨⟨a⟩⟩ := y
            simp at e'; rw [e']; simp
          have : Txt.find x y = (k : Int) := by
            rw [hx, hy]
            have : ∀ k < 16, Txt.find ⟨hexN.toArray⟩ ⟨[hexN.getD k 0].toArray⟩ = (k : Int) := by decide +kernel
            exact this k hk
          rw [this]; exact .int _ _
theorem exs_asg0 {e : Expr} {rest : List Stmt} {R : Out → Rho → Prop} (d : D) (h : Ev c ρ e ρ d) (hk : c.Sto x) (hs : swapsWith e (some (.Name x q)) pos.line c.env = pure false) (r : Exs c ((x, .v d) :: ρ) rest R) : Exs c ρ (.Assign [.Name x q] e pos :: rest) R := exs_asg h hk hs r
theorem ret_ne {d : D} : Out.ret d ≠ Out.next := fun q => by cases q
/-- if, with a test that changes nothing; both known beforehand -/
theorem exs_if0 {b : Bool} {aa rest : List Stmt} {R : Out → Rho → Prop} (b' : Bool) (h : EvT c ρ t ρ b) (e : b = b') (ht : b' = true → Exs c ρ aa fun o r => o ≠ .next ∧ R o r) (hf : b' = false → Exs c ρ rest R) : Exs c ρ (.If t aa [] pos :: rest) R := exs_if_ret (e ▸ h) ht hf
/-- if that doesn't end the call -/
theorem exs_iff {b : Bool} {aa bb rest : List Stmt} {R : Out → Rho → Prop} (b' : Bool) (h : EvT c ρ t ρ b) (e : b = b') (ht : b' = true → Exs c ρ aa fun o r => (o = .next ∧ Exs c r rest R) ∨ (o ≠ .next ∧ R o r)) (hf : b' = false → Exs c ρ bb fun o r => (o = .next ∧ Exs c r rest R) ∨ (o ≠ .next ∧ R o r)) : Exs c ρ (.If t aa bb pos :: rest) R := by
  subst e
  cases b with
  | true => exact exs_cons (ex_if_t h (ht rfl)) (fun r p => p.elim (·.2) fun q => absurd rfl q.1) fun o r hn p => p.elim (fun q => absurd q.1 hn) (·.2)
  | false => exact exs_cons (ex_if_f h (hf rfl)) (fun r p => p.elim (·.2) fun q => absurd rfl q.1) fun o r hn p => p.elim (fun q => absurd q.1 hn) (·.2)
theorem exs_ex {st : Stmt} {rest : List Stmt} {P R : Out → Rho → Prop} (h : Ex c ρ (exec st c.env) P) (hn : ∀ r, P .next r → Exs c r rest R) (ho : ∀ o r, o ≠ .next → P o r → R o r) : Exs c ρ (st :: rest) R := exs_cons h hn ho
end
end
section
theorem bi_no_bytes : typeLookup (.type "int") "__bytes__" = pure none := by rw [typeLookup_type, builtinLookup_eq_fast]; kernel_rfl
theorem bi_index : typeLookup (.type "int") "__index__" = pure (some (.builtin "int.__index__")) := by rw [typeLookup_type, builtinLookup_eq_fast]; kernel_rfl
section
variable {prog : Program} {w : World} {A : Around} {E : Value → Shared → Prop} {s : Shared}
theorem bi_new {n : Int} {u : Tok} {Q : Value → Shared → Prop} (h0 : 0 ≤ n) (hz : n ≤ 1000)
    (hQ : ∀ t k, Q (.bytes (Array.replicate n.toNat 0) t) { s with toks := k }) :
    codeAny (model prog w) A (.call (.builtin "bytes.__new__") ⟨[.type "bytes", .int n u], []⟩) (wants Q E) s := by
  refine codeAny_of_tree ?_
  show wpAny _ A.in1 (do checkBuiltinCall "bytes.__new__" ⟨[.type "bytes", .int n u], []⟩; again (.builtin "bytes.__new__" ⟨[.type "bytes", .int n u], []⟩)) _ _ s
  refine wpAny_bind (wpAny_of_eq (F.bm_newCall _) (wpAny_pure ⟨plainId_quiet F.bm_plain _, codeAny_builtin F.bm_entry ?_⟩))
  rw [Around.under_plainId F.bm_plain _]
  have hT : s.TypeIs (.int n u) "int" := rfl
  unfold Builtin.«bytes.__new__»
  refine wpAny_bind (wpAny_of_eq (a := true) rfl ?_)
  refine bm_if_false rfl ?_
  refine wpAny_bind (wpAny_of_eq F.bm_sub ?_)
  refine bm_if_false rfl ?_
  refine wpAny_bind (wpAny_of_eq (F.bm_bind _) ?_)
  refine wpAny_bind (wpAny_of_eq (a := ()) rfl ?_)
  refine wpAny_bind (wpAny_of_eq (a := ()) rfl ?_)
  refine bm_if_false rfl ?_
  refine wpAny_bind (wpAny_specialOf hT bi_no_bytes ?_)
  refine wpAny_bind (wpAny_pure ?_)
  refine bm_if_false rfl ?_
  refine wpAny_bind (wpAny_specialOf hT bi_index ?_)
  refine bm_if_false rfl ?_
  refine wpAny_bind (wpAny_attempt (wpAny_of_eq (rfl : asIndex (.int n u) = pure n) ?_))
  dsimp only
  refine bm_if_false (by simp only [Builtin.Bytes.fitsIndex, Bool.not_eq_false', Bool.and_eq_true, decide_eq_true_eq]; omega) ?_
  rw [if_neg (show ¬ n < 0 by omega), if_neg (show ¬ n > 2 ^ 63 - 34 by omega)]
  refine bm_if_false ?_ ?_
  · show decide (n.toNat > _) = false
    simp only [decide_eq_false_iff_not]
    have : n.toNat ≤ 1000 := by omega
    exact fun q => absurd (Nat.lt_of_lt_of_le q this) (by decide)
  refine wpAny_bind (wpAny_rule ?_)
  refine wpAny_bind (wpAny_mkBytes ?_ ?_)
  · show wpAny _ _ (if (Value.type "bytes" == Value.type "bytes") = true then _ else _) _ _ _
    refine bm_if_true (by decide) ?_
    first
      | exact wpAny_pure (hQ _ _)
      | exact wpAny_bind (wpAny_pure (wpAny_pure (hQ _ _)))
  · rw [Array.size_replicate, sizeLine_is]; omega
theorem call_bytes_int {n : Int} {u : Tok} {Q : Value → Shared → Prop} (h0 : 0 ≤ n) (hz : n ≤ 1000) (hQ : ∀ t k, Q (.bytes (Array.replicate n.toNat 0) t) { s with toks := k }) : wpAny (model prog w) A (call (.type "bytes") [.int n u]) Q E s := by
  refine callType_codes (Q₁ := fun obj s₁ => s₁.TypeIs obj "bytes" ∧ Q obj s₁) F.bm_called (F.bm_typeCall _) F.entry_object_init
    (bi_new h0 hz fun t k => ⟨PySem.W.typeIs_bytes _ _ _, hQ t k⟩) fun obj s₁ h₁ => ?_
  exact ⟨h₁.1, F.args_object_init_2 obj _, object_init_meets F.bm_called.init.lookup F.bm_called.made (by decide) prog w A.in1 _ s₁ ⟨h₁.1, rfl, h₁.2⟩⟩
end
theorem op_bytes_n {n : Nat} {m : Nat} (hz : m ≤ 1000) : OpC (.type "bytes") n [.int (m : Nat)] (· = .bytes (List.replicate m 0)) := by
  refine .mk fun w A s Z vs R t => ?_
  cases t using TrL.c1 with
  | cons t => cases t using Tr.intC; exact do_const R.zok fun Q E q => call_bytes_int (by omega) (by omega) fun t k => q _ k (.bytes _ _ (by simp [bN]))
end
section
theorem op_add_list {n : Nat} {ds es : List D} (hz : ds.length + es.length ≤ 16777216) : Op2 (binaryOp .Add) n (.list ds) (.list es) (· = .list (ds ++ es)) := by
  refine .mk fun w A s Z v₁ v₂ R t₁ t₂ Q E q => ?_
  cases t₁ using Tr.listC with
  | @list l vs hz1 hl ht => cases t₂ using Tr.listC with
    | @list b ws hz2 hb hu =>
      obtain ⟨⟨cls, dd, data, sl⟩, ho, hc, n, hd⟩ := id hl
      obtain ⟨⟨cls2, dd2, data2, sl2⟩, ho2, hc2, n2, hd2⟩ := id hb
      simp only at hc hd hc2 hd2
      subst hc hd hc2 hd2
      have e : vs.toArray ++ ws.toArray = (vs ++ ws).toArray := by simp
      have hsz : vs.length + ws.length ≤ sizeLine := by rw [ht.length, hu.length, sizeLine_is]; exact hz
      refine concat_meets ⟨_, ho, rfl⟩ ⟨_, ho2, rfl⟩ noFill_list_add seq_list_add PySem.F.slot_list_add PySem.F.entry_list_add (PySem.F.args_list_add_2 _ _) (list_addW l b vs.toArray ws.toArray n n2 dd dd2 sl sl2 (by simpa using hsz)) ⟨ho, ho2, ?_⟩
      rw [e]
      have X := new_seq (s := s) (o := { cls := .type "list", data := .seq (vs ++ ws).toArray }) R.zok rfl
      exact q _ _ _ _ X (.list (.inr rfl) ⟨_, Heap.get?_push_size _ rfl, rfl, 0, rfl⟩ (X.le.trL (ht.append hu))) rfl
end
section
theorem sub_int_bytes' : isSubtype (.type "int") (.type "bytes") = pure false := by rw [isSubtype_type]; kernel_rfl
theorem bytes_eq_int (a : Array UInt8) (t : Tok) (b : Int) (u : Tok) : Gives (Builtin.«bytes.__eq__» ⟨[.bytes a t, .int b u], []⟩) (.val (Value.notImplemented)) :=
  .of_wp fun M A E s Q h => by obtain ⟨hp, g, d, tk, os⟩ := s; wp_walk; refine wpAny_of_eq sub_int_bytes' ?_; wp_walk; exact ⟨_, rfl, h⟩
theorem bytes_ne_int (a : Array UInt8) (t : Tok) (b : Int) (u : Tok) : Gives (Builtin.«bytes.__ne__» ⟨[.bytes a t, .int b u], []⟩) (.val (Value.notImplemented)) :=
  .of_wp fun M A E s Q h => by obtain ⟨hp, g, d, tk, os⟩ := s; wp_walk; refine wpAny_of_eq sub_int_bytes' ?_; wp_walk; exact ⟨_, rfl, h⟩
theorem int_eq_bytes (a : Int) (t : Tok) (b : Array UInt8) (u : Tok) : Gives (Builtin.«int.__eq__» ⟨[.int a t, .bytes b u], []⟩) (.val (Value.notImplemented)) :=
  .of_wp fun M A E s Q h => by obtain ⟨hp, g, d, tk, os⟩ := s; wp_walk; exact ⟨_, rfl, h⟩
theorem int_ne_bytes (a : Int) (t : Tok) (b : Array UInt8) (u : Tok) : Gives (Builtin.«int.__ne__» ⟨[.int a t, .bytes b u], []⟩) (.val (Value.notImplemented)) :=
  .of_wp fun M A E s Q h => by obtain ⟨hp, g, d, tk, os⟩ := s; wp_walk; exact ⟨_, rfl, h⟩
section
variable {prog : Program} {w : World} {A : Around} {E : Value → Shared → Prop} {s : Shared} {Q : Value → Shared → Prop}
theorem eq_bytes_int {a : Array UInt8} {t : Tok} {b : Int} {u : Tok} (h : Q (.bool false) s) : wpAny (model prog w) A (compareOp .Eq (.bytes a t) (.int b u)) Q E s := by
  show wpAny _ A (richCompare .Eq _ _) Q E s
  exact EqNone.wpAny_richCompare_eq_decline (k := false) (fun s' => PySem.W.typeIs_bytes s' a t) (fun s' => typeIs_int s' b u) (by decide) sub_int_bytes' FB.slot_bytes_eq F.slot_int_eq_refl rfl
    (call_gives FB.slot_bytes_eq (PySem.W.typeIs_bytes s a t) FB.entry_bytes_eq (FB.args_bytes_eq_2 _ _) (bytes_eq_int a t b u)
      ⟨rfl, call_gives F.slot_int_eq_refl (typeIs_int s b u) F.entry_int_eq (F.args_int_eq_2 _ _) (int_eq_bytes b u a t) ⟨rfl, h⟩⟩)
theorem ne_bytes_int {a : Array UInt8} {t : Tok} {b : Int} {u : Tok} (h : Q (.bool true) s) : wpAny (model prog w) A (compareOp .NotEq (.bytes a t) (.int b u)) Q E s := by
  show wpAny _ A (richCompare .NotEq _ _) Q E s
  exact EqNone.wpAny_richCompare_ne_decline (k := false) (fun s' => PySem.W.typeIs_bytes s' a t) (fun s' => typeIs_int s' b u) (by decide) sub_int_bytes' FB.slot_bytes_ne F.slot_int_ne_refl rfl
    (call_gives FB.slot_bytes_ne (PySem.W.typeIs_bytes s a t) FB.entry_bytes_ne (FB.args_bytes_ne_2 _ _) (bytes_ne_int a t b u)
      ⟨rfl, call_gives F.slot_int_ne_refl (typeIs_int s b u) F.entry_int_ne (F.args_int_ne_2 _ _) (int_ne_bytes b u a t) ⟨rfl, h⟩⟩)
end
section
variable {n : Nat} {l : List Nat} {b : Int}
theorem op_eq_bi : Op2 (compareOp .Eq) n (.bytes l) (.int b) (· = .bool false) := by
  refine .mk fun w A s Z v₁ v₂ R t₁ t₂ => ?_
  cases t₁ using Tr.bytesC; cases t₂ using Tr.intC
  exact do_const R.zok fun Q E k => eq_bytes_int (k _ s.toks (.bool _))
theorem op_ne_bi : Op2 (compareOp .NotEq) n (.bytes l) (.int b) (· = .bool true) := by
  refine .mk fun w A s Z v₁ v₂ R t₁ t₂ => ?_
  cases t₁ using Tr.bytesC; cases t₂ using Tr.intC
  exact do_const R.zok fun Q E k => ne_bytes_int (k _ s.toks (.bool _))
end
/-- while, by an invariant over a list of turns -/
theorem exs_pair {c : Cx} {ρ : Rho} {x y : Str} {e : Expr} {p q pt pos : Pos} {k' : Nat} {rest : List Stmt} {R : Out → Rho → Prop} (d₁ d₂ : D) (h : Ev c ρ e ρ (.tup [d₁, d₂])) (hx : c.Sto x) (hy : c.Sto y) (hs : swapsWithSole [.Tuple [.Name x p, .Name y q] k' pt] e pos.line c.env = pure false)
    (hw : swappedStores [.Tuple [.Name x p, .Name y q] k' pt] e c.env = pure none) (r : Exs c ((y, .v d₂) :: (x, .v d₁) :: ρ) rest R) : Exs c ρ (.Assign [.Tuple [.Name x p, .Name y q] k' pt] e pos :: rest) R := exs_step (ex_assign_pair h hx hy hs hw) r
end
section
def HF (ρf ρ : Rho) (cl : List (Str × Addr)) : Prop := ∀ x b, ρf.lookup x = some b → ρ.lookup x = some b ∧ (cl.lookup x).isSome = true ∧ ∀ ds, b ≠ Bd.own ds
theorem HF.nil {ρ : Rho} {cl : List (Str × Addr)} : HF [] ρ cl := fun _ _ e => by cases e
theorem HF.cons {ρf ρ : Rho} {cl : List (Str × Addr)} {x : Str} {d : D} (h1 : ρ.lookup x = some (.v d)) (h2 : (cl.lookup x).isSome = true) (r : HF ρf ρ cl) : HF ((x, .v d) :: ρf) ρ cl := fun y b e => by
  rw [List.lookup_cons] at e
  cases q : (y == x) with
  | true => rw [q] at e; cases e; rw [beq_iff_eq.mp q]; exact ⟨h1, h2, fun ds q => nomatch q⟩
  | false => rw [q] at e; exact r y b e
theorem HF.deck {ρf ρ : Rho} {cl : List (Str × Addr)} {x : Str} (h1 : ρ.lookup x = some .deck) (h2 : (cl.lookup x).isSome = true) (r : HF ρf ρ cl) : HF ((x, .deck) :: ρf) ρ cl := fun y b e => by
  rw [List.lookup_cons] at e
  cases q : (y == x) with
  | true => rw [q] at e; cases e; rw [beq_iff_eq.mp q]; exact ⟨h1, h2, fun ds q => nomatch q⟩
  | false => rw [q] at e; exact r y b e
/-- closures that the frame's own cells make: each name of cl by its own entry -/
def CL (cl cs : List (Str × Addr)) : Prop := ∀ x a, cl.lookup x = some a → cs.lookup x = some a
theorem CL.nil {cs : List (Str × Addr)} : CL [] cs := fun _ _ e => by cases e
theorem CL.cons {cl cs : List (Str × Addr)} {x : Str} {a : Addr} (h : cs.lookup x = some a) (r : CL cl cs) : CL ((x, a) :: cl) cs := fun y b e => by
  rw [List.lookup_cons] at e
  cases q : (y == x) with
  | true => rw [q] at e; cases e; rw [beq_iff_eq.mp q]; exact h
  | false => rw [q] at e; exact r y b e
/-- no address twice -/
def Inj (cs : List (Str × Addr)) : Prop := ∀ x y b, cs.lookup x = some b → cs.lookup y = some b → x = y
theorem Inj.of {cs : List (Str × Addr)} (h : (cs.map (·.2)).Nodup) : Inj cs := by
  induction cs with
  | nil => intro x y b e; cases e
  | cons p r ih =>
    obtain ⟨k, a⟩ := p
    rw [List.map_cons, List.nodup_cons] at h
    have mem : ∀ z, r.lookup z = some a → False := fun z e => h.1 (List.mem_map.mpr ⟨(z, a), lookup_mem e, rfl⟩)
    intro x y b e1 e2
    rw [List.lookup_cons] at e1 e2
    cases q1 : (x == k) with
    | true =>
      rw [q1] at e1
      cases e1
      cases q2 : (y == k) with
      | true => rw [beq_iff_eq.mp q1, beq_iff_eq.mp q2]
      | false => rw [q2] at e2; exact (mem y e2).elim
    | false =>
      rw [q1] at e1
      cases q2 : (y == k) with
      | true => rw [q2] at e2; cases e2; exact (mem x e1).elim
      | false => rw [q2] at e2; exact ih h.2 x y b e1 e2
section
variable {d d₁ d₂ d₃ : D}
theorem Fn2C (x y : Str) {a n : Nat} {P : D → Prop} {name qual : Str} {params : Arguments} {body : List Stmt} {scope : Scope} {dV kV doc pm cdv ct oc : Value} {an od : Option Addr} {osl : Array (Option Value)}
    (ho : ∀ w : World, List.lookup a (hd.heap_39 w.params) = some ⟨oc, od, .func (fnX name qual params body scope [] dV kV doc pm an cdv ct), osl⟩) (hcd : ∀ w : World, codeIn (hd.heap_39 w.params) cdv qual = true)
    (hbind : ∀ u v : Value, bindArgs (fnX name qual params body scope [] dV kV doc pm an cdv ct) ⟨[u, v], []⟩ = pure [(x, u), (y, v)]) (hloc : scope.names.lookup x = some .local ∧ scope.names.lookup y = some .local) (hlc : ∀ L : Nat, (cellsFrom (L + 1) scope.names []).lookup x = none ∧ (cellsFrom (L + 1) scope.names []).lookup y = none) (hinj : ∀ L : Nat, ((cellsFrom (L + 1) scope.names []).map (·.2)).Nodup)
    (h : ∀ w A0 outer L s0 Z0, Exs (cxFn w qual scope a cdv A0 outer n L s0 Z0 (cellsFrom (L + 1) scope.names [])) [(y, .v d₂), (x, .v d₁)] body fun o _ => ∃ d, o = .ret d ∧ P d)
    (hco : scope.isCoroutine = false) (hgen : scope.isGenerator = false) (hk : scope.kind = .function) : FnP a (n + 1) [d₁, d₂] P :=
  FnP.introC (names := [x, y]) (ρ₀ := [(y, .v d₂), (x, .v d₁)]) ho hcd (fun w s vs X e => BindsTo.of_eq (by
    rcases vs with _ | ⟨v, _ | ⟨u, _ | ⟨t, r⟩⟩⟩
    · simp at e
    · simp at e
    · exact hbind v u
    · simp at e)) (fun z hz => by
      rcases List.mem_cons.mp hz with rfl | hz
      · exact hloc.1
      · rw [List.mem_singleton.mp hz]; exact hloc.2) (fun L z hz => by
      rcases List.mem_cons.mp hz with rfl | hz
      · exact (hlc L).1
      · rw [List.mem_singleton.mp hz]; exact (hlc L).2) (fun L => Inj.of (hinj L)) rfl h hco hgen hk
end
end
section
theorem seq_det {h : Heap} {a : Addr} {xs ys : Array Value} (x : h.IsList a xs) (y : h.IsList a ys) : xs = ys := by
  obtain ⟨o, h1, h2, n, h3⟩ := x
  obtain ⟨o', g1, g2, m, g3⟩ := y
  rw [h1] at g1; cases g1; rw [h3] at g3; cases g3; rfl
theorem tup_det {h : Heap} {a : Addr} {xs ys : Array Value} (x : IsTup h a xs) (y : IsTup h a ys) : xs = ys := by
  obtain ⟨o, h1, h2, n, h3⟩ := x
  obtain ⟨o', g1, g2, m, g3⟩ := y
  rw [h1] at g1; cases g1; rw [h3] at g3; cases g3; rfl
inductive FlatD : D → Prop
  | none : FlatD .none
  | int (i : Int) : FlatD (.int i)
  | str (l : List Nat) : FlatD (.str l)
  | bytes (l : List Nat) : FlatD (.bytes l)
mutual
inductive Eqv : Nat → D → D → Bool → Prop
  | int {n : Nat} (a b : Int) : Eqv n (.int a) (.int b) (a == b)
  | str {n : Nat} (a b : List Nat) : Eqv n (.str a) (.str b) (a == b)
  | bytes {n : Nat} (a b : List Nat) : Eqv n (.bytes a) (.bytes b) (a == b)
  | list {n : Nat} {as bs : List D} {b : Bool} : EqvL n as bs b → Eqv (n + 1) (.list as) (.list bs) b
  | lens {n : Nat} {as bs : List D} : as.length ≠ bs.length → Eqv (n + 1) (.list as) (.list bs) false
  | tup {n : Nat} {as bs : List D} {b : Bool} : EqvL n as bs b → Eqv (n + 1) (.tup as) (.tup bs) b
inductive EqvL : Nat → List D → List D → Bool → Prop
  | nil {n : Nat} : EqvL n [] [] true
  | cons {n : Nat} {a b : D} {as bs : List D} {x y : Bool} : Eqv n a b x → EqvL n as bs y → EqvL n (a :: as) (b :: bs) (x && y)
end
theorem EqvL.length {n : Nat} {as bs : List D} {b : Bool} (q : EqvL n as bs b) : as.length = bs.length :=
  EqvL.rec (motive_1 := fun _ _ _ _ _ => True) (motive_2 := fun _ as bs _ _ => as.length = bs.length) (fun _ _ => trivial) (fun _ _ => trivial) (fun _ _ => trivial) (fun _ _ => trivial) (fun _ => trivial) (fun _ _ => trivial) rfl (fun _ _ _ h => congrArg Nat.succ h) q
inductive Leafy : D → Prop
  | int (i : Int) : Leafy (.int i)
  | str (l : List Nat) : Leafy (.str l)
  | bytes (l : List Nat) : Leafy (.bytes l)
  | list (ds : List D) : Leafy (.list ds)
  | tup (ds : List D) : Leafy (.tup ds)
theorem at_bytes {A : Around} {s : Shared} {a b : Array UInt8} {t u : Tok} : SeqAt.EqAt A s (.bytes a t) (.bytes b u) (a.toList == b.toList) := fun prog w E Q hq => by
  unfold eqBool
  refine wpAny_holding ?_
  refine wpAny_ite_split (fun hab => ?_) (fun _ => ?_)
  · have : a = b := by have := eq_of_beq hab; injection this
    subst this
    rw [beq_self_eq_true] at hq
    exact wpAny_bind (wpAny_rule (wpAny_pure hq))
  · exact wpAny_bind (eq_bytes (wpAny_truthy_bool hq))
section
variable {s : Shared} {Z : Addr → Prop} {n : Nat} {as bs : List D} {b : Bool}
/-- equal as the run finds it; and what is one and the same is equal -/
def EqM (s : Shared) (Z : Addr → Prop) (n : Nat) (d e : D) (b : Bool) : Prop := ∀ v u (A : Around), A.units + n + 2 < cLine → Tr s.heap Z v d → Tr s.heap Z u e → SeqAt.EqAt A s v u b ∧ (v = u → b = true)
def EqML (s : Shared) (Z : Addr → Prop) (n : Nat) (as bs : List D) (b : Bool) : Prop := as.length = bs.length ∧ ∀ vs us (A : Around), A.units + n + 2 < cLine → TrL s.heap Z vs as → TrL s.heap Z us bs →
  (∃ e : Nat → Bool, (List.range vs.length).all e = b ∧ ∀ j (h1 : j < vs.length) (h2 : j < us.length), SeqAt.EqAt A s vs[j] us[j] (e j)) ∧ (vs = us → b = true)
theorem eqm_int (a b : Int) : EqM s Z n (.int a) (.int b) (a == b) := by
  intro v u A hu x y
  cases x using Tr.intC; cases y using Tr.intC
  exact ⟨SeqAt.EqAt.int_int _ _ _ _, fun q => beq_iff_eq.mpr (Value.int.inj q).1⟩
theorem eqm_str (a b : List Nat) : EqM s Z n (.str a) (.str b) (a == b) := by
  intro v u A hu x y
  cases x using Tr.strC with
  | str z t e => cases y using Tr.strC with
    | str z' t' e' =>
      have := SeqAt.EqAt.str_str (A := A) (s := s) z t z' t'
      rw [str_eq_iff, e, e'] at this
      exact ⟨this, fun q => beq_iff_eq.mpr (e.symm.trans ((congrArg (fun z : Str => z.cps.toList) (Value.str.inj q).1).trans e'))⟩
theorem eqm_bytes (a b : List Nat) : EqM s Z n (.bytes a) (.bytes b) (a == b) := by
  intro v u A hu x y
  cases x using Tr.bytesC with
  | bytes z t e => cases y using Tr.bytesC with
    | bytes z' t' e' =>
      have := at_bytes (A := A) (s := s) (a := z) (b := z') (t := t) (u := t')
      rw [bytes_eq_iff, e, e'] at this
      exact ⟨this, fun q => beq_iff_eq.mpr (e.symm.trans ((congrArg bN (Value.bytes.inj q).1).trans e'))⟩
theorem eqm_ref {l l' : Addr} {A : Around} (h : l = l' → b = true) (k : l ≠ l' → SeqAt.EqAt A s (.ref l) (.ref l') b) : SeqAt.EqAt A s (.ref l) (.ref l') b ∧ (Value.ref l = .ref l' → b = true) :=
  ⟨if q : l = l' then by rw [h q, q]; exact SeqAt.EqAt.same _ else k q, fun q => h (Value.ref.inj q)⟩
theorem eqm_list (q : EqML s Z n as bs b) : EqM s Z (n + 1) (.list as) (.list bs) b := by
  intro v u A hu x y
  cases x using Tr.listC with
  | @list l vs z hl t => cases y using Tr.listC with
    | @list l' us z' hl' t' =>
      obtain ⟨⟨e, h1, h2⟩, h3⟩ := q.2 vs us A.in1 (by show A.units + 1 + n + 2 < _; omega) t t'
      refine eqm_ref (fun hll => h3 (congrArg Array.toList (seq_det hl (hll ▸ hl')))) fun hll => SeqAt.EqAt.of_refs hll ?_
      have := SeqAt.RcAt.lists (A := A) (s := s) (e := e) hl hl' (by simpa using t.length.trans (q.1.trans t'.length.symm)) (by omega) (fun j g1 g2 => by simpa using h2 j (by simpa using g1) (by simpa using g2))
      rw [← h1]; simpa using this
theorem eqm_lens (q : as.length ≠ bs.length) : EqM s Z (n + 1) (.list as) (.list bs) false := by
  intro v u A hu x y
  cases x using Tr.listC with
  | @list l vs z hl t => cases y using Tr.listC with
    | @list l' us z' hl' t' =>
      have hne : vs.length ≠ us.length := by rw [t.length, t'.length]; exact q
      exact eqm_ref (fun hll => absurd (congrArg (fun a : Array Value => a.toList.length) (seq_det hl (hll ▸ hl'))) hne) fun hll => SeqAt.EqAt.of_refs hll (SeqAt.RcAt.lists_lengths hl hl' (by simpa using hne) (by omega))
theorem eqm_tup (q : EqML s Z n as bs b) : EqM s Z (n + 1) (.tup as) (.tup bs) b := by
  intro v u A hu x y
  cases x using Tr.tupC with
  | @tup l vs z hl t => cases y using Tr.tupC with
    | @tup l' us z' hl' t' =>
      obtain ⟨⟨e, h1, h2⟩, h3⟩ := q.2 vs us A.in1 (by show A.units + 1 + n + 2 < _; omega) t t'
      refine eqm_ref (fun hll => h3 (congrArg Array.toList (tup_det hl (hll ▸ hl')))) fun hll => SeqAt.EqAt.of_refs hll ?_
      have hsz : vs.length = us.length := t.length.trans (q.1.trans t'.length.symm)
      have := SeqAt.RcAt.tuples (A := A) (s := s) (e := e) hl hl' (by omega) (fun j g1 g2 => by simpa using h2 j (by simpa using g1) (by simpa using g2))
      rw [← h1]; simpa [hsz] using this
theorem eqml_nil : EqML s Z n [] [] true := ⟨rfl, fun vs us A hu x y => by
  cases x using TrL.c0; cases y using TrL.c0
  exact ⟨⟨fun _ => true, rfl, fun j h => absurd h (Nat.not_lt_zero _)⟩, fun _ => rfl⟩⟩
theorem eqml_cons {a c : D} {x y : Bool} (p : EqM s Z n a c x) (r : EqML s Z n as bs y) : EqML s Z n (a :: as) (c :: bs) (x && y) := ⟨congrArg Nat.succ r.1, fun vs us A hu t t' => by
  cases t using TrL.cC with
  | cons t ts => cases t' using TrL.cC with
    | cons t' ts' =>
      obtain ⟨⟨e, h1, h2⟩, h3⟩ := r.2 _ _ A hu ts ts'
      obtain ⟨h0, h4⟩ := p _ _ A hu t t'
      refine ⟨⟨fun j => if j = 0 then x else e (j - 1), ?_, fun j g1 g2 => ?_⟩, fun q => by rw [h4 (List.cons.inj q).1, h3 (List.cons.inj q).2]; rfl⟩
      · rw [List.length_cons, List.range_succ_eq_map, List.all_cons, List.all_map, ← h1]
        congr 1
      · exact match j with
          | 0 => h0
          | j + 1 => h2 j (Nat.lt_of_succ_lt_succ g1) (Nat.lt_of_succ_lt_succ g2)⟩
theorem eqv_all (q : EqvL n as bs b) {vs us : List Value} (A : Around) (hu : A.units + n + 2 < cLine) (t : TrL s.heap Z vs as) (t' : TrL s.heap Z us bs) :
    ∃ e : Nat → Bool, (List.range vs.length).all e = b ∧ ∀ j (h1 : j < vs.length) (h2 : j < us.length), SeqAt.EqAt A s vs[j] us[j] (e j) :=
  ((EqvL.rec (motive_1 := fun n d e b _ => EqM s Z n d e b) (motive_2 := fun n as bs b _ => EqML s Z n as bs b) eqm_int eqm_str eqm_bytes (fun _ h => eqm_list h) eqm_lens (fun _ h => eqm_tup h) eqml_nil (fun _ _ h k => eqml_cons h k) q).2 vs us A hu t t').1
/-- two lists: of one length, item by item; or of two -/
@[elab_as_elim] theorem Eqv.listC {motive : (b : Bool) → Eqv (n + 1) (.list as) (.list bs) b → Prop} (list : ∀ {b} q, motive b (.list q)) (lens : ∀ q, motive false (.lens q)) {b : Bool} (x : Eqv (n + 1) (.list as) (.list bs) b) : motive b x := by
  cases x with
  | list q => exact list q
  | lens q => exact lens q
end
end
section
section
variable {c : Cx} {ρ ρ₁ ρ₂ ρ₃ : Rho} {x y : Str} {pos p lp : Pos} {d d₁ d₂ : D} {P : D → Prop} {n m : Nat} {as bs ds : List D} {b : Bool}
theorem op_eq_list (q : Eqv (m + 1) (.list as) (.list bs) b) (hm : m ≤ 80) : Op2 (compareOp .Eq) n (.list as) (.list bs) (· = .bool b) := by
  refine .mk fun w A s Z v₁ v₂ R t₁ t₂ => ?_
  have hu := R.units
  cases t₁ using Tr.listC with
  | @list l vs z hl t => cases t₂ using Tr.listC with
    | @list l' us z' hl' t' =>
      refine do_const R.zok fun Q E k => ?_
      cases q using Eqv.listC with
      | list q =>
        obtain ⟨e, h1, h2⟩ := eqv_all q A.in1 (by show A.units + 1 + m + 2 < _; omega) t t'
        have hsz : vs.length = us.length := by rw [t.length, t'.length, q.length]
        refine SeqAt.eq_listAt (e := e) hl hl' (by simpa using hsz) (by omega) (fun j g1 g2 => by simpa using h2 j (by simpa using g1) (by simpa using g2)) ?_
        have := k (.bool b) s.toks (.bool _)
        rw [List.size_toArray, h1]; exact this
      | lens q =>
        have hne : vs.length ≠ us.length := by rw [t.length, t'.length]; exact q
        exact SeqAt.eq_list_lengthsAt hl hl' (by simpa using hne) (by omega) (k _ s.toks (.bool _))
theorem op_ne_list (q : Eqv (m + 1) (.list as) (.list bs) b) (hm : m ≤ 80) : Op2 (compareOp .NotEq) n (.list as) (.list bs) (· = .bool (!b)) := by
  refine .mk fun w A s Z v₁ v₂ R t₁ t₂ => ?_
  have hu := R.units
  cases t₁ using Tr.listC with
  | @list l vs z hl t => cases t₂ using Tr.listC with
    | @list l' us z' hl' t' =>
      refine do_const R.zok fun Q E k => ?_
      cases q using Eqv.listC with
      | list q =>
        obtain ⟨e, h1, h2⟩ := eqv_all q A.in1 (by show A.units + 1 + m + 2 < _; omega) t t'
        have hsz : vs.length = us.length := by rw [t.length, t'.length, q.length]
        refine SeqAt.RcNeAt.lists (e := e) hl hl' (by simpa using hsz) (by omega) (fun j g1 g2 => by simpa using h2 j (by simpa using g1) (by simpa using g2)) _ _ _ _ ?_
        have := k (.bool (!b)) s.toks (.bool _)
        rw [List.size_toArray, h1]; exact this
      | lens q =>
        have hne : vs.length ≠ us.length := by rw [t.length, t'.length]; exact q
        exact SeqAt.RcNeAt.lists_lengths hl hl' (by simpa using hne) (by omega) _ _ _ _ (k _ s.toks (.bool _))
theorem eqv_nil : Eqv (n + 1) (.list as) (.list []) as.isEmpty := by
  cases as with
  | nil => exact .list .nil
  | cons a r => exact .lens (by simp)
/-- x == [], x the frame's own list: it stays so -/
theorem own_peek {op : CmpOp} {r : Bool} (hop : (op = .Eq ∧ r = ds.isEmpty) ∨ (op = .NotEq ∧ r = !ds.isEmpty)) (hl : ρ.lookup x = some (.own ds)) (hk : c.env.kindOf x = some .local) (hc : c.env.cells.lookup x = none) (hd : (x == ("__debug__" : Str)) = false) (hm : behindInMarks op (.List [] lp) = false) :
    EvT c ρ (.Compare (.Name x p) [op] [.List [] lp] pos) ρ r := .mk fun s Z Q E S k => by
  obtain ⟨m, own, l⟩ := S.loc
  obtain ⟨a, vs, n, hm', hO, hg, ht⟩ := S.own_at hl hc l
  have hu := (S.rdy (Nat.zero_le _)).units
  refine wpAny_isTrue_Compare1 (wpAny_Name (wpAny_loadName_local S.kind hk l.ns hm' (List_ (spliced_none (wpAny_newList ?_ (Nat.zero_le _))))) hd) hm
  have X : Ext s Z { s with heap := s.heap.push { cls := .type "list", data := .seq ([] : List Value).toArray } } Z := Ext.of (tk := s.toks) S.zok fun a o e => Heap.get?_push_of_some _ e
  have hl₁ : (s.heap.push { cls := .type "list", data := .seq ([] : List Value).toArray }).IsList a vs.toArray := ⟨_, X.keep _ _ hg, rfl, n, rfl⟩
  have hl₂ : (s.heap.push { cls := .type "list", data := .seq ([] : List Value).toArray }).IsList s.heap.objs.size ([] : List Value).toArray := ⟨_, Heap.get?_push_size _ rfl, rfl, 0, rfl⟩
  have hk' := k _ Z (S.ext X) X.leX
  have fin : ∀ r', r' = r → wpAny (model PP c.w) c.A (truthy (.bool r')) Q E { s with heap := s.heap.push { cls := .type "list", data := .seq ([] : List Value).toArray } } := fun r' e => wpAny_truthy_bool (e ▸ hk')
  have hlen := ht.length
  cases vs with
  | nil =>
    have he : ds.isEmpty = true := by cases ds with
      | nil => rfl
      | cons d r => simp at hlen
    rcases hop with ⟨rfl, rfl⟩ | ⟨rfl, rfl⟩
    · exact SeqAt.eq_listAt (e := fun _ => true) hl₁ hl₂ rfl (by omega) (fun j h => by simp at h) (fin _ (by rw [he]; rfl))
    · exact SeqAt.RcNeAt.lists (e := fun _ => true) hl₁ hl₂ rfl (by omega) (fun j h => by simp at h) _ _ _ _ (fin _ (by rw [he]; rfl))
  | cons v vs =>
    have he : ds.isEmpty = false := by cases ds with
      | nil => simp at hlen
      | cons d r => rfl
    rcases hop with ⟨rfl, rfl⟩ | ⟨rfl, rfl⟩
    · exact SeqAt.eq_list_lengthsAt hl₁ hl₂ (by simp) (by omega) (fin _ he.symm)
    · exact SeqAt.RcNeAt.lists_lengths hl₁ hl₂ (by simp) (by omega) _ _ _ _ (fin _ (by rw [he]; rfl))
theorem evt_own_eq (hl : ρ.lookup x = some (.own ds)) (hk : c.env.kindOf x = some .local) (hc : c.env.cells.lookup x = none) (hd : (x == ("__debug__" : Str)) = false) (hm : behindInMarks .Eq (.List [] lp) = false) : EvT c ρ (.Compare (.Name x p) [.Eq] [.List [] lp] pos) ρ ds.isEmpty := own_peek (.inl ⟨rfl, rfl⟩) hl hk hc hd hm
theorem evt_own_ne (hl : ρ.lookup x = some (.own ds)) (hk : c.env.kindOf x = some .local) (hc : c.env.cells.lookup x = none) (hd : (x == ("__debug__" : Str)) = false) (hm : behindInMarks .NotEq (.List [] lp) = false) : EvT c ρ (.Compare (.Name x p) [.NotEq] [.List [] lp] pos) ρ (!ds.isEmpty) := own_peek (.inr ⟨rfl, rfl⟩) hl hk hc hd hm
end
end
section
theorem TrL.set {h : Heap} {Z : Addr → Prop} : ∀ {vs : List Value} {ds : List D} (_ : TrL h Z vs ds) (k : Nat) {v : Value} {d : D}, Tr h Z v d → TrL h Z (vs.set k v) (ds.set k d)
  | _, _, .nil, _, _, _, _ => .nil
  | _, _, .cons a r, 0, _, _, t => .cons t r
  | _, _, .cons a r, k + 1, _, _, t => .cons a (r.set k t)
section
variable {c : Cx} {ρ ρ₁ ρ₂ ρ₃ : Rho} {x y : Str} {pos p lp ip sp : Pos} {d d₁ d₂ : D} {P : D → Prop} {n m : Nat} {as bs ds : List D} {b : Bool} {e : Expr}
/-- x[k], x the frame's own list: it stays so -/
theorem ev_own_item {k : Nat} {kk : Nat} (hl : ρ.lookup x = some (.own ds)) (hx : ds[k]? = some d) (hk : c.env.kindOf x = some .local) (hc : c.env.cells.lookup x = none) (hd : (x == ("__debug__" : Str)) = false) (hz : k ≤ 16777216)
    (hs : ∀ o i, subscripted (.Constant (.int (k : Nat)) kk ip) false o i = operate [o, i] (getItem o i)) : Ev c ρ (.Subscript (.Name x p) (.Constant (.int (k : Nat)) kk ip) pos) ρ d := .mk fun s Z Q E S q => by
  obtain ⟨m, own, l⟩ := S.loc
  obtain ⟨a, vs, n, hm', hO, hg, ht⟩ := S.own_at hl hc l
  refine Subscript_ (wpAny_Name (wpAny_loadName_local S.kind hk l.ns hm' ?_) hd)
  refine (ev_int (c := c) (ρ := ρ)).run s Z _ E S fun v s₁ Z₁ _ S₁ l₁ t₁ e₁ => ?_
  subst e₁
  cases t₁ using Tr.intC
  have hg₁ : s₁.heap.IsList a vs.toArray := ⟨_, l₁.all _ _ (l.off x a (by rw [hO]; exact .head _)).2.2.2.2 hg, rfl, n, rfl⟩
  obtain ⟨v, hv, tv⟩ := ht.get k d hx
  exact subscriptTail_ops hg₁.typeIs list_getitem_lookup (wpAny_getItem_list hg₁ (by omega) (by omega) (by simpa using hv) (q v s₁ Z₁ d S₁ l₁ (l₁.tr tv) rfl)) (hs _ _) (fun r => rfl)
/-- the frame's own list changes and is frozen -/
theorem St.freeze_upd {Z : Addr → Prop} {s : Shared} (S : St c ρ Z s) {ds' : List D} (hl : ρ.lookup x = some (.own ds)) (hc : c.env.cells.lookup x = none) {m : Str → Option Value} {own : Str → List Addr} (l : Loc c ρ Z s.heap m own) {a : Addr} {vs' : List Value} {h' : Heap} {tk : Nat}
    (hO : own x = [a]) (hm : m x = some (.ref a)) {o : Obj} (ho : s.heap.get? a = some o) (hoo : ∃ vs n, o = listOf vs n) (hs : Heap.SameBut a s.heap h') (ha : h'.IsList a vs'.toArray) (ht : TrL s.heap Z vs' ds') :
    St c ((x, .v (.list ds')) :: ρ) (fun b => Z b ∨ b = a) { s with heap := h', toks := tk } ∧ Le s.heap Z h' (fun b => Z b ∨ b = a) := by
  obtain ⟨h1, h2, h3, h4, h5⟩ := l.off x a (by rw [hO]; exact .head _)
  obtain ⟨vs₀, n₀, rfl⟩ := hoo
  have hk : ∀ b o', b ≠ a → s.heap.get? b = some o' → h'.get? b = some o' := fun b o' q e => (hs.2 b q).trans e
  have hle : Le s.heap Z h' (fun b => Z b ∨ b = a) := ⟨fun _ q => .inl q, fun b o' q e => hk b o' (fun z => h1 (z ▸ q)) e, fun b o' fs e f => hk b o' (fun z => by rw [z, ho] at e; rw [← Option.some.inj e] at f; cases f) e, fun b o' fs e f q => q.elim id fun z => by rw [z, ho] at e; rw [← Option.some.inj e] at f; cases f⟩
  have hai : (h'.get? a).isSome = true := by obtain ⟨o', q, _⟩ := ha; rw [q]; rfl
  have hal : ∀ b, (s.heap.get? b).isSome = true → (h'.get? b).isSome = true := fun b e => by
    by_cases q : b = a
    · rw [q]; exact hai
    · rw [hs.2 b q]; exact e
  have htr : Tr h' (fun b => Z b ∨ b = a) (.ref a) (.list ds') := .list (.inr rfl) ha (hle.trL ht)
  have hne : ∀ y b, c.env.cells.lookup y = some b → b ≠ a := fun y b e q => by
    obtain ⟨_, _, ⟨o, w, g1, g2⟩, _⟩ := l.cell y b e
    rw [q, ho] at g1; rw [← Option.some.inj g1] at g2; cases g2
  refine ⟨?_, hle⟩
  refine { S with same := ?_, keep := fun b o' v e => hk b o' (fun q => by rw [q, h3] at e; cases e) (S.keep b o' v e), z0 := fun b q => .inl (S.z0 b q), znew := fun b q => q.elim (S.znew b) fun e => .inr (by rw [e]; exact h3), zok := fun b q => q.elim (fun q => hal b (S.zok b q)) fun e => by rw [e]; exact hai, zL := fun q => q.elim S.zL fun e => h2 e.symm, zV := fun b q v => q.elim (fun q => S.zV b q v) fun e => h5 (e ▸ v), g := S.ok.gst _ _ S.g fun b v => hs.2 b fun q => h5 (q ▸ v), loc := ⟨m, fun y => if y = x then [] else own y, ?_, fun y b e => ?_, fun y b hb => ?_, fun y z b hb hc' => ?_, fun y e => ?_, fun y b e => ?_⟩ }
  · obtain ⟨h, t, e⟩ := S.same; exact ⟨h', tk, by rw [e]⟩
  · obtain ⟨oL, es, ep, hoL, r⟩ := l.ns; exact ⟨oL, es, ep, hk _ _ (Ne.symm h2) hoL, r⟩
  · by_cases hy : y = x
    · subst hy
      simp only [List.lookup_cons, beq_self_eq_true, Option.some.injEq] at e
      subst e
      exact ⟨.ref a, .inl ⟨hc, hm⟩, by simp, htr⟩
    · rw [List.lookup_cons, show (y == x) = false by simpa using hy] at e
      obtain ⟨v', g1, g2⟩ := l.get y b e
      refine ⟨v', g1.mono fun b' o' w e1 _ e3 => hk b' o' (hne y b' e3) e1, ?_⟩
      rw [if_neg hy]
      exact g2.mono hle.zz hle.keep fun b' hb' o' e => hk b' o' (fun q => hy (l.apart y x b' hb' (by rw [hO, q]; exact .head _))) e
  · by_cases hy : y = x
    · rw [if_pos hy] at hb; cases hb
    · rw [if_neg hy] at hb
      obtain ⟨g1, g2, g3, g4, g5⟩ := l.off y b hb
      exact ⟨fun q => q.elim g1 fun e => hy (l.apart y x b hb (by rw [hO, e]; exact .head _)), g2, g3, hal b g4, g5⟩
  · by_cases hy : y = x
    · rw [if_pos hy] at hb; cases hb
    · by_cases hz : z = x
      · rw [if_pos hz] at hc'; cases hc'
      · rw [if_neg hy] at hb; rw [if_neg hz] at hc'; exact l.apart y z b hb hc'
  · by_cases hy : y = x
    · rw [if_pos hy]
    · rw [List.lookup_cons, show (y == x) = false by simpa using hy] at e
      rw [if_neg hy]; exact l.dom y e
  · obtain ⟨g1, g2, ⟨o', w, g3, g4⟩, g5⟩ := l.cell y b e
    exact ⟨fun q => q.elim g1 (hne y b e), g2, ⟨o', w, hk b o' (hne y b e) g3, g4⟩, g5⟩
/-- x[k] = e -/
theorem exs_setitem {k : Nat} {kk : Nat} {rest : List Stmt} {R : Out → Rho → Prop} (h : Ev c ρ e ρ₁ d) (hl : ρ₁.lookup x = some (.own ds)) (hx : k < ds.length) (hk : c.env.kindOf x = some .local) (hc : c.env.cells.lookup x = none) (hd : (x == ("__debug__" : Str)) = false) (hz : k ≤ 16777216)
    (hs : swapsWith e (some (.Subscript (.Name x p) (.Constant (.int (k : Nat)) kk ip) sp)) pos.line c.env = pure false) (r : Exs c ((x, .v (.list (ds.set k d))) :: ρ₁) rest R) :
    Exs c ρ (.Assign [.Subscript (.Name x p) (.Constant (.int (k : Nat)) kk ip) sp] e pos :: rest) R := exs_step (.mk fun s Z Q E S q => by
  refine wpAny_Assign_Subscript (h.run s Z _ E S fun v s₁ Z₁ _ S₁ l₁ t₁ e₁ => ?_) hs
  subst e₁
  obtain ⟨m, own, l⟩ := S₁.loc
  obtain ⟨a, vs, n, hm', hO, hg, ht⟩ := S₁.own_at hl hc l
  refine wpAny_Name (wpAny_loadName_local S₁.kind hk l.ns hm' ?_) hd
  refine (ev_int (c := c) (ρ := ρ₁)).run s₁ Z₁ _ E S₁ fun v₂ s₂ Z₂ _ S₂ l₂ t₂ e₂ => ?_
  subst e₂
  cases t₂ using Tr.intC
  obtain ⟨m₂, own₂, l₂'⟩ := S₂.loc
  obtain ⟨a₂, vs₂, n₂, hm₂, hO₂, hg₂, ht₂⟩ := S₂.own_at hl hc l₂'
  have hmm : m₂ = m := ns_unique l₂'.ns (by obtain ⟨oL, es, ep, hoL, r⟩ := l.ns; exact ⟨oL, es, ep, l₂.all _ _ S₁.ok.vL hoL, r⟩)
  have haa : a₂ = a := by rw [hmm, hm'] at hm₂; cases hm₂; rfl
  subst haa
  have hL : s₂.heap.IsList a₂ vs₂.toArray := ⟨_, hg₂, rfl, n₂, rfl⟩
  refine wpAny_setItem_list hL (by omega) (by omega) (by have := ht₂.length; simp only [List.size_toArray]; omega) fun h' hL' hsb => ?_
  have hset : (vs₂.toArray.setIfInBounds ((k : Int)).toNat v) = (vs₂.set k v).toArray := by simp
  rw [hset] at hL'
  obtain ⟨S₃, l₃⟩ := S₂.freeze_upd (tk := s₂.toks) hl hc l₂' hO₂ hm₂ hg₂ ⟨_, _, rfl⟩ hsb hL' (ht₂.set k (l₂.tr t₁))
  exact q .next _ .next _ _ ⟨rfl, rfl⟩ S₃ ((S.ofX (LeX.trans S l₁ l₂)).trans l₃) rfl) r
end
end
section
theorem foldl_rep {α : Type} (x : Array α) : ∀ (n : Nat) (acc : Array α), ((List.replicate n x).foldl (· ++ ·) acc).toList = acc.toList ++ (List.replicate n x.toList).flatten
  | 0, acc => by simp
  | n + 1, acc => by
    rw [List.replicate_succ, List.foldl_cons, foldl_rep x n]
    simp [List.replicate_succ]
theorem txt_mul (x : Str) (n : Nat) : (Txt.mul x (n : Int)).cps.toList = (List.replicate n x.cps.toList).flatten := by
  unfold Txt.mul
  by_cases h : (n : Int) < 1
  · rw [if_pos h, show n = 0 by omega]; rfl
  · rw [if_neg h]
    by_cases h2 : (((n : Int) == 1 || x.length == 0) = true)
    · rw [if_pos h2]
      simp only [Bool.or_eq_true, beq_iff_eq] at h2
      rcases h2 with h2 | h2
      · rw [show n = 1 by omega]; simp
      · have : x.cps.toList = [] := List.length_eq_zero_iff.mp (by simpa [Str.length] using h2)
        rw [this]; simp
    · rw [if_neg h2]
      show ((List.replicate ((n : Int)).toNat x.cps).foldl (· ++ ·) #[]).toList = _
      rw [foldl_rep, Int.toNat_natCast]; simp
section
variable {c : Cx} {ρ ρ₁ ρ₂ ρ₃ ρf : Rho} {x y z : Str} {pos p q pt spos px : Pos} {d d₁ d₂ : D} {P : D → Prop} {n : Nat} {v i e t elt iter target : Expr} {ds : List D} {l : List Nat} {k : Int} {scope : Scope} {cl : List (Str × Addr)}
theorem op_mul_str {m : Nat} (hm : m ≤ 1000) (hl : l.length ≤ 1000) : Op2 (binaryOp .Mult) n (.str l) (.int (m : Nat)) (· = .str (List.replicate m l).flatten) := by
  refine .mk fun w A s Z v₁ v₂ R t₁ t₂ => ?_
  cases t₁ using Tr.strC with
  | str x t e =>
    cases t₂ using Tr.intC
    have hxl : x.length = l.length := by rw [← e]; simp [Str.length]
    refine do_const R.zok fun Q E k => SB.mul ⟨?_, fun h1 h2 => ?_, fun h1 h2 => ?_⟩ fun t' k' => k _ k' (.str _ _ (by rw [txt_mul, e]))
    · simp; omega
    · rw [hxl]
      have hm1 : (1 : Int) ≤ m := by omega
      have : (1000 : Int) ≤ (2 ^ 63 - 1) / (m : Int) := by
        rw [Int.le_ediv_iff_mul_le (by omega)]
        omega
      omega
    · rw [hxl, Int.toNat_natCast]
      have h3 : l.length * m ≤ 1000 * 1000 := Nat.mul_le_mul hl hm
      show decide (_ > _) = false
      exact decide_eq_false (fun q => absurd (Nat.lt_of_lt_of_le q h3) (by decide))
/-- x = [elt for y, z in iter] -/
theorem exs_compA2 {α : Type} {rest : List Stmt} {R : Out → Rho → Prop} {k' : Nat} (f : D → D) (g g' f' : α → D) {as : List α} (h : Ev c ρ iter ρ₁ d) (hd : itemsOf d = some (as.map fun a => .tup [g a, g' a])) (hclos : closureFor scope c.env = pure cl) (hk : scope.kind = .function) (hcell : (scope.names.all fun y => y.2 != .cell) = true)
    (hnames : (scope.names.all fun x => x.2 != .local || scope.names.lookup x.1 == some .local) = true) (hcl : CL cl c.env.cells) (hx : ∀ C s0 Z0, (cxComp c scope cl C s0 Z0).Sto y) (hx' : ∀ C s0 Z0, (cxComp c scope cl C s0 Z0).Sto z)
    (hf : HF ρf ρ₁ cl) (hs : ∀ x, foldedSetIterable iter c.env x = pure x) (hxf : ρf.lookup y = none) (hxf' : ρf.lookup z = none) (hz : as.length ≤ 16777216) (hfg : ∀ a, f (.tup [g a, g' a]) = f' a)
    (ht : ∀ a ∈ as, ∀ C s0 Z0, Ev (cxComp c scope cl C s0 Z0) ((z, .v (g' a)) :: (y, .v (g a)) :: ρf) elt ((z, .v (g' a)) :: (y, .v (g a)) :: ρf) (f' a))
    (hsx : c.Sto x) (hsw : swapsWith (.ListComp elt [⟨.Tuple [.Name y p, .Name z q] k' pt, iter, [], 0⟩] scope pos) (some (.Name x px)) spos.line c.env = pure true) (r : Exs c ((x, .own (as.map f')) :: ρ₁) rest R) :
    Exs c ρ (.Assign [.Name x px] (.ListComp elt [⟨.Tuple [.Name y p, .Name z q] k' pt, iter, [], 0⟩] scope pos) spos :: rest) R := by
  refine exs_cons (ex_comp (bind := bindPair y z) (keepd := fun _ => true) (P := fun a b => b = f a) h hd (by rw [sizeLine_is, List.length_map]; exact hz) hclos hk (fun y hy q => ?_) (fun y hy q => ?_) hcl (fun C s0 Z0 => binds_pair (hx C s0 Z0) (hx' C s0 Z0)) hf (fun d hd => ?_) hs hsx hsw) ?_ ?_
  · have := List.all_eq_true.mp hcell y hy; rw [q] at this; cases this
  · have := List.all_eq_true.mp hnames y hy
    rw [q] at this
    simpa using this
  · obtain ⟨a, ha, rfl⟩ := List.mem_map.mp hd
    refine ⟨_, rfl, ?_, ?_, fun C s0 Z0 => ⟨rfl, fun _ => ?_⟩⟩
    · intro w b e
      rw [List.lookup_cons]
      split
      · rename_i q; rw [beq_iff_eq.mp q, hxf'] at e; cases e
      · rw [List.lookup_cons]
        split
        · rename_i q; rw [beq_iff_eq.mp q, hxf] at e; cases e
        · exact e
    · intro w ds' e
      rw [List.lookup_cons] at e
      split at e
      · cases e
      · rw [List.lookup_cons] at e
        split at e
        · cases e
        · exact (hf w _ e).2.2 _ rfl
    · rw [hfg]; exact ht a ha C s0 Z0
  · rintro r' ⟨_, rs, rfl, h⟩
    rw [show (as.map fun a => D.tup [g a, g' a]).filter (fun _ => true) = as.map fun a => D.tup [g a, g' a] by simp] at h
    rw [h.map, List.map_map, show f ∘ (fun a => D.tup [g a, g' a]) = f' from funext hfg]
    exact r
  · rintro o r' hn ⟨h, _⟩
    exact absurd h hn
end
end
section
section
variable {c : Cx} {ρ ρ₁ ρ₂ ρ₃ ρf : Rho} {x y z : Str} {pos p q pt spos px : Pos} {d d₁ d₂ : D} {P : D → Prop} {n : Nat} {v i e t elt iter target : Expr} {ds : List D} {l : List Nat} {k : Int} {scope : Scope} {cl : List (Str × Addr)}
/-- if, both ways of which go on alike -/
theorem exs_ifI {b : Bool} {aa bb rest : List Stmt} {R : Out → Rho → Prop} (b' : Bool) (I : Rho) (h : EvT c ρ t ρ b) (e : b = b') (ht : b' = true → Exs c ρ aa fun o r => o = .next ∧ Sub I r) (hf : b' = false → Exs c ρ bb fun o r => o = .next ∧ Sub I r) (r : Exs c I rest R) : Exs c ρ (.If t aa bb pos :: rest) R :=
  exs_iff b' h e (fun q => Ex.weak (ht q) fun o r' w => .inl ⟨w.1, Ex.pre r w.2⟩) fun q => Ex.weak (hf q) fun o r' w => .inl ⟨w.1, Ex.pre r w.2⟩
theorem evl_one0 (h : Ev c ρ e ρ d) (he : starEach [e] c.env = (false, eval e c.env) :: starEach [] c.env) : EvL c ρ [e] ρ [d] := evl_cons h evl_nil he
theorem exs_list0 {es : List Expr} {p' lp : Pos} {rest : List Stmt} {R : Out → Rho → Prop} (ds : List D) (h : EvL c ρ es ρ ds) (hz : ds.length ≤ 16777216) (hk : c.Sto x) (hs : swapsWith (.List es lp) (some (.Name x p')) pos.line c.env = pure false) (r : Exs c ((x, .own ds) :: ρ) rest R) :
    Exs c ρ (.Assign [.Name x p'] (.List es lp) pos :: rest) R := exs_list h hz hk hs r
end
end
section
def win (b sub : Array UInt8) : Option (Nat × Nat) := if (Builtin.Bytes.window b.size none none).2 - (Builtin.Bytes.window b.size none none).1 < (sub.size : Int) then none else some ((Builtin.Bytes.window b.size none none).1.toNat, (Builtin.Bytes.window b.size none none).2.toNat)
def fnd (b sub : Array UInt8) : Int := match (win b sub).bind fun x => Builtin.Bytes.find? b sub x.1 x.2 with
  | some i => (i : Int)
  | none => -1
theorem gives_bytes_find (b sub : Array UInt8) (t u : Tok) : Gives (Builtin.«bytes.find» ⟨[.bytes b t, .bytes sub u], []⟩) (.int (fnd b sub)) :=
  .of_wp fun M A E s Q h => by
    obtain ⟨hp, g, d, tk, os⟩ := s
    unfold Builtin.«bytes.find» Builtin.Bytes.searchM Builtin.Bytes.searchArgs
    refine wpAny_bind ?_
    refine wpAny_bind (wpAny_of_eq (a := (.bytes b t, [.bytes sub u])) rfl ?_)
    refine wpAny_bind (wpAny_of_eq (a := none) rfl ?_)
    refine wpAny_bind (wpAny_of_eq (a := none) rfl ?_)
    refine wpAny_bind (wpAny_of_eq (a := some sub) KBy.buffer_eq ?_)
    refine wpAny_of_eq (a := (b, sub, win b sub)) rfl ?_
    have e : ((win b sub).bind fun x => match x with | (lo, hi) => if false = true then Builtin.Bytes.rfind? b sub lo hi else Builtin.Bytes.find? b sub lo hi) = (win b sub).bind fun x => Builtin.Bytes.find? b sub x.1 x.2 := rfl
    show wpAny M A (match (win b sub).bind fun x => Builtin.Bytes.find? b sub x.1 x.2 with
          | some i => retInt (i : Int)
          | none => do
            rule _
            if false = true then raiseErrorWords "ValueError" "subsection not found" else retInt (-1)) _ _ _
    unfold fnd at h
    cases q : (win b sub).bind fun x => Builtin.Bytes.find? b sub x.1 x.2 with
    | some i =>
      rw [q] at h
      show wpAny M A (retInt (i : Int)) _ _ _
      wp_walk
      exact ⟨_, rfl, h⟩
    | none =>
      rw [q] at h
      refine wpAny_bind (wpAny_rule ?_)
      show wpAny M A (retInt (-1)) _ _ _
      wp_walk
      exact ⟨_, rfl, h⟩
theorem slot_bytes_find : Slot "bytes" "find" "bytes.find" :=
  .of (owner := "bytes") (n := "find") (by rw [typeLookup_type, builtinLookup_eq_fast]; kernel_rfl) (by decide +kernel) (by decide +kernel) (by decide +kernel)
    (by first | exact .inl (by decide +kernel) | exact .inr (by decide +kernel)) (by rw [isSubtype_type]; kernel_rfl)
theorem entry_bytes_find : entryFor table "bytes.find" = some Builtin.«bytes.find» := entryFor_of_tree (by kernel_rfl)
theorem args_bytes_find_2 (a b : Value) : argsOk "bytes.find" ⟨[a, b], []⟩ := by
  unfold argsOk; rw [signature?_of (id := "bytes.find") (n := ['d', 'n', 'i', 'f']) (o := ['s', 'e', 't', 'y', 'b']) (by kernel_rfl) FB.owner_bytes]; kernel_rfl
theorem type_bytes_find : typeOf (.builtin "bytes.find") = pure (.type "method_descriptor") := by kernel_rfl
theorem meth_bfind {l : List Nat} : Meth (.bytes l) "find" "bytes.find" := by
  intro w A s Z v pl Q E t k
  cases t using Tr.bytesC
  exact KBd.method_of _ (PySem.W.typeIs_bytes _ _ _) slot_bytes_find type_bytes_find (fun a e => by cases e) k
theorem extract_one {b : Array UInt8} {i : Nat} (h : i < b.size) : (b.extract i (i + 1) == #[(0 : UInt8)]) = (b.toList.getD i 1 == 0) := by
  have e : b.extract i (i + 1) = #[b[i]] := by
    apply Array.ext
    · simp; omega
    · intro j h1 h2
      simp at h2
      subst h2
      simp
  rw [e, List.getD_eq_getElem?_getD, List.getElem?_eq_getElem (by simpa using h)]
  simp [Bool.eq_iff_iff]
theorem fnd_0 (b : Array UInt8) : fnd b #[0] = match (List.range b.size).find? fun i => b.toList.getD i 1 == 0 with | some i => (i : Int) | none => -1 := by
  have hw : win b #[0] = if b.size = 0 then none else some (0, b.size) := by
    unfold win Builtin.Bytes.window
    by_cases h : b.size = 0
    · simp [h]
    · simp [h]; omega
  unfold fnd
  rw [hw]
  by_cases h : b.size = 0
  · rw [if_pos h]; simp [h]
  · rw [if_neg h]
    show (match Builtin.Bytes.find? b #[0] 0 b.size with | some i => (i : Int) | none => -1) = _
    have : Builtin.Bytes.find? b #[0] 0 b.size = (List.range b.size).find? fun i => b.toList.getD i 1 == 0 := by
      unfold Builtin.Bytes.find?
      rw [show (List.range (b.size + 1 - (0 + (#[(0 : UInt8)]).size))).map (· + 0) = List.range b.size by simp]
      have : ∀ (r : List Nat), (∀ i ∈ r, i < b.size) → r.find? (fun i => b.extract i (i + (#[(0 : UInt8)]).size) == #[0]) = r.find? fun i => b.toList.getD i 1 == 0 := by
        intro r hr
        induction r with
        | nil => rfl
        | cons a r ih =>
          rw [List.find?_cons, List.find?_cons, ih fun i hi => hr i (.tail _ hi)]
          rw [show b.extract a (a + (#[(0 : UInt8)]).size) = b.extract a (a + 1) from rfl, extract_one (hr a (.head _))]
      exact this _ fun i hi => by simpa using hi
    rw [this]
theorem u8_0 (c : UInt8) : (c == 0) = (c.toNat == 0) := by
  rw [Bool.eq_iff_iff]
  simp only [beq_iff_eq]
  exact ⟨fun h => by rw [h]; rfl, fun h => UInt8.toNat_inj.mp (by rw [h]; rfl)⟩
theorem op_bfind {l p r : List Nat} {n : Nat} (hl : l = p ++ 0 :: r) (hp : 0 ∉ p) : OpC (.builtin "bytes.find") n [.bytes l, .bytes [0]] (· = .int (p.length : Nat)) := by
  refine .mk fun w A s Z vs R t => ?_
  cases t using TrL.c2 with
  | cons t t' => cases t using Tr.bytesC with
      | @bytes b u e => cases t' using Tr.bytesC with
        | @bytes b' u' e' =>
          have hb' : b' = #[0] := by
            have : b'.toList.map UInt8.toNat = [0] := e'
            cases hq : b'.toList with
            | nil => rw [hq] at this; cases this
            | cons a q =>
              rw [hq] at this
              simp at this
              obtain ⟨h1, h2⟩ := this
              have : a = 0 := UInt8.toNat_inj.mp (by rw [h1]; rfl)
              subst this; subst h2
              exact Array.toList_inj.mp hq
          subst hb'
          refine do_const R.zok fun Q E q => call_gives slot_bytes_find (PySem.W.typeIs_bytes _ _ _) entry_bytes_find (args_bytes_find_2 _ _) (gives_bytes_find b #[0] u u') (q _ _ ?_)
          have hf : fnd b #[0] = (p.length : Nat) := by
            rw [fnd_0]
            have hsz : b.size = l.length := by rw [← e, bN_size]
            have hg : ∀ i, i < l.length → (b.toList.getD i 1 == 0) = (l.getD i 1 == 0) := by
              intro i hi
              rw [u8_0, ← e]
              congr 1
              simp only [bN, List.getD_eq_getElem?_getD, List.getElem?_map]
              rw [List.getElem?_eq_getElem (by simpa [hsz] using hi)]
              rfl
            have : (List.range b.size).find? (fun i => b.toList.getD i 1 == 0) = some p.length := by
              rw [List.find?_range_eq_some]
              rw [hsz]
              refine ⟨?_, ?_, ?_⟩
              · rw [hg _ (by rw [hl]; simp), hl]; simp
              · rw [hl]; simp
              · intro j hj
                rw [hg _ (by rw [hl]; simp; omega), hl, List.getD_eq_getElem?_getD, List.getElem?_append_left hj, List.getElem?_eq_getElem hj]
                simp
                intro q
                exact hp (q ▸ List.getElem_mem hj)
            rw [this]
          rw [hf]; exact .int _ _
theorem op_bfind_none {l : List Nat} {n : Nat} (hp : 0 ∉ l) : OpC (.builtin "bytes.find") n [.bytes l, .bytes [0]] (· = .int (-1)) := by
  refine .mk fun w A s Z vs R t => ?_
  cases t using TrL.c2 with
  | cons t t' => cases t using Tr.bytesC with
      | @bytes b u e => cases t' using Tr.bytesC with
        | @bytes b' u' e' =>
          have hb' : b' = #[0] := by
            have : b'.toList.map UInt8.toNat = [0] := e'
            cases hq : b'.toList with
            | nil => rw [hq] at this; cases this
            | cons a q =>
              rw [hq] at this
              simp at this
              obtain ⟨h1, h2⟩ := this
              have : a = 0 := UInt8.toNat_inj.mp (by rw [h1]; rfl)
              subst this; subst h2
              exact Array.toList_inj.mp hq
          subst hb'
          refine do_const R.zok fun Q E q => call_gives slot_bytes_find (PySem.W.typeIs_bytes _ _ _) entry_bytes_find (args_bytes_find_2 _ _) (gives_bytes_find b #[0] u u') (q _ _ ?_)
          have hf : fnd b #[0] = -1 := by
            rw [fnd_0]
            have hsz : b.size = l.length := by rw [← e, bN_size]
            have : (List.range b.size).find? (fun i => b.toList.getD i 1 == 0) = none := by
              rw [List.find?_eq_none]
              intro i hi
              have hi : i < b.size := by simpa using hi
              rw [u8_0, List.getD_eq_getElem?_getD, List.getElem?_eq_getElem (by simpa using hi)]
              simp only [Option.getD_some, beq_iff_eq]
              intro q
              refine hp ?_
              rw [← e, ← q]
              exact List.mem_map.mpr ⟨_, List.getElem_mem _, rfl⟩
            rw [this]
          rw [hf]; exact .int _ _
end
section
theorem take_eq {id : String} {b : Array UInt8} {t : Tok} : Builtin.Bytes.takeBuffer? id (.bytes b t) 0 = pure (some (b, none)) := by
  unfold Builtin.Bytes.takeBuffer?
  rw [KBy.special_eq KBy.look_buffer, KBy.own_buffer, show ((0 : Int) == Builtin.Bytes.fullReadOnly) = false from rfl, KBy.buffer_eq]
  rfl
theorem joined_go : ∀ (bs : List (Array UInt8)) (k : Nat) (acc : Array UInt8), ((bs.zipIdx k).foldl (fun out (p : Array UInt8 × Nat) => (if p.2 > 0 then out ++ (#[] : Array UInt8) else out) ++ p.1) acc).toList = acc.toList ++ (bs.map Array.toList).flatten
  | [], _, acc => by simp
  | b :: bs, k, acc => by
    rw [List.zipIdx_cons, List.foldl_cons, joined_go bs (k + 1)]
    simp
theorem joined_nil (bs : List (Array UInt8)) : (Builtin.Bytes.joined #[] bs).toList = (bs.map Array.toList).flatten := by
  unfold Builtin.Bytes.joined
  have := joined_go bs 0 #[]
  simpa using this
inductive BytesAre : List Value → List (Array UInt8) → Prop
  | nil : BytesAre [] []
  | cons (b : Array UInt8) (t : Tok) {vs bs} : BytesAre vs bs → BytesAre (.bytes b t :: vs) (b :: bs)
theorem BytesAre.at : ∀ {vs : List Value} {bs : List (Array UInt8)} (_ : BytesAre vs bs) (i : Nat), i < vs.length → ∃ b t, bs[i]? = some b ∧ vs[i]? = some (.bytes b t)
  | _, _, .nil, i, h => by simp at h
  | _, _, .cons b t r, 0, _ => ⟨b, t, rfl, rfl⟩
  | _, _, .cons b t r, i + 1, h => by simpa using r.at i (by simpa using h)
theorem BytesAre.length : ∀ {vs : List Value} {bs : List (Array UInt8)} (_ : BytesAre vs bs), vs.length = bs.length
  | _, _, .nil => rfl
  | _, _, .cons b t r => by simp [r.length]
section
variable {M : Model} {A : Around} {E : Value → Shared → Prop} {s : Shared}
theorem bj_take {id : String} {b : Array UInt8} {t : Tok} {Q : Option (Array UInt8 × Option Value) → Shared → Prop} (h : Q (some (b, none)) s) : wpAny M A (Builtin.Bytes.takeBufferQuiet? id (.bytes b t) 0) Q E s := by
  unfold Builtin.Bytes.takeBufferQuiet?
  exact wpAny_bind (wpAny_attempt (wpAny_of_eq take_eq (wpAny_pure h)))
theorem bj_letGo {keep : List Value} {Q : Unit → Shared → Prop} : ∀ (tk : List (Value × Option Value)) (s : Shared), (∀ x ∈ tk, ∃ b t', x = (Value.bytes b t', none)) → Q () s → wpAny M A (Builtin.Bytes.joinLetGo tk keep) Q E s
  | [], s, _, h => by unfold Builtin.Bytes.joinLetGo; exact wpAny_pure h
  | x :: tk, s, hx, h => by
    obtain ⟨b, t', rfl⟩ := hx _ (.head _)
    unfold Builtin.Bytes.joinLetGo
    refine wpAny_bind ?_
    exact wpAny_letGo (bj_letGo tk s (fun x q => hx x (.tail _ q)) h)
theorem bj_many {t : Tok} {a : Addr} {vs : List Value} {bs : List (Array UInt8)} {R : Fin → Shared → Prop} (hl : s.heap.IsList a vs.toArray) (hb : BytesAre vs bs) (h1 : vs.length ≠ 1)
    (hz : bs.toArray.foldl (· + ·.size) ((#[] : Array UInt8).size * (bs.toArray.size - 1)) ≤ 16777216) (hz' : ((bs.map Array.toList).flatten).length ≤ 16777216)
    (h : ∀ t' k, R (.done (.ret (.bytes (Builtin.Bytes.joined #[] bs) t'))) { s with toks := k }) : wpAny M A (Builtin.«bytes.join» ⟨[.bytes #[] t, .ref a], []⟩) R E s := by
  obtain ⟨o, ho, hc, n, hd⟩ := id hl
  obtain ⟨xs, hxs⟩ : ∃ xs, xs = vs.toArray := ⟨_, rfl⟩
  rw [← hxs] at hd
  unfold Builtin.«bytes.join» Builtin.Bytes.joinM
  refine wpAny_bind (wpAny_of_eq (a := (.bytes #[] t, .ref a)) rfl ?_)
  refine wpAny_bind ?_
  show wpAny _ _ (Builtin.Bytes.joinItems (.ref a)) _ _ _
  unfold Builtin.Bytes.joinItems
  refine wpAny_bind (wpAny_typeOf_ref ho ?_)
  rw [hc]
  refine wpAny_pure ?_
  refine wpAny_bind (wpAny_seqItems ho hd ?_)
  dsimp only
  have loop : ∀ (f : Nat → Array (Array UInt8) × List (Value × Option Value) → Sem (ForInStep (Array (Array UInt8) × List (Value × Option Value)))) (K : Array (Array UInt8) × List (Value × Option Value) → Sem Fin),
      (∀ i p tk s', i < vs.length → (∀ x ∈ tk, x.1.onHeap = false) → s'.heap = s.heap → ∀ (Q : ForInStep (Array (Array UInt8) × List (Value × Option Value)) → Shared → Prop), (∀ b t', bs[i]? = some b → vs[i]? = some (.bytes b t') → Q (.yield (p.push b, tk ++ [(.bytes b t', none)])) s') → wpAny M A (f i (p, tk)) Q E s') →
      (∀ tk, (∀ x ∈ tk, ∃ b t', x = (Value.bytes b t', none)) → wpAny M A (K (bs.toArray, tk)) R E s) →
      wpAny M A (forIn [:xs.size] (#[], []) f >>= K) R E s := by
    intro f K turn fin
    have hvl := hb.length
    rw [KPc.range_list]
    refine wpAny_bind (wpAny_forIn_list f (fun rest (b : Array (Array UInt8) × List (Value × Option Value)) s' => s' = s ∧ ∃ i, i ≤ vs.length ∧ rest = List.range' i (vs.length - i) 1 ∧ b.1 = (bs.take i).toArray ∧ ∀ x ∈ b.2, ∃ b t', x = (Value.bytes b t', none)) _ (fun x rest b s' hI => ?_) (fun b s' hI => ?_) _ _ ⟨rfl, 0, Nat.zero_le _, by rw [hxs]; simp, rfl, fun x h => nomatch h⟩)
    · obtain ⟨rfl, i, hi, hr, hp, htk⟩ := hI
      have hlt : i < vs.length := by
        rcases Nat.lt_or_ge i vs.length with h | h
        · exact h
        · rw [show vs.length - i = 0 by omega] at hr; cases hr
      rw [show vs.length - i = (vs.length - (i + 1)) + 1 by omega, List.range'_succ] at hr
      obtain ⟨hx, hr⟩ := List.cons.inj hr
      subst hx
      obtain ⟨p, tk⟩ := b
      refine turn x p tk _ hlt (fun y hy => by obtain ⟨b, t', rfl⟩ := htk y hy; rfl) rfl _ fun b t' hb1 hv1 => ⟨rfl, x + 1, hlt, hr, ?_, fun y hy => ?_⟩
      · show p.push b = _
        rw [show p = (bs.take x).toArray from hp, List.take_add_one, hb1]; simp
      · rcases List.mem_append.mp hy with hy | hy
        · exact htk y hy
        · rw [List.mem_singleton.mp hy]; exact ⟨b, t', rfl⟩
    · obtain ⟨rfl, i, hi, hr, hp, htk⟩ := hI
      have hge : i = vs.length := by
        rcases Nat.lt_or_ge i vs.length with h | h
        · rw [show vs.length - i = (vs.length - (i + 1)) + 1 by omega, List.range'_succ] at hr; cases hr
        · omega
      obtain ⟨p, tk⟩ := b
      have : p = bs.toArray := by rw [show p = (bs.take i).toArray from hp, List.take_of_length_le (by omega)]
      subst this
      exact fin tk htk
  refine bm_if_true rfl ?_
  have key : ∀ (f : Value → Sem Fin) (g : Sem Fin), xs.size ≠ 1 → wpAny M A g R E s → wpAny M A (Builtin.Bytes.joinM.match_1 (fun _ => Sem Fin) xs f fun _ => g) R E s := by
    intro f g hx hg
    obtain ⟨l⟩ := xs
    rcases l with _ | ⟨v1, _ | ⟨v2, r⟩⟩
    · exact hg
    · exact absurd rfl hx
    · exact hg
  refine key _ _ (by rw [hxs]; simpa using h1) ?_
  refine loop _ _ (fun i p tk s' hi htk hs Q k => ?_) fun tk htk => ?_
  · obtain ⟨b, t', hb1, hv1⟩ := hb.at i hi
    have hg : xs.getD i Value.none = .bytes b t' := by rw [hxs]; simp [Array.getD_eq_getD_getElem?, hv1]
    refine wpAny_bind (wpAny_seqItems (by rw [hs]; exact ho) hd ?_)
    dsimp only
    rw [hg]
    refine bm_if_false ?_ ?_
    · rw [Bool.or_eq_false_iff]
      refine ⟨rfl, List.any_eq_false.mpr fun x hx => by rw [htk x hx]; exact Bool.false_ne_true⟩
    refine wpAny_bind (wpAny_holding (bj_take ?_))
    dsimp only
    refine wpAny_bind (wpAny_seqItems (by rw [hs]; exact ho) hd ?_)
    dsimp only
    refine bm_if_false (by simp) (wpAny_pure (k b t' hb1 hv1))
  · dsimp only
    refine wpAny_bind (wpAny_of_eq (a := #[]) rfl ?_)
    refine bm_if_false (decide_eq_false fun q => absurd (Nat.lt_of_lt_of_le q hz) (by decide)) ?_
    refine wpAny_bind ?_
    show wpAny M A (mkBytes (Builtin.Bytes.joined #[] bs)) _ _ _
    refine wpAny_mkBytes ?_ (by rw [sizeLine_is, ← Array.length_toList, joined_nil]; exact hz')
    refine wpAny_bind (wpAny_holding (wpAny_point ?_))
    refine wpAny_bind (bj_letGo tk _ htk ?_)
    exact wpAny_pure (h _ _)
theorem bj_one {t : Tok} {a : Addr} {b : Array UInt8} {t' : Tok} {R : Fin → Shared → Prop} (hl : s.heap.IsList a [Value.bytes b t'].toArray) (h : R (.done (.ret (.bytes b t'))) s) : wpAny M A (Builtin.«bytes.join» ⟨[.bytes #[] t, .ref a], []⟩) R E s := by
  obtain ⟨o, ho, hc, n, hd⟩ := id hl
  unfold Builtin.«bytes.join» Builtin.Bytes.joinM
  refine wpAny_bind (wpAny_of_eq (a := (.bytes #[] t, .ref a)) rfl ?_)
  refine wpAny_bind ?_
  show wpAny _ _ (Builtin.Bytes.joinItems (.ref a)) _ _ _
  unfold Builtin.Bytes.joinItems
  refine wpAny_bind (wpAny_typeOf_ref ho ?_)
  rw [hc]
  refine wpAny_pure ?_
  refine wpAny_bind (wpAny_seqItems ho hd ?_)
  dsimp only
  refine bm_if_true rfl ?_
  refine wpAny_bind (wpAny_typeOf (PySem.W.typeIs_bytes _ _ _) ?_)
  refine bm_if_true (by decide) ?_
  refine wpAny_bind (wpAny_rule ?_)
  exact wpAny_pure h
end
end
section
theorem slot_bytes_join : Slot "bytes" "join" "bytes.join" :=
  .of (owner := "bytes") (n := "join") (by rw [typeLookup_type, builtinLookup_eq_fast]; kernel_rfl) (by decide +kernel) (by decide +kernel) (by decide +kernel)
    (by first | exact .inl (by decide +kernel) | exact .inr (by decide +kernel)) (by rw [isSubtype_type]; kernel_rfl)
theorem entry_bytes_join : entryFor table "bytes.join" = some Builtin.«bytes.join» := entryFor_of_tree (by kernel_rfl)
theorem args_bytes_join_2 (a b : Value) : argsOk "bytes.join" ⟨[a, b], []⟩ := by
  unfold argsOk; rw [signature?_of (id := "bytes.join") (n := ['n', 'i', 'o', 'j']) (o := ['s', 'e', 't', 'y', 'b']) (by kernel_rfl) FB.owner_bytes]; kernel_rfl
theorem type_bytes_join : typeOf (.builtin "bytes.join") = pure (.type "method_descriptor") := by kernel_rfl
theorem meth_bjoin {l : List Nat} : Meth (.bytes l) "join" "bytes.join" := by
  intro w A s Z v pl Q E t k
  cases t using Tr.bytesC
  exact KBd.method_of _ (PySem.W.typeIs_bytes _ _ _) slot_bytes_join type_bytes_join (fun a e => by cases e) k
theorem meets_bj {t : Tok} {a : Addr} {vs : List Value} {bs : List (Array UInt8)} : Meets (Builtin.«bytes.join» ⟨[.bytes #[] t, .ref a], []⟩) (fun _ R s => s.heap.IsList a vs.toArray ∧ BytesAre vs bs ∧ (bs.map Array.size).sum ≤ 16777216 ∧ ∀ b t' k, b.toList = (bs.map Array.toList).flatten → R (.ok (.ret (.bytes b t'))) { s with toks := k }) := by
  refine .of_wp fun prog w A R s hS => ?_
  obtain ⟨hl, hb, hz, h⟩ := hS
  have hz2 : ∀ (l : List (Array UInt8)) (z : Nat), l.toArray.foldl (· + ·.size) z = z + (l.map Array.size).sum := by
    intro l
    induction l with
    | nil => intro z; simp
    | cons b l ih => intro z; have := ih (z + b.size); simp only [List.foldl_toArray, List.foldl_cons, List.map_cons, List.sum_cons] at this ⊢; omega
  have hz3 : ((bs.map Array.toList).flatten).length = (bs.map Array.size).sum := by
    rw [List.length_flatten, List.map_map]; congr 1
  by_cases h1 : vs.length = 1
  · cases hb with
    | nil => simp at h1
    | @cons b t' vs bs r =>
      cases r with
      | nil => exact bj_one hl ⟨_, rfl, h b t' s.toks (by simp)⟩
      | cons c t'' r => simp at h1
  · exact bj_many hl hb h1 (by rw [hz2]; simpa using hz) (by rw [hz3]; exact hz) fun t' k => ⟨_, rfl, h _ t' k (joined_nil bs)⟩
theorem TrL.bys {h : Heap} {Z : Addr → Prop} : ∀ {ls : List (List Nat)} {vs : List Value} (_ : TrL h Z vs (ls.map D.bytes)), ∃ bs, BytesAre vs bs ∧ bs.map bN = ls
  | [], _, .nil => ⟨[], .nil, rfl⟩
  | l :: ls, _, .cons t r => by
    obtain ⟨bs, h1, h2⟩ := TrL.bys r
    cases t using Tr.bytesC with
    | bytes b t e => exact ⟨b :: bs, .cons b t h1, by rw [List.map_cons, h2, e]⟩
theorem op_bjoin {n : Nat} {ls : List (List Nat)} (hz : (ls.map List.length).sum ≤ 16777216) : OpC (.builtin "bytes.join") n [.bytes [], .list (ls.map D.bytes)] (· = .bytes ls.flatten) := by
  refine .mk fun w A s Z vs R t => ?_
  cases t using TrL.c2 with
  | cons t t' => cases t using Tr.bytesC with
      | @bytes b u e => cases t' using Tr.listC with
        | list hz' hl ht =>
          have hb' : b = #[] := by
            have : b.toList.map UInt8.toNat = [] := e
            exact Array.toList_inj.mp (by simpa using this)
          subst hb'
          obtain ⟨bs, h1, h2⟩ := ht.bys
          refine do_const R.zok fun Q E q => call_meets slot_bytes_join (PySem.W.typeIs_bytes _ _ _) entry_bytes_join (args_bytes_join_2 _ _) (meets_bj (bs := bs)) ⟨hl, h1, ?_, fun b' t' k hb => q _ k (.bytes _ _ ?_)⟩
          · have : bs.map Array.size = ls.map List.length := by rw [← h2, List.map_map]; apply List.map_congr_left; intro b _; simp [bN]
            rw [this]; exact hz
          · unfold bN
            rw [hb, ← h2, List.map_flatten, List.map_map]; rfl
end
section
/-- texts without the sign are told from their join -/
theorem joinN_inj {c : Nat} : ∀ {ps ws : List (List Nat)}, ps ≠ [] → ws ≠ [] → (∀ p ∈ ps, c ∉ p) → (∀ w ∈ ws, c ∉ w) → joinN [c] ps = joinN [c] ws → ps = ws
  | [], _, h, _, _, _, _ => absurd rfl h
  | _, [], _, h, _, _, _ => absurd rfl h
  | [p], [w], _, _, _, _, e => by rw [show p = w from e]
  | [p], w :: v :: ws, _, _, hp, _, e => by
    exfalso
    have e : p = w ++ [c] ++ joinN [c] (v :: ws) := e
    exact hp p (.head _) (by rw [e]; simp)
  | p :: q :: ps, [w], _, _, _, hw, e => by
    exfalso
    have e : p ++ [c] ++ joinN [c] (q :: ps) = w := e
    exact hw w (.head _) (by rw [← e]; simp)
  | p :: q :: ps, w :: v :: ws, _, _, hp, hw, e => by
    have e : p ++ [c] ++ joinN [c] (q :: ps) = w ++ [c] ++ joinN [c] (v :: ws) := e
    have hp0 := hp p (.head _); have hw0 := hw w (.head _)
    have key : ∀ (p w x y : List Nat), c ∉ p → c ∉ w → p ++ c :: x = w ++ c :: y → p = w ∧ x = y := by
      intro p
      induction p with
      | nil =>
        intro w x y _ hw e
        cases w with
        | nil => exact ⟨rfl, by simpa using e⟩
        | cons a w => simp at e; exact absurd (by rw [e.1]; exact .head _) hw
      | cons a p ih =>
        intro w x y hp hw e
        cases w with
        | nil => simp at e; exact absurd (by rw [← e.1]; exact .head _) hp
        | cons b w =>
          simp at e
          obtain ⟨h1, h2⟩ := ih w x y (fun q => hp (.tail _ q)) (fun q => hw (.tail _ q)) e.2
          exact ⟨by rw [e.1, h1], h2⟩
    obtain ⟨h1, h2⟩ := key p w _ _ hp0 hw0 (by simpa using e)
    rw [h1, joinN_inj (by simp) (by simp) (fun x hx => hp x (.tail _ hx)) (fun x hx => hw x (.tail _ hx)) h2]
theorem split_spec (x : Str) (c : Nat) : joinN [c] ((Txt.split x ⟨#[c]⟩).map fun p => p.cps.toList) = x.cps.toList ∧ ∀ p ∈ Txt.split x ⟨#[c]⟩, c ∉ p.cps.toList := by
  refine ⟨?_, fun p hp => StrLaws.split_free x c p hp⟩
  have := join_str ⟨#[c]⟩ (Txt.split x ⟨#[c]⟩)
  rw [StrLaws.join_split] at this
  exact this.symm
theorem trL_strs {h : Heap} {Z : Addr → Prop} : ∀ (l : List (Str × Tok)), TrL h Z (strValues l) ((l.map (·.1)).map fun p => D.str p.cps.toList)
  | [] => .nil
  | (x, t) :: r => .cons (.str x t rfl) (trL_strs r)
theorem op_split {n c : Nat} {l : List Nat} (hz : l.length ≤ 1000000) : OpC (.builtin "str.split") n [.str l, .str [c]] (fun d => ∃ ps : List (List Nat), d = .list (ps.map D.str) ∧ ps ≠ [] ∧ joinN [c] ps = l ∧ ∀ p ∈ ps, c ∉ p) := by
  refine .mk fun w A s Z vs R t Q E q => ?_
  cases t using TrL.c2 with
  | cons t t' => cases t using Tr.strC with
      | @str x t e => cases t' using Tr.strC with
        | @str y u e' =>
          have hy : y = ⟨#[c]⟩ := by
            obtain ⟨⟨a⟩⟩ := y
            simp at e'; rw [e']
          subst hy
          have hxl : x.length = l.length := by rw [← e]; simp [Str.length]
          have fin : ∀ (l' : List (Str × Tok)) (k : Nat), l'.map (·.1) = Txt.split x ⟨#[c]⟩ → Q (.ref s.heap.objs.size) { s with heap := s.heap.push { cls := .type "list", data := .seq (strValues l').toArray }, toks := k } := by
            intro l' k hl'
            have X := Ext.new (s := s) (tk := k) (h := s.heap.push { cls := .type "list", data := .seq (strValues l').toArray }) R.zok (fun a o e => Heap.get?_push_of_some _ e) (get_size _) (by rw [Heap.get?_push_size _ rfl]; rfl)
            obtain ⟨h1, h2⟩ := split_spec x c
            refine q _ _ _ _ X (.list (.inr rfl) ⟨_, Heap.get?_push_size _ rfl, rfl, 0, rfl⟩ (trL_strs l')) ⟨(Txt.split x ⟨#[c]⟩).map fun p => p.cps.toList, by rw [hl', List.map_map]; rfl, ?_, by rw [h1, e], fun p hp => ?_⟩
            · intro q0
              have := (fact_split x ⟨#[c]⟩).1
              rw [List.map_eq_nil_iff] at q0
              rw [q0] at this
              simp at this
            · obtain ⟨p', hp', rfl⟩ := List.mem_map.mp hp
              exact h2 p' hp'
          have hn : (Builtin.Str.partsBetween x (Builtin.Str.occurrences x ⟨#[c]⟩ 0 x.length (x.length + 1)) (⟨#[c]⟩ : Str).length).length ≤ sizeLine := by
            have e1 := StrLaws.occ_length_le x ⟨#[c]⟩ 0 x.length (x.length + 1)
            rw [length_partsBetween, sizeLine_is]; omega
          cases h1 : (decide (x.length < (⟨#[c]⟩ : Str).length) || decide (Builtin.Str.strKind x < Builtin.Str.strKind ⟨#[c]⟩))
          · cases hf : (Builtin.Str.occurrences x ⟨#[c]⟩ 0 x.length (x.length + 1)).isEmpty
            · refine call_meets F.slot_str_split (typeIs_str _ _ _) F.entry_str_split (F.args_str_split_2 _ _) (meets_str_split_sep x ⟨#[c]⟩ t u h1 rfl hf (by rw [sizeLine_is]; omega) hn) ?_
              show wants Q E _ { s with toks := _, heap := s.heap.push { cls := .type "list", data := .seq (strsFrom s.toks (Builtin.Str.partsBetween x (Builtin.Str.occurrences x ⟨#[c]⟩ 0 x.length (x.length + 1)) (⟨#[c]⟩ : Str).length)).toArray } }
              rw [strsFrom_eq]
              exact fin (numbered s.toks _) _ ((numbered_texts _ _).trans ((if_neg (ne_true_of_eq_false h1)).trans (if_neg (ne_true_of_eq_false hf))).symm)
            · exact call_meets F.slot_str_split (typeIs_str _ _ _) F.entry_str_split (F.args_str_split_2 _ _) (meets_str_split_not_found x ⟨#[c]⟩ t u h1 rfl hf)
                (fin [(x, t)] s.toks ((if_neg (ne_true_of_eq_false h1)).trans (if_pos hf)).symm)
          · exact call_meets F.slot_str_split (typeIs_str _ _ _) F.entry_str_split (F.args_str_split_2 _ _) (meets_str_split_cannot_occur x ⟨#[c]⟩ t u h1)
              (fin [(x, t)] s.toks (if_pos h1).symm)
/-- the split of a join -/
theorem op_split_join {n c : Nat} {ws : List (List Nat)} (hz : (joinN [c] ws).length ≤ 1000000) (hw : ∀ w ∈ ws, c ∉ w) : OpC (.builtin "str.split") n [.str (joinN [c] ws), .str [c]] (· = .list ((if ws.isEmpty then [[]] else ws).map D.str)) := by
  refine .mk fun w A s Z vs R t Q E q => ?_
  refine (op_split (n := n) hz).run w A s Z vs R t Q E fun v s' Z' d X tv hd => q v s' Z' d X tv ?_
  obtain ⟨ps, rfl, h1, h2, h3⟩ := hd
  cases ws with
  | nil =>
    have h2 : joinN [c] ps = joinN [c] [[]] := h2
    rw [joinN_inj h1 (by simp) h3 (by simp) h2]; rfl
  | cons a r => rw [joinN_inj h1 (by simp) h3 hw h2]; rfl
end
section
def allBut (h : Heap) (L dx : Addr) : List (Addr × Obj) := (List.range h.objs.size).filterMap fun b => if b = L ∨ b = dx then none else (h.get? b).map fun o => (b, o)
theorem mem_allBut {h : Heap} {L dx : Addr} {p : Addr × Obj} (hp : p ∈ allBut h L dx) : h.get? p.1 = some p.2 ∧ p.1 ≠ L ∧ p.1 ≠ dx := by
  obtain ⟨b, _, hb⟩ := List.mem_filterMap.mp hp
  split at hb
  · cases hb
  · rename_i q
    obtain ⟨o, ho, rfl⟩ := Option.map_eq_some_iff.mp hb
    exact ⟨ho, fun e => q (.inl e), fun e => q (.inr e)⟩
theorem allBut_mem {h : Heap} {L dx b : Addr} {o : Obj} (e : h.get? b = some o) (h1 : b ≠ L) (h2 : b ≠ dx) : (b, o) ∈ allBut h L dx := by
  refine List.mem_filterMap.mpr ⟨b, List.mem_range.mpr (Heap.lt_size e), ?_⟩
  rw [if_neg (fun q => q.elim h1 h2), e]; rfl
section
variable {prog : Program} {w : World} {A : Around} {E : Value → Shared → Prop} {s : Shared} {K : Frag} {x C dx L : Addr} {m : Str → Option Value} {ox : Obj} {es : List DictEntry} {n : Nat} {name : Str} {v : Value}
/-- an attribute is stored in an object's own dict: nothing else is changed, but what a frame's object carries besides its names -/
theorem set_any {Q : Unit → Shared → Prop} (hns : s.heap.Ns L m) (X : K.In s.heap) (hLd : L ≠ dx) (I : InstAt s.heap x ox C (some (dictOf es n))) (hd : ox.dict = some dx) (hdx : s.heap.get? dx = some (dictOf es n))
    (hs : findIn K (.ref C) "__setattr__" = some (some (.builtin "object.__setattr__"))) (hp : plainOver K C = true) (ht : takerIn K C name = some none) (hh : hasDictIn K C = true) (hl : (getL name es).isSome = true)
    (hz : (putL name (PyData.keyHash w.params name) (.str name (s.toks + 1)) v es).length ≤ 1000)
    (h : ∀ h', (∀ b o, b ≠ L → b ≠ dx → s.heap.get? b = some o → h'.get? b = some o) → h'.get? dx = some (dictOf (putL name (PyData.keyHash w.params name) (.str name (s.toks + 1)) v es) (putN name es n)) → h'.Ns L m → Q () { s with heap := h', toks := s.toks + 2 }) :
    wpAny (model prog w) A (setAttr (.ref x) name v) Q E s := by
  have F : Fr { objs := #[] } L s.heap m := ⟨hns, fun b o e => (by cases e), Nat.zero_le _⟩
  have N : News { objs := #[] } L s.heap ([] ++ (dx, dictOf es n) :: allBut s.heap L dx) := by
    intro p hp
    rcases List.mem_cons.mp hp with rfl | hp
    · exact ⟨hdx, Ne.symm hLd, rfl⟩
    · obtain ⟨h1, h2, h3⟩ := mem_allBut hp
      exact ⟨h1, h2, rfl⟩
  refine set_plain X I hs (osa_dict (s := { s with toks := s.toks + 1 }) F N X I hd hp ht hh hl (fun p hp => nomatch hp) (fun p hp => (mem_allBut hp).2.2) (putName_dict ..) rfl hz fun h' F' N' => ?_)
  refine h h' (fun b o h1 h2 e => ?_) (N' (dx, _) (by simp)).1 F'.ns
  exact (N' (b, o) (by simp [allBut_mem e h1 h2])).1
end
end
section
section
variable {c : Cx} {ρ ρ₁ : Rho} {x y : Str} {d₂ : D} {e₂ : Expr} {p q pt ep lp pos : Pos} {k' ek : Nat} {rest : List Stmt} {R : Out → Rho → Prop}
/-- a list that has just been made stays outside what is frozen -/
theorem fresh_list {Z : Addr → Prop} {s : Shared} (S : St c ρ Z s) : (∀ a, (s.heap.get? a).isSome = true → a ≠ s.heap.objs.size) ∧ c.s0.heap.get? s.heap.objs.size = none ∧ ¬ c.V s.heap.objs.size := by
  have hno : ∀ a, (s.heap.get? a).isSome = true → a ≠ s.heap.objs.size := fun a e q => by rw [q, get_size] at e; cases e
  refine ⟨hno, ?_, fun v => hno _ (S.va _ v) rfl⟩
  cases q : c.s0.heap.get? s.heap.objs.size with
  | none => rfl
  | some o => exact absurd (S.keep _ o (fun v => hno _ (S.va _ v) rfl) q) (by rw [get_size]; exact fun e => nomatch e)
/-- x, y = [], e: the list is the frame's own -/
theorem exs_swap_own (d₂ : D) (h : Ev c ρ e₂ ρ d₂) (hno : NoOwn ρ) (hx : c.Sto x) (hy : c.Sto y) (he : starEach [.List [] lp, e₂] c.env = (false, eval (.List [] lp) c.env) :: starEach [e₂] c.env) (he' : starEach [e₂] c.env = (false, eval e₂ c.env) :: starEach [] c.env) (hs : swapsWithSole [.Tuple [.Name x p, .Name y q] k' pt] (.Tuple [.List [] lp, e₂] ek ep) pos.line c.env = pure false)
    (hw : swappedStores [.Tuple [.Name x p, .Name y q] k' pt] (.Tuple [.List [] lp, e₂] ek ep) c.env = pure (some [x, y])) (hxy : y ≠ x) (r : Exs c ((x, .own []) :: (y, .v d₂) :: ρ) rest R) : Exs c ρ (.Assign [.Tuple [.Name x p, .Name y q] k' pt] (.Tuple [.List [] lp, e₂] ek ep) pos :: rest) R := exs_step (.mk fun s Z Q E S k => by
  refine Assign_Tuple_swapped (names := [x, y]) (Tuple_ (spliced_more (List_ (spliced_none (wpAny_newList ?_ (Nat.zero_le _)))) he)) hs hw
  obtain ⟨hn0, hs0, hV0⟩ := fresh_list S
  have X : Ext s Z { s with heap := s.heap.push { cls := .type "list", data := .seq ([] : List Value).toArray } } Z := Ext.of (tk := s.toks) S.zok fun a o e => Heap.get?_push_of_some _ e
  have S₁ := S.ext X
  obtain ⟨a, ha⟩ : ∃ a, a = s.heap.objs.size := ⟨_, rfl⟩
  rw [← ha]
  have hag : (s.heap.push { cls := .type "list", data := .seq ([] : List Value).toArray }).get? a = some (listOf ([] : List Value).toArray 0) := by rw [ha]; exact Heap.get?_push_size _ rfl
  have haZ : ¬ Z a := fun z => hn0 _ (S.zok a z) ha
  refine spliced_more (h.run _ Z _ E S₁ fun v s₂ Z₂ _ S₂ l₂ t₂ e₂' => ?_) he'
  rw [e₂'] at t₂
  have hag₂ := l₂.all _ _ (by rw [ha]; exact hV0) hag
  have haZ₂ : ¬ Z₂ a := fun z => by
    rcases l₂.fz a _ (by rw [ha]; exact hV0) hag z with z | ⟨w, ds, m, z, _⟩
    · exact haZ z
    · exact hno w ds z
  refine spliced_none ?_
  refine wpAny_newTuple ?_ (Nat.le_of_ble_eq_true rfl)
  have X₃ : Ext s₂ Z₂ { s₂ with heap := s₂.heap.push { cls := .type "tuple", data := .seq [Value.ref a, v].toArray } } Z₂ := Ext.of (tk := s₂.toks) S₂.zok fun a o e => Heap.get?_push_of_some _ e
  refine wpAny_unpackItems_tuple S₂.stk.handled (items := #[Value.ref a, v]) ⟨_, Heap.get?_push_size _ rfl, rfl, 0, rfl⟩ fun h' hb => ?_
  have X₄ := ext_but (s := { s₂ with heap := s₂.heap.push { cls := .type "tuple", data := .seq [Value.ref a, v].toArray } }) X₃.zok hb
  have S₄ := (S₂.ext X₃).ext X₄
  show wpAny _ _ (assignInOrder [fun v => bindName c.env y v, fun v => bindName c.env x v] [v, .ref a]) _ _ _
  unfold assignInOrder assignInOrder assignInOrder
  refine wpAny_bind (wpAny_holding (wpAny_bindName (store_v S₄ ((X₃.le.trans X₄.le).tr t₂) hy fun s₅ S₅ l₅ p₅ => ?_)))
  have aL : a ≠ c.L := fun q => hn0 _ S.Lalive (by rw [← ha, q])
  have aC : ∀ w, c.env.cells.lookup w ≠ some a := fun w q => by
    obtain ⟨m, own, l⟩ := S.loc
    obtain ⟨_, _, ⟨o, u, g, _⟩, _⟩ := l.cell w a q
    exact hn0 _ (by rw [g]; rfl) ha
  have hag₅ : s₅.heap.get? a = some (listOf ([] : List Value).toArray 0) := p₅ a _ aL aC (X₄.keep _ _ (X₃.keep _ _ hag₂))
  obtain ⟨m, own, l⟩ := S₅.loc
  have hno₅ : NoOwn ((y, .v d₂) :: ρ) := fun w ds z => by
    rw [List.lookup_cons] at z
    split at z
    · cases z
    · exact hno w ds z
  refine wpAny_bind (wpAny_holding (wpAny_bindName (store_own S₅ (a := a) (vs := []) (ds := []) (k₀ := 0) hag₅ .nil haZ₂ aL (by rw [ha]; exact hs0) (by rw [ha]; exact hV0) l (fun w hw z => by rw [l.no_own hno₅ w] at z; cases z) hx fun s₆ S₆ l₆ _ => ?_)))
  exact wpAny_pure (k .next _ .next _ _ ⟨rfl, rfl⟩ S₆ ((X.le.trans (S₁.ofX l₂)).trans ((X₃.le.trans X₄.le).trans (l₅.trans l₆))) rfl)) r
end
end
section
section
variable {c : Cx} {ρ ρ₁ ρf : Rho} {x y : Str} {d d₂ : D} {e₂ elt iter t : Expr} {p q pt ep lp lp' pos px spos : Pos} {k' ek : Nat} {rest : List Stmt} {R : Out → Rho → Prop} {scope : Scope} {cl : List (Str × Addr)}
/-- as store_own for a local, with what the frame holds behind it -/
theorem store_own_loc {Z : Addr → Prop} {s : Shared} {a : Addr} {vs : List Value} {ds : List D} {k₀ : Nat} {Q : Unit → Shared → Prop} {E : Value → Shared → Prop} (S : St c ρ Z s) (ha : s.heap.get? a = some (listOf vs.toArray k₀)) (t : TrL s.heap Z vs ds)
    (hz : ¬ Z a) (hL : a ≠ c.L) (h0 : c.s0.heap.get? a = none) (hv : ¬ c.V a) {m : Str → Option Value} {own : Str → List Addr} (l : Loc c ρ Z s.heap m own) (hown : ∀ y, y ≠ x → a ∉ own y) (hk : c.env.kindOf x = some .local) (hc : c.env.cells.lookup x = none)
    (k : ∀ s' m', St c ((x, .own ds) :: ρ) Z s' → Loc c ((x, .own ds) :: ρ) Z s'.heap m' (fun y => if y = x then [a] else own y) → Le s.heap Z s'.heap Z → Kp c s s' → Q () s') : wpAny (model PP c.w) c.A (storeName c.env x (.ref a)) Q E s := by
  obtain ⟨oL, es, ep, hoL, hdL, _⟩ := id l.ns
  refine wpAny_storeName_local hk l.ns (fun h' hn hs => ?_) (by show (c.env.scope.kind == .class || (c.env.scope.kind == .module && c.env.locals != c.env.globals)) = false; rw [S.kind]; rfl)
  have hle : Le s.heap Z h' Z := le_upd hs S.zL hoL fun fs q => by rw [hdL] at q; cases q
  have hag : h'.get? a = some (listOf vs.toArray k₀) := (hs.2 a hL).trans ha
  have L' := l.put (x := x) (b := .own ds) (O := [a]) (v := .ref a) hs hn S.zL (.inl ⟨hc, by simp⟩) (fun y hy u hu => ?_) ⟨a, vs, k₀, rfl, rfl, hag, hle.trL t⟩ (fun _ => by obtain ⟨o, _, _, e, _⟩ := hn; rw [show c.env.locals = c.L from rfl] at e; rw [e]; rfl)
      (fun b hb => by rw [List.mem_singleton.mp hb]; exact ⟨hz, hL, h0, by rw [hag]; rfl, hv⟩) (fun b hb y hy => by rw [List.mem_singleton.mp hb]; exact hown y hy) (fun y hy q => (l.off y _ q).2.1 rfl) (fun y o w e e1 e2 => ?_)
  · exact k _ _ (S.upd hs S.zL S.ok.Lnew S.ok.vL ⟨_, _, L'⟩) L' hle fun a o q _ e => (hs.2 a q).trans e
  · rcases hu with ⟨g1, g2⟩ | ⟨a', o, g1, g2, g3⟩
    · exact .inl ⟨g1, by simp only [if_neg hy]; exact g2⟩
    · exact .inr ⟨a', o, g1, (hs.2 a' fun q => by rw [q, hoL] at g2; rw [← Option.some.inj g2, hdL] at g3; cases g3).trans g2, g3⟩
  · rw [hoL] at e1; rw [← Option.some.inj e1, hdL] at e2; cases e2
/-- x, y = [], [] -/
theorem exs_swap_own2 (hx : c.Sto x) (hyk : c.env.kindOf y = some .local) (hyc : c.env.cells.lookup y = none) (he : starEach [.List [] lp, .List [] lp'] c.env = (false, eval (.List [] lp) c.env) :: starEach [.List [] lp'] c.env) (he' : starEach [.List [] lp'] c.env = (false, eval (.List [] lp') c.env) :: starEach [] c.env) (hs : swapsWithSole [.Tuple [.Name x p, .Name y q] k' pt] (.Tuple [.List [] lp, .List [] lp'] ek ep) pos.line c.env = pure false)
    (hw : swappedStores [.Tuple [.Name x p, .Name y q] k' pt] (.Tuple [.List [] lp, .List [] lp'] ek ep) c.env = pure (some [x, y])) (hxy : y ≠ x) (r : Exs c ((x, .own []) :: (y, .own []) :: ρ) rest R) : Exs c ρ (.Assign [.Tuple [.Name x p, .Name y q] k' pt] (.Tuple [.List [] lp, .List [] lp'] ek ep) pos :: rest) R := exs_step (.mk fun s Z Q E S k => by
  refine Assign_Tuple_swapped (names := [x, y]) (Tuple_ (spliced_more (List_ (spliced_none (wpAny_newList ?_ (Nat.zero_le _)))) he)) hs hw
  obtain ⟨hn0, hs0, hV0⟩ := fresh_list S
  have X : Ext s Z { s with heap := s.heap.push { cls := .type "list", data := .seq ([] : List Value).toArray } } Z := Ext.of (tk := s.toks) S.zok fun a o e => Heap.get?_push_of_some _ e
  obtain ⟨m₀, own₀, l₀⟩ := S.loc
  have l₁ := S.extL X l₀
  have S₁ := S.ext X
  obtain ⟨a, ha⟩ : ∃ a, a = s.heap.objs.size := ⟨_, rfl⟩
  rw [← ha]
  have hag : (s.heap.push { cls := .type "list", data := .seq ([] : List Value).toArray }).get? a = some (listOf ([] : List Value).toArray 0) := by rw [ha]; exact Heap.get?_push_size _ rfl
  have haZ : ¬ Z a := fun z => hn0 _ (S.zok a z) ha
  refine spliced_more (List_ (spliced_none (wpAny_newList ?_ (Nat.zero_le _)))) he'
  obtain ⟨hn1, hs1, hV1⟩ := fresh_list S₁
  obtain ⟨s₁, hs₁⟩ : ∃ s₁ : Shared, s₁ = { s with heap := s.heap.push { cls := .type "list", data := .seq ([] : List Value).toArray } } := ⟨_, rfl⟩
  rw [← hs₁] at S₁ hn1 hs1 hV1 X l₁ ⊢
  have hag₁ : s₁.heap.get? a = some (listOf ([] : List Value).toArray 0) := by rw [hs₁]; exact hag
  have X₂ : Ext s₁ Z { s₁ with heap := s₁.heap.push { cls := .type "list", data := .seq ([] : List Value).toArray } } Z := Ext.of (tk := s₁.toks) S₁.zok fun a o e => Heap.get?_push_of_some _ e
  obtain ⟨b, hb⟩ : ∃ b, b = s₁.heap.objs.size := ⟨_, rfl⟩
  rw [← hb]
  have hab : a ≠ b := fun q => hn1 a (by rw [hag₁]; rfl) (by rw [q, hb])
  have hbg : (s₁.heap.push { cls := .type "list", data := .seq ([] : List Value).toArray }).get? b = some (listOf ([] : List Value).toArray 0) := by rw [hb]; exact Heap.get?_push_size _ rfl
  have hbZ : ¬ Z b := fun z => hn1 _ (S₁.zok b z) hb
  have l₂ := S₁.extL X₂ l₁
  have S₂ := S₁.ext X₂
  obtain ⟨s₂, hs₂⟩ : ∃ s₂ : Shared, s₂ = { s₁ with heap := s₁.heap.push { cls := .type "list", data := .seq ([] : List Value).toArray } } := ⟨_, rfl⟩
  rw [← hs₂] at S₂ X₂ l₂ ⊢
  have hag₂ : s₂.heap.get? a = some (listOf ([] : List Value).toArray 0) := X₂.keep _ _ hag₁
  have hbg₂ : s₂.heap.get? b = some (listOf ([] : List Value).toArray 0) := by rw [hs₂]; exact hbg
  refine spliced_none ?_
  refine wpAny_newTuple ?_ (Nat.le_of_ble_eq_true rfl)
  have X₃ : Ext s₂ Z { s₂ with heap := s₂.heap.push { cls := .type "tuple", data := .seq [Value.ref a, Value.ref b].toArray } } Z := Ext.of (tk := s₂.toks) S₂.zok fun a o e => Heap.get?_push_of_some _ e
  refine wpAny_unpackItems_tuple S₂.stk.handled (items := #[Value.ref a, Value.ref b]) ⟨_, Heap.get?_push_size _ rfl, rfl, 0, rfl⟩ fun h' hb' => ?_
  have X₄ := ext_but (s := { s₂ with heap := s₂.heap.push { cls := .type "tuple", data := .seq [Value.ref a, Value.ref b].toArray } }) X₃.zok hb'
  have S₄ := (S₂.ext X₃).ext X₄
  show wpAny _ _ (assignInOrder [fun v => bindName c.env y v, fun v => bindName c.env x v] [.ref b, .ref a]) _ _ _
  unfold assignInOrder assignInOrder assignInOrder
  have aL : a ≠ c.L := fun q => hn0 _ S.Lalive (by rw [← ha, q])
  have bL : b ≠ c.L := fun q => hn1 _ S₁.Lalive (by rw [← hb, q])
  have aC : ∀ w, c.env.cells.lookup w ≠ some a := fun w q => by
    obtain ⟨m, own, l⟩ := S.loc
    obtain ⟨_, _, ⟨o, u, g, _⟩, _⟩ := l.cell w a q
    exact hn0 _ (by rw [g]; rfl) ha
  have l₄' := (S₂.ext X₃).extL X₄ (S₂.extL X₃ l₂)
  refine wpAny_bind (wpAny_holding (wpAny_bindName (store_own_loc S₄ (a := b) (vs := []) (ds := []) (k₀ := 0) (X₄.keep _ _ (X₃.keep _ _ hbg₂)) .nil hbZ bL (by rw [hb]; exact hs1) (by rw [hb]; exact hV1) l₄' (fun w hw z => hn1 b (some_of (X.keep b) (l₀.off w b z).2.2.2.1) hb) hyk hyc fun s₅ m₅ S₅ l l₅ p₅ => ?_)))
  have hag₅ : s₅.heap.get? a = some (listOf ([] : List Value).toArray 0) := p₅ a _ aL aC (X₄.keep _ _ (X₃.keep _ _ hag₂))
  refine wpAny_bind (wpAny_holding (wpAny_bindName (store_own S₅ (a := a) (vs := []) (ds := []) (k₀ := 0) hag₅ .nil haZ aL (by rw [ha]; exact hs0) (by rw [ha]; exact hV0) l (fun w hw z => ?_) hx fun s₆ S₆ l₆ _ => ?_)))
  · by_cases q : w = y
    · rw [if_pos q] at z; exact hab (List.mem_singleton.mp z)
    · rw [if_neg q] at z; exact hn0 a (l₀.off w a z).2.2.2.1 ha
  exact wpAny_pure (k .next _ .next _ _ ⟨rfl, rfl⟩ S₆ ((X.le.trans X₂.le).trans ((X₃.le.trans X₄.le).trans (l₅.trans l₆))) rfl)) r
end
end
section
section
variable {c : Cx} {ρ ρ₁ ρf : Rho} {x y z : Str} {d : D} {elt iter t target : Expr} {p q pt pos px spos : Pos} {rest : List Stmt} {R : Out → Rho → Prop} {scope : Scope} {cl : List (Str × Addr)}
/-- x = [elt for y in iter if t]: a list of the frame's own -/
theorem exs_compIf {α : Type} (f : D → D) (g f' : α → D) (kd : D → Bool) (ka : α → Bool) {as : List α} (h : Ev c ρ iter ρ₁ d) (hd : itemsOf d = some (as.map g)) (hclos : closureFor scope c.env = pure cl) (hk : scope.kind = .function) (hcell : (scope.names.all fun y => y.2 != .cell) = true)
    (hnames : (scope.names.all fun x => x.2 != .local || scope.names.lookup x.1 == some .local) = true) (hcl : CL cl c.env.cells) (hx : ∀ C s0 Z0, (cxComp c scope cl C s0 Z0).Sto y)
    (hf : HF ρf ρ₁ cl) (hs : ∀ x, foldedSetIterable iter c.env x = pure x) (hxf : ρf.lookup y = none) (hz : as.length ≤ 16777216) (hfg : ∀ a, f (g a) = f' a) (hkg : ∀ a, kd (g a) = ka a)
    (ht : ∀ a ∈ as, ∀ C s0 Z0, EvT (cxComp c scope cl C s0 Z0) ((y, .v (g a)) :: ρf) t ((y, .v (g a)) :: ρf) (ka a) ∧ (ka a = true → Ev (cxComp c scope cl C s0 Z0) ((y, .v (g a)) :: ρf) elt ((y, .v (g a)) :: ρf) (f' a)))
    (hsx : c.Sto x) (hsw : swapsWith (.ListComp elt [⟨.Name y p, iter, [t], 0⟩] scope pos) (some (.Name x px)) spos.line c.env = pure true) (r : Exs c ((x, .own ((as.filter ka).map f')) :: ρ₁) rest R) :
    Exs c ρ (.Assign [.Name x px] (.ListComp elt [⟨.Name y p, iter, [t], 0⟩] scope pos) spos :: rest) R := by
  refine exs_cons (ex_comp (bind := fun d ρ => some ((y, .v d) :: ρ)) (keepd := kd) (P := fun a b => b = f a) h hd (by rw [sizeLine_is, List.length_map]; exact hz) hclos hk (fun y hy q => ?_) (fun y hy q => ?_) hcl (fun C s0 Z0 => binds_name (hx C s0 Z0)) hf (fun d hd => ?_) hs hsx hsw) ?_ ?_
  · have := List.all_eq_true.mp hcell y hy; rw [q] at this; cases this
  · have := List.all_eq_true.mp hnames y hy
    rw [q] at this
    simpa using this
  · obtain ⟨a, ha, rfl⟩ := List.mem_map.mp hd
    refine ⟨_, rfl, ?_, ?_, fun C s0 Z0 => ?_⟩
    · intro w b e
      rw [List.lookup_cons]
      split
      · rename_i q; rw [beq_iff_eq.mp q, hxf] at e; cases e
      · exact e
    · intro w ds' e
      rw [List.lookup_cons] at e
      split at e
      · cases e
      · exact (hf w _ e).2.2 _ rfl
    · rw [hkg, hfg]; exact ht a ha C s0 Z0
  · rintro r' ⟨_, rs, rfl, h⟩
    have e : (as.map g).filter kd = (as.filter ka).map g := by
      rw [List.filter_map]
      congr 1
      exact List.filter_congr fun a _ => hkg a
    rw [e] at h
    rw [h.map, List.map_map, show f ∘ g = f' from funext hfg]
    exact r
  · rintro o r' hn ⟨h, _⟩
    exact absurd h hn
end
end
section
section
variable {d₁ d₂ d₃ : D}
/-- three parameters, with defaults that aren't used -/
theorem Fn3d (x y z : Str) {a n : Nat} {P : D → Prop} {name qual : Str} {params : Arguments} {body : List Stmt} {scope : Scope} {dV kV doc pm cdv ct oc : Value} {an od : Option Addr} {osl : Array (Option Value)} {T : Addr} {o : Obj} {items : Array Value} {m : Nat}
    (ho : ∀ w : World, List.lookup a (hd.heap_39 w.params) = some ⟨oc, od, .func (fnX name qual params body scope [] dV kV doc pm an cdv ct), osl⟩) (hcd : ∀ w : World, codeIn (hd.heap_39 w.params) cdv qual = true)
    (hT : ∀ w : World, List.lookup T (hd.heap_39 w.params) = some o) (hdf : dV = .ref T) (hoo : o.data = .seq items m)
    (hbind : ∀ u v t : Value, ∃ k : Option (Array Value) → Sem (List (Str × Value)), bindArgs (fnX name qual params body scope [] dV kV doc pm an cdv ct) ⟨[u, v, t], []⟩ = seqItems? dV >>= k ∧ k (some items) = pure [(x, u), (y, v), (z, t)]) (hloc : scope.names.lookup x = some .local ∧ scope.names.lookup y = some .local ∧ scope.names.lookup z = some .local) (hcell : (scope.names.all fun x => x.2 != .cell) = true)
    (h : ∀ w A0 outer L s0 Z0, Exs (cxFn w qual scope a cdv A0 outer n L s0 Z0 []) [(z, .v d₃), (y, .v d₂), (x, .v d₁)] body fun o _ => ∃ d, o = .ret d ∧ P d)
    (hco : scope.isCoroutine = false) (hgen : scope.isGenerator = false) (hk : scope.kind = .function) : FnP a (n + 1) [d₁, d₂, d₃] P :=
  FnP.intro (names := [x, y, z]) (ρ₀ := [(z, .v d₃), (y, .v d₂), (x, .v d₁)]) ho hcd (fun w s vs X e => by
    rcases vs with _ | ⟨v, _ | ⟨u, _ | ⟨t, _ | ⟨t', r⟩⟩⟩⟩
    · simp at e
    · simp at e
    · simp at e
    · obtain ⟨k, h1, h2⟩ := hbind v u t
      exact BindsTo.of_defaults hdf (X _ _ (hT w)) hoo h1 h2
    · simp at e) (fun w hw => by
      rcases List.mem_cons.mp hw with rfl | hw
      · exact hloc.1
      · rcases List.mem_cons.mp hw with rfl | hw
        · exact hloc.2.1
        · rw [List.mem_singleton.mp hw]; exact hloc.2.2) (fun y hy q => by have := List.all_eq_true.mp hcell y hy; rw [q] at this; cases this) rfl h hco hgen hk
end
end
section
section
variable {c : Cx} {ρ ρ₁ : Rho} {t : Expr} {pos : Pos}
/-- if, both ways of which go on alike; the test may freeze -/
theorem exs_ifG {b : Bool} {aa bb rest : List Stmt} {R : Out → Rho → Prop} (b' : Bool) (I : Rho) (h : EvT c ρ t ρ₁ b) (e : b = b') (ht : b' = true → Exs c ρ₁ aa fun o r => o = .next ∧ Sub I r) (hf : b' = false → Exs c ρ₁ bb fun o r => o = .next ∧ Sub I r) (r : Exs c I rest R) : Exs c ρ (.If t aa bb pos :: rest) R := by
  subst e
  cases b with
  | true => exact exs_cons (ex_if_t h (ht rfl)) (fun r' p => Ex.pre r p.2) fun o r' hn p => absurd p.1 hn
  | false => exact exs_cons (ex_if_f h (hf rfl)) (fun r' p => Ex.pre r p.2) fun o r' hn p => absurd p.1 hn
end
end
section
theorem gl_Advert (w : World) : nsIn (hd.heap_39 w.params) mainGlobals "Advert" = some (some (.ref 211)) := by k_is
theorem kp_Advert (w : World) : keepIn (hd.heap_39 w.params) (.ref 211) = true := by k_is
theorem ec_Advert {c : Cx} {ρ ρ₁ : Rho} {p pos : Pos} {P : D → Prop} {e : Expr} {es : List Expr} {ds : List D} (hk : c.env.kindOf "Advert" = some .globalImplicit) (h : EvL c ρ (e :: es) ρ₁ ds) (o : OpC (.ref 211) 2 ds P) (he : starEach (e :: es) c.env = (false, eval e c.env) :: starEach es c.env) (hp : (backTo pos (starEach es c.env)).any (·.1) = false)
    (h1 : eval (.Call (.Name "Advert" p) (e :: es) [] pos) c.env = (do callWith pos (← eval (.Name "Advert" p) c.env) [] (backTo pos (starEach (e :: es) c.env)) (backToKw pos (keywordEach [] c.env)))) (hn : 2 ≤ c.n) :
    EvP c ρ (eval (.Call (.Name "Advert" p) (e :: es) [] pos) c.env) ρ₁ P := ev_call_fn gl_Advert kp_Advert hk h o rfl he hp h1 hn
end
section
/-- a method that is a def: getMethod gives the def and the object -/
def MethF (d : D) (name : Str) (f : Addr) : Prop := ∀ (w : World) (A : Around) (s : Shared) (Z : Addr → Prop) (v : Value) (pl : Sem Bool) (Q : Value × List Value → Shared → Prop) (E : Value → Shared → Prop), (KF w).In s.heap → Tr s.heap Z v d → Q (.ref f, [v]) s → wpAny (model PP w) A (getMethod v name pl) Q E s
section
variable {c : Cx} {ρ ρ₁ ρ₂ : Rho} {pos p : Pos} {d : D} {P : D → Prop} {n : Nat} {x : Str}
theorem ev_methF {o e : Expr} {name : Str} {apos : Pos} {f : Addr} {es : List Expr} {ds : List D} {pl : Sem Bool} (h₀ : Ev c ρ o ρ₁ d) (m : MethF d name f) (hkp : ∀ w, keepIn (KF w) (.ref f) = true) (h : EvL c ρ₁ (e :: es) ρ₂ ds) (op : OpC (.ref f) n (d :: ds) P)
    (he : starEach (e :: es) c.env = (false, eval e c.env) :: starEach es c.env) (hp : (backTo pos (starEach es c.env)).any (·.1) = false)
    (h1 : eval (.Call (.Attribute o name apos) (e :: es) [] pos) c.env = (do let ov ← eval o c.env; standAt apos.atName; let (f, first) ← holding [ov] (getMethod ov name pl); callWith pos f first (backTo pos (starEach (e :: es) c.env)) [])) (hn : n ≤ c.n) :
    EvP c ρ (eval (.Call (.Attribute o name apos) (e :: es) [] pos) c.env) ρ₂ P := .mk fun s Z Q E S k =>
  MethodCall_ (pl := pl) (h₀.run s Z _ E S fun v s₁ Z₁ _ S₁ l₁ t₁ e₁ => m _ _ s₁ Z₁ v _ _ E S₁.stk.K (e₁ ▸ t₁) (callWith_K (K := KF c.w) (h₀ := s₁.heap) S₁.stk.K (hkp _) (h.run pos s₁ Z₁ _ E S₁ fun vs s₂ Z₂ S₂ l₂ t₂ =>
    ⟨S₂.stk.K, fin_op S S₂ (LeX.trans S l₁ l₂) (op.run _ _ s₂ Z₂ (v :: vs) (S₂.rdy hn) (.cons (l₂.tr (e₁ ▸ t₁)) t₂)) k⟩) he hp)) h1
theorem ev_methF0 {o : Expr} {name : Str} {apos : Pos} {f : Addr} {pl : Sem Bool} (h₀ : Ev c ρ o ρ₁ d) (m : MethF d name f) (hkp : ∀ w, keepIn (KF w) (.ref f) = true) (op : OpC (.ref f) n [d] P)
    (h1 : eval (.Call (.Attribute o name apos) [] [] pos) c.env = (do let ov ← eval o c.env; standAt apos.atName; let (f, first) ← holding [ov] (getMethod ov name pl); callWith pos f first (backTo pos (starEach [] c.env)) [])) (hn : n ≤ c.n) :
    EvP c ρ (eval (.Call (.Attribute o name apos) [] [] pos) c.env) ρ₁ P := .mk fun s Z Q E S k =>
  MethodCall_ (pl := pl) (h₀.run s Z _ E S fun v s₁ Z₁ _ S₁ l₁ t₁ e₁ => m _ _ s₁ Z₁ v _ _ E S₁.stk.K (e₁ ▸ t₁) (callWith_K0 (K := KF c.w) S₁.stk.K (hkp _)
    (fin_op S S₁ l₁ (op.run _ _ s₁ Z₁ [v] (S₁.rdy hn) (.cons (e₁ ▸ t₁) .nil)) k))) h1
theorem ev_static {e : Expr} {name : Str} {apos : Pos} {C f : Addr} {es : List Expr} {ds : List D} {pl : Sem Bool} (hg : ∀ w, nsIn (KF w) mainGlobals x = some (some (.ref C))) (hk : c.env.kindOf x = some .globalImplicit) (hd : (x == ("__debug__" : Str)) = false)
    (m : ∀ (w : World) (A : Around) (s : Shared) (pl : Sem Bool) (Q : Value × List Value → Shared → Prop) (E : Value → Shared → Prop), (KF w).In s.heap → (∀ tk, Q (.ref f, []) { s with toks := tk }) → wpAny (model PP w) A (getMethod (.ref C) name pl) Q E s)
    (hkp : ∀ w, keepIn (KF w) (.ref f) = true) (h : EvL c ρ (e :: es) ρ₂ ds) (op : OpC (.ref f) n ds P)
    (he : starEach (e :: es) c.env = (false, eval e c.env) :: starEach es c.env) (hp : (backTo pos (starEach es c.env)).any (·.1) = false)
    (h1 : eval (.Call (.Attribute (.Name x p) name apos) (e :: es) [] pos) c.env = (do let ov ← eval (.Name x p) c.env; standAt apos.atName; let (f, first) ← holding [ov] (getMethod ov name pl); callWith pos f first (backTo pos (starEach (e :: es) c.env)) [])) (hn : n ≤ c.n) :
    EvP c ρ (eval (.Call (.Attribute (.Name x p) name apos) (e :: es) [] pos) c.env) ρ₂ P := .mk fun s Z Q E S k =>
  MethodCall_ (pl := pl) (name_glob S (hg _) hk hd (m _ _ _ _ _ _ S.stk.K fun tk => by
    have X : Ext s Z { s with toks := tk } Z := Ext.of (h := s.heap) (tk := tk) S.zok fun _ _ e => e
    exact callWith_K (K := KF c.w) (h₀ := s.heap) S.stk.K (hkp _) (h.run pos _ Z _ E (S.ext X) fun vs s₂ Z₂ S₂ l₂ t₂ =>
      ⟨S₂.stk.K, fin_op S S₂ (LeX.trans S X.leX l₂) (op.run _ _ s₂ Z₂ vs (S₂.rdy hn) t₂) k⟩) he hp)) h1
/-- try, nothing raised -/
theorem ex_try {body : List Stmt} {h₀ : ExceptHandler} {hs : List ExceptHandler} {P : Out → Rho → Prop} (h : Exs c ρ body P) : Ex c ρ (exec (.Try body (h₀ :: hs) [] [] pos) c.env) P := .mk fun s Z Q E S k =>
  wpAny_Try_except (h.run s Z _ _ S fun o r f s₁ Z₁ p S₁ l₁ fl => by
    cases o with
    | next => cases (fl : f = .next); exact wpAny_execs_nil (k .next r _ _ _ p S₁ l₁ rfl)
    | brk => cases (fl : f = .brk); exact k .brk r _ _ _ p S₁ l₁ rfl
    | cont => cases (fl : f = .cont); exact k .cont r _ _ _ p S₁ l₁ rfl
    | ret d =>
      obtain ⟨v, rfl, t⟩ := fl
      exact k (.ret d) r _ _ _ p S₁ l₁ ⟨v, rfl, t⟩)
end
theorem adv_read1 (w : World) : specialIn (hd.heap_39 w.params) (.ref 211) "__getattribute__" = some (some (.builtin "type.__getattribute__")) := by k_is
theorem adv_read3 (w : World) : readsIn (hd.heap_39 w.params) 211 (.type "type") = true := by k_is
theorem adv_read4 (w : World) : findCls (hd.heap_39 w.params) (.ref 211) (.type "type") "read" = some (.get (.builtin "staticmethod.__get__") (.ref 207) .none (.ref 211)) := by k_is
theorem adv_read5 (w : World) : ∃ l, recIn (hd.heap_39 w.params) 207 "staticmethod" = some l ∧ l.head? = some (.ref 205) := ⟨_, by k_is, rfl⟩
theorem adv_read6 (w : World) : keepIn (hd.heap_39 w.params) (.ref 205) = true := by k_is
theorem adv_read (w : World) (A : Around) (s : Shared) (pl : Sem Bool) (Q : Value × List Value → Shared → Prop) (E : Value → Shared → Prop) (X : (KF w).In s.heap) (k : ∀ tk, Q (.ref 205, []) { s with toks := tk }) : wpAny (model PP w) A (getMethod (.ref 211) "read" pl) Q E s := by
  obtain ⟨l, h1, h2⟩ := adv_read5 w
  cases l with
  | nil => cases h2
  | cons f rest =>
    cases (Option.some.inj h2 : f = .ref 205)
    exact method_cls X (adv_read1 w) (cls_bind X (adv_read3 w) (adv_read4 w) (wpAny_call (sm_get (s := { s with toks := s.toks + 1 }) X h1 (handed_on rfl (k _)))))
theorem ec_read {c : Cx} {ρ ρ₂ : Rho} {pos p : Pos} {P : D → Prop} {n : Nat} {e : Expr} {apos : Pos} {es : List Expr} {ds : List D} {pl : Sem Bool} (hk : c.env.kindOf "Advert" = some .globalImplicit) (h : EvL c ρ (e :: es) ρ₂ ds) (op : OpC (.ref 205) n ds P)
    (he : starEach (e :: es) c.env = (false, eval e c.env) :: starEach es c.env) (hp : (backTo pos (starEach es c.env)).any (·.1) = false)
    (h1 : eval (.Call (.Attribute (.Name "Advert" p) "read" apos) (e :: es) [] pos) c.env = (do let ov ← eval (.Name "Advert" p) c.env; standAt apos.atName; let (f, first) ← holding [ov] (getMethod ov "read" pl); callWith pos f first (backTo pos (starEach (e :: es) c.env)) [])) (hn : n ≤ c.n) :
    EvP c ρ (eval (.Call (.Attribute (.Name "Advert" p) "read" apos) (e :: es) [] pos) c.env) ρ₂ P := ev_static gl_Advert hk rfl adv_read adv_read6 h op he hp h1 hn
theorem adv_k1 (w : World) : keepIn (hd.heap_39 w.params) (.ref 199) = true := by k_is
theorem adv_k2 (w : World) : keepIn (hd.heap_39 w.params) (.ref 185) = true := by k_is
theorem adv_k3 (w : World) : keepIn (hd.heap_39 w.params) (.ref 192) = true := by k_is
theorem adv_t1 (w : World) : typeIn (hd.heap_39 w.params) (.ref 199) = some (.type "function") := by k_is
theorem adv_t2 (w : World) : typeIn (hd.heap_39 w.params) (.ref 185) = some (.type "function") := by k_is
theorem adv_t3 (w : World) : typeIn (hd.heap_39 w.params) (.ref 192) = some (.type "function") := by k_is
theorem adv_f1 (w : World) : findIn (hd.heap_39 w.params) (.ref 211) "octets" = some (some (.ref 199)) := by k_is
theorem adv_f2 (w : World) : findIn (hd.heap_39 w.params) (.ref 211) "id_of" = some (some (.ref 185)) := by k_is
theorem adv_f3 (w : World) : findIn (hd.heap_39 w.params) (.ref 211) "head_name" = some (some (.ref 192)) := by k_is
theorem adv_pg (w : World) : plainGet (hd.heap_39 w.params) 211 "octets" = true := by k_is
theorem methF_adv {r c' s' : List D} {nm : Str} {f : Addr} (hf : ∀ w : World, findIn (hd.heap_39 w.params) (.ref 211) nm = some (some (.ref f))) (ht : ∀ w : World, typeIn (hd.heap_39 w.params) (.ref f) = some (.type "function")) (hm : nm ∈ advMeths) : MethF (.adv r c' s') nm f := by
  intro w A s Z v pl Q E X t q
  cases t using Tr.advC with
  | adv z1 z2 g1 g2 f1 f2 f3 gm q1 q2 q3 =>
    exact method_fn X (⟨g1, rfl, rfl, g2⟩ : InstAt s.heap _ (advObj _) 211 (some (dictOf _ _))) (plainGet_of (adv_pg w)).1 (plainGet_of (adv_pg w)).2 (hf w) (ht w) (by show (lookIn nm (dictOf _ _)).map _ = _; rw [lookIn_dict, gm nm hm]; rfl) q
theorem meth_octets {r c' s' : List D} : MethF (.adv r c' s') "octets" 199 := methF_adv adv_f1 adv_t1 (by decide)
theorem meth_id_of {r c' s' : List D} : MethF (.adv r c' s') "id_of" 185 := methF_adv adv_f2 adv_t2 (by decide)
theorem meth_head_name {r c' s' : List D} : MethF (.adv r c' s') "head_name" 192 := methF_adv adv_f3 adv_t3 (by decide)
end
section
set_option maxHeartbeats 4000000
open Builtin Builtin.ObjectAttr
abbrev bmX : List Value := [.ref 32, .type "Exception", .type "BaseException", .type "object"]
abbrev badCls : Obj := excClassObj "BadLine" "BadLine" 57 56 [.ref 32] bmX true [] [] false none none (some (.ref 48)) none (some (.str "BadLine" 237)) (some (.str "BadLine" 245)) (some (.bool true)) "Exception.__new__"
theorem bad_obj (w : World) : List.lookup 57 (hd.heap_39 w.params) = some badCls := by k_is
theorem bad_init (w : World) : findIn (hd.heap_39 w.params) (.ref 57) "__init__" = some (some (.ref 29)) := by k_is
theorem bad_fn (w : World) : typeIn (hd.heap_39 w.params) (.ref 29) = some (.type "function") := by k_is
theorem bad_call (w : World) : specialIn (hd.heap_39 w.params) (.ref 57) "__call__" = some (some (.builtin "type.__call__")) := by k_is
theorem bad_inst (w : World) : instIn (hd.heap_39 w.params) (.ref 57) (.type "type") = some true := by k_is
theorem bad_setattr (w : World) : findIn (hd.heap_39 w.params) (.ref 57) "__setattr__" = some (some (.builtin "object.__setattr__")) := by k_is
theorem bad_told (w : World) : findIn (hd.heap_39 w.params) (.ref 57) "told" = some none := by k_is
theorem bad_subo (w : World) : mroIn (hd.heap_39 w.params) 57 (.type "object") = some true := by k_is
theorem bad_self (w : World) : mroIn (hd.heap_39 w.params) 57 (.ref 57) = some true := by k_is
abbrev tupO (vs : List Value) : Obj := { cls := .type "tuple", data := .seq vs.toArray }
abbrev excO (t : Addr) : Obj := { cls := .ref 57, data := .fields #[.ref t, .none, .none, .none, .bool false, .none] }
section
variable {w : World} {A : Around} {R : Result → Shared → Prop} {E : Value → Shared → Prop} {h : Heap} {g : Array GenState} {d : Drawn} {t : Nat} {os : OsState}
theorem bad_new {rest : List Value} (hC : h.get? 57 = some badCls) (hq : R (.ok (.ret (.ref (h.objs.size + 1)))) ⟨(h.push (tupO rest)).push (excO h.objs.size), g, d, t, os⟩) (hrest : rest.length ≤ sizeLine) :
    codeAny (model PP w) A (.builtin "Exception.__new__" ⟨.ref 57 :: rest, []⟩) R ⟨h, g, d, t, os⟩ := by
  have F := PySem.F.excBase_Exception
  have hends := F.ends
  have hcB : (Value.ref 57 :: bmX).contains (.type "Exception") = true := by decide
  have hcA : (Value.ref 57 :: bmX).contains (.type "AttributeError") = false := by decide
  have hcN : (Value.ref 57 :: bmX).contains (.type "NameError") = false := by decide
  refine codeAny_builtinAt F.entry ?_
  unfold Builtin.«BaseException.__new__»
  refine PySem.wpAt_bind ?_
  show PySem.wpAt _ _ _ (stack >>= _) _ _ _
  refine PySem.wpAt_bind (PySem.wpAt_stack fun p below => PySem.wpAt_of_wpAny ?_)
  wp_walk
  refine PySem.wpAt_of_wpAny ?_
  rw [F.owner]
  repeat (first | with_reducible refine wpAny_madeHere_exc F.canon hC ?_ | with_reducible refine wpAny_loadPart_at hC ?_ | (with_reducible refine wpAny_isSubtype_exc hC ?_; first | rw [hcB] | rw [hcA] | rw [hcN]) | wp_step)
  show R _ _
  rw [Heap.size_push]
  exact hq
theorem bad_check {rest : List Value} {Q : Unit → Shared → Prop} (hC : h.get? 57 = some badCls)
    (hq : Q () ⟨h, g, d, t, os⟩) : wpAny (model PP w) A (checkBuiltinCall "Exception.__new__" ⟨.ref 57 :: rest, []⟩) Q E ⟨h, g, d, t, os⟩ := by
  have F := PySem.F.excBase_Exception
  have hcont : (Value.ref 57 :: bmX).contains (.type "Exception") = true := by decide
  have hstar := F.noStar
  simp only [checkBuiltinCall, F.newKind, F.newSplit, F.newRow]
  repeat (first | refine wpAny_loadPart_at hC ?_ | (refine wpAny_isSubtype_exc hC ?_; rw [hcont]) | refine wpAny_staticBase_exc hC ?_ | refine wpAny_madeBy_exc hC ?_ | simp only [bne_self_eq_false, Bool.false_eq_true, if_false] | wp_step)
  exact hq
theorem exc_get (h : Heap) (rest : List Value) : ((h.push (tupO rest)).push (excO h.objs.size)).get? (h.objs.size + 1) = some (excO h.objs.size) := by
  have : (h.push (tupO rest)).objs.size = h.objs.size + 1 := Heap.size_push _ _
  rw [← this]; exact Heap.get?_push_size _ rfl
theorem bad_make {rest : List Value} (X : (KF w).In h) (hrest : rest.length ≤ sizeLine)
    (hq : codeAny (model PP w) (A.under (.builtin "type.__call__" ⟨.ref 57 :: rest, []⟩)) (.call (.ref 29) ⟨.ref (h.objs.size + 1) :: rest, []⟩) (InitBack (h.objs.size + 1) R) ⟨(h.push (tupO rest)).push (excO h.objs.size), g, d, t, os⟩) :
    codeAny (model PP w) A (.call (.ref 57) ⟨rest, []⟩) R ⟨h, g, d, t, os⟩ := by
  have F := PySem.F.excBase_Exception
  have hC : h.get? 57 = some badCls := X _ _ (bad_obj w)
  refine codeAny_of_tree ?_
  show wpAny _ _ (callAny (.ref 57) _) _ _ _
  refine nd_load hC ?_
  show wpAny _ _ (callAny.viaDunder (.ref 57) _) _ _ _
  unfold callAny.viaDunder
  refine wpAny_bind ((looks_specialIn X (bad_call w)).at ?_)
  dsimp only
  rw [tc_bind]
  refine wpAny_bind (wpAny_pure (wpAny_bind (wpAny_pure ?_)))
  refine wpAny_pure (a := Fin.again (.call (.builtin "type.__call__") ⟨.ref 57 :: rest, []⟩)) (And.intro rfl ?_)
  refine codeAny_call_builtin_at (Code.quiet_builtin _ (by decide +kernel)) entry_typeCall (check_slot tc_kind tc_split (looks_instIn X (bad_inst w)) (tc_args _ _ _) ?_)
  unfold Builtin.«type.__call__»
  have made : Looks (model PP w) h (Bind.madeBy (.ref 57)) (some "Exception.__new__") := by
    intro A Q E s k q
    obtain ⟨hh, g', d', t', os'⟩ := s
    exact wpAny_madeBy_exc (k _ _ hC) q
  repeat (first | with_reducible refine wpAny_call ?_ | lk)
  refine codeAny_call_builtin_code (Code.quiet_builtin _ F.quiet) (bad_check hC (bad_new hC ?_ hrest))
  show wpAny _ _ _ _ _ _
  have k : ∀ b o, h.get? b = some o → ((h.push (tupO rest)).push (excO h.objs.size)).get? b = some o := fun b o e => Heap.get?_push_of_some _ (Heap.get?_push_of_some _ e)
  have X' : (KF w).In ((h.push (tupO rest)).push (excO h.objs.size)) := X.keeps k
  have t1 : Looks (model PP w) ((h.push (tupO rest)).push (excO h.objs.size)) (typeOf (.ref (h.objs.size + 1))) (.ref 57) := (Looks.ld (exc_get h rest)).andThen .now
  have s1 : Looks (model PP w) ((h.push (tupO rest)).push (excO h.objs.size)) (isSubtype (.ref 57) (.ref 57)) true := looks_mroIn X' (bad_self w)
  have i1 : Looks (model PP w) ((h.push (tupO rest)).push (excO h.objs.size)) (typeLookup (.ref 57) "__init__") (some (.ref 29)) := looks_findIn X' (bad_init w)
  have b1 : Looks (model PP w) ((h.push (tupO rest)).push (excO h.objs.size)) (bindSpecial (.ref 29) (.ref (h.objs.size + 1))) (.ref 29, [.ref (h.objs.size + 1)]) := bind_fn X' _ (bad_fn w)
  unfold isInstance callSpecial? specialOf
  repeat (first | with_reducible refine wpAny_call ?_ | lk)
  refine codeAny_mono hq fun r s' z => ?_
  rcases r with e | (v | _ | _ | _) <;> first | exact z | exact z.elim | skip
  obtain ⟨rfl, z⟩ := z
  exact wpAny_pure (wpAny_pure z)
end
end
section
set_option maxHeartbeats 4000000
open Builtin Builtin.ObjectAttr
theorem bad_mro (w : World) : (clsIn (hd.heap_39 w.params) 57).map (·.mro) = some (.ref 57 :: bmX) := by
  unfold clsIn
  rw [bad_obj w]
  rfl
def Stop (p : Prop) : Prop := p
theorem stop_store {M : Model} {A : Around} {dx : Addr} {nv v : Value} {nm : Str} {Q : Fin → Shared → Prop} {E : Value → Shared → Prop} {s : Shared} (h : Stop (wpAny M A (storeInDict dx nv nm v) Q E s)) : wpAny M A (storeInDict dx nv nm v) Q E s := h
section
variable {w : World} {A : Around} {R : Result → Shared → Prop} {E : Value → Shared → Prop} {h : Heap} {g : Array GenState} {d : Drawn} {t : Nat} {os : OsState}
theorem bad_store {x t0 : Addr} {tk : Tok} {v : Value} (X : (KF w).In h) (hx : h.get? x = some (excO t0))
    (hq : ∀ h' tk' dx, (∀ b o, b ≠ x → h.get? b = some o → h'.get? b = some o) → h'.get? x = some { excO t0 with dict := some dx } → R (.ok (.ret .none)) ⟨h', g, d, tk', os⟩) :
    codeAny (model PP w) A (.call (.builtin "object.__setattr__") ⟨[.ref x, .str "told" tk, v], []⟩) R ⟨h, g, d, t, os⟩ := by
  have SF := PySem.F.store_object
  have I : InstAt h x (excO t0) 57 none := ⟨hx, rfl, rfl, trivial⟩
  have sub : Looks (model PP w) h (isInstance (.ref x) (.type "object")) true := I.type.andThen (looks_mroIn X (bad_subo w))
  refine codeAny_call_builtin SF.slot.plain SF.entry (@check_slot (model PP w) _ _ ⟨h, g, d, t, os⟩ "object.__setattr__" "object" "__setattr__" (.ref x) [.str "told" tk, v] [] _ SF.kind SF.split sub (SF.args (.ref x) (.str "told" tk) v) ?_)
  obtain ⟨cd, hc, hmro⟩ := Option.map_eq_some_iff.mp (bad_mro w)
  have hm : Looks (model PP w) h (mroOf (.ref 57)) (.ref 57 :: bmX) := by
    rw [← hmro]
    exact (looks_clsIn X hc).andThen .now
  have hC : h.get? 57 = some badCls := X _ _ (bad_obj w)
  rw [osa_eq, refuse_eq]
  refine wpAny_bind (wpAny_bind (I.type.here (wpAny_bind (hm.here ?_))))
  rw [refuseLoop_ref, refuseLoop_ref, PySem.F.store_Exception.passes]
  refine wpAny_pure (wpAny_bind (I.type.here (wpAny_bind ((looks_findIn X (bad_told w)).here (wpAny_bind (wpAny_pure ?_))))))
  show wpAny _ _ (storeInOwnDict (.ref x) (.ref 57) (.str "told" tk) "told" v _) _ _ _
  unfold storeInOwnDict ownDictForStores instanceDict
  repeat (first | with_reducible refine stop_store ?_ | (with_reducible refine wpAny_loadPart_at hx ?_) | (with_reducible refine wpAny_loadPart_at hC ?_) | wp_step)
  have hx₁ : (h.push { cls := .type "dict", data := .dict #[] }).get? x = some (excO t0) := Heap.get?_push_of_some _ hx
  have hxs : x ≠ h.objs.size := Nat.ne_of_lt (Heap.lt_size hx)
  have hgd : ((h.push { cls := .type "dict", data := .dict #[] }).update x fun o => { cls := o.cls, dict := some h.objs.size, data := o.data, slots := o.slots }).get? h.objs.size
      = some { cls := .type "dict", data := .dict #[] } :=
    (Heap.get?_update_ne _ _ _ _ hxs.symm).trans (Heap.get?_push_at rfl rfl)
  have hnd : ((h.push { cls := .type "dict", data := .dict #[] }).update x fun o => { cls := o.cls, dict := some h.objs.size, data := o.data, slots := o.slots }).Ns h.objs.size (fun _ => none) :=
    ⟨_, #[], _, hgd, rfl, fun e he => absurd he (by simp), fun _ => rfl⟩
  show wpAny _ _ (storeInDict h.objs.size (.str "told" tk) "told" v) _ _ _
  unfold storeInDict newKeyGuard
  refine wpAny_bind (wpAny_pure (wpAny_bind (wpAny_nsSet1 (Heap.Ns1.of_empty hnd) fun h' hn' hs => ?_)))
  obtain ⟨oD, esD, epD, hoD, hdD, hcD⟩ := hn'.count (Within.cons "told" v Within.nil)
  refine wpAny_bind (wpAny_lookBehind hoD (by rw [hdD]; exact pastItsLine_dict (Nat.le_trans hcD (by rw [List.length_cons, List.length_nil, sizeLine_eq]; omega))) ?_)
  refine wpAny_pure (hq h' _ h.objs.size (fun b o hb e => ?_) ?_)
  · exact (hs.2 b (Nat.ne_of_lt (Heap.lt_size e))).trans ((Heap.get?_update_ne _ _ _ _ hb).trans (Heap.get?_push_of_some _ e))
  · exact (hs.2 x hxs).trans (Heap.get?_update_self _ hx₁ rfl)
/-- BadLine's __init__ -/
theorem bad_init_of {name qual : Str} {params : Arguments} {sp ap vp apos : Pos} {scope : Scope} {dV kV doc pm cdv ct oc : Value} {an od : Option Addr} {osl : Array (Option Value)} {T : Addr} {o : Obj} {items : Array Value} {m : Nat}
    (ho : ∀ w : World, List.lookup 29 (hd.heap_39 w.params) = some ⟨oc, od, .func (fnX name qual params [.Assign [.Attribute (.Name "self" sp) "told" ap] (.Name "told" vp) apos] scope [] dV kV doc pm an cdv ct), osl⟩) (hcd : ∀ w : World, codeIn (hd.heap_39 w.params) cdv qual = true)
    (hT : ∀ w : World, List.lookup T (hd.heap_39 w.params) = some o) (hdf : dV = .ref T) (hoo : o.data = .seq items m)
    (hbind : ∀ a b : Value, ∃ k : Option (Array Value) → Sem (List (Str × Value)), bindArgs (fnX name qual params [.Assign [.Attribute (.Name "self" sp) "told" ap] (.Name "told" vp) apos] scope [] dV kV doc pm an cdv ct) ⟨[a, b], []⟩ = seqItems? dV >>= k ∧ k (some items) = pure [(Str.ofString "self", a), (Str.ofString "told", b)])
    (hloc : scope.names.lookup (Str.ofString "self") = some .local ∧ scope.names.lookup (Str.ofString "told") = some .local) (hcell : (scope.names.all fun x => x.2 != .cell) = true)
    (hsw : ∀ L, swapsWith (.Name "told" vp) (some (.Attribute (.Name "self" sp) "told" ap)) apos.line (envX qual scope L 29 cdv []) = pure false)
    (hco : scope.isCoroutine = false) (hgen : scope.isGenerator = false) (hk : scope.kind = .function)
    {x t0 : Addr} {v : Value} (X : (KF w).In h) (hx : h.get? x = some (excO t0)) (hlim : h.NoLimit) (hdep : A.depth + 1 < recursionLimit)
    (hq : ∀ h' tk' dx, (∀ b o, b ≠ x → h.get? b = some o → h'.get? b = some o) → h'.get? x = some { excO t0 with dict := some dx } → R (.ok (.ret .none)) ⟨h', g, d, tk', os⟩) :
    codeAny (model PP w) A (.call (.ref 29) ⟨[.ref x, v], []⟩) R ⟨h, g, d, t, os⟩ := by
  refine codeAny_call_def (fd := fnX name qual params [.Assign [.Attribute (.Name "self" sp) "told" ap] (.Name "told" vp) apos] scope [] dV kV doc pm an cdv ct) (body := [.Assign [.Attribute (.Name "self" sp) "told" ap] (.Name "told" vp) apos]) (binds := [(Str.ofString "self", .ref x), (Str.ofString "told", v)]) (by omega) (X _ _ (ho w)) rfl hlim (codeRec_of X (hcd w)) rfl
    ?_ (fun y hy q => by have := List.all_eq_true.mp hcell y hy; rw [q] at this; cases this) (fun y hy => ?_) (fun h₀ hns hk₀ => ?_) hco hgen hk
  · obtain ⟨k, e1, e2⟩ := hbind (.ref x) v
    exact BindsTo.of_defaults hdf (X _ _ (hT w)) hoo e1 e2
  · rcases List.mem_cons.mp hy with rfl | hy
    · exact hloc.1
    · rw [List.mem_singleton.mp hy]; exact hloc.2
  · have ks : (envX qual scope h.objs.size 29 cdv []).kindOf "self" = some .local := hloc.1
    have kt : (envX qual scope h.objs.size 29 cdv []).kindOf "told" = some .local := hloc.2
    refine wpAny_execs_cons (plainObj_wpAny_Assign_Attribute ?_ (hsw _))
    refine wpAny_Name (wpAny_loadName_local hk kt hns (v := v) rfl ?_) rfl
    refine wpAny_Name (wpAny_loadName_local hk ks hns (v := .ref x) rfl ?_) rfl
    have X₀ : (KF w).In h₀ := X.keeps hk₀
    have hx₀ := hk₀ _ _ hx
    refine set_plain (s := ⟨h₀, g, d, t + 2, os⟩) X₀ (⟨hx₀, rfl, rfl, trivial⟩ : InstAt h₀ x (excO t0) 57 none) (bad_setattr w) (bad_store X₀ hx₀ fun h' tk' dx k1 k2 => ?_)
    exact wpAny_execs_nil (hq h' tk' dx (fun b o hb e => k1 b o hb (hk₀ b o e)) k2)
theorem bad_init_run {x t0 : Addr} {v : Value} (X : (KF w).In h) (hx : h.get? x = some (excO t0)) (hlim : h.NoLimit) (hdep : A.depth + 1 < recursionLimit)
    (hq : ∀ h' tk' dx, (∀ b o, b ≠ x → h.get? b = some o → h'.get? b = some o) → h'.get? x = some { excO t0 with dict := some dx } → R (.ok (.ret .none)) ⟨h', g, d, tk', os⟩) :
    codeAny (model PP w) A (.call (.ref 29) ⟨[.ref x, v], []⟩) R ⟨h, g, d, t, os⟩ :=
  bad_init_of (fun w => by k_is) (fun w => by k_is) (fun w => by k_is) rfl rfl (fun a b => ⟨_, rfl, rfl⟩) ⟨rfl, rfl⟩ rfl (fun _ => rfl) rfl rfl rfl X hx hlim hdep hq
end
end
section
/-- a BadLine is under way: B is what stood before all frames; s₀ is an earlier state -/
def Rz (B : Heap) (w : World) (A : Around) (s₀ s' : Shared) (v : Value) : Prop :=
  ∃ (l : List Env) (e : Addr) (a0 : Value), A.frames = some l ∧ v = .ref e ∧ (KF w).In B ∧ (∃ mg mb, TopRead VP looseN mg mb B) ∧ B.StaysIn s'.heap ∧ B.get? e = none ∧ s'.heap.FunFrames B l ∧ s₀.heap.UpToSlots s'.heap ∧ (∃ h tk, s' = { s₀ with heap := h, toks := tk }) ∧
    ((∃ oe vs, s'.heap.get? e = some oe ∧ oe.cls = .ref 57 ∧ oe.data = .fields vs ∧ vs[0]? = some a0 ∧ vs[1]? = some .none) ∨ ∃ fl, s'.heap.TracedAtW B e (.ref 57) a0 fl)
/-- the same, with a flight that is known -/
def RzAt (B : Heap) (w : World) (A : Around) (s₀ s' : Shared) (v fl : Value) : Prop :=
  ∃ (l : List Env) (e : Addr) (a0 : Value), A.frames = some l ∧ v = .ref e ∧ (KF w).In B ∧ (∃ mg mb, TopRead VP looseN mg mb B) ∧ B.StaysIn s'.heap ∧ B.get? e = none ∧ s'.heap.FunFrames B l ∧ s₀.heap.UpToSlots s'.heap ∧ (∃ h tk, s' = { s₀ with heap := h, toks := tk }) ∧
    s'.heap.TracedAtW B e (.ref 57) a0 fl
theorem RzAt.rz {B : Heap} {w : World} {A : Around} {s₀ s' : Shared} {v fl : Value} : RzAt B w A s₀ s' v fl → Rz B w A s₀ s' v := fun ⟨l, e, a0, h1, h2, h3, h4, h5, h6, h7, h8, h9, h10⟩ => ⟨l, e, a0, h1, h2, h3, h4, h5, h6, h7, h8, h9, .inr ⟨fl, h10⟩⟩
theorem Rz.older {B : Heap} {w : World} {A : Around} {s₁ s₀ s' : Shared} {v : Value} (x : Rz B w A s₀ s' v) (k : s₁.heap.UpToSlots s₀.heap) (q : ∃ h tk, s₀ = { s₁ with heap := h, toks := tk }) : Rz B w A s₁ s' v := by
  obtain ⟨l, e, a0, h1, h2, h3, h4, h5, h6, h7, h8, ⟨h, tk, h9⟩, h10⟩ := x
  obtain ⟨h', tk', q⟩ := q
  exact ⟨l, e, a0, h1, h2, h3, h4, h5, h6, h7, k.trans h8, ⟨h, tk, by rw [h9, q]⟩, h10⟩

section
variable {B : Heap} {M : Model} {w : World} {A : Around} {E : Value → Shared → Prop} {s₀ s s' : Shared} {v : Value}
theorem note_same {e : Value} {env env₁ : Env} (h : env.frame = env₁.frame) : noteFrame e env = noteFrame e env₁ := by
  unfold noteFrame PySem.frameOf
  rw [h]
/-- noteFrame, whatever the flight -/
theorem rz_note {env env₁ : Env} {outer : List Env} {L : Addr} {Q : Unit → Shared → Prop} (hA : A.frames = some (env₁ :: outer)) (h1 : env₁.frame = some L) (h2 : env.frame = some L) (x : Rz B w A s₀ s' v)
    (k : ∀ h', RzAt B w A s₀ { s' with heap := h' } v (rawInt L) → s'.heap.UpToSlots h' → Q () { s' with heap := h' }) : wpAny M A (noteFrame v env) Q E s' := by
  rw [note_same (h2.trans h1.symm)]
  obtain ⟨l, e, a0, hl, rfl, hK, hT, hB, he, hF, hU, ⟨h, tk, hs⟩, hx⟩ := x
  rw [hA] at hl; cases hl
  have fin : ∀ h', Heap.NotedW B (env₁ :: outer) e (.ref 57) a0 (rawInt L) s'.heap h' → Q () { s' with heap := h' } := fun h' ⟨n1, n2, n3, n4⟩ =>
    k h' ⟨_, e, a0, hA, rfl, hK, hT, n1, he, n2, hU.trans n4, ⟨h', tk, by rw [hs]⟩, n3⟩ n4
  rcases hx with ⟨oe, vs, x1, x2, x3, x4, x5⟩ | ⟨fl, ht⟩
  · unfold noteFrame
    simp only [h1]
    refine wpAny_bind (wpAny_field x1 x3 x5 ?_)
    rw [if_neg (by decide)]
    exact wpAny_entryW hA hF h1 x1 hB he x3 (Array.getElem?_eq_some_iff.mp x5).1 x4 (by rw [x2]; exact fin)
  · by_cases q : fl = rawInt L
    · subst q
      exact wpAny_noteFrame_againW h1 ht (k s'.heap ⟨_, e, a0, hA, rfl, hK, hT, hB, he, hF, hU, ⟨h, tk, by rw [hs]⟩, ht⟩ (Heap.UpToSlots.refl _))
    · obtain ⟨oe, vs, T, oT, ts, g1, ⟨hcls, g0⟩, gd, g2, hnT, hTe, gT, gdT, g3⟩ := ht
      unfold noteFrame
      simp only [h1]
      refine wpAny_bind (wpAny_field g1 gd g2 ?_)
      rw [if_pos (show (Value.ref T != Value.none) = true from by simp)]
      refine wpAny_bind (wpAny_field gT gdT g3 ?_)
      rw [if_neg (by simpa using q)]
      refine wpAny_bind (wpAny_setField gT gdT (Array.getElem?_eq_some_iff.mp g3).1 ?_)
      have other : ∀ b, b ≠ T → (s'.heap.update T (Obj.mapFields (·.setIfInBounds 3 Value.none))).get? b = s'.heap.get? b := fun b hb => Heap.get?_update_other _ _ (Ne.symm hb)
      have noRecord : ∀ b o, s'.heap.get? b = some o → (∀ vs, o.data ≠ .fields vs) → b ≠ T := fun b o hb hnf q => by
        rw [q, gT] at hb; injection hb with hb; subst hb; exact hnf ts gdT
      refine wpAny_entryW hA (hF.of_keeps fun b o hb hnf => ⟨o, (other b (noRecord b o hb hnf)).trans hb, rfl⟩) h1 ((other e (Ne.symm hTe)).trans g1)
        (fun b o hbo => (other b fun q => by rw [q, hnT] at hbo; cases hbo).trans (hB b o hbo)) he gd (Array.getElem?_eq_some_iff.mp g2).1 g0
        fun h' ⟨x1, x2, x3, x4⟩ => fin h' ⟨x1, x2, by rw [hcls] at x3; exact x3, fun b o hb hnf => x4 b o ((other b (noRecord b o hb hnf)).trans hb) hnf⟩
/-- setFlight -/
theorem rz_flight {fl : Value} {f : Option Addr} {Q : Unit → Shared → Prop} (x : RzAt B w A s₀ s' v fl)
    (k : ∀ h', RzAt B w A s₀ { s' with heap := h' } v (f.elim Value.none fun f => rawInt f) → s'.heap.UpToSlots h' → Q () { s' with heap := h' }) : wpAny M A (setFlight v f) Q E s' := by
  obtain ⟨l, e, a0, hl, rfl, hK, hT, hB, he, hF, hU, ⟨h, tk, hs⟩, ⟨oe, vs, T, oT, ts, g1, hcls, gd, g2, hnT, hTe, gT, gdT, g3⟩⟩ := x
  have hsz3 : 3 < ts.size := (Array.getElem?_eq_some_iff.mp g3).1
  have other : ∀ b, b ≠ T → (s'.heap.update T (Obj.mapFields (·.setIfInBounds 3 (f.elim Value.none fun f => rawInt f)))).get? b = s'.heap.get? b :=
    fun b hb => Heap.get?_update_other _ _ (Ne.symm hb)
  have noRecord : ∀ b o, s'.heap.get? b = some o → (∀ vs, o.data ≠ .fields vs) → b ≠ T := fun b o hb hnf q => by
    rw [q, gT] at hb; injection hb with hb; subst hb; exact hnf ts gdT
  have hup : s'.heap.UpToSlots (s'.heap.update T (Obj.mapFields (·.setIfInBounds 3 (f.elim Value.none fun f => rawInt f)))) := fun b o hb hnf => ⟨o.slots, (other b (noRecord b o hb hnf)).trans hb⟩
  unfold setFlight
  refine wpAny_bind (wpAny_field g1 gd g2 ?_)
  rw [if_pos (show (Value.ref T != Value.none) = true from by simp)]
  refine wpAny_setField gT gdT hsz3 (k _ ⟨l, e, a0, hl, rfl, hK, hT, fun b o hbo => (other b fun q => by rw [q, hnT] at hbo; cases hbo).trans (hB b o hbo), he,
    hF.of_keeps fun b o hb hnf => ⟨o, (other b (noRecord b o hb hnf)).trans hb, rfl⟩, hU.trans hup, ⟨_, tk, by rw [hs]⟩, ?_⟩ hup)
  exact ⟨oe, vs, T, _, _, (other e (Ne.symm hTe)).trans g1, hcls, gd, g2, hnT, hTe, Heap.get?_update_self _ gT (Obj.isFreed_of_fields (Obj.data_mapFields gdT _)), Obj.data_mapFields gdT _, by simp [hsz3]⟩
/-- the traceback is there -/
theorem rz_field {fl : Value} {Q : Value → Shared → Prop} (x : RzAt B w A s₀ s' v fl) (k : ∀ T : Addr, Q (.ref T) s') : wpAny M A (field v 1) Q E s' := by
  obtain ⟨l, e, a0, hl, rfl, hK, hT, hB, he, hF, hU, hs, ⟨oe, vs, T, oT, ts, g1, hcls, gd, g2, r⟩⟩ := x
  exact wpAny_field g1 gd g2 (k T)
theorem rz_came {env : Env} {fl : Value} (x : RzAt B w A s₀ s' v fl) (k : ∀ h', RzAt B w A s₀ { s' with heap := h' } v (env.frame.elim Value.none fun f => rawInt f) → s'.heap.UpToSlots h' → E v { s' with heap := h' }) : cameBackBy M A env E v s' := by
  unfold cameBackBy
  refine wpAny_bind (rz_field x fun T => ?_)
  rw [if_neg (by simp)]
  exact rz_flight x k
theorem rz_passOn {α : Type} {what : String} {env : Env} {fl : Value} {Q : α → Shared → Prop} (x : RzAt B w A s₀ s' v fl) (k : ∀ h', RzAt B w A s₀ { s' with heap := h' } v (env.frame.elim Value.none fun f => rawInt f) → s'.heap.UpToSlots h' → E v { s' with heap := h' }) : wpAny M A (PySem.passOn what v env : Sem α) Q E s' := by
  unfold PySem.passOn
  refine wpAny_bind (rz_field x fun T => ?_)
  rw [if_neg (by simp)]
  exact wpAny_bind (rz_flight x fun h' y z => wpAny_throw (k h' y z))
/-- a frame is left -/
theorem rz_leave {env : Env} {outer : List Env} {L : Addr} {Q : Unit → Shared → Prop} (hA : A.frames = some outer) (h1 : env.frame = some L) (x : Rz B w (A.deeper env) s₀ s' v)
    (k : ∀ h', RzAt B w A s₀ { s' with heap := h' } v .none → Q () { s' with heap := h' }) : wpAny M (A.deeper env) (leaving env v) Q E s' := by
  unfold leaving
  have hA' := Around.frames_deeper (env := env) hA
  refine wpAny_bind (rz_note hA' h1 h1 x fun h₁ y _ => ?_)
  refine rz_flight y fun h₂ y _ => ?_
  obtain ⟨l, e, a0, hl, rfl, hK, hT, hB, he, hF, hU, hs, ht⟩ := y
  rw [hA'] at hl; cases hl
  exact k h₂ ⟨outer, e, a0, hA, rfl, hK, hT, hB, he, hF.2.2, hU, hs, ht⟩
/-- one object, unknown to all, changes -/
theorem RzAt.but {fl : Value} {C : Addr} {h' : Heap} {oC : Obj} (x : RzAt B w A s₀ s' v fl) (hs : Heap.SameBut C s'.heap h') (hB : B.get? C = none) (h0 : s₀.heap.get? C = none) (hC : s'.heap.get? C = some oC) (hd : ∀ fs, oC.data ≠ .fields fs)
    (hl : ∀ l, A.frames = some l → ∀ e ∈ l, ∀ L, e.frame = some L → L ≠ C) : RzAt B w A s₀ { s' with heap := h' } v fl := by
  obtain ⟨l, e, a0, h1, h2, h3, h4, h5, h6, h7, h8, ⟨hh, tk, h9⟩, ⟨oe, vs, T, oT, ts, g1, hcls, gd, g2, hnT, hTe, gT, gdT, g3⟩⟩ := x
  have ne : ∀ {b o fs}, s'.heap.get? b = some o → o.data = .fields fs → b ≠ C := fun e d q => by rw [q, hC] at e; cases e; exact hd _ d
  refine ⟨l, e, a0, h1, h2, h3, h4, fun b o q => (hs.2 b fun z => by rw [z, hB] at q; cases q).trans (h5 b o q), h6, ?_, fun b o q hn => ?_, ⟨h', tk, by rw [h9]⟩, oe, vs, T, oT, ts, (hs.2 _ (ne g1 gd)).trans g1, hcls, gd, g2, hnT, hTe, (hs.2 _ (ne gT gdT)).trans gT, gdT, g3⟩
  · have hl' := hl l h1
    clear h1
    induction l with
    | nil => trivial
    | cons env rest ih =>
      obtain ⟨k1, ⟨L, o, k2, k3, k4, k5⟩, k6⟩ := h7
      exact ⟨k1, ⟨L, o, k2, k3, (hs.2 L (hl' env (.head _) L k2)).trans k4, k5⟩, ih k6 fun e he => hl' e (.tail _ he)⟩
  · obtain ⟨sl, q'⟩ := h8 b o q hn
    exact ⟨sl, (hs.2 b fun z => by rw [z, h0] at q; cases q).trans q'⟩
theorem Rz.ns {a : Addr} {m : Str → Option Value} (x : Rz B w A s₀ s' v) (hn : s₀.heap.Ns a m) : s'.heap.Ns a m := by
  obtain ⟨l, e, a0, h1, h2, h3, h4, h5, h6, h7, h8, h9, h10⟩ := x
  exact h8.ns hn
end
end
section
/-- what stood before all frames: not the deck, not a frame -/
structure BOk (B : Heap) (w : World) : Prop where
  K : (KF w).In B
  top : ∃ mg mb, TopRead VP looseN mg mb B
structure CB (B : Heap) (c : Cx) : Prop where
  ok : BOk B c.w
  nV : ∀ a, ¬ c.V a
  stay : B.StaysIn c.s0.heap
  fr : ∀ h' : Heap, (∀ a o, ¬ c.V a → c.s0.heap.get? a = some o → h'.get? a = some o) → (∃ m, h'.Ns c.L m) → h'.FunFrames B c.frames
structure RdyB (B : Heap) (w : World) (A : Around) (n : Nat) (s : Shared) (Z : Addr → Prop) : Prop where
  rdy : Rdy w A n s Z
  ok : BOk B w
  stay : B.StaysIn s.heap
  fr : ∀ l, A.frames = some l → s.heap.FunFrames B l
/-- what ends by a BadLine -/
def EvR {α : Type} (B : Heap) (c : Cx) (ρ : Rho) (t : Sem α) : Prop :=
  ∀ (s : Shared) (Z : Addr → Prop) (Q : α → Shared → Prop) (E : Value → Shared → Prop), St c ρ Z s → (∀ v s', Rz B c.w c.A c.s0 s' v → (∃ m, s'.heap.Ns c.L m) → E v s') → wpAny (model PP c.w) c.A t Q E s
def EvLR (B : Heap) (c : Cx) (ρ : Rho) (es : List Expr) : Prop := ∀ pos : Pos, EvR B c ρ (spliced (backTo pos (starEach es c.env)))
def OpR (f : Value) (n : Nat) (ds : List D) : Prop :=
  ∀ (B : Heap) (w : World) (A : Around) (s : Shared) (Z : Addr → Prop) (vs : List Value), RdyB B w A n s Z → TrL s.heap Z vs ds → ∀ (Q : Value → Shared → Prop) (E : Value → Shared → Prop), (∀ v s', Rz B w A s s' v → E v s') → wpAny (model PP w) A (call f vs) Q E s
abbrev ExsR (B : Heap) (c : Cx) (ρ : Rho) (sts : List Stmt) : Prop := EvR B c ρ (execs sts c.env)

section
variable {B : Heap} {c : Cx} {ρ ρ₁ ρ₂ : Rho} {x y : Str} {pos p q pt : Pos} {d d₁ d₂ : D} {P : D → Prop} {n : Nat} {Z : Addr → Prop} {s : Shared}
theorem St.up (S : St c ρ Z s) (hB : CB B c) : c.s0.heap.UpToSlots s.heap := Heap.UpToSlots.of_keeps fun b o e => S.keep b o (hB.nV b) e
theorem St.rz (S : St c ρ Z s) (hB : CB B c) {s' : Shared} {v : Value} (r : Rz B c.w c.A s s' v) : Rz B c.w c.A c.s0 s' v ∧ ∃ m, s'.heap.Ns c.L m := by
  obtain ⟨m, own, l⟩ := S.loc
  exact ⟨r.older (S.up hB) S.same, m, r.ns l.ns⟩
theorem St.rdyB (S : St c ρ Z s) (hB : CB B c) {n : Nat} (hn : n ≤ c.n) : RdyB B c.w c.A n s Z where
  rdy := S.rdy hn
  ok := hB.ok
  stay := fun b o e => S.keep b o (hB.nV b) (hB.stay b o e)
  fr := fun l hl => by
    rw [S.stk.frames] at hl; cases hl
    obtain ⟨m, own, l⟩ := S.loc
    exact hB.fr _ S.keep ⟨m, l.ns⟩

theorem evr_call_fn {f : Str} {a : Addr} {e : Expr} {es : List Expr} {ds : List D} (hB : CB B c) (hf : ∀ w, nsIn (KF w) mainGlobals f = some (some (.ref a))) (hkeep : ∀ w, keepIn (KF w) (.ref a) = true) (hk : c.env.kindOf f = some .globalImplicit)
    (h : EvL c ρ (e :: es) ρ₁ ds) (o : OpR (.ref a) n ds) (hn : n ≤ c.n)
    (hd : (f == ("__debug__" : Str)) = false) (he : starEach (e :: es) c.env = (false, eval e c.env) :: starEach es c.env) (hp : (backTo pos (starEach es c.env)).any (·.1) = false)
    (h1 : eval (.Call (.Name f p) (e :: es) [] pos) c.env = (do callWith pos (← eval (.Name f p) c.env) [] (backTo pos (starEach (e :: es) c.env)) (backToKw pos (keywordEach [] c.env)))) :
    EvR B c ρ (eval (.Call (.Name f p) (e :: es) [] pos) c.env) := fun s Z Q E S k =>
  Call_ (name_glob S (hf _) hk hd (callWith_K (K := KF c.w) (h₀ := s.heap) S.stk.K (hkeep _) (h.run pos s Z _ E S fun vs s₁ Z₁ S₁ l₁ t₁ => ⟨S₁.stk.K, by
    simpa using o _ _ _ s₁ Z₁ vs (S₁.rdyB hB hn) t₁ _ E fun v s' r => k v s' (S₁.rz hB r).1 (S₁.rz hB r).2⟩) he hp)) h1
theorem evr_static {e : Expr} {name : Str} {apos : Pos} {C f : Addr} {es : List Expr} {ds : List D} {pl : Sem Bool} (hB : CB B c) (hg : ∀ w, nsIn (KF w) mainGlobals x = some (some (.ref C))) (hk : c.env.kindOf x = some .globalImplicit) (hd : (x == ("__debug__" : Str)) = false)
    (m : ∀ (w : World) (A : Around) (s : Shared) (pl : Sem Bool) (Q : Value × List Value → Shared → Prop) (E : Value → Shared → Prop), (KF w).In s.heap → (∀ tk, Q (.ref f, []) { s with toks := tk }) → wpAny (model PP w) A (getMethod (.ref C) name pl) Q E s)
    (hkp : ∀ w, keepIn (KF w) (.ref f) = true) (h : EvL c ρ (e :: es) ρ₂ ds) (op : OpR (.ref f) n ds) (hn : n ≤ c.n)
    (he : starEach (e :: es) c.env = (false, eval e c.env) :: starEach es c.env) (hp : (backTo pos (starEach es c.env)).any (·.1) = false)
    (h1 : eval (.Call (.Attribute (.Name x p) name apos) (e :: es) [] pos) c.env = (do let ov ← eval (.Name x p) c.env; standAt apos.atName; let (f, first) ← holding [ov] (getMethod ov name pl); callWith pos f first (backTo pos (starEach (e :: es) c.env)) [])) :
    EvR B c ρ (eval (.Call (.Attribute (.Name x p) name apos) (e :: es) [] pos) c.env) := fun s Z Q E S k =>
  MethodCall_ (pl := pl) (name_glob S (hg _) hk hd (m _ _ _ _ _ _ S.stk.K fun tk => by
    have X : Ext s Z { s with toks := tk } Z := Ext.of (h := s.heap) (tk := tk) S.zok fun _ _ e => e
    exact callWith_K (K := KF c.w) (h₀ := s.heap) S.stk.K (hkp _) (h.run pos _ Z _ E (S.ext X) fun vs s₂ Z₂ S₂ l₂ t₂ =>
      ⟨S₂.stk.K, op _ _ _ s₂ Z₂ vs (S₂.rdyB hB hn) t₂ _ E fun v s' r => k v s' (S₂.rz hB r).1 (S₂.rz hB r).2⟩) he hp)) h1
/-- lists of arguments -/
theorem evlr_head {e : Expr} {es : List Expr} (h : EvR B c ρ (eval e c.env)) (he : starEach (e :: es) c.env = (false, eval e c.env) :: starEach es c.env) : EvLR B c ρ (e :: es) := fun pos s Z Q E S k => spliced_more (h s Z _ E S k) he
theorem evlr_tail {e : Expr} {es : List Expr} (h : Ev c ρ e ρ₁ d) (r : EvLR B c ρ₁ es) (he : starEach (e :: es) c.env = (false, eval e c.env) :: starEach es c.env) : EvLR B c ρ (e :: es) := fun pos s Z Q E S k =>
  spliced_more (h.run s Z _ E S fun v s₁ Z₁ d' S₁ l₁ t₁ hd => r pos s₁ Z₁ _ E S₁ k) he
theorem evr_tup {es : List Expr} {k' : Nat} (h : EvLR B c ρ es) : EvR B c ρ (eval (.Tuple es k' pos) c.env) := fun s Z Q E S k => Tuple_ (h pos s Z _ E S k)
theorem evr_binr {l r : Expr} {op : Operator} (h₁ : Ev c ρ l ρ₁ d₁) (h₂ : EvR B c ρ₁ (eval r c.env)) : EvR B c ρ (eval (.BinOp l op r pos) c.env) := fun s Z Q E S k =>
  wpAny_BinOp (h₁.run s Z _ E S fun a s₁ Z₁ _ S₁ l₁ t₁ e₁ => h₂ s₁ Z₁ _ E S₁ k)
theorem evr_if_t {t a b : Expr} (h : EvT c ρ t ρ₁ true) (r : EvR B c ρ₁ (eval a c.env)) : EvR B c ρ (eval (.IfExp t a b pos) c.env) := fun s Z Q E S k =>
  wpAny_IfExp (h.run s Z _ E S fun s₁ Z₁ S₁ l₁ => by simpa using r s₁ Z₁ Q E S₁ k)
/-- statements -/
theorem execs_one (st : Stmt) (env : Env) : execs [st] env = exec st env := by
  rw [execs_cons]
  have : (fun f : Flow => match f with | .next => execs [] env | f => pure f) = pure := by funext f; cases f <;> rfl
  show (exec st env >>= fun f : Flow => match f with | .next => execs [] env | f => pure f) = _
  rw [this, bind_pure]
theorem exr_here {st : Stmt} {rest : List Stmt} (h : EvR B c ρ (exec st c.env)) : ExsR B c ρ (st :: rest) := fun s Z Q E S k => wpAny_execs_cons (h s Z _ E S k)
theorem exr_step {st : Stmt} {rest : List Stmt} (h : Ex1 c ρ st ρ₁) (r : ExsR B c ρ₁ rest) : ExsR B c ρ (st :: rest) := fun s Z Q E S k =>
  wpAny_execs_cons (h.run s Z _ E S fun o r' f s₁ Z₁ p' S₁ l₁ fl => by
    obtain ⟨rfl, rfl⟩ := p'
    cases (fl : f = .next)
    exact r s₁ Z₁ Q E S₁ k)
theorem exr_pre (ρ₁ : Rho) {st : Stmt} {rest : List Stmt} (h : Exs c ρ [st] fun o r => o = .next ∧ Sub ρ₁ r) (r : ExsR B c ρ₁ rest) : ExsR B c ρ (st :: rest) := fun s Z Q E S k => by
  refine wpAny_execs_cons ?_
  rw [← execs_one]
  refine h.run s Z _ E S fun o r' f s₁ Z₁ p' S₁ l₁ fl => ?_
  obtain ⟨rfl, hs⟩ := p'
  cases (fl : f = .next)
  exact r s₁ Z₁ Q E (S₁.weak hs) k
theorem exr_if_t {t : Expr} {a b : List Stmt} (h : EvT c ρ t ρ₁ true) (r : ExsR B c ρ₁ a) : EvR B c ρ (exec (.If t a b pos) c.env) := fun s Z Q E S k =>
  wpAny_If (h.run s Z _ E S fun s₁ Z₁ S₁ l₁ => by rw [if_pos rfl]; exact r s₁ Z₁ Q E S₁ k)
theorem exr_if_f {t : Expr} {a b : List Stmt} (h : EvT c ρ t ρ₁ false) (r : ExsR B c ρ₁ b) : EvR B c ρ (exec (.If t a b pos) c.env) := fun s Z Q E S k =>
  wpAny_If (h.run s Z _ E S fun s₁ Z₁ S₁ l₁ => by rw [if_neg Bool.false_ne_true]; exact r s₁ Z₁ Q E S₁ k)
theorem exr_assign {e : Expr} (h : EvR B c ρ (eval e c.env)) (hs : swapsWith e (some (.Name x p)) pos.line c.env = pure false) : EvR B c ρ (exec (.Assign [.Name x p] e pos) c.env) := fun s Z Q E S k =>
  wpAny_Assign_Name (h s Z _ E S k) hs
theorem exr_assign_pair {e : Expr} {k' : Nat} (h : EvR B c ρ (eval e c.env)) (hs : swapsWithSole [.Tuple [.Name x p, .Name y q] k' pt] e pos.line c.env = pure false)
    (hw : swappedStores [.Tuple [.Name x p, .Name y q] k' pt] e c.env = pure none) : EvR B c ρ (exec (.Assign [.Tuple [.Name x p, .Name y q] k' pt] e pos) c.env) := fun s Z Q E S k =>
  Assign_Tuple (h s Z _ E S k) hs hw
theorem exr_ret {e : Expr} (h : EvR B c ρ (eval e c.env)) : EvR B c ρ (exec (.Return (some e) pos) c.env) := fun s Z Q E S k => wpAny_Return_some (h s Z _ E S k)
theorem exr_append {e : Expr} {ap cp : Pos} {pl : Sem Bool} {ds : List D} (hl : ρ.lookup x = some (.own ds)) (hk : c.env.kindOf x = some .local) (hc : c.env.cells.lookup x = none) (h : EvLR B c ρ [e])
    (hd : (x == ("__debug__" : Str)) = false) (he : starEach [e] c.env = [(false, eval e c.env)])
    (h1 : eval (.Call (.Attribute (.Name x p) ("append" : Str) ap) [e] [] cp) c.env = (do let ov ← eval (.Name x p) c.env; standAt ap.atName; let (f, first) ← holding [ov] (getMethod ov ("append" : Str) pl); callWith cp f first (backTo cp (starEach [e] c.env)) []))
    (h2 : interactive c.env = false) (h3 : swapsWith (.Call (.Attribute (.Name x p) ("append" : Str) ap) [e] [] cp) none pos.line c.env = pure false) :
    EvR B c ρ (exec (.Expr (.Call (.Attribute (.Name x p) ("append" : Str) ap) [e] [] cp) pos) c.env) := fun s Z Q E S k => by
  obtain ⟨m, own, l⟩ := S.loc
  obtain ⟨a, vs, n, hm, hO, hg, ht⟩ := S.own_at hl hc l
  exact wpAny_Expr (MethodCall_ (pl := pl) (wpAny_Name (wpAny_loadName_local S.kind hk l.ns hm (getMethod_list_append hg rfl rfl (callWith_method1 (h cp s Z _ E S k) (by simpa [starEach] using he) rfl))) hd) h1) h2 h3
theorem exr_for_iter {target iter : Expr} {body : List Stmt} (h : EvR B c ρ (eval iter c.env)) (hs : ∀ x, foldedSetIterable iter c.env x = pure x) : EvR B c ρ (exec (.For target iter body [] pos) c.env) := fun s Z Q E S k =>
  wpAny_For (h s Z _ E S k) hs
/-- the frame's own activation (a loop) raised -/
structure Cx.Top (c : Cx) : Prop where
  fr : ∃ e₁ rest L, c.frames = e₁ :: rest ∧ e₁.frame = some L ∧ c.env.frame = some L
theorem rz_loop {Z : Addr → Prop} {s : Shared} (S : St c ρ Z s) (hT : c.Top) {E : Value → Shared → Prop} (k : ∀ v s', Rz B c.w c.A c.s0 s' v → (∃ m, s'.heap.Ns c.L m) → E v s') {v : Value} {s' : Shared} (r : Rz B c.w c.A c.s0 s' v) (hn : ∃ m, s'.heap.Ns c.L m) :
    notedBy (model PP c.w) c.A c.env (fun e s'' => cameBackBy (model PP c.w) c.A c.env E e s'') v s' := by
  obtain ⟨e₁, rest, L, h1, h2, h3⟩ := hT.fr
  have hA : c.A.frames = some (e₁ :: rest) := by rw [S.stk.frames, h1]
  obtain ⟨m, hn⟩ := hn
  exact rz_note hA h2 h3 r fun h' y u => rz_came y fun h'' y' u' => k _ _ y'.rz ⟨m, u'.ns (u.ns hn)⟩
/-- while: some turns, then one that raises -/
def WLoopR (B : Heap) (c : Cx) (test : Expr) (body : List Stmt) : Nat → Rho → Prop
  | 0, _ => False
  | n + 1, ρ => ∃ ρ' ρ₁, Sub ρ' ρ ∧ EvT c ρ' test ρ₁ true ∧ (ExsR B c ρ₁ body ∨ Exs c ρ₁ body fun o r => (o = .next ∨ o = .cont) ∧ WLoopR B c test body n r)
theorem exr_while {test : Expr} {body : List Stmt} {n : Nat} (hT : c.Top) (h : WLoopR B c test body n ρ) : EvR B c ρ (exec (.While test body [] pos) c.env) := fun s Z Q E S k => by
  refine wpAny_While (codeAny_whileLoop (I := fun j s' => ∃ ρ' Z', St c ρ' Z' s' ∧ WLoopR B c test body j ρ') ?_ n ⟨ρ, Z, S, h⟩)
  rintro j s' ⟨ρ', Z', S', hw⟩
  cases j with
  | zero => exact hw.elim
  | succ j =>
    obtain ⟨ρa, ρb, hsub, ht, hb⟩ := hw
    refine ht.run s' Z' _ _ (S'.weak hsub) fun s₁ Z₁ S₁ l₁ => ?_
    rw [if_pos rfl]
    rcases hb with hb | hb
    · exact hb s₁ Z₁ _ _ S₁ fun v s₂ r hn => rz_loop S₁ hT k r hn
    · refine hb.run s₁ Z₁ _ _ S₁ fun o r f s₂ Z₂ p S₂ l₂ fl => ?_
      rcases p with ⟨rfl | rfl, p⟩
      · cases (fl : f = .next); exact ⟨j, Nat.lt_succ_self _, r, Z₂, S₂, p⟩
      · cases (fl : f = .cont); exact ⟨j, Nat.lt_succ_self _, r, Z₂, S₂, p⟩
end
end
section
/-- for: some turns, then one that raises -/
def LoopR (B : Heap) (c : Cx) (bind : D → Rho → Option Rho) (body : List Stmt) : List D → Rho → Prop
  | [], _ => False
  | d :: ds, ρ => ∃ ρ' ρ₁, Sub ρ' ρ ∧ bind d ρ' = some ρ₁ ∧ (ExsR B c ρ₁ body ∨ Exs c ρ₁ body fun o r => (o = .next ∨ o = .cont) ∧ LoopR B c bind body ds r)
theorem exr_for {B : Heap} {c : Cx} {ρ ρ₁ : Rho} {target iter : Expr} {body : List Stmt} {pos : Pos} {d : D} {ds : List D} {bind : D → Rho → Option Rho} (hT : c.Top) (h : Ev c ρ iter ρ₁ d) (hd : itemsOf d = some ds) (hb : Binds c target bind) (hl : LoopR B c bind body ds ρ₁)
    (hs : ∀ x, foldedSetIterable iter c.env x = pure x) : EvR B c ρ (exec (.For target iter body [] pos) c.env) := fun s Z Q E S k =>
  wpAny_For (h.run s Z _ E S fun v s₁ Z₁ d' S₁ l₁ t₁ e₁ => by
    subst e₁
    refine pyIter_D S₁.stk.handled t₁ hd S₁.zok fun o fp Pw W X => ?_
    have hI0 : s₁.heap.get? s₁.heap.objs.size = none := get_size _
    have hIc : c.s0.heap.get? s₁.heap.objs.size = none := by
      cases q : c.s0.heap.get? s₁.heap.objs.size with
      | none => rfl
      | some o =>
        have hv : ¬ c.V s₁.heap.objs.size := fun v => by have := S₁.va _ v; rw [hI0] at this; cases this
        exact absurd (S₁.keep _ o hv q) (by rw [hI0]; exact fun e => nomatch e)
    have hf : o.isFreed = false := itr_free X
    have E₁ : Ext s₁ Z₁ { s₁ with heap := s₁.heap.push o, toks := s₁.toks } Z₁ := Ext.of S₁.zok fun a o' e => Heap.get?_push_of_some _ e
    refine codeAny_forLoop_any (I := fun j s' => ∃ i ρ' Z', i ≤ ds.length ∧ j = ds.length - i ∧ St c ρ' Z' s' ∧ W i s'.heap ∧ LoopR B c bind body (ds.drop i) ρ' ∧ Le s₁.heap Z₁ s'.heap Z' ∧ ¬ Z' s₁.heap.objs.size) ?_ ds.length ⟨0, ρ₁, Z₁, Nat.zero_le _, by simp, S₁.ext E₁, X.zero, by simpa using hl, E₁.le, fun q => by have := S₁.zok _ q; rw [hI0] at this; cases this⟩
    rintro j s' ⟨i, ρ', Z', hi, rfl, S', hW, hL, l', hz'⟩
    have hWk := X.walks c.A S₁.stk.handled
    rcases Nat.lt_or_ge i ds.length with hlt | hge
    · refine hWk.item i s' _ _ hlt hW fun v' h' tk hP hW' hk' => ?_
      have S'' := S'.swap (tk := tk) (X.obj i _ hW) hIc hz' hk'
      have l'' := l'.skip hI0 hk'
      obtain ⟨d', hd', htr⟩ := X.item i v' hP
      refine letGo_ok (X.obj (i + 1) _ hW') ?_
      have hdrop : ds.drop i = d' :: ds.drop (i + 1) := by
        rw [List.drop_eq_getElem_cons hlt]
        congr 1
        rw [List.getElem?_eq_getElem hlt] at hd'
        exact Option.some.inj hd'
      rw [hdrop] at hL
      obtain ⟨ρa, ρb, hsub, hbd, hbody⟩ := hL
      have tv : Tr h' Z' v' d' := htr h' Z' l''
      refine hb ρa ρb d' _ Z' v' _ _ hbd (S''.weak hsub) tv fun s₃ S₃ l₃ _ => ?_
      rcases hbody with hbody | hbody
      · exact hbody s₃ Z' _ _ S₃ fun v s₄ r hn => rz_loop S₃ hT k r hn
      refine hbody.run s₃ Z' _ _ S₃ fun o' r f s₄ Z₄ p S₄ l₄ fl => ?_
      have hWf : W (i + 1) s₄.heap := hWk.frame _ _ _ hW' fun b hb' o'' e => by
        rcases X.foot b hb' with rfl | hz
        · obtain ⟨oI, _, fs, h1, _, _, h2⟩ := X.obj (i + 1) _ hW'
          rw [h1] at e; cases e
          exact (l₃.trans l₄).flds _ _ _ h1 h2
        · exact (l₃.trans l₄).keep _ _ (l''.zz _ hz) e
      have lend : Le s₁.heap Z₁ s₄.heap Z₄ := l''.trans (l₃.trans l₄)
      have hz4 : ¬ Z₄ s₁.heap.objs.size := fun q => by
        obtain ⟨oI, _, fs, h1, _, _, h2⟩ := X.obj (i + 1) _ hW'
        exact hz' ((l₃.trans l₄).fz _ _ _ h1 h2 q)
      rcases p with ⟨rfl | rfl, p⟩
      · cases (fl : f = .next)
        exact ⟨ds.length - (i + 1), by omega, i + 1, r, Z₄, hlt, rfl, S₄, hWf, p, lend, hz4⟩
      · cases (fl : f = .cont)
        exact ⟨ds.length - (i + 1), by omega, i + 1, r, Z₄, hlt, rfl, S₄, hWf, p, lend, hz4⟩
    · have hie : i = ds.length := Nat.le_antisymm hi hge
      subst hie
      rw [List.drop_length] at hL
      exact hL.elim) hs
theorem gl_BadLine (w : World) : nsIn (hd.heap_39 w.params) mainGlobals "BadLine" = some (some (.ref 57)) := by k_is
theorem kp_BadLine (w : World) : keepIn (hd.heap_39 w.params) (.ref 57) = true := by k_is
/-- BadLine(text) -/
theorem bad_made {w : World} {A : Around} {s : Shared} {v : Value} {Q : Value → Shared → Prop} {E : Value → Shared → Prop} (X : (KF w).In s.heap) (hlim : s.heap.NoLimit) (hdep : A.depth + 2 < recursionLimit)
    (k : ∀ h' tk t dx, (∀ b o, s.heap.get? b = some o → h'.get? b = some o) → h'.get? (s.heap.objs.size + 1) = some { excO t with dict := some dx } → Q (.ref (s.heap.objs.size + 1)) { s with heap := h', toks := tk }) :
    wpAny (model PP w) A (call (.ref 57) [v]) Q E s := by
  obtain ⟨h, g, d, t, os⟩ := s
  refine wpAny_call (bad_make X (by rw [sizeLine_is]; exact Nat.le_of_ble_eq_true rfl) ?_)
  have kp : ∀ b o, h.get? b = some o → ((h.push (tupO [v])).push (excO h.objs.size)).get? b = some o := fun b o e => Heap.get?_push_of_some _ (Heap.get?_push_of_some _ e)
  refine bad_init_run (X.keeps kp) (exc_get h [v]) (hlim.keeps kp) (by show A.depth + 1 + 1 < _; omega) fun h' tk' dx k1 k2 => ⟨rfl, ?_⟩
  exact k h' tk' _ dx (fun b o e => k1 b o (fun q => by rw [q] at e; exact absurd (Heap.lt_size e) (by show ¬ h.objs.size + 1 < h.objs.size; omega)) (kp b o e)) k2
theorem exr_raise {B : Heap} {c : Cx} {ρ : Rho} {np cpos pos : Pos} {y : Str} {kk : Nat} {pp : Pos} (hB : CB B c) (hk : c.env.kindOf "BadLine" = some .globalImplicit) (hn : 2 ≤ c.n)
    (he : starEach [.Constant (.str y) kk pp] c.env = (false, eval (.Constant (.str y) kk pp) c.env) :: starEach [] c.env)
    (h1 : eval (.Call (.Name "BadLine" np) [.Constant (.str y) kk pp] [] cpos) c.env = (do callWith cpos (← eval (.Name "BadLine" np) c.env) [] (backTo cpos (starEach [.Constant (.str y) kk pp] c.env)) (backToKw cpos (keywordEach [] c.env)))) :
    EvR B c ρ (exec (.Raise (some (.Call (.Name "BadLine" np) [.Constant (.str y) kk pp] [] cpos)) none pos) c.env) := fun s Z Q E S k => by
  rw [arm_exec_Raise]
  refine wpAny_bind (wpAny_standAt ?_)
  show wpAny _ _ (raiseStmt c.env (some (do let v ← eval (.Call (.Name "BadLine" np) [.Constant (.str y) kk pp] [] cpos) c.env; standAt pos; pure v)) none) _ _ _
  unfold raiseStmt
  refine wpAny_bind (wpAny_bind ?_)
  have hcon : Ev c ρ (.Constant (.str y) kk pp) ρ (.str y.cps.toList) := ev_str rfl
  refine Call_ (name_glob S (gl_BadLine _) hk rfl (callWith_K (K := KF c.w) (h₀ := s.heap) S.stk.K (kp_BadLine _) ((evl_cons hcon evl_nil he).run cpos s Z _ E S fun vs s₁ Z₁ S₁ l₁ t₁ => ⟨S₁.stk.K, ?_⟩) he rfl)) h1
  cases t₁ using TrL.c1 with
  | @cons v tv =>
    obtain ⟨mg, mb, T⟩ := S₁.stk.top
    have hdep := S₁.stk.depth
    refine bad_made S₁.stk.K T.nolimit (by omega) fun h' tk t dx k1 k2 => ?_
    have b1 : B.StaysIn s₁.heap := fun b o e => S₁.keep b o (hB.nV b) (hB.stay b o e)
    have b4 : s₁.heap.FunFrames B c.frames := by
      obtain ⟨m, own, l⟩ := S₁.loc
      exact hB.fr _ S₁.keep ⟨m, l.ns⟩
    have hnew : s₁.heap.get? (s₁.heap.objs.size + 1) = none := by
      cases q : s₁.heap.get? (s₁.heap.objs.size + 1) with
      | none => rfl
      | some o => exact absurd (Heap.lt_size q) (Nat.not_lt.mpr (Nat.le_succ _))
    have rz : Rz B c.w c.A s₁ { s₁ with heap := h', toks := tk } (.ref (s₁.heap.objs.size + 1)) := ⟨c.frames, _, .ref t, S₁.stk.frames, rfl, hB.ok.K, hB.ok.top, fun b o q => k1 b o (b1 b o q), stays_none b1 hnew, b4.of_keeps fun b o q _ => ⟨o, k1 b o q, rfl⟩, Heap.UpToSlots.of_keeps k1, ⟨h', tk, rfl⟩,
      .inl ⟨_, _, k2, rfl, rfl, rfl, rfl⟩⟩
    have rz' := S₁.rz hB rz
    have hh := S₁.stk.handled
    have hC : h'.get? 57 = some badCls := k1 _ _ (S₁.stk.K _ _ (bad_obj c.w))
    have fin := k _ _ rz'.1 rz'.2
    clear rz rz' hnew b4 b1 k1 hdep tv S₁ l₁
    obtain ⟨hs, g, d, tks, os⟩ := s₁
    refine wpAny_bind (wpAny_standAt (wpAny_pure ?_))
    have hcB : (Value.ref 57 :: bmX).contains (.type "BaseException") = true := by decide
    have fin' : E (.ref (hs.objs.size + 1)) ⟨h', g, d, tk, os⟩ := fin
    have k2' : h'.get? (hs.objs.size + 1) = some { excO t with dict := some dx } := k2
    show wpAny _ _ _ _ _ ⟨h', g, d, tk, os⟩
    repeat (first | with_reducible refine wpAny_loadPart_at k2' ?_ | with_reducible refine wpAny_loadPart_at hC ?_ | (with_reducible refine wpAny_isSubtype_exc hC ?_; rw [hcB]) | wp_step)
    exact wpAny_raiseNew_none hh fin'
end
section
theorem FnR.intro {a n : Nat} {ds : List D} {name qual : Str} {params : Arguments} {body : List Stmt} {scope : Scope} {dV kV doc pm cdv ct oc : Value} {an od : Option Addr} {osl : Array (Option Value)} {names : List Str} {ρ₀ : Rho}
    (ho : ∀ w : World, List.lookup a (hd.heap_39 w.params) = some ⟨oc, od, .func (fnX name qual params body scope [] dV kV doc pm an cdv ct), osl⟩) (hcd : ∀ w : World, codeIn (hd.heap_39 w.params) cdv qual = true)
    (hbind : ∀ (w : World) (s : Shared) (vs : List Value), (KF w).In s.heap → vs.length = ds.length → BindsTo s (fnX name qual params body scope [] dV kV doc pm an cdv ct) ⟨vs, []⟩ (names.zip vs))
    (hloc : ∀ y ∈ names, scope.names.lookup y = some .local) (hcell : ∀ x ∈ scope.names, x.2 ≠ .cell) (hρ : ρ₀ = (names.zip (ds.map Bd.v)).reverse)
    (h : ∀ w A0 outer L s0 Z0 B, CB B (cxFn w qual scope a cdv A0 outer n L s0 Z0 []) → ExsR B (cxFn w qual scope a cdv A0 outer n L s0 Z0 []) ρ₀ body)
    (hco : scope.isCoroutine = false) (hgen : scope.isGenerator = false) (hk : scope.kind = .function) : OpR (.ref a) (n + 1) ds := by
  intro B w A s Z vs RB T Q E k
  have R := RB.rdy
  obtain ⟨outer, X, hfr⟩ := R.stk
  obtain ⟨mg, mb, TT⟩ := X.top
  have ho' := X.K _ _ (ho w)
  refine wpAny_call (codeAny_call_def (fd := fnX name qual params body scope [] dV kV doc pm an cdv ct) (body := body) (binds := names.zip vs) (by have := X.depth; omega) ho' rfl TT.nolimit (codeRec_of X.K (hcd w)) rfl
    (hbind w s vs X.K T.length) hcell (fun x hx => hloc _ (List.of_mem_zip hx).1) (fun h₀ hns hk₀ => ?_) hco hgen hk)
  have S : St (cxFn w qual scope a cdv A outer n s.heap.objs.size s Z []) ρ₀ Z { s with heap := h₀, toks := s.toks + (names.zip vs).length } := by
    refine ⟨⟨_, _, rfl⟩, cxFn_ok X R.zok hfr hk (fun x y b e _ => by cases e), fun a o _ e => hk₀ a o e, fun _ q => q, fun _ q => .inl q, fun a q => stays_some hk₀ (R.zok a q), fun q => ?_, fun _ _ v => v, trivial, _, fun _ => [], hns, fun x b e => ?_, fun _ _ q => (nomatch q), fun _ _ _ q => (nomatch q), fun _ _ => rfl, fun x a e => by cases e⟩
    · have := R.zok _ q
      rw [get_size] at this; cases this
    · have := zip_lookup (c := cxFn w qual scope a cdv A outer n s.heap.objs.size s Z []) (names := names) (T.mono (fun _ q => q) fun a o _ e => hk₀ a o e) [] [] (fun x b e => by cases e) x b (by rw [List.append_nil, ← hρ]; exact e)
      obtain ⟨v, h1, h2⟩ := this
      exact ⟨v, .inl ⟨rfl, by simpa using h1⟩, h2⟩
  refine h w A outer s.heap.objs.size s Z B ⟨RB.ok, fun _ v => v, RB.stay, fun h' hk' hn => ?_⟩ _ Z _ _ S fun v s' r _ => rz_leave X.frames rfl r fun h' y => k _ _ y.rz
  obtain ⟨m, hn⟩ := hn
  exact .cons (by show scope.kind ≠ _; rw [hk]; decide) rfl hn (stays_none RB.stay (get_size _)) ((RB.fr _ X.frames).of_keeps fun b o e _ => ⟨o, hk' b o (fun v => v) e, rfl⟩)
theorem cxFn_top {w : World} {qual : Str} {scope : Scope} {a : Addr} {cdv : Value} {A0 : Around} {outer : List Env} {n : Nat} {L : Addr} {s0 : Shared} {Z0 : Addr → Prop} {cells : List (Str × Addr)} : (cxFn w qual scope a cdv A0 outer n L s0 Z0 cells).Top := ⟨⟨_, _, _, rfl, rfl, rfl⟩⟩
/-- if, nothing changed by the test, the suite raises -/
theorem exr_if0 {B : Heap} {c : Cx} {ρ : Rho} {pos : Pos} {t : Expr} {a b : List Stmt} {x : Bool} {rest : List Stmt} (h : EvT c ρ t ρ x) (e : x = true) (r : ExsR B c ρ a) : ExsR B c ρ (.If t a b pos :: rest) := exr_here (exr_if_t (e ▸ h) r)
theorem exr_else0 {B : Heap} {c : Cx} {ρ : Rho} {pos : Pos} {t : Expr} {a b : List Stmt} {x : Bool} {rest : List Stmt} (h : EvT c ρ t ρ x) (e : x = false) (r : ExsR B c ρ b) : ExsR B c ρ (.If t a b pos :: rest) := exr_here (exr_if_f (e ▸ h) r)
/-- if that isn't taken -/
theorem exr_skip {B : Heap} {c : Cx} {ρ : Rho} {pos : Pos} {t : Expr} {a : List Stmt} {x : Bool} {rest : List Stmt} (h : EvT c ρ t ρ x) (e : x = false) (r : ExsR B c ρ rest) : ExsR B c ρ (.If t a [] pos :: rest) := exr_step (ex_if_f (e ▸ h) exs_nil) r
/-- x = e -/
theorem exr_asg {B : Heap} {c : Cx} {ρ : Rho} {pos q : Pos} {x : Str} {e : Expr} {rest : List Stmt} (d : D) (h : Ev c ρ e ρ d) (hk : c.Sto x) (hs : swapsWith e (some (.Name x q)) pos.line c.env = pure false) (r : ExsR B c ((x, .v d) :: ρ) rest) : ExsR B c ρ (.Assign [.Name x q] e pos :: rest) := exr_step (ex_assign h hk hs) r
section
variable {d d₁ d₂ d₃ : D}
/-- defs of one, two, three parameters -/
theorem Fn1R (x : Str) {a n : Nat} {name qual : Str} {params : Arguments} {body : List Stmt} {scope : Scope} {dV kV doc pm cdv ct oc : Value} {an od : Option Addr} {osl : Array (Option Value)}
    (ho : ∀ w : World, List.lookup a (hd.heap_39 w.params) = some ⟨oc, od, .func (fnX name qual params body scope [] dV kV doc pm an cdv ct), osl⟩) (hcd : ∀ w : World, codeIn (hd.heap_39 w.params) cdv qual = true)
    (hbind : ∀ v : Value, bindArgs (fnX name qual params body scope [] dV kV doc pm an cdv ct) ⟨[v], []⟩ = pure [(x, v)]) (hloc : scope.names.lookup x = some .local) (hcell : (scope.names.all fun x => x.2 != .cell) = true)
    (h : ∀ w A0 outer L s0 Z0 B, CB B (cxFn w qual scope a cdv A0 outer n L s0 Z0 []) → ExsR B (cxFn w qual scope a cdv A0 outer n L s0 Z0 []) [(x, .v d)] body)
    (hco : scope.isCoroutine = false) (hgen : scope.isGenerator = false) (hk : scope.kind = .function) : OpR (.ref a) (n + 1) [d] :=
  FnR.intro (names := [x]) (ρ₀ := [(x, .v d)]) ho hcd (fun w s vs X e => BindsTo.of_eq (by
    rcases vs with _ | ⟨v, _ | ⟨u, r⟩⟩
    · simp at e
    · exact hbind v
    · simp at e)) (fun y hy => by rw [List.mem_singleton.mp hy]; exact hloc) (fun y hy q => by have := List.all_eq_true.mp hcell y hy; rw [q] at this; cases this) rfl h hco hgen hk
theorem Fn2R (x y : Str) {a n : Nat} {name qual : Str} {params : Arguments} {body : List Stmt} {scope : Scope} {dV kV doc pm cdv ct oc : Value} {an od : Option Addr} {osl : Array (Option Value)}
    (ho : ∀ w : World, List.lookup a (hd.heap_39 w.params) = some ⟨oc, od, .func (fnX name qual params body scope [] dV kV doc pm an cdv ct), osl⟩) (hcd : ∀ w : World, codeIn (hd.heap_39 w.params) cdv qual = true)
    (hbind : ∀ u v : Value, bindArgs (fnX name qual params body scope [] dV kV doc pm an cdv ct) ⟨[u, v], []⟩ = pure [(x, u), (y, v)]) (hloc : scope.names.lookup x = some .local ∧ scope.names.lookup y = some .local) (hcell : (scope.names.all fun x => x.2 != .cell) = true)
    (h : ∀ w A0 outer L s0 Z0 B, CB B (cxFn w qual scope a cdv A0 outer n L s0 Z0 []) → ExsR B (cxFn w qual scope a cdv A0 outer n L s0 Z0 []) [(y, .v d₂), (x, .v d₁)] body)
    (hco : scope.isCoroutine = false) (hgen : scope.isGenerator = false) (hk : scope.kind = .function) : OpR (.ref a) (n + 1) [d₁, d₂] :=
  FnR.intro (names := [x, y]) (ρ₀ := [(y, .v d₂), (x, .v d₁)]) ho hcd (fun w s vs X e => BindsTo.of_eq (by
    rcases vs with _ | ⟨v, _ | ⟨u, _ | ⟨t, r⟩⟩⟩
    · simp at e
    · simp at e
    · exact hbind v u
    · simp at e)) (fun z hz => by
      rcases List.mem_cons.mp hz with rfl | hz
      · exact hloc.1
      · rw [List.mem_singleton.mp hz]; exact hloc.2) (fun y hy q => by have := List.all_eq_true.mp hcell y hy; rw [q] at this; cases this) rfl h hco hgen hk
/-- two parameters, with defaults that aren't used -/
theorem Fn2dR (x y : Str) {a n : Nat} {name qual : Str} {params : Arguments} {body : List Stmt} {scope : Scope} {dV kV doc pm cdv ct oc : Value} {an od : Option Addr} {osl : Array (Option Value)} {T : Addr} {o : Obj} {items : Array Value} {m : Nat}
    (ho : ∀ w : World, List.lookup a (hd.heap_39 w.params) = some ⟨oc, od, .func (fnX name qual params body scope [] dV kV doc pm an cdv ct), osl⟩) (hcd : ∀ w : World, codeIn (hd.heap_39 w.params) cdv qual = true)
    (hT : ∀ w : World, List.lookup T (hd.heap_39 w.params) = some o) (hdf : dV = .ref T) (hoo : o.data = .seq items m)
    (hbind : ∀ u v : Value, ∃ k : Option (Array Value) → Sem (List (Str × Value)), bindArgs (fnX name qual params body scope [] dV kV doc pm an cdv ct) ⟨[u, v], []⟩ = seqItems? dV >>= k ∧ k (some items) = pure [(x, u), (y, v)]) (hloc : scope.names.lookup x = some .local ∧ scope.names.lookup y = some .local) (hcell : (scope.names.all fun x => x.2 != .cell) = true)
    (h : ∀ w A0 outer L s0 Z0 B, CB B (cxFn w qual scope a cdv A0 outer n L s0 Z0 []) → ExsR B (cxFn w qual scope a cdv A0 outer n L s0 Z0 []) [(y, .v d₂), (x, .v d₁)] body)
    (hco : scope.isCoroutine = false) (hgen : scope.isGenerator = false) (hk : scope.kind = .function) : OpR (.ref a) (n + 1) [d₁, d₂] :=
  FnR.intro (names := [x, y]) (ρ₀ := [(y, .v d₂), (x, .v d₁)]) ho hcd (fun w s vs X e => by
    rcases vs with _ | ⟨v, _ | ⟨u, _ | ⟨t, r⟩⟩⟩
    · simp at e
    · simp at e
    · obtain ⟨k, h1, h2⟩ := hbind v u
      exact BindsTo.of_defaults hdf (X _ _ (hT w)) hoo h1 h2
    · simp at e) (fun z hz => by
      rcases List.mem_cons.mp hz with rfl | hz
      · exact hloc.1
      · rw [List.mem_singleton.mp hz]; exact hloc.2) (fun y hy q => by have := List.all_eq_true.mp hcell y hy; rw [q] at this; cases this) rfl h hco hgen hk
theorem Fn3R (x y z : Str) {a n : Nat} {name qual : Str} {params : Arguments} {body : List Stmt} {scope : Scope} {dV kV doc pm cdv ct oc : Value} {an od : Option Addr} {osl : Array (Option Value)}
    (ho : ∀ w : World, List.lookup a (hd.heap_39 w.params) = some ⟨oc, od, .func (fnX name qual params body scope [] dV kV doc pm an cdv ct), osl⟩) (hcd : ∀ w : World, codeIn (hd.heap_39 w.params) cdv qual = true)
    (hbind : ∀ u v t : Value, bindArgs (fnX name qual params body scope [] dV kV doc pm an cdv ct) ⟨[u, v, t], []⟩ = pure [(x, u), (y, v), (z, t)]) (hloc : scope.names.lookup x = some .local ∧ scope.names.lookup y = some .local ∧ scope.names.lookup z = some .local) (hcell : (scope.names.all fun x => x.2 != .cell) = true)
    (h : ∀ w A0 outer L s0 Z0 B, CB B (cxFn w qual scope a cdv A0 outer n L s0 Z0 []) → ExsR B (cxFn w qual scope a cdv A0 outer n L s0 Z0 []) [(z, .v d₃), (y, .v d₂), (x, .v d₁)] body)
    (hco : scope.isCoroutine = false) (hgen : scope.isGenerator = false) (hk : scope.kind = .function) : OpR (.ref a) (n + 1) [d₁, d₂, d₃] :=
  FnR.intro (names := [x, y, z]) (ρ₀ := [(z, .v d₃), (y, .v d₂), (x, .v d₁)]) ho hcd (fun w s vs X e => BindsTo.of_eq (by
    rcases vs with _ | ⟨v, _ | ⟨u, _ | ⟨t, _ | ⟨t', r⟩⟩⟩⟩
    · simp at e
    · simp at e
    · simp at e
    · exact hbind v u t
    · simp at e)) (fun w hw => by
      rcases List.mem_cons.mp hw with rfl | hw
      · exact hloc.1
      · rcases List.mem_cons.mp hw with rfl | hw
        · exact hloc.2.1
        · rw [List.mem_singleton.mp hw]; exact hloc.2.2) (fun y hy q => by have := List.all_eq_true.mp hcell y hy; rw [q] at this; cases this) rfl h hco hgen hk
/-- three parameters, with defaults that aren't used -/
theorem Fn3dR (x y z : Str) {a n : Nat} {name qual : Str} {params : Arguments} {body : List Stmt} {scope : Scope} {dV kV doc pm cdv ct oc : Value} {an od : Option Addr} {osl : Array (Option Value)} {T : Addr} {o : Obj} {items : Array Value} {m : Nat}
    (ho : ∀ w : World, List.lookup a (hd.heap_39 w.params) = some ⟨oc, od, .func (fnX name qual params body scope [] dV kV doc pm an cdv ct), osl⟩) (hcd : ∀ w : World, codeIn (hd.heap_39 w.params) cdv qual = true)
    (hT : ∀ w : World, List.lookup T (hd.heap_39 w.params) = some o) (hdf : dV = .ref T) (hoo : o.data = .seq items m)
    (hbind : ∀ u v t : Value, ∃ k : Option (Array Value) → Sem (List (Str × Value)), bindArgs (fnX name qual params body scope [] dV kV doc pm an cdv ct) ⟨[u, v, t], []⟩ = seqItems? dV >>= k ∧ k (some items) = pure [(x, u), (y, v), (z, t)]) (hloc : scope.names.lookup x = some .local ∧ scope.names.lookup y = some .local ∧ scope.names.lookup z = some .local) (hcell : (scope.names.all fun x => x.2 != .cell) = true)
    (h : ∀ w A0 outer L s0 Z0 B, CB B (cxFn w qual scope a cdv A0 outer n L s0 Z0 []) → ExsR B (cxFn w qual scope a cdv A0 outer n L s0 Z0 []) [(z, .v d₃), (y, .v d₂), (x, .v d₁)] body)
    (hco : scope.isCoroutine = false) (hgen : scope.isGenerator = false) (hk : scope.kind = .function) : OpR (.ref a) (n + 1) [d₁, d₂, d₃] :=
  FnR.intro (names := [x, y, z]) (ρ₀ := [(z, .v d₃), (y, .v d₂), (x, .v d₁)]) ho hcd (fun w s vs X e => by
    rcases vs with _ | ⟨v, _ | ⟨u, _ | ⟨t, _ | ⟨t', r⟩⟩⟩⟩
    · simp at e
    · simp at e
    · simp at e
    · obtain ⟨k, h1, h2⟩ := hbind v u t
      exact BindsTo.of_defaults hdf (X _ _ (hT w)) hoo h1 h2
    · simp at e) (fun w hw => by
      rcases List.mem_cons.mp hw with rfl | hw
      · exact hloc.1
      · rcases List.mem_cons.mp hw with rfl | hw
        · exact hloc.2.1
        · rw [List.mem_singleton.mp hw]; exact hloc.2.2) (fun y hy q => by have := List.all_eq_true.mp hcell y hy; rw [q] at this; cases this) rfl h hco hgen hk
end
end
section
theorem CB.comp {B : Heap} {c : Cx} {ρ : Rho} {Z : Addr → Prop} {s : Shared} (hB : CB B c) (S : St c ρ Z s) {scope : Scope} {cl : List (Str × Addr)} {C : Addr} : CB B (cxComp c scope cl C s Z) where
  ok := hB.ok
  nV := hB.nV
  stay := fun b o e => S.keep b o (hB.nV b) (hB.stay b o e)
  fr := fun h' hk' _ => by
    obtain ⟨m, own, l⟩ := S.loc
    exact hB.fr h' (fun a o v e => hk' a o v (S.keep a o v e)) ⟨m, by obtain ⟨oL, es, ep, hL, r⟩ := l.ns; exact ⟨oL, es, ep, hk' _ _ S.ok.vL hL, r⟩⟩
theorem comp_block_bad {B : Heap} {c : Cx} {ρ ρf : Rho} {Z : Addr → Prop} {s : Shared} {elt iter target : Expr} {scope : Scope} {cl : List (Str × Addr)} {pos : Pos} {v : Value} {d : D} {ds : List D} {bind : D → Rho → Option Rho} {P : D → D → Prop}
    {RR : Value → Addr → Result → Shared → Prop} {E : Value → Shared → Prop} (S : St c ρ Z s) (t : Tr s.heap Z v d) (hd : itemsOf d = some ds) (hz : ds.length ≤ sizeLine)
    (hk : scope.kind = .function) (hcell : ∀ y ∈ scope.names, y.2 ≠ .cell) (hcl : ∀ x a, cl.lookup x = some a → c.env.cells.lookup x = some a) (hb : ∀ C s0 Z0, Binds (cxComp c scope cl C s0 Z0) target bind)
    (hf : ∀ x b, ρf.lookup x = some b → ρ.lookup x = some b ∧ (cl.lookup x).isSome = true ∧ ∀ ds, b ≠ .own ds)
    (pre : Nat) (ht : ∀ (i : Nat) (d : D), i < pre → ds[i]? = some d → Turn c scope cl target elt [] bind ρf (fun _ => true) P d)
    (hbad : ∃ d, ds[pre]? = some d ∧ ∃ ρ₁, bind d ρf = some ρ₁ ∧ ∀ C s0 Z0, CB B (cxComp c scope cl C s0 Z0) → EvR B (cxComp c scope cl C s0 Z0) ρ₁ (eval elt (compEnvC scope cl C c.env)))
    (hTop : c.Top) (hB : CB B c)
    (kE : ∀ D C s' v fl, s.heap.get? C = none → RzAt B c.w c.A s s' v fl → (∃ m, s'.heap.Ns C m) → RR (.ref D) C (.error v) s') :
    wpAny (model PP c.w) c.A (pyIter v) (fun it s₂ => wpAny (model PP c.w) c.A (newList []) (fun acc s₃ => wpAny (model PP c.w) c.A (newFunctionEnv scope c.env.globals cl [] c.env.qual none .none (some c.env)) (fun cenv s₄ =>
      codeAny (model PP c.w) c.A (.compStart (.ListComp elt [⟨target, iter, [], 0⟩] scope pos) 0 it acc { cenv with scope := relabel scope c.env }) (RR acc cenv.locals) s₄) E s₃) E s₂) E s := by
  refine pyIter_D S.stk.handled t hd S.zok fun o fp Pw W X => ?_
  have hfr := itr_free X
  have hI0 : s.heap.get? s.heap.objs.size = none := get_size _
  refine wpAny_newList ?_
  refine wpAny_newFunctionEnv hcell (by intro y hy; simp at hy) (fun h₁ hns₁ hsb₁ => ?_) hk
  have hH0 : ∀ a, (s.heap.get? a).isSome = true → a < s.heap.objs.size := fun a e => by obtain ⟨o', q⟩ := Option.isSome_iff_exists.mp e; exact Heap.lt_size q
  have hge : ∀ a, s.heap.objs.size ≤ a → s.heap.get? a = none := fun a q => by
    cases z : s.heap.get? a with
    | none => rfl
    | some o' => exact absurd (Heap.lt_size z) (Nat.not_lt.mpr q)
  obtain ⟨H, hH⟩ : ∃ H, H = (s.heap.push o).push { cls := .type "list", data := .seq ([] : List Value).toArray } := ⟨_, rfl⟩
  have hns₂ : h₁.Ns H.objs.size (fun x => ([] : List (Str × Value)).reverse.lookup x) := by rw [hH]; exact hns₁
  have hsb₂ : ∀ b o', b ≠ H.objs.size → H.get? b = some o' → h₁.get? b = some o' := fun b o' q e => by
    rw [hH] at q e
    exact hsb₁.extBut b o' q (Heap.get?_push_of_some _ e)
  obtain ⟨I, hI⟩ : ∃ I, I = s.heap.objs.size := ⟨_, rfl⟩
  obtain ⟨D, hD⟩ : ∃ D, D = (s.heap.push o).objs.size := ⟨_, rfl⟩
  obtain ⟨C, hC⟩ : ∃ C, C = H.objs.size := ⟨_, rfl⟩
  have hDs : D = s.heap.objs.size + 1 := by rw [hD, Heap.size_push]
  have hCs : C = s.heap.objs.size + 2 := by rw [hC, hH, Heap.size_push, Heap.size_push]
  have hID : I ≠ D := by rw [hI, hDs]; exact Nat.ne_of_lt (Nat.lt_succ_self _)
  have hIC : I ≠ C := by rw [hI, hCs]; exact Nat.ne_of_lt (Nat.lt_succ_of_lt (Nat.lt_succ_self _))
  have hDC : D ≠ C := by rw [hDs, hCs]; exact Nat.ne_of_lt (Nat.lt_succ_self _)
  have dI : s.heap.get? I = none := hge _ (by rw [hI]; exact Nat.le_refl _)
  have dD : s.heap.get? D = none := hge _ (by rw [hDs]; exact Nat.le_succ _)
  have dC : s.heap.get? C = none := hge _ (by rw [hCs]; exact Nat.le_add_right _ _)
  have ne_of : ∀ {a b : Addr}, (s.heap.get? a).isSome = true → s.heap.get? b = none → a ≠ b := fun e q z => by rw [z, q] at e; cases e
  have keep1 : ∀ a o', (s.heap.push o).get? a = some o' → a ≠ C → h₁.get? a = some o' := fun a o' e q => hsb₂ a o' (hC ▸ q) (by rw [hH]; exact Heap.get?_push_of_some _ e)
  have keep0 : ∀ a o', s.heap.get? a = some o' → h₁.get? a = some o' := fun a o' e => keep1 a o' (Heap.get?_push_of_some _ e) (ne_of (by rw [e]; rfl) dC)
  have hDo : h₁.get? D = some (listOf #[] 0) := hsb₂ D _ (hC ▸ hDC) (by rw [hH, hD]; exact Heap.get?_push_size _ rfl)
  have zn : ∀ {a b : Addr}, Z a → s.heap.get? b = none → a ≠ b := fun q e => ne_of (S.zok _ q) e
  have vn : ∀ {a b : Addr}, c.V a → s.heap.get? b = none → a ≠ b := fun q e => ne_of (S.va _ q) e
  have hok := cxComp_ok S (scope := scope) (cl := cl) dC hk hcl
  obtain ⟨m₀, own₀, l₀⟩ := S.loc
  have S₄ : ∀ tk, St (cxComp c scope cl C s Z) ρf Z { s with heap := h₁, toks := tk } := fun tk => by
    refine ⟨⟨_, _, rfl⟩, hok, fun a o' _ e => keep0 a o' e, fun _ q => q, fun _ q => .inl q, fun a q => some_of (keep0 a) (S.zok a q), fun q => zn q dC rfl, S.zV, S.ok.gst _ _ S.g fun a v => ?_, _, fun _ => [], by rw [show (cxComp c scope cl C s Z).L = H.objs.size from hC]; exact hns₂, fun x b e => ?_, fun _ _ q => (nomatch q), fun _ _ _ q => (nomatch q), fun _ _ => rfl, fun x a e => ?_⟩
    · obtain ⟨o', q⟩ := Option.isSome_iff_exists.mp (S.va a v)
      rw [q, keep0 a o' q]
    · obtain ⟨h1, h2, h3⟩ := hf x b e
      obtain ⟨v', g1, g2⟩ := l₀.get x b h1
      obtain ⟨a, ha⟩ := Option.isSome_iff_exists.mp h2
      refine ⟨v', ?_, ?_⟩
      · rcases g1 with ⟨q, _⟩ | ⟨a', o', q1, q2, q3⟩
        · rw [hcl x a ha] at q; cases q
        · rw [hcl x a ha] at q1; cases q1
          exact .inr ⟨a, o', ha, keep0 _ _ q2, q3⟩
      · cases b with
        | v d => exact ⟨rfl, g2.2.mono (fun _ q => q) fun a o' _ e => keep0 a o' e⟩
        | own ds => exact absurd rfl (h3 ds)
        | deck => exact ⟨rfl, g2.2⟩
    · obtain ⟨h1, h2, ⟨o', w, h3, h4⟩, _⟩ := l₀.cell x a (hcl x a e)
      exact ⟨h1, h2, ⟨o', w, keep0 _ _ h3, h4⟩, fun q => nomatch q⟩
  have hW0 : W 0 h₁ := (X.walks c.A S.stk.handled).frame _ _ _ X.zero fun b hb' o' e => keep1 b o' e (by
    rcases X.foot b hb' with rfl | hz
    · exact hI ▸ hIC
    · exact zn hz dC)
  have noF : NoOwn ρf := fun x ds e => (hf x _ e).2.2 ds rfl
  have leOf : ∀ {ρ' Z' s'}, St (cxComp c scope cl C s Z) ρ' Z' s' → Le s.heap Z s'.heap Z' := fun S' => ⟨S'.z0, fun a o' q e => S'.keep a o' (S.zV a q) e, fun a o' fs e f => S'.keep a o' (fun v => S.vnf a o' fs v e f) e, fun a o' fs e f q => (S'.znew a q).elim id fun z => by rw [z] at e; cases e⟩
  have nV : ∀ {b : Addr}, s.heap.get? b = none → ¬ c.V b := fun e v => vn v e rfl
  have loop : ∀ s₀ : Shared, (∃ tk, s₀ = { s with heap := h₁, toks := tk }) → codeAny (model PP c.w) c.A (.compLoop (.ListComp elt [⟨target, iter, [], 0⟩] scope pos) 0 (.ref I) (.ref D) (compEnvC scope cl C c.env)) (RR (.ref D) C) s₀ := by
    rintro s₀ ⟨tk₀, rfl⟩
    refine codeAny_comp (I := fun j s' => ∃ i ρ' Z' rs vs n, i ≤ pre ∧ j = ds.length - i ∧ St (cxComp c scope cl C s Z) ρ' Z' s' ∧ Sub ρf ρ' ∧ NoOwn ρ' ∧ W i s'.heap ∧ s'.heap.get? D = some (listOf vs n) ∧ TrL s'.heap Z' vs.toList rs ∧ ¬ Z' D ∧ ¬ Z' I ∧ rs.length = i) ?_ ds.length
      ⟨0, ρf, Z, [], #[], 0, Nat.zero_le _, by simp, S₄ _, fun _ _ e => e, noF, hW0, hDo, .nil, fun q => zn q dD rfl, fun q => zn q dI rfl, rfl⟩
    rintro j s' ⟨i, ρ', Z', rs, vs, n, hi, rfl, S', hsub, hno, hW, hDg, hT, hzD, hzI, hA⟩
    have hWk := X.walks c.A S.stk.handled
    rw [← hI] at X hWk
    obtain ⟨dB, hdB, ρB, hbB, hrB⟩ := hbad
    have hpl : pre < ds.length := getN hdB
    have hlt : i < ds.length := Nat.lt_of_le_of_lt hi hpl
    have hplt : pre < ds.length := getN hdB
    refine hWk.item i s' _ _ hlt hW fun v' h' tk hP hW' hk' => ?_
    have S'' := S'.swap (tk := tk) (X.obj i _ hW) dI hzI hk'
    obtain ⟨d', hd', htr⟩ := X.item i v' hP
    have tv : Tr h' Z' v' d' := htr h' Z' (leOf S'')
    refine letGo_ok (X.obj (i + 1) _ hW') ?_
    have hDg' : h'.get? D = some (listOf vs n) := hk' D _ (by simpa using Ne.symm hID) hDg
    have hT' : TrL h' Z' vs.toList rs := hT.mono (fun _ q => q) fun a o' q e => hk' a o' (fun z => hzI (by rw [← List.mem_singleton.mp z]; exact q)) e
    rcases Nat.lt_or_ge i pre with hip | hip
    · obtain ⟨ρ₁, hbd, hsub₁, hno₁, hstep⟩ := (ht i d' hip hd').step
      refine hb C s Z ρf ρ₁ d' _ Z' v' _ _ hbd (S''.weak hsub) tv fun s₃ S₃ l₃ p₃ => ?_
      obtain ⟨ht1, he1⟩ := hstep C s Z
      have hDcell : ∀ y, (cxComp c scope cl C s Z).env.cells.lookup y ≠ some D := fun y e => by
        obtain ⟨_, _, ⟨o', w, g1, g2⟩, _⟩ := l₀.cell y D (hcl y D e)
        rw [dD] at g1; cases g1
      have hDg₃ : s₃.heap.get? D = some (listOf vs n) := p₃ D _ hDC hDcell hDg'
      have hIo := X.obj (i + 1) _ hW'
      refine wpAny_tests_nil ?_
      have trans_W : ∀ {s₅ : Shared} {Z₅ : Addr → Prop}, LeX (cxComp c scope cl C s Z) ρ₁ s₃.heap Z' ρ₁ s₅.heap Z₅ → W (i + 1) s₅.heap ∧ s₅.heap.get? D = some (listOf vs n) ∧ TrL s₅.heap Z₅ vs.toList rs ∧ ¬ Z₅ D ∧ ¬ Z₅ I := fun {s₅ Z₅} l₅ => by
        obtain ⟨oI, TI, fsI, g1, _, _, g2⟩ := hIo
        have hI3 : s₃.heap.get? I = some oI := l₃.flds I oI fsI g1 g2
        refine ⟨hWk.frame _ _ _ hW' fun b hb' o' e => ?_, l₅.all D _ (nV dD) hDg₃, l₅.trL (l₃.trL hT'), fun q => ?_, fun q => ?_⟩
        · rcases X.foot b hb' with hb2 | hz
          · rw [hb2] at e ⊢; rw [g1] at e; cases e; exact l₅.all I oI (nV dI) hI3
          · exact l₅.keep b o' (S'.z0 b hz) (l₃.keep b o' (S'.z0 b hz) e)
        · rcases l₅.fz D _ (nV dD) hDg₃ q with q | ⟨x, ds', m, q1, _⟩
          · exact hzD q
          · exact hno₁ x ds' q1
        · rcases l₅.fz I _ (nV dI) hI3 q with q | ⟨x, ds', m, q1, _⟩
          · exact hzI q
          · exact hno₁ x ds' q1
      rw [if_pos rfl]
      refine (he1 rfl).run s₃ Z' _ _ S₃ fun x s₅ Z₅ r S₅ l₅ tx hPr => ?_
      obtain ⟨a1, a2, a3, a4, a5⟩ := trans_W l₅
      have hvl := a3.length
      refine append_at (n := n) a2 (fun h₆ hs₆ hg₆ => ?_) (by rw [← Array.length_toList, hvl, hA]; exact Nat.le_trans (Nat.le_of_lt hlt) hz)
      have k6 : ∀ a o', a ≠ D → s₅.heap.get? a = some o' → h₆.get? a = some o' := fun a o' q e => (hs₆.2 a q).trans e
      have S₆ := S₅.junk (tk := s₅.toks) hs₆ a2 a4 dD (nV dD) hDC (fun w q => by cases q) fun m own l x => by rw [l.no_own hno₁ x]; exact fun q => nomatch q
      have tz : ∀ a o', Z₅ a → s₅.heap.get? a = some o' → h₆.get? a = some o' := fun a o' q e => k6 a o' (fun z => a4 (z ▸ q)) e
      refine ⟨ds.length - (i + 1), by omega, i + 1, ρ₁, Z₅, rs ++ [r], vs.push x, n + 1, hip, rfl, S₆, hsub₁, hno₁, ?_, hg₆, ?_, a4, a5, by rw [List.length_append, hA]; rfl⟩
      · refine hWk.frame _ _ _ a1 fun b hb' o' e => ?_
        rcases X.foot b hb' with hb2 | hz
        · exact k6 b o' (hb2 ▸ hID) e
        · exact tz b o' (l₅.zz b (S'.z0 b hz)) e
      · rw [Array.toList_push]
        exact (a3.mono (fun _ q => q) tz).append (.cons (tx.mono (fun _ q => q) tz) .nil)
    · have hie : i = pre := Nat.le_antisymm hi hip
      subst hie
      rw [hdB] at hd'; cases hd'
      refine hb C s Z ρf ρB dB _ Z' v' _ _ hbB (S''.weak hsub) tv fun s₃ S₃ l₃ p₃ => ?_
      refine wpAny_tests_nil ?_
      rw [if_pos rfl]
      refine hrB C s Z (hB.comp S) s₃ Z' _ _ S₃ fun v₅ s₅ r hn => ?_
      obtain ⟨e₁, rest, L, f1, f2, f3⟩ := hTop.fr
      obtain ⟨m₅, hn⟩ := hn
      exact rz_note (by rw [S.stk.frames, f1]) f2 (show (compEnvC scope cl C c.env).frame = some L from f3) r fun h₆ y u => kE D C _ v₅ _ dC y ⟨m₅, u.ns hn⟩
  have main := loop { s with heap := h₁, toks := s.toks + ([] : List (Str × Value)).length } ⟨_, rfl⟩
  rw [hI, hD, hC, hH] at main
  exact codeAny_compStart_list main ((X.walks c.A S.stk.handled).self 0 _ _ _ hW0 main)
end
section
theorem evr_comp {B : Heap} {c : Cx} {ρ ρ₁ ρf : Rho} {elt iter target : Expr} {scope : Scope} {cl : List (Str × Addr)} {pos : Pos} {d : D} {ds : List D} {bind : D → Rho → Option Rho} {P : D → D → Prop} (hB : CB B c)
    (h : Ev c ρ iter ρ₁ d) (hd : itemsOf d = some ds) (hz : ds.length ≤ sizeLine) (hclos : closureFor scope c.env = pure cl)
    (hk : scope.kind = .function) (hcell : ∀ y ∈ scope.names, y.2 ≠ .cell) (hnames : ∀ x ∈ scope.names, x.2 = .local → scope.names.lookup x.1 = some .local) (hcl : ∀ x a, cl.lookup x = some a → c.env.cells.lookup x = some a) (hb : ∀ C s0 Z0, Binds (cxComp c scope cl C s0 Z0) target bind)
    (hf : ∀ x b, ρf.lookup x = some b → ρ₁.lookup x = some b ∧ (cl.lookup x).isSome = true ∧ ∀ ds, b ≠ .own ds)
    (pre : Nat) (ht : ∀ (i : Nat) (d : D), i < pre → ds[i]? = some d → Turn c scope cl target elt [] bind ρf (fun _ => true) P d)
    (hbad : ∃ d, ds[pre]? = some d ∧ ∃ ρ₁, bind d ρf = some ρ₁ ∧ ∀ C s0 Z0, CB B (cxComp c scope cl C s0 Z0) → EvR B (cxComp c scope cl C s0 Z0) ρ₁ (eval elt (compEnvC scope cl C c.env)))
    (hTop : c.Top) (hs : ∀ x, foldedSetIterable iter c.env x = pure x) : EvR B c ρ (eval (.ListComp elt [⟨target, iter, [], 0⟩] scope pos) c.env) := fun s Z Q E S k => by
  rw [eval_ListComp]
  refine wpAny_comprehension_free (use := none) (g := ⟨target, iter, [], 0⟩) (gs := []) rfl hs hclos hk hnames (h.run s Z _ E S fun v s₁ Z₁ d' S₁ l₁ t₁ e₁ => ?_)
  subst e₁
  refine comp_block_bad (RR := fun acc C => compPost (model PP c.w) c.A E none Q acc C) S₁ t₁ hd hz hk hcell hcl hb hf pre ht hbad hTop hB fun D C s' v fl dC r hn => ?_
  obtain ⟨m, hn⟩ := hn
  refine ⟨m, hn, fun h' hsb cenv hcenv => ?_⟩
  obtain ⟨oC, es, ep, hoC, hdC, _⟩ := hn
  have hBC : B.get? C = none := by
    cases q : B.get? C with
    | none => rfl
    | some o => rw [S₁.keep C o (hB.nV C) (hB.stay C o q)] at dC; cases dC
  have r' := r.but hsb hBC dC hoC (fun fs q => by rw [hdC] at q; cases q) fun l hl e he L hL q => by
    rw [S₁.stk.frames] at hl; cases hl
    have := Heap.FunFrames.alive S₁.stk.fr he hL
    rw [q, dC] at this; cases this
  refine rz_passOn r' fun h'' y u => ?_
  have z := S₁.rz hB y.rz
  exact k _ _ z.1 z.2
/-- the same: one name; the data made from as -/
theorem evr_compA {B : Heap} {α : Type} {c : Cx} {ρ ρ₁ ρf : Rho} {x : Str} {p : Pos} {elt iter : Expr} {scope : Scope} {cl : List (Str × Addr)} {pos : Pos} {d bad : D} {good rest : List D} (f : D → D) (hB : CB B c)
    (h : Ev c ρ iter ρ₁ d) (hd : itemsOf d = some (good ++ bad :: rest)) (hz : (good ++ bad :: rest).length ≤ 16777216) (hclos : closureFor scope c.env = pure cl)
    (hk : scope.kind = .function) (hcell : (scope.names.all fun y => y.2 != .cell) = true) (hnames : (scope.names.all fun x => x.2 != .local || scope.names.lookup x.1 == some .local) = true) (hcl : CL cl c.env.cells) (hx : ∀ C s0 Z0, (cxComp c scope cl C s0 Z0).Sto x)
    (hf : HF ρf ρ₁ cl) (hxf : ρf.lookup x = none)
    (ht : ∀ d ∈ good, ∀ C s0 Z0, Ev (cxComp c scope cl C s0 Z0) ((x, .v d) :: ρf) elt ((x, .v d) :: ρf) (f d))
    (hbad : ∀ C s0 Z0, CB B (cxComp c scope cl C s0 Z0) → EvR B (cxComp c scope cl C s0 Z0) ((x, .v bad) :: ρf) (eval elt (compEnvC scope cl C c.env)))
    (hTop : c.Top) (hs : ∀ x, foldedSetIterable iter c.env x = pure x) : EvR B c ρ (eval (.ListComp elt [⟨.Name x p, iter, [], 0⟩] scope pos) c.env) := by
  refine evr_comp (bind := fun d ρ => some ((x, .v d) :: ρ)) (P := fun a b => b = f a) hB h hd (by rw [sizeLine_is]; exact hz) hclos hk (fun y hy q => ?_) (fun y hy q => ?_) hcl (fun C s0 Z0 => binds_name (hx C s0 Z0)) hf good.length (fun i d hi e => ⟨_, rfl, ?_, ?_, fun C s0 Z0 => ⟨rfl, fun _ => ht d ?_ C s0 Z0⟩⟩) ⟨bad, by simp, _, rfl, hbad⟩ hTop hs
  · have := List.all_eq_true.mp hcell y hy; rw [q] at this; cases this
  · have := List.all_eq_true.mp hnames y hy
    rw [q] at this
    simpa using this
  · intro y b e
    rw [List.lookup_cons]
    cases q : (y == x) with
    | true => rw [beq_iff_eq.mp q, hxf] at e; cases e
    | false => exact e
  · intro y ds' e
    rw [List.lookup_cons] at e
    cases q : (y == x) with
    | true => rw [q] at e; cases e
    | false => rw [q] at e; exact (hf y _ e).2.2 _ rfl
  · rw [List.getElem?_append_left hi] at e
    exact List.mem_of_getElem? e
/-- for: good data, then one that raises -/
theorem exr_forA {B : Heap} {α : Type} {c : Cx} {ρ ρ₁ : Rho} {x : Str} {p pos : Pos} {iter : Expr} {body : List Stmt} {d : D} (g : α → D) (I : List α → Rho) {good : List α} {bad : D} {more : List D} (hTop : c.Top) (h : Ev c ρ iter ρ₁ d) (hd : itemsOf d = some (good.map g ++ bad :: more)) (hb : c.Sto x) (h0 : Sub (I []) ρ₁)
    (step : ∀ done a rest, good = done ++ a :: rest → Exs c ((x, .v (g a)) :: I done) body fun o r => (o = .next ∨ o = .cont) ∧ Sub (I (done ++ [a])) r)
    (hbad : ExsR B c ((x, .v bad) :: I good) body) (hs : ∀ x, foldedSetIterable iter c.env x = pure x) : EvR B c ρ (exec (.For (.Name x p) iter body [] pos) c.env) := by
  refine exr_for hTop h hd (binds_name hb) ?_ hs
  have key : ∀ (rs done : List α) (ρ : Rho), good = done ++ rs → Sub (I done) ρ → LoopR B c (fun d ρ => some ((x, .v d) :: ρ)) body (rs.map g ++ bad :: more) ρ := by
    intro rs
    induction rs with
    | nil => intro done ρ e hs; exact ⟨I done, _, hs, rfl, .inl (by rw [List.append_nil] at e; rw [← e]; exact hbad)⟩
    | cons a rs ih =>
      intro done ρ e hs
      refine ⟨I done, _, hs, rfl, .inr (Ex.weak (step done a rs e) ?_)⟩
      rintro o r ⟨ho, hr⟩
      exact ⟨ho, ih (done ++ [a]) r (by rw [e, List.append_assoc]; rfl) hr⟩
  exact key good [] ρ₁ rfl h0
end
section
/-- a call that gives None; what stood before all frames stands behind it -/
def OpN (f : Value) (n : Nat) (ds : List D) : Prop :=
  ∀ (B : Heap) (w : World) (A : Around) (s : Shared) (Z : Addr → Prop) (vs : List Value), RdyB B w A n s Z → TrL s.heap Z vs ds → ∀ (Q : Value → Shared → Prop) (E : Value → Shared → Prop), (∀ h tk, B.StaysIn h → Q .none { s with heap := h, toks := tk }) → wpAny (model PP w) A (call f vs) Q E s
def ExN (B : Heap) (c : Cx) (ρ : Rho) (sts : List Stmt) : Prop :=
  ∀ (s : Shared) (Z : Addr → Prop) (Q : Flow → Shared → Prop) (E : Value → Shared → Prop), St c ρ Z s → (∀ h tk, B.StaysIn h → Q (.ret .none) { c.s0 with heap := h, toks := tk }) → wpAny (model PP c.w) c.A (execs sts c.env) Q E s
theorem FnN.intro {a n : Nat} {ds : List D} {name qual : Str} {params : Arguments} {body : List Stmt} {scope : Scope} {dV kV doc pm cdv ct oc : Value} {an od : Option Addr} {osl : Array (Option Value)} {names : List Str} {ρ₀ : Rho}
    (ho : ∀ w : World, List.lookup a (hd.heap_39 w.params) = some ⟨oc, od, .func (fnX name qual params body scope [] dV kV doc pm an cdv ct), osl⟩) (hcd : ∀ w : World, codeIn (hd.heap_39 w.params) cdv qual = true)
    (hbind : ∀ (w : World) (s : Shared) (vs : List Value), (KF w).In s.heap → vs.length = ds.length → BindsTo s (fnX name qual params body scope [] dV kV doc pm an cdv ct) ⟨vs, []⟩ (names.zip vs))
    (hloc : ∀ y ∈ names, scope.names.lookup y = some .local) (hcell : ∀ x ∈ scope.names, x.2 ≠ .cell) (hρ : ρ₀ = (names.zip (ds.map Bd.v)).reverse)
    (h : ∀ w A0 outer L s0 Z0 B, CB B (cxFn w qual scope a cdv A0 outer n L s0 Z0 []) → ExN B (cxFn w qual scope a cdv A0 outer n L s0 Z0 []) ρ₀ body)
    (hco : scope.isCoroutine = false) (hgen : scope.isGenerator = false) (hk : scope.kind = .function) : OpN (.ref a) (n + 1) ds := by
  intro B w A s Z vs RB T Q E k
  have R := RB.rdy
  obtain ⟨outer, X, hfr⟩ := R.stk
  obtain ⟨mg, mb, TT⟩ := X.top
  have ho' := X.K _ _ (ho w)
  refine wpAny_call (codeAny_call_def (fd := fnX name qual params body scope [] dV kV doc pm an cdv ct) (body := body) (binds := names.zip vs) (by have := X.depth; omega) ho' rfl TT.nolimit (codeRec_of X.K (hcd w)) rfl
    (hbind w s vs X.K T.length) hcell (fun x hx => hloc _ (List.of_mem_zip hx).1) (fun h₀ hns hk₀ => ?_) hco hgen hk)
  have S : St (cxFn w qual scope a cdv A outer n s.heap.objs.size s Z []) ρ₀ Z { s with heap := h₀, toks := s.toks + (names.zip vs).length } := by
    refine ⟨⟨_, _, rfl⟩, cxFn_ok X R.zok hfr hk (fun x y b e _ => by cases e), fun a o _ e => hk₀ a o e, fun _ q => q, fun _ q => .inl q, fun a q => stays_some hk₀ (R.zok a q), fun q => ?_, fun _ _ v => v, trivial, _, fun _ => [], hns, fun x b e => ?_, fun _ _ q => (nomatch q), fun _ _ _ q => (nomatch q), fun _ _ => rfl, fun x a e => by cases e⟩
    · have := R.zok _ q
      rw [get_size] at this; cases this
    · have := zip_lookup (c := cxFn w qual scope a cdv A outer n s.heap.objs.size s Z []) (names := names) (T.mono (fun _ q => q) fun a o _ e => hk₀ a o e) [] [] (fun x b e => by cases e) x b (by rw [List.append_nil, ← hρ]; exact e)
      obtain ⟨v, h1, h2⟩ := this
      exact ⟨v, .inl ⟨rfl, by simpa using h1⟩, h2⟩
  refine h w A outer s.heap.objs.size s Z B ⟨RB.ok, fun _ v => v, RB.stay, fun h' hk' hn => ?_⟩ _ Z _ _ S fun h' tk hb => k h' tk hb
  obtain ⟨m, hn⟩ := hn
  exact .cons (by show scope.kind ≠ _; rw [hk]; decide) rfl hn (stays_none RB.stay (get_size _)) ((RB.fr _ X.frames).of_keeps fun b o e _ => ⟨o, hk' b o (fun v => v) e, rfl⟩)
section
variable {B : Heap} {c : Cx} {ρ ρ₁ : Rho} {x : Str} {pos p q np hp rp : Pos} {kk : Nat}
theorem exn_step {st : Stmt} {rest : List Stmt} (h : Ex1 c ρ st ρ₁) (r : ExN B c ρ₁ rest) : ExN B c ρ (st :: rest) := fun s Z Q E S k =>
  wpAny_execs_cons (h.run s Z _ E S fun o r' f s₁ Z₁ p' S₁ l₁ fl => by
    obtain ⟨rfl, rfl⟩ := p'
    cases (fl : f = .next)
    exact r s₁ Z₁ Q E S₁ k)
/-- try: .. except BadLine: x = None; return x -/
theorem exn_try {body : List Stmt} (hTop : c.Top) (hfl : c.env.frame = some c.env.locals) (h : ExsR B c ρ body) (hk : c.env.kindOf x = some .local) (hd : (x == ("__debug__" : Str)) = false) (hkb : c.env.kindOf "BadLine" = some .globalImplicit) {cp ap : Pos}
    (hs : swapsWith (.Constant .none kk cp) (some (.Name x p)) ap.line c.env = pure false) :
    ExN B c ρ [.Try body [.ExceptHandler (some (.Name "BadLine" np)) none [.Assign [.Name x p] (.Constant .none kk cp) ap] hp] [] [] pos, .Return (some (.Name x q)) rp] := fun s Z Q E S k => by
  refine wpAny_execs_cons (wpAny_Try_except (h s Z _ _ S fun v s₁ r hn => ?_))
  obtain ⟨e₁, rest, L, f1, f2, f3⟩ := hTop.fr
  obtain ⟨m, hn⟩ := hn
  have hA : c.A.frames = some (e₁ :: rest) := by rw [S.stk.frames, f1]
  refine rz_note hA f2 f3 r fun h₂ r₂ u₂ => ?_
  refine rz_flight r₂ fun h₃ r₃ u₃ => ?_
  have hn₃ := u₃.ns (u₂.ns hn)
  obtain ⟨l, e, a0, g1, rfl, g3, ⟨mg, mb, T⟩, g5, g6, g7, g8, g9, g10⟩ := id r₃
  obtain ⟨ob, hob, hobc⟩ := g10.there
  have hC : h₃.get? 57 = some badCls := g5 _ _ (g3 _ _ (bad_obj c.w))
  have T' : TopRead VP looseN mg mb h₃ := T.keeps g5
  have K' : (KF c.w).In h₃ := g3.keeps g5
  refine wpAny_handleBy_cons (codeAny_handlers_test ?_) (by intro q; cases q)
  refine Name_function_global S.kind hkb (loadGlobal_global (env := c.env) (by rw [S.ok.glob]; exact T'.g) (mg_of K' T'.g (gl_BadLine c.w)) ?_) rfl
  obtain ⟨hh, g, d, tk, os⟩ := s₁
  refine wpAny_excMatches_sub_self hC hob hobc (by decide) (codeAny_handlers_suite ?_)
  refine rz_flight r₃ fun h₄ r₄ u₄ => ?_
  have hn₄ := u₄.ns hn₃
  obtain ⟨l', e', a0', k1, k2, k3, k4, k5, k6, k7, k8, ⟨hh', tk', k9⟩, k10⟩ := id r₄
  rw [show (c.A.mark (some (Value.ref e))).frames = c.A.frames from rfl, hA] at k1; cases k1
  have hBL : B.get? c.env.locals = none := by
    obtain ⟨_, ⟨L', o, q1, q2, _⟩, _⟩ := k7
    rw [f2] at q1; cases q1
    rw [hfl] at f3; cases f3
    exact q2
  refine wpAny_execs_cons (wpAny_Assign_Name (show wpAny _ _ (pure Value.none) _ _ _ from wpAny_pure ?_) hs)
  refine wpAny_storeName_local hk hn₄ (fun h₅ hn₅ hs₅ => ?_) (by show (c.env.scope.kind == .class || (c.env.scope.kind == .module && c.env.locals != c.env.globals)) = false; rw [S.kind]; rfl)
  refine wpAny_execs_nil ?_
  refine wpAny_execs_cons (wpAny_Return_some (wpAny_Name (wpAny_loadName_local S.kind hk hn₅ (v := .none) (by simp) ?_) hd))
  have fin := k h₅ (tk + 1) fun b o q => (hs₅.2 b fun z => by rw [z, hBL] at q; cases q).trans (k5 b o q)
  have e9 : ({ c.s0 with heap := h₅, toks := tk + 1 } : Shared) = { heap := h₅, gens := g, drawn := d, toks := tk + 1, os := os } := by
    have := congrArg (fun z : Shared => ({ z with heap := h₅, toks := tk + 1 } : Shared)) k9
    exact this.symm
  rw [e9] at fin
  exact fin
end
section
variable {d d₁ d₂ d₃ : D}
theorem Fn3N (x y z : Str) {a n : Nat} {name qual : Str} {params : Arguments} {body : List Stmt} {scope : Scope} {dV kV doc pm cdv ct oc : Value} {an od : Option Addr} {osl : Array (Option Value)}
    (ho : ∀ w : World, List.lookup a (hd.heap_39 w.params) = some ⟨oc, od, .func (fnX name qual params body scope [] dV kV doc pm an cdv ct), osl⟩) (hcd : ∀ w : World, codeIn (hd.heap_39 w.params) cdv qual = true)
    (hbind : ∀ u v t : Value, bindArgs (fnX name qual params body scope [] dV kV doc pm an cdv ct) ⟨[u, v, t], []⟩ = pure [(x, u), (y, v), (z, t)]) (hloc : scope.names.lookup x = some .local ∧ scope.names.lookup y = some .local ∧ scope.names.lookup z = some .local) (hcell : (scope.names.all fun x => x.2 != .cell) = true)
    (h : ∀ w A0 outer L s0 Z0 B, CB B (cxFn w qual scope a cdv A0 outer n L s0 Z0 []) → ExN B (cxFn w qual scope a cdv A0 outer n L s0 Z0 []) [(z, .v d₃), (y, .v d₂), (x, .v d₁)] body)
    (hco : scope.isCoroutine = false) (hgen : scope.isGenerator = false) (hk : scope.kind = .function) : OpN (.ref a) (n + 1) [d₁, d₂, d₃] :=
  FnN.intro (names := [x, y, z]) (ρ₀ := [(z, .v d₃), (y, .v d₂), (x, .v d₁)]) ho hcd (fun w s vs X e => BindsTo.of_eq (by
    rcases vs with _ | ⟨v, _ | ⟨u, _ | ⟨t, _ | ⟨t', r⟩⟩⟩⟩
    · simp at e
    · simp at e
    · simp at e
    · exact hbind v u t
    · simp at e)) (fun w hw => by
      rcases List.mem_cons.mp hw with rfl | hw
      · exact hloc.1
      · rcases List.mem_cons.mp hw with rfl | hw
        · exact hloc.2.1
        · rw [List.mem_singleton.mp hw]; exact hloc.2.2) (fun y hy q => by have := List.all_eq_true.mp hcell y hy; rw [q] at this; cases this) rfl h hco hgen hk
end
end
section
section
variable {c : Cx} {ρ ρ₁ ρf : Rho} {elt iter target : Expr} {ifs : List Expr} {scope : Scope} {cl : List (Str × Addr)} {pos p : Pos} {d : D} {ds : List D} {bind : D → Rho → Option Rho} {keepd : D → Bool} {P : D → D → Prop} {x : Str}
/-- a comprehension: the very object is known -/
theorem ev_compXP (h : Ev c ρ iter ρ₁ d) (hd : itemsOf d = some ds) (hz : ds.length ≤ sizeLine) (hclos : closureFor scope c.env = pure cl)
    (hk : scope.kind = .function) (hcell : ∀ y ∈ scope.names, y.2 ≠ .cell) (hnames : ∀ x ∈ scope.names, x.2 = .local → scope.names.lookup x.1 = some .local) (hcl : ∀ x a, cl.lookup x = some a → c.env.cells.lookup x = some a) (hb : ∀ C s0 Z0, Binds (cxComp c scope cl C s0 Z0) target bind)
    (hf : ∀ x b, ρf.lookup x = some b → ρ₁.lookup x = some b ∧ (cl.lookup x).isSome = true ∧ ∀ ds, b ≠ .own ds)
    (ht : ∀ d ∈ ds, Turn c scope cl target elt ifs bind ρf keepd P d) (hs : ∀ x, foldedSetIterable iter c.env x = pure x) :
    EvP c ρ (eval (.ListComp elt [⟨target, iter, ifs, 0⟩] scope pos) c.env) ρ₁ fun r => ∃ a rs, r = .xlist a rs ∧ c.s0.heap.get? a = none ∧ All2 P (ds.filter keepd) rs := .mk fun s Z Q E S k => by
  rw [eval_ListComp]
  refine wpAny_comprehension_free (use := none) (g := ⟨target, iter, ifs, 0⟩) (gs := []) rfl hs hclos hk hnames (h.run s Z _ E S fun v s₁ Z₁ d' S₁ l₁ t₁ e₁ => ?_)
  subst e₁
  refine comp_block (RR := fun acc C => compPost (model PP c.w) c.A E none Q acc C) S₁ t₁ hd hz hk hcell hcl hb hf ht fun D C s' Z' ρ' rs vs n dD dC hDC S' hg hT hzD hA => ?_
  obtain ⟨m, own, l⟩ := S'.loc
  refine ⟨m, l.ns, fun h' hsb => ?_⟩
  have hDg : h'.get? D = some (listOf vs n) := (hsb.2 D hDC).trans hg
  have hCz : ¬ Z' C := S'.zL
  have hzk : ∀ a o, Z' a → s'.heap.get? a = some o → h'.get? a = some o := fun a o q e => (hsb.2 a fun z => hCz (z ▸ q)).trans e
  have hne : ∀ {a}, (s₁.heap.get? a).isSome = true → a ≠ C := fun e q => by rw [q, dC] at e; cases e
  have X : ExtV c.V s₁ Z₁ { s' with heap := h' } (fun a => Z' a ∨ a = D) := by
    refine ⟨?_, fun a o v e => (hsb.2 a (hne (by rw [e]; rfl))).trans (S'.keep a o v e), fun a q => .inl (S'.z0 a q), fun a q => q.elim (S'.znew a) fun e => .inr (by rw [e]; exact dD), fun a q => ?_⟩
    · obtain ⟨h, t, e⟩ := S'.same; exact ⟨h', t, by rw [e]⟩
    · rcases q with q | q
      · exact some_of (fun o => hzk a o q) (S'.zok a q)
      · rw [q, hDg]; rfl
  have hG : c.G h' := S'.ok.gst _ _ S'.g fun a v => hsb.2 a (hne (S₁.va a v))
  have d0 : c.s0.heap.get? D = none := by
    cases q : c.s0.heap.get? D with
    | none => rfl
    | some o =>
      have hv : ¬ c.V D := fun v => by have := S₁.va D v; rw [dD] at this; cases this
      rw [S₁.keep D o hv q] at dD; cases dD
  refine k (.ref D) { s' with heap := h' } _ (.xlist D rs) (S₁.extV X hG) (LeX.trans S l₁ (S₁.leXV X)) (.xlist (vs := vs.toList) (n := n) (.inr rfl) (by simpa using hDg) (hT.mono (fun _ q => .inl q) hzk)) ⟨D, rs, rfl, d0, hA⟩
theorem ev_compX {α : Type} (f : D → D) (g f' : α → D) {as : List α} (h : Ev c ρ iter ρ₁ d) (hd : itemsOf d = some (as.map g)) (hclos : closureFor scope c.env = pure cl) (hk : scope.kind = .function) (hcell : (scope.names.all fun y => y.2 != .cell) = true)
    (hnames : (scope.names.all fun x => x.2 != .local || scope.names.lookup x.1 == some .local) = true) (hcl : CL cl c.env.cells) (hx : ∀ C s0 Z0, (cxComp c scope cl C s0 Z0).Sto x)
    (hf : HF ρf ρ₁ cl) (hs : ∀ x, foldedSetIterable iter c.env x = pure x) (hxf : ρf.lookup x = none) (hz : as.length ≤ 16777216) (hfg : ∀ a, f (g a) = f' a)
    (ht : ∀ a ∈ as, ∀ C s0 Z0, Ev (cxComp c scope cl C s0 Z0) ((x, .v (g a)) :: ρf) elt ((x, .v (g a)) :: ρf) (f' a)) :
    EvP c ρ (eval (.ListComp elt [⟨.Name x p, iter, [], 0⟩] scope pos) c.env) ρ₁ (fun r => ∃ a, r = .xlist a (as.map f') ∧ c.s0.heap.get? a = none) := by
  refine EvP.weak (ev_compXP (bind := fun d ρ => some ((x, .v d) :: ρ)) (keepd := fun _ => true) (P := fun a b => b = f a) h hd (by rw [sizeLine_is, List.length_map]; exact hz) hclos hk (fun y hy q => ?_) (fun y hy q => ?_) hcl (fun C s0 Z0 => binds_name (hx C s0 Z0)) hf (fun d hd => ⟨_, rfl, ?_, ?_, fun C s0 Z0 => ⟨rfl, fun _ => ?_⟩⟩) hs) ?_
  · have := List.all_eq_true.mp hcell y hy; rw [q] at this; cases this
  · have := List.all_eq_true.mp hnames y hy
    rw [q] at this
    simpa using this
  · intro y b e
    rw [List.lookup_cons]
    cases q : (y == x) with
    | true => rw [beq_iff_eq.mp q, hxf] at e; cases e
    | false => exact e
  · intro y ds' e
    rw [List.lookup_cons] at e
    cases q : (y == x) with
    | true => rw [q] at e; cases e
    | false => rw [q] at e; exact (hf y _ e).2.2 _ rfl
  · obtain ⟨a, ha, rfl⟩ := List.mem_map.mp hd
    rw [hfg]; exact ht a ha C s0 Z0
  · rintro r ⟨a, rs, rfl, d0, h⟩
    rw [show (as.map g).filter (fun _ => true) = as.map g by simp] at h
    refine ⟨a, ?_, d0⟩
    rw [h.map, List.map_map]
    exact congrArg _ (List.map_congr_left fun a _ => hfg a)
end

/-- the law's deck: a dict of a list of ints and an int -/
structure DeckAt (w : World) (h : Heap) (dk l : Addr) : Prop where
  d : ∃ (m : Int) (t : Tok), 0 ≤ m ∧ m < 1000003 ∧ h.DictOf (PySem.strKind PP w) dk [(Str.ofString "left", .ref l), (Str.ofString "mixed", .int m t)]
  ls : ∃ (vs : List Value) (n : Nat), h.get? l = some (listOf vs.toArray n) ∧ (∀ v ∈ vs, ∃ i t, v = Value.int i t ∧ 0 ≤ i ∧ i < 1000003) ∧ vs.length ≤ 1000
  ne : dk ≠ l
theorem DeckAt.of {w : World} {h h' : Heap} {dk l : Addr} (x : DeckAt w h dk l) (k1 : h'.get? dk = h.get? dk) (k2 : h'.get? l = h.get? l) : DeckAt w h' dk l := by
  obtain ⟨⟨m, t, a1, a2, ⟨o, es, ep, ho, r⟩⟩, ⟨vs, n, b1, b2⟩, c⟩ := x
  exact ⟨⟨m, t, a1, a2, ⟨o, es, ep, k1.trans ho, r⟩⟩, ⟨vs, n, k2.trans b1, b2⟩, c⟩
section
variable {c : Cx} {ρ : Rho}
/-- {'left': left, 'mixed': mixed} -/
theorem deck_made {p1 p2 p3 p4 pos : Pos} {k1 k2 : Nat} {l : Addr} {ds : List D} {m : Int} {s : Shared} {Z : Addr → Prop} {Q E : Value → Shared → Prop} (S : St c ρ Z s) (hl : ρ.lookup (Str.ofString "left") = some (.v (.xlist l ds))) (hm : ρ.lookup (Str.ofString "mixed") = some (.v (.int m)))
    (hkl : c.env.kindOf (Str.ofString "left") = some .local) (hkm : c.env.kindOf (Str.ofString "mixed") = some .local) (hcl : c.env.cells.lookup (Str.ofString "left") = none) (hcm : c.env.cells.lookup (Str.ofString "mixed") = none)
    (k : ∀ h' tk vs n t, (∀ b o, s.heap.get? b = some o → h'.get? b = some o) → Z l → h'.get? l = some (listOf vs.toArray n) → TrL s.heap Z vs ds → h'.DictOf (PySem.strKind PP c.w) s.heap.objs.size [(Str.ofString "left", .ref l), (Str.ofString "mixed", .int m t)] → Q (.ref s.heap.objs.size) { s with heap := h', toks := tk }) :
    wpAny (model PP c.w) c.A (eval (.Dict [some (.Constant (.str "left") k1 p1), some (.Constant (.str "mixed") k2 p2)] [.Name "left" p3, .Name "mixed" p4] pos) c.env) Q E s := by
  obtain ⟨mm, own, loc⟩ := S.loc
  obtain ⟨vl, h1, _, tl⟩ := loc.get _ _ hl
  obtain ⟨vm, h2, _, tm⟩ := loc.get _ _ hm
  have e1 : mm "left" = some vl := by
    rcases h1 with ⟨_, h1⟩ | ⟨a, o, h1, _⟩
    · exact h1
    · rw [hcl] at h1; cases h1
  have e2 : mm "mixed" = some vm := by
    rcases h2 with ⟨_, h1⟩ | ⟨a, o, h1, _⟩
    · exact h1
    · rw [hcm] at h1; cases h1
  cases tm using Tr.intC with
  | int tk0 =>
  cases tl using Tr.xlistC with
  | @xlist vs n hz hg ht =>
  refine wpAny_Dict_walk (knd := PySem.strKind PP c.w) rfl rfl (by simp) (by simp) ?_
  simp only [pairTrees, evalPairs]
  have hns : (s.heap.push { cls := .type "dict", data := .dict #[] }).Ns c.L mm := loc.ns.keeps fun b o e => Heap.get?_push_of_some _ e
  refine wpAny_bind (Calls.Constant_str ?_)
  refine wpAny_bind (wpAny_holding (wpAny_bind (wpAny_Name (wpAny_loadName_local S.kind hkl hns e1 (wpAny_bind (wpAny_standAt (wpAny_pure ?_)))) rfl)))
  refine wpAny_bind (wpAny_holding (wpAny_bind (Calls.Constant_str ?_)))
  refine wpAny_bind (wpAny_holding (wpAny_bind (wpAny_Name (wpAny_loadName_local S.kind hkm hns e2 (wpAny_bind (wpAny_standAt (wpAny_pure ?_)))) rfl)))
  refine wpAny_bind (wpAny_holding (wpAny_pure (wpAny_pure (wpAny_pure ?_))))
  refine ⟨[(Str.ofString "left", .ref l), (Str.ofString "mixed", .int m tk0)], ⟨PySem.strKind_is _ _ _ _, rfl, PySem.strKind_is _ _ _ _, rfl, trivial⟩, Heap.DictOf.new _, fun h' hd hs => ?_⟩
  have hne : ∀ {b o}, s.heap.get? b = some o → b ≠ s.heap.objs.size := fun e q => by rw [q, get_size] at e; cases e
  refine k h' _ vs n tk0 (fun b o e => (hs.2 b (hne e)).trans (Heap.get?_push_of_some _ e)) hz ((hs.2 l (hne hg)).trans (Heap.get?_push_of_some _ hg)) ht ?_
  have : merged [] [(Str.ofString "left", Value.ref l), (Str.ofString "mixed", Value.int m tk0)] = [(Str.ofString "left", .ref l), (Str.ofString "mixed", .int m tk0)] := by
    have e : stored ([] : List (Str × Value)) (Str.ofString "left") (.ref l) = [(Str.ofString "left", .ref l)] := rfl
    show stored (stored [] (Str.ofString "left") (.ref l)) (Str.ofString "mixed") (.int m tk0) = _
    rw [e]
    unfold stored
    have hne : Str.ofString "left" ≠ Str.ofString "mixed" := by decide
    rw [if_neg (by simp [hne])]
    rfl
  rw [this] at hd
  exact hd
end
end
section
/-- the frame holds the deck -/
structure DeckCx (c : Cx) (dk l : Addr) : Prop where
  V : c.V = fun a => a = dk ∨ a = l
  G : c.G = fun h => DeckAt c.w h dk l
  k : c.dk = .ref dk
section
variable {w : World} {A : Around} {E : Value → Shared → Prop} {s : Shared} {dk l : Addr}
/-- list.pop(0) -/
theorem pop0 {v : Value} {vs : List Value} {n : Nat} {u : Tok} {Q : Value → Shared → Prop} (hg : s.heap.get? l = some (listOf (v :: vs).toArray n)) (hz : (v :: vs).length ≤ 1000)
    (k : ∀ h', Heap.SameBut l s.heap h' → h'.get? l = some (listOf vs.toArray (n + 1)) → Q v { s with heap := h' }) : wpAny (model PP w) A (call (.builtin "list.pop") [.ref l, .int 0 u]) Q E s := by
  refine call_meets PySem.F.slot_list_pop ⟨_, hg, rfl⟩ PySem.F.entry_list_pop (PySem.F.args_list_pop_2 _ _) (PySem.MeetsSeq.list_pop_at l _ n 0 u 0 v (by decide) ?_ (by simp) ?_) ⟨hg, k _ (Heap.SameBut.update ..) ?_⟩
  · unfold seqIndex?
    simp
  · rw [List.size_toArray, sizeLine_is]; omega
  · have q := PySem.IsL.update hg (fun xs => xs.eraseIdxIfInBounds 0)
    have e : (v :: vs).toArray.eraseIdxIfInBounds 0 = vs.toArray := kl_erase [] vs v
    rw [e, if_neg (by simp)] at q
    exact q
theorem deck_item {x : Str} {v : Value} {a b : Value} {value slice : Expr} {tk : Tok} {Q : Value → Shared → Prop} (hd : s.heap.DictOf (PySem.strKind PP w) dk [(Str.ofString "left", a), (Str.ofString "mixed", b)])
    (hv : valueAt [(Str.ofString "left", a), (Str.ofString "mixed", b)] x = some v) (h : Q v { s with toks := s.toks + 1 })
    (hs : subscripted slice false (.ref dk) (.str x tk) = operate [.ref dk, .str x tk] (getItem (.ref dk) (.str x tk))) : wpAny (model PP w) A (subscriptTail value slice (.ref dk) (.str x tk)) Q E s :=
  tail_any hd.typeIs PySem.F.slot_dict_getitem.lookup (wpAny_getItem_of (knd := PySem.strKind PP w) (PySem.strKind_is _ _ _ _) hd.mapOf hv h) hs
end
section
variable {c : Cx} {ρ ρ₁ ρ₂ : Rho} {dk l : Addr} {x : Str} {pos : Pos} {d₂ : D} {P P₁ : D → Prop} {Z : Addr → Prop} {s : Shared}
theorem name_deck {Q E : Value → Shared → Prop} (S : St c ρ Z s) (hl : ρ.lookup x = some .deck) (hk : (c.env.kindOf x = some .local ∧ c.env.cells.lookup x = none) ∨ ((c.env.kindOf x = some .cell ∨ c.env.kindOf x = some .free) ∧ (c.env.cells.lookup x).isSome = true))
    (hd : (x == ("__debug__" : Str)) = false) (hn : (x == ("__classdict__" : Str)) = false) (q : Q c.dk s) : wpAny (model PP c.w) c.A (eval (.Name x pos) c.env) Q E s := by
  obtain ⟨m, own, loc⟩ := S.loc
  obtain ⟨v, h1, _, hv⟩ := loc.get x _ hl
  subst hv
  refine wpAny_Name ?_ hd
  rcases hk with ⟨hk, hc⟩ | ⟨hk, hc⟩
  · rcases h1 with ⟨_, h1⟩ | ⟨a, o, h1, _⟩
    · exact wpAny_loadName_local S.kind hk loc.ns h1 q
    · rw [hc] at h1; cases h1
  · rcases h1 with ⟨h1, _⟩ | ⟨a, o, h1, h3, h4⟩
    · rw [h1] at hc; cases hc
    · rcases hk with hk | hk
      · exact wpAny_loadName_cell S.kind hk h1 ⟨o, h3, h4⟩ q
      · exact wpAny_loadName_free S.kind hk h1 ⟨o, h3, h4⟩ q hn
theorem St.deck (S : St c ρ Z s) (hc : DeckCx c dk l) : DeckAt c.w s.heap dk l := by have := S.g; rw [hc.G] at this; exact this
theorem ev_binP {e r : Expr} {op : Operator} (h₁ : EvP c ρ (eval e c.env) ρ₁ P₁) (h₂ : Ev c ρ₁ r ρ₂ d₂) (o : ∀ d₁, P₁ d₁ → Op2 (binaryOp op) 0 d₁ d₂ P) : EvP c ρ (eval (.BinOp e op r pos) c.env) ρ₂ P := .mk fun s Z Q E S k =>
  wpAny_BinOp (h₁.run s Z _ E S fun a s₁ Z₁ d₁ S₁ l₁ t₁ p₁ => h₂.run s₁ Z₁ _ E S₁ fun b s₂ Z₂ _ S₂ l₂ t₂ e₂ => fin_op S S₂ (LeX.trans S l₁ l₂) ((o d₁ p₁).run _ _ s₂ Z₂ a b (S₂.rdy (Nat.zero_le _)) (l₂.tr t₁) (e₂ ▸ t₂)) k)
/-- deck['mixed'] -/
theorem ev_mixed {p1 p2 p3 : Pos} {kk : Nat} (hc : DeckCx c dk l) (hl : ρ.lookup x = some .deck) (hk : c.env.kindOf x = some .local) (hcl : c.env.cells.lookup x = none) (hd : (x == ("__debug__" : Str)) = false) (hn : (x == ("__classdict__" : Str)) = false)
    (hs : ∀ o i, subscripted (.Constant (.str "mixed") kk p2) false o i = operate [o, i] (getItem o i)) : EvP c ρ (eval (.Subscript (.Name x p1) (.Constant (.str "mixed") kk p2) p3) c.env) ρ (fun d => ∃ m : Int, 0 ≤ m ∧ m < 1000003 ∧ d = .int m) := .mk fun s Z Q E S k => by
  obtain ⟨⟨m, t, m0, m1, hD⟩, hL, hne⟩ := S.deck hc
  refine Subscript_ (name_deck S hl (.inl ⟨hk, hcl⟩) hd hn (Calls.Constant_str ?_))
  rw [hc.k]
  refine deck_item (x := "mixed") (v := .int m t) hD rfl ?_ (hs _ _)
  have X : Ext s Z { s with toks := s.toks + 1 + 1 } Z := Ext.of (h := s.heap) (tk := s.toks + 1 + 1) S.zok fun _ _ e => e
  exact k _ _ Z (.int m) (S.ext X) X.leX (.int _ _) ⟨m, m0, m1, rfl⟩
/-- deck['mixed'] = e -/
theorem exs_setmixed {p1 p2 p3 : Pos} {kk : Nat} {e : Expr} {rest : List Stmt} {R : Out → Rho → Prop} (hc : DeckCx c dk l) (hl : ρ.lookup x = some .deck) (hk : c.env.kindOf x = some .local) (hcl : c.env.cells.lookup x = none) (hd : (x == ("__debug__" : Str)) = false) (hn : (x == ("__classdict__" : Str)) = false)
    (h : EvP c ρ (eval e c.env) ρ (fun d => ∃ m : Int, 0 ≤ m ∧ m < 1000003 ∧ d = .int m)) (hs : swapsWith e (some (.Subscript (.Name x p1) (.Constant (.str "mixed") kk p2) p3)) pos.line c.env = pure false) (r : Exs c ρ rest R) :
    Exs c ρ (.Assign [.Subscript (.Name x p1) (.Constant (.str "mixed") kk p2) p3] e pos :: rest) R := exs_step (ρ₁ := ρ) (.mk fun s Z Q E S k => by
  refine wpAny_Assign_Subscript (h.run s Z _ E S fun v s₁ Z₁ d S₁ l₁ t₁ p₁ => ?_) hs
  obtain ⟨m, m0, m1, rfl⟩ := p₁
  cases t₁ using Tr.intC with
  | int tk =>
  refine name_deck S₁ hl (.inl ⟨hk, hcl⟩) hd hn (Calls.Constant_str ?_)
  rw [hc.k]
  obtain ⟨⟨m', t', _, _, hD⟩, hL, hne⟩ := S₁.deck hc
  refine wpAny_setItem_pairs (knd := PySem.strKind PP c.w) (k := Str.ofString "mixed") (PySem.strKind_is _ _ _ _) hD (fun h' hd' hs' => ?_) (by rw [sizeLine_is]; exact Nat.le_of_ble_eq_true rfl)
  have hst : stored [(Str.ofString "left", Value.ref l), (Str.ofString "mixed", .int m' t')] (Str.ofString "mixed") (.int m tk) = [(Str.ofString "left", Value.ref l), (Str.ofString "mixed", .int m tk)] := by
    have hne : Str.ofString "left" ≠ Str.ofString "mixed" := by decide
    unfold stored
    rw [if_pos (by simp)]
    simp [hne]
  rw [hst] at hd'
  have hV : ∀ a, ¬ c.V a → a ≠ dk := fun a v q => v (by rw [hc.V]; exact .inl q)
  have zd : ∀ a, Z₁ a → a ≠ dk := fun a q e => S₁.zV a q (by rw [hc.V]; exact .inl e)
  have X : ExtV c.V s₁ Z₁ { s₁ with heap := h', toks := s₁.toks + 1 + 1 } Z₁ := ⟨⟨_, _, rfl⟩, fun a o v e => (hs'.2 a (hV a v)).trans e, fun _ q => q, fun _ q => .inl q, fun a q => by rw [hs'.2 a (zd a q)]; exact S₁.zok a q⟩
  have hg : c.G h' := by
    rw [hc.G]
    obtain ⟨vs, n, g1, g2⟩ := hL
    exact ⟨⟨m, tk, m0, m1, hd'⟩, ⟨vs, n, (hs'.2 l (Ne.symm hne)).trans g1, g2⟩, hne⟩
  exact k .next _ .next _ Z₁ ⟨rfl, rfl⟩ (S₁.extV X hg) ((S.ofX l₁).trans (S₁.leV X)) rfl) r
/-- if deck['left'] != []: return deck['left'].pop(0) % many -/
theorem exs_pop {p1 p2 p3 p4 p5 p6 q1 q2 q3 q4 q5 q6 ap cp rp : Pos} {k1 k2 k3 : Nat} {pl : Sem Bool} {rest : List Stmt} {R : Out → Rho → Prop} {many : Int} (hc : DeckCx c dk l) (hl : ρ.lookup (Str.ofString "deck") = some .deck) (hm : ρ.lookup (Str.ofString "many") = some (.v (.int many))) (h0 : 1 ≤ many)
    (hk : c.env.kindOf (Str.ofString "deck") = some .local) (hcl : c.env.cells.lookup (Str.ofString "deck") = none) (hkm : c.env.kindOf (Str.ofString "many") = some .local) (hcm : c.env.cells.lookup (Str.ofString "many") = none)
    (hs1 : ∀ o i, subscripted (.Constant (.str "left") k1 p2) false o i = operate [o, i] (getItem o i)) (hs2 : ∀ o i, subscripted (.Constant (.str "left") k2 q2) false o i = operate [o, i] (getItem o i)) (hbm : behindInMarks .NotEq (.List [] p4) = false)
    (h1 : eval (.Call (.Attribute (.Subscript (.Name "deck" q1) (.Constant (.str "left") k2 q2) q3) "pop" ap) [.Constant (.int 0) k3 q4] [] cp) c.env = (do let ov ← eval (.Subscript (.Name "deck" q1) (.Constant (.str "left") k2 q2) q3) c.env; standAt ap.atName; let (f, first) ← holding [ov] (getMethod ov "pop" pl); callWith cp f first (backTo cp (starEach [.Constant (.int 0) k3 q4] c.env)) []))
    (he : starEach [.Constant (.int 0) k3 q4] c.env = (false, eval (.Constant (.int 0) k3 q4) c.env) :: starEach [] c.env)
    (hR : ∀ r : Int, 0 ≤ r → r < many → R (.ret (.int r)) ρ) (hrest : Exs c ρ rest R) :
    Exs c ρ (.If (.Compare (.Subscript (.Name "deck" p1) (.Constant (.str "left") k1 p2) p3) [.NotEq] [.List [] p4] p5) [.Return (some (.BinOp (.Call (.Attribute (.Subscript (.Name "deck" q1) (.Constant (.str "left") k2 q2) q3) "pop" ap) [.Constant (.int 0) k3 q4] [] cp) .Mod (.Name "many" q5) q6)) rp] [] p6 :: rest) R := .mk fun s Z Q E S k => by
  obtain ⟨⟨m, t, m0, m1, hD⟩, ⟨vs, n, hg, hvs, hlen⟩, hne⟩ := S.deck hc
  have hu := (S.rdy (Nat.zero_le _)).units
  have hl0 : s.heap.get? l = some (listOf vs.toArray n) := hg
  refine wpAny_execs_cons (wpAny_If (wpAny_isTrue_Compare1 (Subscript_ (name_deck S hl (.inl ⟨hk, hcl⟩) rfl rfl (Calls.Constant_str ?_))) hbm))
  rw [hc.k]
  refine deck_item (x := "left") (v := .ref l) hD rfl ?_ (hs1 _ _)
  refine List_ (spliced_none (wpAny_newList ?_ (Nat.zero_le _)))
  have X : Ext s Z { s with heap := s.heap.push { cls := .type "list", data := .seq ([] : List Value).toArray }, toks := s.toks + 1 + 1 } Z := Ext.of (tk := s.toks + 1 + 1) S.zok fun a o e => Heap.get?_push_of_some _ e
  have S₁ := S.ext X
  have hl₁ : (s.heap.push { cls := .type "list", data := .seq ([] : List Value).toArray }).IsList l vs.toArray := ⟨_, X.keep _ _ hg, rfl, n, rfl⟩
  have hl₂ : (s.heap.push { cls := .type "list", data := .seq ([] : List Value).toArray }).IsList s.heap.objs.size ([] : List Value).toArray := ⟨_, Heap.get?_push_size _ rfl, rfl, 0, rfl⟩
  cases vs with
  | nil =>
    refine SeqAt.RcNeAt.lists (e := fun _ => true) hl₁ hl₂ rfl (by omega) (fun j h => by simp at h) _ _ _ _ (wpAny_truthy_bool ?_)
    rw [if_neg (by decide)]
    refine wpAny_execs_nil ?_
    exact hrest.run _ Z Q E S₁ fun o ρ' f s' Z' p' S' l' => k o ρ' f s' Z' p' S' (X.le.trans l')
  | cons v vs =>
    refine SeqAt.RcNeAt.lists_lengths hl₁ hl₂ (by simp) (by omega) _ _ _ _ (wpAny_truthy_bool ?_)
    rw [if_pos rfl]
    obtain ⟨⟨m', t', _, _, hD₁⟩, _, _⟩ := S₁.deck hc
    refine wpAny_execs_cons (wpAny_Return_some (wpAny_BinOp (MethodCall_ (pl := pl) (Subscript_ (name_deck S₁ hl (.inl ⟨hk, hcl⟩) rfl rfl (Calls.Constant_str ?_))) h1)))
    rw [hc.k]
    refine deck_item (x := "left") (v := .ref l) hD₁ rfl ?_ (hs2 _ _)
    have hg₁ : (s.heap.push { cls := .type "list", data := .seq ([] : List Value).toArray }).get? l = some (listOf (v :: vs).toArray n) := X.keep _ _ hg
    refine getMethod_builtin ⟨_, hg₁, rfl⟩ PySem.F.plainAttrs_list PySem.F.slot_list_pop PySem.F.type_list_pop (fun a e => by cases e; exact ⟨_, hg₁, rfl⟩) ?_
    refine callWith_method1 (spliced_more (wpAny_Constant_int (spliced_none ?_)) he) he rfl
    refine pop0 hg₁ hlen fun h' hs' hl' => ?_
    obtain ⟨i, ti, rfl, i0, i1⟩ := hvs v (.head _)
    have hV : ∀ a, ¬ c.V a → a ≠ l := fun a v q => v (by rw [hc.V]; exact .inr q)
    have zd : ∀ a, Z a → a ≠ l := fun a q e => S₁.zV a q (by rw [hc.V]; exact .inr e)
    have X₂ : ExtV c.V { s with heap := s.heap.push { cls := .type "list", data := .seq ([] : List Value).toArray }, toks := s.toks + 1 + 1 } Z { s with heap := h', toks := s.toks + 1 + 1 + 1 + 1 + 1 } Z :=
      ⟨⟨_, _, rfl⟩, fun a o v e => (hs'.2 a (hV a v)).trans e, fun _ q => q, fun _ q => .inl q, fun a q => by show (h'.get? a).isSome = true; rw [hs'.2 a (zd a q)]; exact S₁.zok a q⟩
    have hG : c.G h' := by
      rw [hc.G]
      obtain ⟨⟨m', t', a1, a2, ⟨o, es, ep, ho, r⟩⟩, _, _⟩ := S₁.deck hc
      exact ⟨⟨m', t', a1, a2, ⟨o, es, ep, (hs'.2 dk hne).trans ho, r⟩⟩, ⟨vs, n + 1, hl', fun v hv => hvs v (.tail _ hv), by simp at hlen; omega⟩, hne⟩
    have S₂ := S₁.extV X₂ hG
    have L₂ := X.le.trans (S₁.leV X₂)
    have hname : Ev c ρ (.Name "many" q5) ρ (.int many) := ev_local hm hkm hcm rfl
    refine hname.run _ Z _ E S₂ fun v₂ s₃ Z₃ d₃ S₃ l₃ t₃ e₃ => ?_
    subst e₃
    refine (op_mod (n := 0) (by omega)).run _ _ s₃ Z₃ _ _ (S₃.rdy (Nat.zero_le _)) (.int i ti) t₃ _ _ fun v₄ s₄ Z₄ d₄ X₄ t₄ e₄ => ?_
    subst e₄
    refine k (.ret (.int (i.fmod many))) ρ _ s₄ Z₄ (hR _ ?_ ?_) (S₃.ext X₄) (L₂.trans ((S₂.ofX l₃).trans X₄.le)) ⟨_, rfl, t₄⟩
    · exact Int.fmod_nonneg_of_pos _ (by omega)
    · exact Int.fmod_lt_of_pos _ (by omega)
end
end
section
theorem Op2.weak {t : Value → Value → Sem Value} {n : Nat} {d₁ d₂ : D} {P P' : D → Prop} (h : Op2 t n d₁ d₂ P) (k : ∀ d, P d → P' d) : Op2 t n d₁ d₂ P' := .mk fun w A s Z v₁ v₂ R t₁ t₂ Q E q => h.run w A s Z v₁ v₂ R t₁ t₂ Q E fun v s' Z' d x y z => q v s' Z' d x y (k d z)
theorem OpC.weak {f : Value} {n : Nat} {ds : List D} {P P' : D → Prop} (h : OpC f n ds P) (k : ∀ d, P d → P' d) : OpC f n ds P' := .mk fun w A s Z vs R t Q E q => h.run w A s Z vs R t Q E fun v s' Z' d x y z => q v s' Z' d x y (k d z)
/-- the frame of a call that may change the deck -/
abbrev cxDraw (c : Cx) (env : Env) (s : Shared) (Z : Addr → Prop) : Cx := { c with A := c.A.deeper env, frames := env :: c.frames, env := env, n := 0, s0 := s, Z0 := Z, mine := true }
theorem cxDraw_ok {c : Cx} {ρ : Rho} {Z : Addr → Prop} {s : Shared} {qual : Str} {scope : Scope} {a : Addr} {cdv : Value} (S : St c ρ Z s) (hn : 1 ≤ c.n) (hk : scope.kind = .function) : (cxDraw c (envX qual scope s.heap.objs.size a cdv []) s Z).Ok := by
  obtain ⟨B, b1, b2, b3, b4, b5⟩ := S.ok.bs
  have nV : ∀ b o, B.get? b = some o → ¬ c.V b := fun b o e v => by rw [b4 b v] at e; cases e
  have bs : B.StaysIn s.heap := fun b o e => S.keep b o (nV b o e) (b3 b o e)
  obtain ⟨m₀, own, l⟩ := S.loc
  have kns : ∀ h' : Heap, (∀ a o, ¬ c.V a → s.heap.get? a = some o → h'.get? a = some o) → ∃ m, h'.Ns c.L m := fun h' hk' => ⟨m₀, by obtain ⟨oL, es, ep, hL, r⟩ := l.ns; exact ⟨oL, es, ep, hk' _ _ S.ok.vL hL, r⟩⟩
  have hL0 : s.heap.get? s.heap.objs.size = none := get_size _
  refine ⟨fun h' hk' hns => ?_, S.ok.gst, S.ok.gv, S.zok, fun e he L hL => ?_, get_size _, hk, fun v => ?_, fun e he L hL => ?_, rfl, rfl, fun x y b e _ => (by cases e), B, b1, b2, bs, b4, fun h' hk' hns => ?_⟩
  · obtain ⟨m, hns⟩ := hns
    have X := S.ok.base h' (fun a o v e => hk' a o v (S.keep a o v e)) (kns h' hk')
    exact ⟨X.handled, Around.frames_deeper X.frames, by have := X.depth; show c.A.depth + 1 + 0 < _; omega, by have := X.units; show c.A.units + 3 + 20 * 0 + 100 < _; omega, X.K, X.top, .cons (by show scope.kind ≠ _; rw [hk]; decide) rfl hns rfl X.fr,
      B, fun b o e => hk' b o (nV b o e) (bs b o e), b1, b2, .cons (by show scope.kind ≠ _; rw [hk]; decide) rfl hns (stays_none bs hL0) (b5 h' (fun a o v e => hk' a o v (S.keep a o v e)) (kns h' hk'))⟩
  · rcases List.mem_cons.mp he with rfl | he
    · exact .inl (Option.some.inj hL).symm
    · exact .inr ⟨Heap.FunFrames.alive S.stk.fr he hL, S.zfr e he L hL⟩
  · have := S.va _ v
    rw [show (cxDraw c (envX qual scope s.heap.objs.size a cdv []) s Z).L = s.heap.objs.size from rfl, hL0] at this; cases this
  · rcases List.mem_cons.mp he with rfl | he
    · intro v
      have := S.va _ v
      rw [← Option.some.inj (show some s.heap.objs.size = some L from hL), hL0] at this; cases this
    · exact S.ok.vfr e he L hL
  · obtain ⟨m, hns⟩ := hns
    exact .cons (by show scope.kind ≠ _; rw [hk]; decide) rfl hns (stays_none bs hL0) (b5 h' (fun a o v e => hk' a o v (S.keep a o v e)) (kns h' hk'))
theorem draw_call_of {dk l : Addr} {name qual : Str} {params : Arguments} {body : List Stmt} {scope : Scope} {dV kV doc pm cdv ct oc : Value} {an od : Option Addr} {osl : Array (Option Value)}
    (ho : ∀ w : World, List.lookup 227 (hd.heap_39 w.params) = some ⟨oc, od, .func (fnX name qual params body scope [] dV kV doc pm an cdv ct), osl⟩) (hcd : ∀ w : World, codeIn (hd.heap_39 w.params) cdv qual = true)
    (hbind : ∀ a b : Value, bindArgs (fnX name qual params body scope [] dV kV doc pm an cdv ct) ⟨[a, b], []⟩ = pure [(Str.ofString "deck", a), (Str.ofString "many", b)])
    (hloc : scope.names.lookup (Str.ofString "deck") = some .local ∧ scope.names.lookup (Str.ofString "many") = some .local) (hcell : (scope.names.all fun x => x.2 != .cell) = true)
    (h : ∀ (c : Cx) (L : Addr) (s : Shared) (Z : Addr → Prop) (many : Int), DeckCx c dk l → 1 ≤ many → Exs (cxDraw c (envX qual scope L 227 cdv []) s Z) [("many", .v (.int many)), ("deck", .deck)] body fun o _ => ∃ r : Int, 0 ≤ r ∧ r < many ∧ o = .ret (.int r))
    (hco : scope.isCoroutine = false) (hgen : scope.isGenerator = false) (hk : scope.kind = .function)
    {c : Cx} {ρ : Rho} {Z : Addr → Prop} {s : Shared} {many : Int} {tk : Tok} {Q E : Value → Shared → Prop} (S : St c ρ Z s) (hc : DeckCx c dk l) (hn : 1 ≤ c.n) (hm : 1 ≤ many)
    (k : ∀ r t s' Z', ExtV c.V s Z s' Z' → c.G s'.heap → 0 ≤ r → r < many → Q (.int r t) s') : wpAny (model PP c.w) c.A (call (.ref 227) [.ref dk, .int many tk]) Q E s := by
  have X := S.stk
  obtain ⟨mg, mb, TT⟩ := X.top
  refine wpAny_call (codeAny_call_def (fd := fnX name qual params body scope [] dV kV doc pm an cdv ct) (body := body) (binds := [(Str.ofString "deck", .ref dk), (Str.ofString "many", .int many tk)]) (by have := X.depth; omega) (X.K _ _ (ho _)) rfl TT.nolimit (codeRec_of X.K (hcd _)) rfl
    (BindsTo.of_eq (hbind _ _)) (fun y hy q => by have := List.all_eq_true.mp hcell y hy; rw [q] at this; cases this) (fun y hy => ?_) (fun h₀ hns hk₀ => ?_) hco hgen hk)
  · rcases List.mem_cons.mp hy with rfl | hy
    · exact hloc.1
    · rw [List.mem_singleton.mp hy]; exact hloc.2
  have S₀ : St (cxDraw c (envX qual scope s.heap.objs.size 227 cdv []) s Z) [("many", .v (.int many)), ("deck", .deck)] Z { s with heap := h₀, toks := s.toks + 2 } := by
    refine ⟨⟨_, _, rfl⟩, cxDraw_ok S hn hk, fun a o _ e => hk₀ a o e, fun _ q => q, fun _ q => .inl q, fun a q => stays_some hk₀ (S.zok a q), fun q => ?_, S.zV, S.ok.gst _ _ S.g fun a v => ?_, _, fun _ => [], hns, fun x b e => ?_, fun _ _ q => (nomatch q), fun _ _ _ q => (nomatch q), fun _ _ => rfl, fun x a e => by cases e⟩
    · have := S.zok _ q
      rw [get_size] at this; cases this
    · obtain ⟨o, e⟩ := Option.isSome_iff_exists.mp (S.va a v)
      rw [e, hk₀ a o e]
    · simp only [List.lookup_cons] at e
      show ∃ v, Holds _ h₀ (fun x => List.lookup x [(Str.ofString "many", .int many tk), (Str.ofString "deck", .ref dk)]) x v ∧ _
      split at e
      · rename_i q; cases e; rw [beq_iff_eq.mp q]; exact ⟨_, .inl ⟨rfl, rfl⟩, rfl, .int _ _⟩
      · split at e
        · rename_i q; cases e; rw [beq_iff_eq.mp q]; exact ⟨_, .inl ⟨rfl, rfl⟩, rfl, hc.k.symm⟩
        · cases e
  refine (h c s.heap.objs.size s Z many hc hm).run _ Z _ _ S₀ fun o ρ' f s' Z' p S' l' fl => ?_
  obtain ⟨r, r0, r1, rfl⟩ := p
  obtain ⟨v, rfl, t⟩ := fl
  cases t using Tr.intC with
  | int u => exact k r u s' Z' ⟨S'.same, S'.keep, S'.z0, S'.znew, S'.zok⟩ S'.g r0 r1
/-- _law_draw(deck, many) -/
theorem ev_draw_of {dk l : Addr} {c : Cx} {ρ : Rho} {p p1 p2 pos : Pos} {many : Int} {kk : Nat}
    (hcall : ∀ {c : Cx} {ρ : Rho} {Z : Addr → Prop} {s : Shared} {many : Int} {tk : Tok} {Q E : Value → Shared → Prop} (S : St c ρ Z s) (hc : DeckCx c dk l) (hn : 1 ≤ c.n) (hm : 1 ≤ many)
      (k : ∀ r t s' Z', ExtV c.V s Z s' Z' → c.G s'.heap → 0 ≤ r → r < many → Q (.int r t) s'), wpAny (model PP c.w) c.A (call (.ref 227) [.ref dk, .int many tk]) Q E s)
    (hc : DeckCx c dk l) (hl : ρ.lookup (Str.ofString "deck") = some .deck) (hkd : (c.env.kindOf (Str.ofString "deck") = some .local ∧ c.env.cells.lookup (Str.ofString "deck") = none) ∨ ((c.env.kindOf (Str.ofString "deck") = some .cell ∨ c.env.kindOf (Str.ofString "deck") = some .free) ∧ (c.env.cells.lookup (Str.ofString "deck")).isSome = true)) (hn : 1 ≤ c.n) (hm : 1 ≤ many) (hk : c.env.kindOf (Str.ofString "_law_draw") = some .globalImplicit)
    (he : starEach [.Name "deck" p1, .Constant (.int many) kk p2] c.env = (false, eval (.Name "deck" p1) c.env) :: starEach [.Constant (.int many) kk p2] c.env) (he' : starEach [.Constant (.int many) kk p2] c.env = (false, eval (.Constant (.int many) kk p2) c.env) :: starEach [] c.env)
    (hp : (backTo pos (starEach [.Constant (.int many) kk p2] c.env)).any (·.1) = false)
    (h1 : eval (.Call (.Name "_law_draw" p) [.Name "deck" p1, .Constant (.int many) kk p2] [] pos) c.env = (do callWith pos (← eval (.Name "_law_draw" p) c.env) [] (backTo pos (starEach [.Name "deck" p1, .Constant (.int many) kk p2] c.env)) (backToKw pos (keywordEach [] c.env)))) :
    EvP c ρ (eval (.Call (.Name "_law_draw" p) [.Name "deck" p1, .Constant (.int many) kk p2] [] pos) c.env) ρ (fun d => ∃ r : Nat, (r : Int) < many ∧ d = .int (r : Nat)) := .mk fun s Z Q E S k =>
  Call_ (name_glob S (gl__law_draw _) hk rfl (callWith_K (K := KF c.w) (h₀ := s.heap) S.stk.K (kp__law_draw _) (spliced_more (name_deck S hl hkd rfl rfl (spliced_more (wpAny_Constant_int (spliced_none (by
    rw [hc.k]
    have X : Ext s Z { s with toks := s.toks + 1 } Z := Ext.of (h := s.heap) (tk := s.toks + 1) S.zok fun _ _ e => e
    have S₁ := S.ext X
    refine ⟨S₁.stk.K, hcall S₁ hc hn hm fun r t s' Z' x g r0 r1 => ?_⟩
    obtain ⟨r, rfl⟩ : ∃ n : Nat, r = n := ⟨r.toNat, by omega⟩
    exact k _ s' Z' (.int (r : Nat)) (S₁.extV x g) (LeX.trans S X.leX (S₁.leXV x)) (.int _ _) ⟨r, r1, rfl⟩))) he')) he) he hp)) h1
end
section
section
variable {c : Cx} {ρ ρ₁ ρ₂ ρf : Rho} {x y : Str} {pos p q pt : Pos} {d d₁ d₂ : D} {P P₁ P₂ : D → Prop} {Z : Addr → Prop} {s : Shared} {e : Expr} {rest : List Stmt} {R : Out → Rho → Prop}
theorem ev_subP {v i : Expr} (h₁ : Ev c ρ v ρ₁ d₁) (h₂ : EvP c ρ₁ (eval i c.env) ρ₂ P₂) (o : ∀ d₂, P₂ d₂ → Op2 (subscriptTail v i) 0 d₁ d₂ P) : EvP c ρ (eval (.Subscript v i pos) c.env) ρ₂ P := .mk fun s Z Q E S k =>
  Subscript_ (h₁.run s Z _ E S fun a s₁ Z₁ _ S₁ l₁ t₁ e₁ => h₂.run s₁ Z₁ _ E S₁ fun b s₂ Z₂ d₂ S₂ l₂ t₂ p₂ =>
    fin_op S S₂ (LeX.trans S l₁ l₂) ((o d₂ p₂).run _ _ s₂ Z₂ a b (S₂.rdy (Nat.zero_le _)) (l₂.tr (e₁ ▸ t₁)) t₂) k)
theorem ev_binPr {l r : Expr} {op : Operator} (h₁ : Ev c ρ l ρ₁ d₁) (h₂ : EvP c ρ₁ (eval r c.env) ρ₂ P₂) (o : ∀ d₂, P₂ d₂ → Op2 (binaryOp op) 0 d₁ d₂ P) : EvP c ρ (eval (.BinOp l op r pos) c.env) ρ₂ P := .mk fun s Z Q E S k =>
  wpAny_BinOp (h₁.run s Z _ E S fun a s₁ Z₁ _ S₁ l₁ t₁ e₁ => h₂.run s₁ Z₁ _ E S₁ fun b s₂ Z₂ d₂ S₂ l₂ t₂ p₂ =>
    fin_op S S₂ (LeX.trans S l₁ l₂) ((o d₂ p₂).run _ _ s₂ Z₂ a b (S₂.rdy (Nat.zero_le _)) (l₂.tr (e₁ ▸ t₁)) t₂) k)
theorem ev_tupP {e₁ e₂ : Expr} {k' : Nat} (h₁ : EvP c ρ (eval e₁ c.env) ρ₁ P₁) (h₂ : EvP c ρ₁ (eval e₂ c.env) ρ₂ P₂) (he : starEach [e₁, e₂] c.env = (false, eval e₁ c.env) :: starEach [e₂] c.env) (he' : starEach [e₂] c.env = (false, eval e₂ c.env) :: starEach [] c.env) :
    EvP c ρ (eval (.Tuple [e₁, e₂] k' pos) c.env) ρ₂ fun d => ∃ d₁ d₂, P₁ d₁ ∧ P₂ d₂ ∧ d = .tup [d₁, d₂] := .mk fun s Z Q E S k =>
  Tuple_ (spliced_more (h₁.run s Z _ E S fun v₁ s₁ Z₁ d₁ S₁ l₁ t₁ p₁ => spliced_more (h₂.run s₁ Z₁ _ E S₁ fun v₂ s₂ Z₂ d₂ S₂ l₂ t₂ p₂ => spliced_none (wpAny_newTuple (by
    have X := new_seq (o := { cls := .type "tuple", data := .seq [v₁, v₂].toArray }) S₂.zok rfl
    exact k _ _ _ _ (S₂.ext X) (LeX.trans S (LeX.trans S l₁ l₂) X.leX) (.tup (.inr rfl) ⟨_, Heap.get?_push_size _ rfl, rfl, 0, rfl⟩ (X.le.trL (.cons (l₂.tr t₁) (.cons t₂ .nil)))) ⟨d₁, d₂, p₁, p₂, rfl⟩) (Nat.le_of_ble_eq_true rfl))) he') he)
/-- a call of a built-in class, one argument that is not known -/
theorem ev_callP {f : Str} {p : Pos} {id : String} {n : Nat} (hf : ∀ w, nsIn (KF w) mainGlobals f = some none) (hb : bootBuiltins f = some (.type id)) (hnn : f ≠ "__name__") (hk : c.env.kindOf f = some .globalImplicit) (h : EvP c ρ (eval e c.env) ρ₁ P₁) (o : ∀ d₁, P₁ d₁ → OpC (.type id) n [d₁] P)
    (hd : (f == ("__debug__" : Str)) = false) (he : starEach [e] c.env = (false, eval e c.env) :: starEach [] c.env)
    (h1 : eval (.Call (.Name f p) [e] [] pos) c.env = (do callWith pos (← eval (.Name f p) c.env) [] (backTo pos (starEach [e] c.env)) (backToKw pos (keywordEach [] c.env)))) (hn : n ≤ c.n) :
    EvP c ρ (eval (.Call (.Name f p) [e] [] pos) c.env) ρ₁ P := .mk fun s Z Q E S k =>
  Call_ (name_boot S (hf _) hb hnn hk hd (PyProof.Rows.callWith_type1 (spliced_more (h.run s Z _ E S fun v₁ s₁ Z₁ d₁ S₁ l₁ t₁ p₁ => spliced_none (fin_op S S₁ l₁ ((o d₁ p₁).run _ _ s₁ Z₁ [v₁] (S₁.rdy hn) (.cons t₁ .nil)) k)) he) he rfl)) h1
/-- x, y = e1, e2 -/
theorem exs_swapP {e₁ e₂ : Expr} {ep : Pos} {k' ek : Nat} (h₁ : EvP c ρ (eval e₁ c.env) ρ₁ P₁) (h₂ : EvP c ρ₁ (eval e₂ c.env) ρ₂ P₂) (hx : c.Sto x) (hy : c.Sto y) (he : starEach [e₁, e₂] c.env = (false, eval e₁ c.env) :: starEach [e₂] c.env) (he' : starEach [e₂] c.env = (false, eval e₂ c.env) :: starEach [] c.env)
    (hs : swapsWithSole [.Tuple [.Name x p, .Name y q] k' pt] (.Tuple [e₁, e₂] ek ep) pos.line c.env = pure false)
    (hw : swappedStores [.Tuple [.Name x p, .Name y q] k' pt] (.Tuple [e₁, e₂] ek ep) c.env = pure (some [x, y])) (r : ∀ d₁ d₂, P₁ d₁ → P₂ d₂ → Exs c ((x, .v d₁) :: (y, .v d₂) :: ρ₂) rest R) : Exs c ρ (.Assign [.Tuple [.Name x p, .Name y q] k' pt] (.Tuple [e₁, e₂] ek ep) pos :: rest) R :=
  exs_ex (P := fun o r => o = .next ∧ ∃ d₁ d₂, P₁ d₁ ∧ P₂ d₂ ∧ r = (x, .v d₁) :: (y, .v d₂) :: ρ₂) (.mk fun s Z Q E S k =>
    Assign_Tuple_swapped (names := [x, y]) (Tuple_ (spliced_more (h₁.run s Z _ E S fun v₁ s₁ Z₁ d₁ S₁ l₁ t₁ p₁ => spliced_more (h₂.run s₁ Z₁ _ E S₁ fun v₂ s₂ Z₂ d₂ S₂ l₂ t₂ p₂ => spliced_none (wpAny_newTuple (by
      have X : Ext s₂ Z₂ { s₂ with heap := s₂.heap.push { cls := .type "tuple", data := .seq [v₁, v₂].toArray } } Z₂ := Ext.of (tk := s₂.toks) S₂.zok fun a o e => Heap.get?_push_of_some _ e
      refine wpAny_unpackItems_tuple S₂.stk.handled (items := #[v₁, v₂]) ⟨_, Heap.get?_push_size _ rfl, rfl, 0, rfl⟩ fun h' hb => ?_
      have X' := ext_but (s := { s₂ with heap := s₂.heap.push { cls := .type "tuple", data := .seq [v₁, v₂].toArray } }) X.zok hb
      have S' := (S₂.ext X).ext X'
      have t₁' := l₂.tr t₁
      show wpAny _ _ (assignInOrder [fun v => bindName c.env y v, fun v => bindName c.env x v] [v₂, v₁]) _ _ _
      unfold assignInOrder assignInOrder assignInOrder
      refine wpAny_bind (wpAny_holding (wpAny_bindName (store_v S' ((X.le.trans X'.le).tr t₂) hy fun s₃ S₃ l₃ _ => ?_)))
      refine wpAny_bind (wpAny_holding (wpAny_bindName (store_v S₃ (((X.le.trans X'.le).trans l₃).tr t₁') hx fun s₄ S₄ l₄ _ => ?_)))
      exact wpAny_pure (k .next _ _ _ _ ⟨rfl, d₁, d₂, p₁, p₂, rfl⟩ S₄ ((S.ofX (LeX.trans S l₁ l₂)).trans ((X.le.trans X'.le).trans (l₃.trans l₄))) rfl)) (Nat.le_of_ble_eq_true rfl))) he') he)) hs hw)
    (fun r' hr => by obtain ⟨_, d₁, d₂, p₁, p₂, rfl⟩ := hr; exact r d₁ d₂ p₁ p₂) (fun o r' hn hr => absurd hr.1 hn)
/-- a list of the frame's own is frozen -/
theorem St.freeze (S : St c ρ Z s) {ds : List D} (hl : ρ.lookup x = some (.own ds)) : ∃ a vs n, s.heap.get? a = some (listOf vs n) ∧ St c ((x, .v (.list ds)) :: ρ) (fun b => Z b ∨ b = a) s := by
  obtain ⟨m, own, l⟩ := S.loc
  obtain ⟨v, h1, a, vs, n, hO, rfl, hg, ht⟩ := l.get x _ hl
  have hax := l.off x a (by rw [hO]; exact .head _)
  have hzz : ∀ b, Z b → (Z b ∨ b = a) := fun _ q => .inl q
  have hkp : ∀ b o, Z b → s.heap.get? b = some o → s.heap.get? b = some o := fun _ _ _ e => e
  have htr : Tr s.heap (fun b => Z b ∨ b = a) (.ref a) (.list ds) := .list (.inr rfl) ⟨_, hg, rfl, n, rfl⟩ (ht.mono hzz hkp)
  have hne : ∀ y b, c.env.cells.lookup y = some b → b ≠ a := fun y b e q => by
    obtain ⟨_, _, ⟨o, w, g1, g2⟩, _⟩ := l.cell y b e
    rw [q, hg] at g1; rw [← Option.some.inj g1] at g2; cases g2
  refine ⟨a, vs.toArray, n, hg, ?_⟩
  refine { S with z0 := fun b q => .inl (S.z0 b q), znew := fun b q => q.elim (S.znew b) fun e => .inr (by rw [e]; exact hax.2.2.1), zok := fun b q => q.elim (S.zok b) fun e => by rw [e]; exact hax.2.2.2.1, zL := fun q => q.elim S.zL fun e => hax.2.1 e.symm, zV := fun b q v => q.elim (fun q => S.zV b q v) fun e => hax.2.2.2.2 (e ▸ v), loc := ⟨m, fun y => if y = x then [] else own y, l.ns, fun y b e => ?_, fun y b hb => ?_, fun y z b hb hc => ?_, fun y e => ?_, fun y b e => ?_⟩ }
  · by_cases hy : y = x
    · subst hy
      simp only [List.lookup_cons, beq_self_eq_true, Option.some.injEq] at e
      subst e
      exact ⟨_, h1, by simp, htr⟩
    · rw [List.lookup_cons, show (y == x) = false by simpa using hy] at e
      obtain ⟨v', g1, g2⟩ := l.get y b e
      refine ⟨v', g1, ?_⟩
      rw [if_neg hy]
      exact g2.mono hzz hkp fun _ _ _ q => q
  · by_cases hy : y = x
    · rw [if_pos hy] at hb; cases hb
    · rw [if_neg hy] at hb
      obtain ⟨g1, g2⟩ := l.off y b hb
      exact ⟨fun q => q.elim g1 fun e => hy (l.apart y x b hb (by rw [hO, e]; exact .head _)), g2⟩
  · by_cases hy : y = x
    · rw [if_pos hy] at hb; cases hb
    · by_cases hz : z = x
      · rw [if_pos hz] at hc; cases hc
      · rw [if_neg hy] at hb; rw [if_neg hz] at hc; exact l.apart y z b hb hc
  · by_cases hy : y = x
    · rw [if_pos hy]
    · rw [List.lookup_cons, show (y == x) = false by simpa using hy] at e
      rw [if_neg hy]; exact l.dom y e
  · obtain ⟨g1, g2⟩ := l.cell y b e
    exact ⟨fun q => q.elim g1 (hne y b e), g2⟩
/-- statements that end with the frame's own list: it is frozen behind them -/
theorem exs_frozen {st : Stmt} {Pd : List D → Prop} (h : Ex c ρ (exec st c.env) fun o r => o = .next ∧ ∃ rs, r = (x, .own rs) :: ρ₁ ∧ Pd rs) (r : ∀ rs, Pd rs → Exs c ((x, .v (.list rs)) :: ρ₁) rest R) : Exs c ρ (st :: rest) R := .mk fun s Z Q E S k =>
  wpAny_execs_cons (h.run s Z _ E S fun o r' f s₁ Z₁ p' S₁ l₁ fl => by
    obtain ⟨rfl, rs, rfl, pr⟩ := p'
    cases (fl : f = .next)
    obtain ⟨a, vs, n, hg, S₂⟩ := S₁.freeze (x := x) (ds := rs) (by simp)
    have S₃ := S₂.weak (ρ' := (x, .v (.list rs)) :: ρ₁) fun y b e => by
      by_cases hy : y = x
      · subst hy; simpa using e
      · rw [List.lookup_cons, show (y == x) = false by simpa using hy] at e ⊢
        rw [List.lookup_cons, show (y == x) = false by simpa using hy]; exact e
    refine (r rs pr).run s₁ _ Q E S₃ fun o r' f s₄ Z₄ p₄ S₄ l₄ => k o r' f s₄ Z₄ p₄ S₄ (l₁.trans ?_)
    exact ⟨fun b q => l₄.zz b (.inl q), fun b o q e => l₄.keep b o (.inl q) e, l₄.flds, fun b o fs e f q => (l₄.fz b o fs e f q).elim id fun z => by
      rw [z, hg] at e; rw [← Option.some.inj e] at f; cases f⟩)
end
end
section
section
variable {c : Cx} {ρ ρ₁ ρf : Rho} {elt iter target : Expr} {ifs : List Expr} {scope : Scope} {cl : List (Str × Addr)} {pos : Pos} {d : D} {ds : List D} {bind : D → Rho → Option Rho} {keepd : D → Bool} {P : D → D → Prop}
theorem ex_compN {x : Str} {px spos : Pos} {PI : D → Prop} (h : EvP c ρ (eval iter c.env) ρ₁ PI) (hi : ∀ d, PI d → ∃ ds, itemsOf d = some ds ∧ ds.length ≤ sizeLine ∧ ∀ d ∈ ds, Turn c scope cl target elt ifs bind ρf keepd P d) (hclos : closureFor scope c.env = pure cl)
    (hk : scope.kind = .function) (hcell : ∀ y ∈ scope.names, y.2 ≠ .cell) (hnames : ∀ x ∈ scope.names, x.2 = .local → scope.names.lookup x.1 = some .local) (hcl : ∀ x a, cl.lookup x = some a → c.env.cells.lookup x = some a) (hb : ∀ C s0 Z0, Binds (cxComp c scope cl C s0 Z0) target bind)
    (hf : ∀ x b, ρf.lookup x = some b → ρ₁.lookup x = some b ∧ (cl.lookup x).isSome = true ∧ ∀ ds, b ≠ .own ds)
    (hs : ∀ x, foldedSetIterable iter c.env x = pure x)
    (hx : c.Sto x) (hsw : swapsWith (.ListComp elt [⟨target, iter, ifs, 0⟩] scope pos) (some (.Name x px)) spos.line c.env = pure true) :
    Ex c ρ (exec (.Assign [.Name x px] (.ListComp elt [⟨target, iter, ifs, 0⟩] scope pos) spos) c.env) fun o r => o = .next ∧ ∃ rs, r = (x, .own rs) :: ρ₁ ∧ ∃ d ds, PI d ∧ itemsOf d = some ds ∧ All2 P (ds.filter keepd) rs := .mk fun s Z Q E S k => by
  rw [exec_Assign_Name_used _ _ _ _ hsw]
  refine wpAny_bind (wpAny_standAt (wpAny_bind ?_))
  show wpAny _ c.A (do let _ ← comprehension (.ListComp elt [⟨target, iter, ifs, 0⟩] scope pos) scope c.env _ (newList []) false (eval iter c.env) (some (assign (.Name x px) c.env))) _ _ s
  refine wpAny_bind (wpAny_mono (wpAny_comprehension_free (g := ⟨target, iter, ifs, 0⟩) (gs := []) (use := some (assign (.Name x px) c.env)) (Q := fun _ s' => Q .next s') rfl hs hclos hk hnames (h.run s Z _ E S fun v s₁ Z₁ d' S₁ l₁ t₁ e₁ => ?_)) (fun _ s' hq => wpAny_pure (wpAny_pure hq)) fun _ _ e => e)
  obtain ⟨ds, hd, hz, ht⟩ := hi d' e₁
  refine comp_block (RR := fun acc C => compPost (model PP c.w) c.A E (some (assign (.Name x px) c.env)) (fun _ s' => Q .next s') acc C) S₁ t₁ hd hz hk hcell hcl hb hf ht fun D C s' Z' ρ' rs vs n dD dC hDC S' hg hT hzD hA => ?_
  show wpAny _ _ (assign (.Name x px) c.env (.ref D)) _ _ s'
  have X := comp_out S₁ dC S' (h' := s'.heap) ⟨rfl, fun _ _ => rfl⟩
  have S₂ : St c ρ₁ Z' s' := S₁.extV X.1 X.2
  obtain ⟨m₁, own₁, l₁'⟩ := S₁.loc
  have hne : ∀ {a b}, (s₁.heap.get? a).isSome = true → s₁.heap.get? b = none → a ≠ b := fun e e' q => by rw [q, e'] at e; cases e
  have d0 : ∀ {b}, s₁.heap.get? b = none → c.s0.heap.get? b = none := fun {b} e => by
    cases q : c.s0.heap.get? b with
    | none => rfl
    | some o => rw [S₁.keep b o (fun v => hne (S₁.va b v) e rfl) q] at e; cases e
  refine wpAny_assign_Name (store_own S₂ (a := D) (vs := vs.toList) (k₀ := n) (by simpa using hg) hT hzD (fun q => hne S₁.Lalive dD q.symm) (d0 dD) (fun v => hne (S₁.va _ v) dD rfl) (S₁.extVL X.1 l₁') (fun y hy q => hne (l₁'.off y _ q).2.2.2.1 dD rfl) hx fun s₃ S₃ l₃ p₃ => ?_)
  have hCne : ∀ y, c.env.cells.lookup y ≠ some C := fun y e => by
    obtain ⟨_, _, ⟨o, w, g1, _⟩, _⟩ := l₁'.cell y C e
    rw [dC] at g1; cases g1
  have hCL : C ≠ c.L := fun q => hne S₁.Lalive dC q.symm
  obtain ⟨m', own', l'⟩ := S'.loc
  obtain ⟨oC, es, ep, hoC, hdC, r⟩ := l'.ns
  have hoC₃ : s₃.heap.get? C = some oC := p₃ C oC hCL hCne hoC
  refine ⟨m', ⟨oC, es, ep, hoC₃, hdC, r⟩, fun h' hsb => ?_⟩
  have hzC : ¬ Z' C := S'.zL
  have S₄ := S₃.junk (tk := s₃.toks) hsb hoC₃ hzC (d0 dC) (fun v => hne (S₁.va _ v) dC rfl) hCL (fun w q => by rw [hdC] at q; cases q) fun m own l y q => by
    obtain ⟨vs', n', e⟩ := l.own_ne q hoC₃
    rw [e] at hdC; cases hdC
  have l₄ : Le s₃.heap Z' h' Z' := le_upd hsb hzC hoC₃ fun fs q => by rw [hdC] at q; cases q
  exact k .next _ .next _ Z' ⟨rfl, rs, rfl, _, ds, e₁, hd, hA⟩ S₄ (((S.ofX l₁).trans (S₁.leV X.1)).trans (l₃.trans l₄)) rfl
end
theorem All2.all {Q : D → Prop} : ∀ {as bs : List D}, All2 (fun _ b => Q b) as bs → ∀ d ∈ bs, Q d
  | _, _, .nil, d, h => nomatch h
  | _, _, .cons a r, d, h => by
    rcases List.mem_cons.mp h with rfl | h
    · exact a
    · exact All2.all r d h
/-- x = [elt for y in range(draw)] -/
theorem exs_drawn {c : Cx} {ρ ρf : Rho} {x y : Str} {elt iter : Expr} {scope : Scope} {cl : List (Str × Addr)} {pos px py spos : Pos} {k : Nat} {PE : D → Prop} {rest : List Stmt} {R : Out → Rho → Prop}
    (h : EvP c ρ (eval iter c.env) ρ fun d => ∃ n : Nat, n < k ∧ d = .rng 0 1 n) (hk' : k ≤ 1000) (hclos : closureFor scope c.env = pure cl) (hk : scope.kind = .function) (hcell : (scope.names.all fun y => y.2 != .cell) = true)
    (hnames : (scope.names.all fun x => x.2 != .local || scope.names.lookup x.1 == some .local) = true) (hcl : CL cl c.env.cells) (hy : ∀ C s0 Z0, (cxComp c scope cl C s0 Z0).Sto y) (hf : HF ρf ρ cl) (hyf : ρf.lookup y = none) (hs : ∀ x, foldedSetIterable iter c.env x = pure x)
    (hx : c.Sto x) (hsw : swapsWith (.ListComp elt [⟨.Name y py, iter, [], 0⟩] scope pos) (some (.Name x px)) spos.line c.env = pure true)
    (helt : ∀ i : Int, ∀ C s0 Z0, EvP (cxComp c scope cl C s0 Z0) ((y, .v (.int i)) :: ρf) (eval elt (compEnvC scope cl C c.env)) ((y, .v (.int i)) :: ρf) PE)
    (r : ∀ rs : List D, rs.length < k → (∀ d ∈ rs, PE d) → Exs c ((x, .v (.list rs)) :: ρ) rest R) :
    Exs c ρ (.Assign [.Name x px] (.ListComp elt [⟨.Name y py, iter, [], 0⟩] scope pos) spos :: rest) R := by
  refine exs_frozen (x := x) (ρ₁ := ρ) (Pd := fun rs => rs.length < k ∧ ∀ d ∈ rs, PE d) (Ex.weak (ex_compN (bind := fun d ρ => some ((y, .v d) :: ρ)) (keepd := fun _ => true) (P := fun _ b => PE b) h (fun d hd => ?_) hclos hk (fun z hz q => ?_) (fun z hz q => ?_) hcl (fun C s0 Z0 => binds_name (hy C s0 Z0)) hf hs hx hsw) ?_) fun rs h => r rs h.1 h.2
  · obtain ⟨n, hn, rfl⟩ := hd
    refine ⟨_, rfl, by rw [sizeLine_is, List.length_map, List.length_range]; omega, fun d hd => ?_⟩
    obtain ⟨i, hi, rfl⟩ := List.mem_map.mp hd
    refine ⟨_, rfl, fun z b e => ?_, fun z ds' e => ?_, fun C s0 Z0 => ⟨rfl, fun _ => helt _ C s0 Z0⟩⟩
    · rw [List.lookup_cons]
      cases q : (z == y) with
      | true => rw [beq_iff_eq.mp q, hyf] at e; cases e
      | false => exact e
    · rw [List.lookup_cons] at e
      cases q : (z == y) with
      | true => rw [q] at e; cases e
      | false => rw [q] at e; exact (hf z _ e).2.2 _ rfl
  · have := List.all_eq_true.mp hcell z hz; rw [q] at this; cases this
  · have := List.all_eq_true.mp hnames z hz
    rw [q] at this
    simpa using this
  · rintro o r' ⟨ho, rs, hr, d, ds, ⟨n, hn, rfl⟩, hd, hA⟩
    refine ⟨ho, rs, hr, ?_, hA.all⟩
    have := hA.length
    cases hd
    rw [List.filter_eq_self.mpr (fun _ _ => rfl), List.length_map, List.length_range] at this
    omega
/-- a statement, then what is said by hand -/
theorem exk_pre {c : Cx} {ρ : Rho} {Z : Addr → Prop} {s : Shared} {st : Stmt} {rest : List Stmt} {Q : Flow → Shared → Prop} {E : Value → Shared → Prop} {Pr : Rho → Prop} (S : St c ρ Z s) (h : Exs c ρ [st] fun o r => o = .next ∧ Pr r)
    (k : ∀ r s₁ Z₁, Pr r → St c r Z₁ s₁ → Le s.heap Z s₁.heap Z₁ → wpAny (model PP c.w) c.A (execs rest c.env) Q E s₁) : wpAny (model PP c.w) c.A (execs (st :: rest) c.env) Q E s := by
  refine wpAny_execs_cons ?_
  rw [← execs_one]
  refine h.run s Z _ E S fun o r' f s₁ Z₁ p' S₁ l₁ fl => ?_
  obtain ⟨rfl, hp⟩ := p'
  cases (fl : f = .next)
  exact k r' s₁ Z₁ hp S₁ l₁
/-- a def's call, its body by hand -/
theorem FnX.intro {a n : Nat} {ds : List D} {name qual : Str} {params : Arguments} {body : List Stmt} {scope : Scope} {dV kV doc pm cdv ct oc : Value} {an od : Option Addr} {osl : Array (Option Value)} {names : List Str} {ρ₀ : Rho}
    (ho : ∀ w : World, List.lookup a (hd.heap_39 w.params) = some ⟨oc, od, .func (fnX name qual params body scope [] dV kV doc pm an cdv ct), osl⟩) (hcd : ∀ w : World, codeIn (hd.heap_39 w.params) cdv qual = true)
    (hbind : ∀ (w : World) (s : Shared) (vs : List Value), (KF w).In s.heap → vs.length = ds.length → BindsTo s (fnX name qual params body scope [] dV kV doc pm an cdv ct) ⟨vs, []⟩ (names.zip vs))
    (hloc : ∀ y ∈ names, scope.names.lookup y = some .local) (hcell : ∀ x ∈ scope.names, x.2 ≠ .cell) (hρ : ρ₀ = (names.zip (ds.map Bd.v)).reverse) (hco : scope.isCoroutine = false) (hgen : scope.isGenerator = false) (hk : scope.kind = .function)
    {w : World} {A : Around} {s : Shared} {Z : Addr → Prop} {vs : List Value} {Q E : Value → Shared → Prop} (R : Rdy w A (n + 1) s Z) (T : TrL s.heap Z vs ds)
    (h : ∀ outer s₀ E', St (cxFn w qual scope a cdv A outer n s.heap.objs.size s Z []) ρ₀ Z s₀ → wpAny (model PP w) (A.deeper (envX qual scope s.heap.objs.size a cdv [])) (execs body (envX qual scope s.heap.objs.size a cdv [])) (fun f s' => Q (match f with | .ret v => v | _ => .none) s') E' s₀) :
    wpAny (model PP w) A (call (.ref a) vs) Q E s := by
  obtain ⟨outer, X, hfr⟩ := R.stk
  obtain ⟨mg, mb, TT⟩ := X.top
  have ho' := X.K _ _ (ho w)
  refine wpAny_call (codeAny_call_def (fd := fnX name qual params body scope [] dV kV doc pm an cdv ct) (body := body) (binds := names.zip vs) (by have := X.depth; omega) ho' rfl TT.nolimit (codeRec_of X.K (hcd w)) rfl
    (hbind w s vs X.K T.length) hcell (fun x hx => hloc _ (List.of_mem_zip hx).1) (fun h₀ hns hk₀ => ?_) hco hgen hk)
  have S : St (cxFn w qual scope a cdv A outer n s.heap.objs.size s Z []) ρ₀ Z { s with heap := h₀, toks := s.toks + (names.zip vs).length } := by
    refine ⟨⟨_, _, rfl⟩, cxFn_ok X R.zok hfr hk (fun x y b e _ => by cases e), fun a o _ e => hk₀ a o e, fun _ q => q, fun _ q => .inl q, fun a q => stays_some hk₀ (R.zok a q), fun q => ?_, fun _ _ v => v, trivial, _, fun _ => [], hns, fun x b e => ?_, fun _ _ q => (nomatch q), fun _ _ _ q => (nomatch q), fun _ _ => rfl, fun x a e => by cases e⟩
    · have := R.zok _ q
      rw [get_size] at this; cases this
    · have := zip_lookup (c := cxFn w qual scope a cdv A outer n s.heap.objs.size s Z []) (names := names) (T.mono (fun _ q => q) fun a o _ e => hk₀ a o e) [] [] (fun x b e => by cases e) x b (by rw [List.append_nil, ← hρ]; exact e)
      obtain ⟨v, h1, h2⟩ := this
      exact ⟨v, .inl ⟨rfl, by simpa using h1⟩, h2⟩
  exact h outer _ _ S
end
section
section
variable {c : Cx} {ρ ρ₁ ρ₂ : Rho} {pos : Pos} {d : D} {P P₁ : D → Prop} {n : Nat}
/-- equal things, by != -/
theorem op_ne_self (h : d = .none ∨ (∃ l, d = .bytes l) ∨ ∃ l, d = .str l) : Op2 (compareOp .NotEq) n d d (· = .bool false) := by
  rcases h with rfl | ⟨l, rfl⟩ | ⟨l, rfl⟩
  · refine .mk fun w A s Z v₁ v₂ R t₁ t₂ => ?_
    cases t₁ using Tr.noneC; cases t₂ using Tr.noneC
    exact do_const R.zok fun Q E k => EqNone.ne_none_none (k _ s.toks (.bool _))
  · exact (op_ne_bytes (l := l) (l' := l)).weak fun d e => by rw [e]; simp
  · exact (op_ne_str (l := l) (l' := l)).weak fun d e => by rw [e]; simp

/-- a list of arguments of which some are drawn -/
structure EvLP (c : Cx) (ρ : Rho) (es : List Expr) (ρ' : Rho) (PL : List D → Prop) : Prop where
  run : ∀ (pos : Pos) (s : Shared) (Z : Addr → Prop) (Q : List Value → Shared → Prop) (E : Value → Shared → Prop), St c ρ Z s →
  (∀ vs s' Z' ds, St c ρ' Z' s' → LeX c ρ s.heap Z ρ' s'.heap Z' → TrL s'.heap Z' vs ds → PL ds → Q vs s') → wpAny (model PP c.w) c.A (spliced (backTo pos (starEach es c.env))) Q E s
theorem evlp_nil : EvLP c ρ [] ρ (· = []) := .mk fun pos s Z Q E S k => evl_nil.run pos s Z Q E S fun vs s' Z' S' l t => k vs s' Z' [] S' l t rfl
theorem evlp_cons {e : Expr} {es : List Expr} {PL : List D → Prop} (h : EvP c ρ (eval e c.env) ρ₁ P) (r : EvLP c ρ₁ es ρ₂ PL) (he : starEach (e :: es) c.env = (false, eval e c.env) :: starEach es c.env) :
    EvLP c ρ (e :: es) ρ₂ fun ds => ∃ d r, ds = d :: r ∧ P d ∧ PL r := .mk fun pos s Z Q E S k =>
  spliced_more (h.run s Z _ E S fun v s₁ Z₁ d' S₁ l₁ t₁ hd => r.run pos s₁ Z₁ _ E S₁ fun vs s₂ Z₂ ds S₂ l₂ t₂ p₂ => k _ _ _ _ S₂ (LeX.trans S l₁ l₂) (.cons (l₂.tr t₁) t₂) ⟨d', ds, rfl, hd, p₂⟩) he
theorem evlp_of {es : List Expr} {ds : List D} (h : EvL c ρ es ρ₁ ds) : EvLP c ρ es ρ₁ (· = ds) := .mk fun pos s Z Q E S k => h.run pos s Z Q E S fun vs s' Z' S' l t => k vs s' Z' ds S' l t rfl
theorem EvLP.weak {es : List Expr} {PL PL' : List D → Prop} (h : EvLP c ρ es ρ₁ PL) (k : ∀ ds, PL ds → PL' ds) : EvLP c ρ es ρ₁ PL' := .mk fun pos s Z Q E S q => h.run pos s Z Q E S fun vs s' Z' ds S' l t p => q vs s' Z' ds S' l t (k ds p)
theorem evp_call_fn {f : Str} {p : Pos} {a : Addr} {e : Expr} {es : List Expr} {PL : List D → Prop} (hf : ∀ w, nsIn (KF w) mainGlobals f = some (some (.ref a))) (hkeep : ∀ w, keepIn (KF w) (.ref a) = true) (hk : c.env.kindOf f = some .globalImplicit)
    (h : EvLP c ρ (e :: es) ρ₁ PL) (o : ∀ ds, PL ds → OpC (.ref a) n ds P)
    (hd : (f == ("__debug__" : Str)) = false) (he : starEach (e :: es) c.env = (false, eval e c.env) :: starEach es c.env) (hp : (backTo pos (starEach es c.env)).any (·.1) = false)
    (h1 : eval (.Call (.Name f p) (e :: es) [] pos) c.env = (do callWith pos (← eval (.Name f p) c.env) [] (backTo pos (starEach (e :: es) c.env)) (backToKw pos (keywordEach [] c.env)))) (hn : n ≤ c.n := by exact Nat.le_of_ble_eq_true rfl) :
    EvP c ρ (eval (.Call (.Name f p) (e :: es) [] pos) c.env) ρ₁ P := .mk fun s Z Q E S k =>
  Call_ (name_glob S (hf _) hk hd (callWith_K (K := KF c.w) (h₀ := s.heap) S.stk.K (hkeep _) (h.run pos s Z _ E S fun vs s₁ Z₁ ds S₁ l₁ t₁ pl => ⟨S₁.stk.K, fin_op S S₁ l₁ (by simpa using (o ds pl).run _ _ s₁ Z₁ vs (S₁.rdy hn) t₁) k⟩) he hp)) h1
/-- a beginning of a text, its length drawn -/
theorem ev_takeP {v hi : Expr} {p : Pos} {l : List Nat} {k : Nat} (h₁ : Ev c ρ v ρ (.str l)) (h₃ : EvP c ρ (eval hi c.env) ρ fun d => ∃ r : Nat, r < k ∧ d = .int (r : Nat)) (hz : l.length ≤ 16777216) :
    EvP c ρ (eval (.Subscript v (.Slice none (some hi) none p) pos) c.env) ρ fun d => ∃ r : Nat, d = .str (l.take r) := .mk fun s Z Q E S q =>
  Subscript_ (h₁.run s Z _ E S fun a s₁ Z₁ _ S₁ l₁ t₁ e₁ => wpAny_Slice (evo_none.run s₁ Z₁ _ E S₁ fun vl s₂ Z₂ S₂ l₂ pl => by
    rw [evalPart_some]
    refine h₃.run s₂ Z₂ _ E S₂ fun vu s₃ Z₃ d S₃ l₃ t₃ e₃ => ?_
    obtain ⟨r, _, rfl⟩ := e₃
    subst e₁
    have pu : IsPart vu (some (r : Int)) := by cases t₃ using Tr.intC; exact .int _ _
    rw [evalPart_none]
    refine wpAny_pure ?_
    have X : Ext s₃ Z₃ { s₃ with heap := s₃.heap.push { cls := .type "slice", data := .fields #[vl, vu, .none] }, toks := s₃.toks } Z₃ := Ext.of S₃.zok fun a o e => Heap.get?_push_of_some _ e
    have t := X.le.tr (l₃.tr (l₂.tr t₁))
    refine subscriptTail_ops (t.typeIs ty_str) F.slot_str_getitem.lookup (fin_op S (S₃.ext X) (LeX.trans S l₁ (LeX.trans S₁ l₂ (LeX.trans S₂ l₃ X.leX))) (sl_str (n := 0) hz _ _ _ Z₃ a _ vl vu ((S₃.ext X).rdy (Nat.zero_le _)) t (Heap.IsSliceOf.new _ _ _ _) pl pu) fun v s' Z' d S' l' t' e' => q v s' Z' d S' l' t' ⟨r, ?_⟩) rfl fun r => lt_str _ _ _ r t
    rw [e', cut_upto]))
/-- a slice of a list that nothing else holds -/
theorem ev_slice_any {ρ₃ : Rho} {v : Expr} {lo hi : Option Expr} {kl ku : Option Int} {p : Pos} {ds : List D} (h₁ : Ev c ρ v ρ₁ (.list ds)) (h₂ : EvO c ρ₁ lo ρ₂ kl) (h₃ : EvO c ρ₂ hi ρ₃ ku) (hz : ds.length ≤ 16777216) : Ev c ρ (.Subscript v (.Slice lo hi none p) pos) ρ₃ (.list (cut ds kl ku)) := .mk fun s Z Q E S k =>
  Subscript_ (h₁.run s Z _ E S fun a s₁ Z₁ _ S₁ l₁ t₁ e₁ => wpAny_Slice (h₂.run s₁ Z₁ _ E S₁ fun vl s₂ Z₂ S₂ l₂ pl => h₃.run s₂ Z₂ _ E S₂ fun vu s₃ Z₃ S₃ l₃ pu => by
    subst e₁
    rw [evalPart_none]
    refine wpAny_pure ?_
    have X : Ext s₃ Z₃ { s₃ with heap := s₃.heap.push { cls := .type "slice", data := .fields #[vl, vu, .none] }, toks := s₃.toks } Z₃ := Ext.of S₃.zok fun a o e => Heap.get?_push_of_some _ e
    have t := X.le.tr (l₃.tr (l₂.tr t₁))
    exact tail_any (t.typeIs ty_list) list_getitem_lookup (fin_op S (S₃.ext X) (LeX.trans S l₁ (LeX.trans S₁ l₂ (LeX.trans S₂ l₃ X.leX))) (sl_list (n := 0) hz _ _ _ Z₃ a _ vl vu ((S₃.ext X).rdy (Nat.zero_le _)) t (Heap.IsSliceOf.new _ _ _ _) pl pu) k) rfl))
/-- return f(..) is None, where f ends so -/
theorem ret_none {B : Heap} {f : Str} {p p2 p3 pr : Pos} {kk : Nat} {a : Addr} {e : Expr} {es : List Expr} {PL : List D → Prop} {s : Shared} {Z : Addr → Prop} {Q : Flow → Shared → Prop} {E : Value → Shared → Prop} (S : St c ρ Z s)
    (hf : ∀ w, nsIn (KF w) mainGlobals f = some (some (.ref a))) (hkeep : ∀ w, keepIn (KF w) (.ref a) = true) (hk : c.env.kindOf f = some .globalImplicit) (h : EvLP c ρ (e :: es) ρ₁ PL) (o : ∀ ds, PL ds → OpN (.ref a) n ds)
    (hR : ∀ s' Z', St c ρ₁ Z' s' → RdyB B c.w c.A n s' Z')
    (hd : (f == ("__debug__" : Str)) = false) (he : starEach (e :: es) c.env = (false, eval e c.env) :: starEach es c.env) (hp : (backTo pos (starEach es c.env)).any (·.1) = false)
    (h1 : eval (.Call (.Name f p) (e :: es) [] pos) c.env = (do callWith pos (← eval (.Name f p) c.env) [] (backTo pos (starEach (e :: es) c.env)) (backToKw pos (keywordEach [] c.env))))
    (k : ∀ h tk, B.StaysIn h → Q (.ret (.bool true)) { c.s0 with heap := h, toks := tk }) :
    wpAny (model PP c.w) c.A (execs [.Return (some (.Compare (.Call (.Name f p) (e :: es) [] pos) [.Is] [.Constant .none kk p2] p3)) pr] c.env) Q E s := by
  refine wpAny_execs_cons (wpAny_Return_some (wpAny_Compare1 (Call_ (name_glob S (hf _) hk hd (callWith_K (K := KF c.w) (h₀ := s.heap) S.stk.K (hkeep _) (h.run pos s Z _ E S fun vs s₁ Z₁ ds S₁ l₁ t₁ pl => ⟨S₁.stk.K, ?_⟩) he hp)) h1) rfl))
  obtain ⟨hh, tkk, hs⟩ := S₁.same
  rw [List.nil_append]
  refine o ds pl B _ _ s₁ Z₁ vs (hR _ _ S₁) t₁ _ _ fun h' tk' st => ?_
  show wpAny _ _ (pure Value.none) _ _ _
  refine wpAny_pure (is_none_gen ?_)
  rw [hs]
  exact k h' tk' st
/-- x, y = e1, e2 where one of the names is a cell: stored in order -/
theorem exs_pairP {x y : Str} {e : Expr} {rest : List Stmt} {p q pt : Pos} {k' : Nat} {P₁ P₂ : D → Prop} {R : Out → Rho → Prop} (h : EvP c ρ (eval e c.env) ρ₁ fun d => ∃ d₁ d₂, P₁ d₁ ∧ P₂ d₂ ∧ d = .tup [d₁, d₂]) (hx : c.Sto x) (hy : c.Sto y) (hs : swapsWithSole [.Tuple [.Name x p, .Name y q] k' pt] e pos.line c.env = pure false)
    (hw : swappedStores [.Tuple [.Name x p, .Name y q] k' pt] e c.env = pure none) (r : ∀ d₁ d₂, P₁ d₁ → P₂ d₂ → Exs c ((y, .v d₂) :: (x, .v d₁) :: ρ₁) rest R) : Exs c ρ (.Assign [.Tuple [.Name x p, .Name y q] k' pt] e pos :: rest) R :=
  exs_ex (P := fun o r => o = .next ∧ ∃ d₁ d₂, P₁ d₁ ∧ P₂ d₂ ∧ r = (y, .v d₂) :: (x, .v d₁) :: ρ₁) (.mk fun s Z Q E S k =>
    Assign_Tuple (h.run s Z _ E S fun v s₁ Z₁ d' S₁ l₁ t₁ ⟨d₁, d₂, p₁, p₂, e₁⟩ => assign_pair S₁ (e₁ ▸ t₁) hx hy fun s₂ S₂ l₂ _ => k .next _ _ _ _ ⟨rfl, d₁, d₂, p₁, p₂, rfl⟩ S₂ ((S.ofX l₁).trans l₂) rfl) hs hw)
    (fun r' hr => by obtain ⟨_, d₁, d₂, p₁, p₂, rfl⟩ := hr; exact r d₁ d₂ p₁ p₂) (fun o r' hn hr => absurd hr.1 hn)
theorem exs_compIf2 {α : Type} {x y z : Str} {px p q pt spos : Pos} {iter elt t : Expr} {scope : Scope} {cl : List (Str × Addr)} {ρf : Rho} {rest : List Stmt} {R : Out → Rho → Prop} {k' : Nat} (f : D → D) (g g' f' : α → D) (kd : D → Bool) (ka : α → Bool) {as : List α} (h : Ev c ρ iter ρ₁ d) (hd : itemsOf d = some (as.map fun a => .tup [g a, g' a])) (hclos : closureFor scope c.env = pure cl) (hk : scope.kind = .function) (hcell : (scope.names.all fun y => y.2 != .cell) = true)
    (hnames : (scope.names.all fun x => x.2 != .local || scope.names.lookup x.1 == some .local) = true) (hcl : CL cl c.env.cells) (hx : ∀ C s0 Z0, (cxComp c scope cl C s0 Z0).Sto y) (hx' : ∀ C s0 Z0, (cxComp c scope cl C s0 Z0).Sto z)
    (hf : HF ρf ρ₁ cl) (hs : ∀ x, foldedSetIterable iter c.env x = pure x) (hxf : ρf.lookup y = none) (hxf' : ρf.lookup z = none) (hz : as.length ≤ 16777216) (hfg : ∀ a, f (.tup [g a, g' a]) = f' a) (hkg : ∀ a, kd (.tup [g a, g' a]) = ka a)
    (ht : ∀ a ∈ as, ∀ C s0 Z0, EvT (cxComp c scope cl C s0 Z0) ((z, .v (g' a)) :: (y, .v (g a)) :: ρf) t ((z, .v (g' a)) :: (y, .v (g a)) :: ρf) (ka a) ∧ (ka a = true → Ev (cxComp c scope cl C s0 Z0) ((z, .v (g' a)) :: (y, .v (g a)) :: ρf) elt ((z, .v (g' a)) :: (y, .v (g a)) :: ρf) (f' a)))
    (hsx : c.Sto x) (hsw : swapsWith (.ListComp elt [⟨.Tuple [.Name y p, .Name z q] k' pt, iter, [t], 0⟩] scope pos) (some (.Name x px)) spos.line c.env = pure true) (r : Exs c ((x, .own ((as.filter ka).map f')) :: ρ₁) rest R) :
    Exs c ρ (.Assign [.Name x px] (.ListComp elt [⟨.Tuple [.Name y p, .Name z q] k' pt, iter, [t], 0⟩] scope pos) spos :: rest) R := by
  refine exs_cons (ex_comp (bind := bindPair y z) (keepd := kd) (P := fun a b => b = f a) h hd (by rw [sizeLine_is, List.length_map]; exact hz) hclos hk (fun y hy q => ?_) (fun y hy q => ?_) hcl (fun C s0 Z0 => binds_pair (hx C s0 Z0) (hx' C s0 Z0)) hf (fun d hd => ?_) hs hsx hsw) ?_ ?_
  · have := List.all_eq_true.mp hcell y hy; rw [q] at this; cases this
  · have := List.all_eq_true.mp hnames y hy
    rw [q] at this
    simpa using this
  · obtain ⟨a, ha, rfl⟩ := List.mem_map.mp hd
    refine ⟨_, rfl, ?_, ?_, fun C s0 Z0 => ?_⟩
    · intro w b e
      rw [List.lookup_cons]
      split
      · rename_i q; rw [beq_iff_eq.mp q, hxf'] at e; cases e
      · rw [List.lookup_cons]
        split
        · rename_i q; rw [beq_iff_eq.mp q, hxf] at e; cases e
        · exact e
    · intro w ds' e
      rw [List.lookup_cons] at e
      split at e
      · cases e
      · rw [List.lookup_cons] at e
        split at e
        · cases e
        · exact (hf w _ e).2.2 _ rfl
    · rw [hkg, hfg]; exact ht a ha C s0 Z0
  · rintro r' ⟨_, rs, rfl, h⟩
    have e : (as.map fun a => D.tup [g a, g' a]).filter kd = (as.filter ka).map fun a => D.tup [g a, g' a] := by
      rw [List.filter_map]
      congr 1
      exact List.filter_congr fun a _ => hkg a
    rw [e] at h
    rw [h.map, List.map_map, show f ∘ (fun a => D.tup [g a, g' a]) = f' from funext hfg]
    exact r
  · rintro o r' hn ⟨h, _⟩
    exact absurd h hn
theorem ev_compN {elt iter target : Expr} {ifs : List Expr} {scope : Scope} {cl : List (Str × Addr)} {ρf : Rho} {bind : D → Rho → Option Rho} {keepd : D → Bool} {P : D → D → Prop} {PI : D → Prop} (h : EvP c ρ (eval iter c.env) ρ₁ PI) (hi : ∀ d, PI d → ∃ ds, itemsOf d = some ds ∧ ds.length ≤ sizeLine ∧ ∀ d ∈ ds, Turn c scope cl target elt ifs bind ρf keepd P d) (hclos : closureFor scope c.env = pure cl)
    (hk : scope.kind = .function) (hcell : ∀ y ∈ scope.names, y.2 ≠ .cell) (hnames : ∀ x ∈ scope.names, x.2 = .local → scope.names.lookup x.1 = some .local) (hcl : ∀ x a, cl.lookup x = some a → c.env.cells.lookup x = some a) (hb : ∀ C s0 Z0, Binds (cxComp c scope cl C s0 Z0) target bind)
    (hf : ∀ x b, ρf.lookup x = some b → ρ₁.lookup x = some b ∧ (cl.lookup x).isSome = true ∧ ∀ ds, b ≠ .own ds)
    (hs : ∀ x, foldedSetIterable iter c.env x = pure x) :
    EvP c ρ (eval (.ListComp elt [⟨target, iter, ifs, 0⟩] scope pos) c.env) ρ₁ fun r => ∃ rs, r = .list rs ∧ ∃ d ds, PI d ∧ itemsOf d = some ds ∧ All2 P (ds.filter keepd) rs := .mk fun s Z Q E S k => by
  rw [eval_ListComp]
  refine wpAny_comprehension_free (use := none) (g := ⟨target, iter, ifs, 0⟩) (gs := []) rfl hs hclos hk hnames (h.run s Z _ E S fun v s₁ Z₁ d' S₁ l₁ t₁ e₁ => ?_)
  obtain ⟨ds, hd, hz, ht⟩ := hi d' e₁
  refine comp_block (RR := fun acc C => compPost (model PP c.w) c.A E none Q acc C) S₁ t₁ hd hz hk hcell hcl hb hf ht fun D C s' Z' ρ' rs vs n dD dC hDC S' hg hT hzD hA => ?_
  obtain ⟨m, own, l⟩ := S'.loc
  refine ⟨m, l.ns, fun h' hsb => ?_⟩
  have hDg : h'.get? D = some (listOf vs n) := (hsb.2 D hDC).trans hg
  have hCz : ¬ Z' C := S'.zL
  have hzk : ∀ a o, Z' a → s'.heap.get? a = some o → h'.get? a = some o := fun a o q e => (hsb.2 a fun z => hCz (z ▸ q)).trans e
  have hne : ∀ {a}, (s₁.heap.get? a).isSome = true → a ≠ C := fun e q => by rw [q, dC] at e; cases e
  have X : ExtV c.V s₁ Z₁ { s' with heap := h' } (fun a => Z' a ∨ a = D) := by
    refine ⟨?_, fun a o v e => (hsb.2 a (hne (by rw [e]; rfl))).trans (S'.keep a o v e), fun a q => .inl (S'.z0 a q), fun a q => q.elim (S'.znew a) fun e => .inr (by rw [e]; exact dD), fun a q => ?_⟩
    · obtain ⟨h, t, e⟩ := S'.same; exact ⟨h', t, by rw [e]⟩
    · rcases q with q | q
      · exact some_of (fun o => hzk a o q) (S'.zok a q)
      · rw [q, hDg]; rfl
  have hG : c.G h' := S'.ok.gst _ _ S'.g fun a v => hsb.2 a (hne (S₁.va a v))
  refine k (.ref D) { s' with heap := h' } _ (.list rs) (S₁.extV X hG) (LeX.trans S l₁ (S₁.leXV X)) (.list (.inr rfl) ⟨_, hDg, rfl, n, rfl⟩ (hT.mono (fun _ q => .inl q) hzk)) ⟨rs, rfl, d', ds, e₁, hd, hA⟩
end
theorem exs_drawnF {c : Cx} {ρ ρf : Rho} {x y : Str} {elt iter : Expr} {scope : Scope} {cl : List (Str × Addr)} {pos px py spos : Pos} {k : Nat} {PE : D → Prop} {rest : List Stmt} {R : Out → Rho → Prop}
    (h : EvP c ρ (eval iter c.env) ρ fun d => ∃ n : Nat, n < k ∧ d = .rng 0 1 n) (hk' : k ≤ 1000) (hclos : closureFor scope c.env = pure cl) (hk : scope.kind = .function) (hcell : (scope.names.all fun y => y.2 != .cell) = true)
    (hnames : (scope.names.all fun x => x.2 != .local || scope.names.lookup x.1 == some .local) = true) (hcl : CL cl c.env.cells) (hy : ∀ C s0 Z0, (cxComp c scope cl C s0 Z0).Sto y) (hf : HF ρf ρ cl) (hyf : ρf.lookup y = none) (hs : ∀ x, foldedSetIterable iter c.env x = pure x)
    (hx : c.Sto x) (hsw : swapsWith (.ListComp elt [⟨.Name y py, iter, [], 0⟩] scope pos) (some (.Name x px)) spos.line c.env = pure false)
    (helt : ∀ i : Int, ∀ C s0 Z0, EvP (cxComp c scope cl C s0 Z0) ((y, .v (.int i)) :: ρf) (eval elt (compEnvC scope cl C c.env)) ((y, .v (.int i)) :: ρf) PE)
    (r : ∀ rs : List D, rs.length < k → (∀ d ∈ rs, PE d) → Exs c ((x, .v (.list rs)) :: ρ) rest R) :
    Exs c ρ (.Assign [.Name x px] (.ListComp elt [⟨.Name y py, iter, [], 0⟩] scope pos) spos :: rest) R := by
  refine exs_ex (ex_assignP (ev_compN (bind := fun d ρ => some ((y, .v d) :: ρ)) (keepd := fun _ => true) (P := fun _ b => PE b) h (fun d hd => ?_) hclos hk (fun z hz q => ?_) (fun z hz q => ?_) hcl (fun C s0 Z0 => binds_name (hy C s0 Z0)) hf hs) hx hsw) ?_ (fun o r' hn hr => absurd hr.1 hn)
  · obtain ⟨n, hn, rfl⟩ := hd
    refine ⟨_, rfl, by rw [sizeLine_is, List.length_map, List.length_range]; omega, fun d hd => ?_⟩
    obtain ⟨i, hi, rfl⟩ := List.mem_map.mp hd
    refine ⟨_, rfl, fun z b e => ?_, fun z ds' e => ?_, fun C s0 Z0 => ⟨rfl, fun _ => helt _ C s0 Z0⟩⟩
    · rw [List.lookup_cons]
      cases q : (z == y) with
      | true => rw [beq_iff_eq.mp q, hyf] at e; cases e
      | false => exact e
    · rw [List.lookup_cons] at e
      cases q : (z == y) with
      | true => rw [q] at e; cases e
      | false => rw [q] at e; exact (hf z _ e).2.2 _ rfl
  · have := List.all_eq_true.mp hcell z hz; rw [q] at this; cases this
  · have := List.all_eq_true.mp hnames z hz
    rw [q] at this
    simpa using this
  · rintro r' ⟨_, _, ⟨rs, rfl, d, ds, ⟨n, hn, rfl⟩, hd, hA⟩, rfl⟩
    refine r rs ?_ hA.all
    have := hA.length
    cases hd
    rw [List.filter_eq_self.mpr (fun _ _ => rfl), List.length_map, List.length_range] at this
    omega
end
/- one step of an expression, a list of arguments, a test; what isn't of these kinds stays -/
local macro_rules | `(tactic| walk_at "j1") => `(tactic| first
  | with_reducible apply ev_int
  | with_reducible apply ev_str rfl
  | with_reducible apply ev_bytes rfl
  | with_reducible apply ev_none
  | with_reducible apply ev_bool
  | with_reducible apply evl_nil
  | with_reducible apply evo_none
  | ((with_reducible apply ev_local) <;> rfl)
  | ((with_reducible apply ev_cell) <;> rfl)
  | ((with_reducible apply ev_free) <;> rfl)
  | ((with_reducible apply ev_own) <;> rfl)
  | with_reducible apply evo_some
  | with_reducible apply evl_cons
  | with_reducible apply ev_bin'
  | with_reducible apply ev_slice_bytes
  | with_reducible apply ev_slice_str
  | with_reducible apply ev_slice_list
  | with_reducible apply ev_sub'
  | with_reducible apply ev_cmp'
  | with_reducible apply ev_list
  | with_reducible apply ev_tup
  | with_reducible apply ev_neg
  | with_reducible apply evt_not
  | with_reducible apply evt_chain
  | with_reducible apply evt_cmp'
  | with_reducible apply op_add
  | with_reducible apply op_sub
  | with_reducible apply op_mul
  | with_reducible apply op_mul_str
  | with_reducible apply op_div
  | with_reducible apply op_mod
  | with_reducible apply op_rshift
  | with_reducible apply op_pow
  | with_reducible apply op_is_none_f
  | with_reducible apply op_and
  | with_reducible apply op_add_str
  | with_reducible apply op_add_bytes
  | with_reducible apply op_add_list
  | with_reducible apply op_lt
  | with_reducible apply op_gt
  | with_reducible apply op_le
  | with_reducible apply op_ge
  | with_reducible apply op_eq
  | with_reducible apply op_ne
  | with_reducible apply op_eq_str
  | with_reducible apply op_ne_str
  | with_reducible apply op_eq_bytes
  | with_reducible apply op_ne_bytes
  | with_reducible apply op_eq_bi
  | with_reducible apply op_ne_bi
  | with_reducible apply op_item_str
  | with_reducible apply op_item_bytes
  | with_reducible apply op_item_list
  | with_reducible apply op_len_bytes
  | with_reducible apply op_len_str
  | with_reducible apply op_len_list
  | with_reducible apply op_ord
  | with_reducible apply op_chr
  | with_reducible apply op_isint_t
  | with_reducible apply op_isint_f
  | ((with_reducible apply ev_HEX) <;> rfl)
  | ((with_reducible apply ev_FLUSH) <;> rfl)
  | ((with_reducible apply ev_END) <;> rfl)
  | ((with_reducible apply ev_LONGEST) <;> rfl)
  | ((with_reducible apply ev_NOREFS) <;> rfl)
  | ((with_reducible apply ev_FIGURES) <;> rfl)
  | ((with_reducible apply ev_tyint) <;> rfl)
  | with_reducible apply ec_len
  | with_reducible apply ec_isinstance
  | with_reducible apply ec_bytes
  | with_reducible apply ec_int
  | with_reducible apply ec_list
  | with_reducible apply ec_tuple
  | with_reducible apply op_list_list
  | with_reducible apply ec_range
  | with_reducible apply ec_ord
  | with_reducible apply ec_chr
  | with_reducible apply ec_text_of
  | with_reducible apply ec_octets_of
  | with_reducible apply ec_hex_of
  | with_reducible apply ec_hex_digit
  | with_reducible apply ec_octets_of_hex
  | with_reducible apply ec_is_plain_hex
  | with_reducible apply ec_zero_id
  | with_reducible apply ec_pkt
  | with_reducible apply ec_wire_figure
  | with_reducible apply ec_wire_line
  | with_reducible apply ec_read_pkts
  | with_reducible apply ec_wire_row
  | with_reducible apply ec_wire_id
  | with_reducible apply ec_wire_hex
  | with_reducible apply ec_wire_told
  | with_reducible apply ec__law_octets
  | with_reducible apply ec__law_hex
  | with_reducible apply ec__law_framed
  | with_reducible apply ec__law_rows
  | with_reducible apply ec__law_seen
  | with_reducible apply ec__law_told
  | with_reducible apply ec__law_spoilt
  | with_reducible apply ev_meth
  | with_reducible apply meth_join
  | with_reducible apply meth_sfind
  | with_reducible apply meth_split
  | with_reducible apply meth_bfind
  | with_reducible apply meth_bjoin
  | with_reducible apply Nat.zero_le _
  | exact Nat.le_of_ble_eq_true rfl
  | with_unfolding_all rfl
  | (with_reducible intro _ _; with_unfolding_all rfl))
/- one step of statements that go on -/
local macro_rules | `(tactic| walk_at "js") => `(tactic| first
  | with_reducible apply exs_list
  | with_reducible apply exs_asg
  | with_reducible apply exs_append
  | with_reducible apply exs_ret
  | with_reducible apply exs_if_ret
  | ((with_reducible apply sto_l) <;> rfl)
  | walk_at "j1")
section
theorem joinN_ones : ∀ l : List Nat, joinN [] (l.map fun x => [x]) = l
  | [] => rfl
  | [x] => rfl
  | x :: y :: r => by
    have := joinN_ones (y :: r)
    show [x] ++ [] ++ joinN [] ((y :: r).map fun x => [x]) = _
    rw [this]; rfl
theorem sum_ones : ∀ l : List Nat, ((l.map fun x => [x]).map List.length).sum = l.length
  | [] => rfl
  | x :: r => by simp only [List.map_cons, List.sum_cons, sum_ones r, List.length_cons, List.length_nil]; omega
theorem text_of_ok {l : List Nat} (hl : l.length ≤ 1000000) (hb : ∀ k ∈ l, k < 256) : FnP 64 1 [.bytes l] (· = .str l) := by
  refine Fn1 "octets" (fun w => by k_is) (fun w => by k_is) (fun v => rfl) rfl rfl (fun w A0 outer L s0 Z0 => ?_) rfl rfl rfl
  apply exs_ret
  · repeat' (walk_at "j1")
    · refine ev_compA (as := l) (f := fun d => match d with | .int k => .str [k.toNat] | _ => .none) (g := fun k : Nat => .int k) (f' := fun k => .str [k]) (ρf := []) (ev_local rfl rfl rfl rfl) rfl rfl rfl rfl rfl (fun _ _ e => by cases e) (fun _ _ _ => .inl ⟨rfl, rfl⟩) (fun _ _ e => by cases e) (fun _ => rfl) rfl ?_ (fun _ => rfl) ?_
      · omega
      · intro k hk C s0 Z0
        repeat' (walk_at "j1")
        have := hb k hk
        omega
    repeat' (walk_at "j1")
    rw [show l.map (fun k => D.str [k]) = (l.map fun x => [x]).map D.str by rw [List.map_map]; rfl]
    refine op_join ?_
    rw [sum_ones, show (Str.ofString "").cps.toList = [] from rfl]; simp; omega
  · rintro d rfl
    exact ⟨_, rfl, by rw [show (Str.ofString "").cps.toList = [] from rfl, joinN_ones]⟩
theorem octets_of_ok {l : List Nat} (hl : l.length ≤ 1000000) (hb : ∀ k ∈ l, k < 256) : FnP 69 1 [.str l] (· = .bytes l) := by
  refine Fn1 "text" (fun w => by k_is) (fun w => by k_is) (fun v => rfl) rfl rfl (fun w A0 outer L s0 Z0 => ?_) rfl rfl rfl
  refine exs_compA (as := l) (f := fun d => match d with | .str [k] => .int (k : Nat) | _ => .none) (g := fun k : Nat => .str [k]) (f' := fun k => .int (k : Nat)) (ρf := []) (ev_local rfl rfl rfl rfl) rfl rfl rfl rfl rfl (fun _ _ e => by cases e) (fun _ _ _ => .inl ⟨rfl, rfl⟩) (fun _ _ e => by cases e) (fun _ => rfl) rfl ?_ (fun _ => rfl) ?_ (.inl ⟨rfl, rfl⟩) rfl ?_
  · omega
  · intro k hk C s0 Z0
    repeat' (walk_at "j1")
  apply exs_step
  · refine ex_for_inv (fun _ => [("numbers", .v (.list (l.map fun k : Nat => D.int (k : Nat))))]) (ev_own rfl rfl rfl rfl) rfl (binds_name (.inl ⟨rfl, rfl⟩)) (Sub.cons rfl Sub.nil) (fun done d rest e => ⟨_, rfl, ?_⟩) (fun _ => rfl)
    obtain ⟨k, hk, rfl⟩ := List.mem_map.mp (show d ∈ _ by rw [e]; simp)
    apply exs_if_ret
    · repeat' (walk_at "j1")
    · intro h
      have := hb k hk
      simp at h; omega
    · intro _
      exact Ex.weak exs_nil fun o r h => ⟨.inl h.1, by rw [h.2]; exact Sub.cons rfl Sub.nil⟩
  · apply exs_ret
    · repeat' (walk_at "j1")
      exact op_bytes_ints hb (by omega)
      all_goals walk_at "j1"
    · rintro d rfl
      exact ⟨_, rfl, rfl⟩
end
section
def hexOf (l : List Nat) : List Nat := l.flatMap fun b => [hexN.getD (b / 16) 0, hexN.getD (b % 16) 0]
theorem hexOf_len (l : List Nat) : (hexOf l).length = 2 * l.length := by
  induction l with
  | nil => rfl
  | cons a r ih =>
    have e : hexOf (a :: r) = hexN.getD (a / 16) 0 :: hexN.getD (a % 16) 0 :: hexOf r := by simp [hexOf]
    rw [e, List.length_cons, List.length_cons, List.length_cons, ih]; omega
theorem hexOf_snoc (l : List Nat) (a : Nat) : hexOf (l ++ [a]) = hexOf l ++ [hexN.getD (a / 16) 0, hexN.getD (a % 16) 0] := by simp [hexOf]
theorem and15 : ∀ k : Nat, k < 256 → Builtin.bitAnd (k : Int) 15 = ((k % 16 : Nat) : Int) := by decide +kernel
theorem hex_of_ok {l : List Nat} (hl : l.length ≤ 1000000) (hb : ∀ k ∈ l, k < 256) : FnP 76 1 [.bytes l] (· = .str (hexOf l)) := by
  have hlen := hexOf_len l
  refine Fn1 "octets" (fun w => by k_is) (fun w => by k_is) (fun v => rfl) rfl rfl (fun w A0 outer L s0 Z0 => ?_) rfl rfl rfl
  apply exs_list
  · walk_at "j1"
  · exact Nat.zero_le _
  · exact .inl ⟨rfl, rfl⟩
  · rfl
  refine exs_forA (as := l) (fun k : Nat => .int (k : Nat)) (fun done => [("found", .own ((hexOf done).map fun c => .str [c])), ("octets", .v (.bytes l))]) (d := .bytes l) (ρ₁ := [("found", .own []), ("octets", .v (.bytes l))]) (ev_local rfl rfl rfl rfl) rfl (.inl ⟨rfl, rfl⟩) (Sub.cons rfl (Sub.cons rfl Sub.nil)) ?_ (fun _ => rfl) ?_
  · intro done k rest e
    have hk : k < 256 := hb k (by rw [e]; simp)
    have hdl : done.length < l.length := by rw [e]; simp
    have hdn := hexOf_len done
    have hd4 : Int.fdiv (k : Int) (2 ^ (4 : Int).toNat) = ((k / 16 : Nat) : Int) := by
      rw [Int.fdiv_eq_ediv_of_nonneg _ (by decide)]; rfl
    have h16 : hexN.length = 16 := rfl
    apply exs_append
    all_goals repeat' (walk_at "j1")
    · decide
    · rw [hd4]; omega
    · rw [hd4, h16]; omega
    · rw [List.length_map]; omega
    apply exs_append
    all_goals repeat' (walk_at "j1")
    · rw [and15 k hk]; omega
    · rw [and15 k hk, h16]; omega
    · rw [List.length_append, List.length_map]; simp only [List.length_cons, List.length_nil]; omega
    refine exs_done ⟨.inl rfl, Sub.cons ?_ (Sub.cons rfl Sub.nil)⟩
    show some (Bd.own _) = some (Bd.own _)
    rw [hexOf_snoc, List.map_append, and15 k hk, hd4, List.append_assoc]
    rfl
  · apply exs_ret
    · repeat' (walk_at "j1")
      rw [show (hexOf l).map (fun c => D.str [c]) = ((hexOf l).map fun x => [x]).map D.str by rw [List.map_map]; rfl]
      refine op_join ?_
      rw [sum_ones, show (Str.ofString "").cps.toList = [] from rfl]; simp; omega
    · rintro d rfl
      exact ⟨_, rfl, by rw [show (Str.ofString "").cps.toList = [] from rfl, joinN_ones]⟩
end
section
theorem hexD : ∀ k < 16, hexN.getD k 0 = if k < 10 then 48 + k else 87 + k := by decide
theorem hex_digit_ok {k : Nat} (hk : k < 16) : FnP 83 1 [.str [hexN.getD k 0]] (· = .int (k : Nat)) := by
  refine Fn1 "sign" (fun w => by k_is) (fun w => by k_is) (fun v => rfl) rfl rfl (fun w A0 outer L s0 Z0 => ?_) rfl rfl rfl
  refine exs_asg0 (.int (k : Nat)) ?_ (.inl ⟨rfl, rfl⟩) rfl ?_
  · repeat' (walk_at "j1")
    apply op_find_hex hk
  refine exs_if0 false (evt_and_f (EvT.cast (evt_cmp' (ev_local rfl rfl rfl rfl) ev_int op_lt (by with_unfolding_all rfl)) ?_)) rfl (fun h => by cases h) fun _ => ?_
  · simp
  apply exs_ret
  · apply ev_ifx (P := (· = .int (k : Nat)))
    · repeat' (walk_at "j1")
    · intro h
      repeat' (walk_at "j1")
    · intro h
      simp at h
  · rintro d rfl
    exact ⟨_, rfl, rfl⟩
def plainB (n : Nat) : Bool := (48 ≤ n && n ≤ 57) || (97 ≤ n && n ≤ 102)
theorem is_plain_hex_ok {l : List Nat} {m : Nat} (hl : l.length ≤ 1000000) : FnP 97 1 [.bytes l, .int (m : Nat)] (· = .bool (l.length == m && l.all plainB)) := by
  refine Fn2 "octets" "many" (fun w => by k_is) (fun w => by k_is) (fun u v => rfl) ⟨rfl, rfl⟩ rfl (fun w A0 outer L s0 Z0 => ?_) rfl rfl rfl
  apply exs_if_ret
  · repeat' (walk_at "j1")
    omega
  · intro h
    apply exs_ret
    · repeat' (walk_at "j1")
    · rintro d rfl
      refine ⟨ret_ne, _, rfl, ?_⟩
      have : (l.length == m) = false := by simp at h ⊢; omega
      rw [this]; rfl
  intro h
  have hm : (l.length == m) = true := by simp at h ⊢; omega
  rw [hm, Bool.true_and]
  refine exs_forF (as := l) (fun k => .int (k : Nat)) [("octets", .v (.bytes l)), ("many", .v (.int (m : Nat)))] (fun k => !plainB k) (fun _ => .bool false) (ev_local rfl rfl rfl rfl) rfl (.inl ⟨rfl, rfl⟩) (Sub.cons rfl (Sub.cons rfl Sub.nil)) ?_ (fun _ => rfl) ?_ ?_
  · intro k hk
    apply exs_if_ret (b := !plainB k)
    · apply EvT.cast
      · apply evt_not
        apply evt_or2
        · repeat' (walk_at "j1")
        · intro _
          repeat' (walk_at "j1")
      · congr 1
        rw [plainB, show decide ((48 : Int) ≤ (k : Int)) = decide (48 ≤ k) from decide_eq_decide.mpr (by omega), show decide ((k : Int) ≤ 57) = decide (k ≤ 57) from decide_eq_decide.mpr (by omega), show decide ((97 : Int) ≤ (k : Int)) = decide (97 ≤ k) from decide_eq_decide.mpr (by omega), show decide ((k : Int) ≤ 102) = decide (k ≤ 102) from decide_eq_decide.mpr (by omega)]
    · intro h
      apply exs_ret
      · repeat' (walk_at "j1")
      · rintro d rfl
        exact ⟨ret_ne, by rw [if_pos h]⟩
    · intro h
      refine exs_done ?_
      rw [if_neg (by rw [h]; exact Bool.false_ne_true)]
      exact ⟨.inl rfl, Sub.cons rfl (Sub.cons rfl Sub.nil)⟩
  · intro a r q
    refine ⟨_, rfl, ?_⟩
    have h1 := List.mem_of_find?_eq_some q
    have h2 := List.find?_some q
    have : l.all plainB = false := by
      rw [List.all_eq_false]
      exact ⟨a, h1, by simpa using h2⟩
    rw [this]
  · intro q
    apply exs_ret
    · repeat' (walk_at "j1")
    · rintro d rfl
      refine ⟨_, rfl, ?_⟩
      have : l.all plainB = true := by
        rw [List.all_eq_true]
        intro a ha
        have := List.find?_eq_none.mp q a ha
        simpa using this
      rw [this]
theorem wire_figure_ok {k : Nat} (hk : k < 16) : FnP 118 1 [.int (hexN.getD k 0 : Nat)] (· = .int (k : Nat)) := by
  have hd := hexD k hk
  refine Fn1 "sign" (fun w => by k_is) (fun w => by k_is) (fun v => rfl) rfl rfl (fun w A0 outer L s0 Z0 => ?_) rfl rfl rfl
  apply exs_if_ret
  · repeat' (walk_at "j1")
  · intro h
    have h' : k < 10 := by simp only [Bool.and_eq_true, Bool.and_eq_false_iff, decide_eq_true_eq, decide_eq_false_iff_not] at h; split at hd <;> omega
    rw [if_pos h'] at hd
    apply exs_ret
    · repeat' (walk_at "j1")
    · rintro d rfl
      exact ⟨ret_ne, _, rfl, by rw [hd]; congr 1; omega⟩
  intro h
  have h' : ¬ k < 10 := by simp only [Bool.and_eq_true, Bool.and_eq_false_iff, decide_eq_true_eq, decide_eq_false_iff_not] at h; split at hd <;> omega
  rw [if_neg h'] at hd
  apply exs_if_ret
  · repeat' (walk_at "j1")
  · intro h
    apply exs_ret
    · repeat' (walk_at "j1")
    · rintro d rfl
      exact ⟨ret_ne, _, rfl, by rw [hd]; congr 1; omega⟩
  intro h
  exfalso
  simp only [Bool.and_eq_true, Bool.and_eq_false_iff, decide_eq_true_eq, decide_eq_false_iff_not] at h; omega
end
section
theorem hexOf_get : ∀ (l : List Nat) (i : Nat), i < l.length → (hexOf l).getD (2 * i) 0 = hexN.getD (l.getD i 0 / 16) 0 ∧ (hexOf l).getD (2 * i + 1) 0 = hexN.getD (l.getD i 0 % 16) 0
  | [], i, h => by simp at h
  | a :: r, 0, _ => by simp [hexOf]
  | a :: r, i + 1, h => by
    have ih := hexOf_get r i (by simpa using h)
    have e : hexOf (a :: r) = hexN.getD (a / 16) 0 :: hexN.getD (a % 16) 0 :: hexOf r := by simp [hexOf]
    rw [e, show 2 * (i + 1) = (2 * i + 1) + 1 by omega, show (2 * i + 1) + 1 + 1 = ((2 * i + 1) + 1) + 1 by omega]
    simpa using ih
theorem size_2 (m : Nat) : Builtin.Range.rangeSize 0 ((2 * m : Nat) : Int) 2 = (m : Int) := by
  unfold Builtin.Range.rangeSize
  by_cases h : 0 < m
  · rw [if_pos (by decide), if_pos (by omega)]; omega
  · rw [if_pos (by decide), if_neg (by omega)]; omega
theorem octets_of_hex_ok {l : List Nat} (hl : l.length ≤ 100000) (hb : ∀ k ∈ l, k < 256) : FnP 90 2 [.str (hexOf l)] (· = .bytes l) := by
  have hlen := hexOf_len l
  refine Fn1 "text" (fun w => by k_is) (fun w => by k_is) (fun v => rfl) rfl rfl (fun w A0 outer L s0 Z0 => ?_) rfl rfl rfl
  apply exs_if_ret
  · repeat' (walk_at "j1")
    · omega
    · decide
  · intro h
    exfalso
    rw [hlen, Int.fmod_eq_emod_of_nonneg _ (by decide)] at h
    simp only [bne_iff_ne] at h
    omega
  intro _
  apply exs_list
  · walk_at "j1"
  · exact Nat.zero_le _
  · exact .inl ⟨rfl, rfl⟩
  · rfl
  refine exs_forA (as := List.range l.length) (fun i : Nat => .int (0 + (i : Int) * 2)) (fun done => [("found", .own ((l.take done.length).map fun c : Nat => .int (c : Nat))), ("text", .v (.str (hexOf l)))]) (d := .rng 0 2 l.length) (ρ₁ := [("found", .own []), ("text", .v (.str (hexOf l)))]) ?_ rfl (.inl ⟨rfl, rfl⟩) (Sub.cons rfl (Sub.cons rfl Sub.nil)) ?_ (fun _ => rfl) ?_
  · repeat' (walk_at "j1")
    · omega
    · exact op_range3 (by decide) (by omega) (by omega) (by decide) (by decide) rfl (by rw [hlen]; exact size_2 _) (by omega)
  · intro done i rest e
    have hdl : done.length = i := by
      have h1 := congrArg (fun z => z[done.length]?) e
      simp at h1
      have h2 : done.length < l.length := by
        have := congrArg List.length e
        simp at this; omega
      rw [List.getElem?_range h2] at h1
      exact Option.some.inj h1
    have hi : i < l.length := by
      have := congrArg List.length e
      simp at this; omega
    have hg := hexOf_get l i hi
    have hv : l.getD i 0 < 256 := hb _ (by rw [List.getD_eq_getElem?_getD, List.getElem?_eq_getElem hi]; exact List.getElem_mem hi)
    refine exs_asg0 (.int (l.getD i 0 / 16 : Nat)) ?_ (.inl ⟨rfl, rfl⟩) rfl ?_
    · apply ec_hex_digit
      · rfl
      · repeat' (walk_at "j1")
        · omega
        · omega
        · omega
      · rw [show ((0 : Int) + (i : Int) * 2).toNat = 2 * i by omega, hg.1]
        exact hex_digit_ok (by omega)
      all_goals walk_at "j1"
    refine exs_asg0 (.int (l.getD i 0 % 16 : Nat)) ?_ (.inl ⟨rfl, rfl⟩) rfl ?_
    · apply ec_hex_digit
      · rfl
      · repeat' (walk_at "j1")
        · omega
        · omega
        · omega
      · rw [show ((0 : Int) + (i : Int) * 2 + 1).toNat = 2 * i + 1 by omega, hg.2]
        exact hex_digit_ok (by omega)
      all_goals walk_at "j1"
    refine exs_if0 false (evt_or2 (b := false) (b' := false) (evt_cmp' (ev_local rfl rfl rfl rfl) ev_none (op_is_none_f (fun q => nomatch q)) rfl) fun _ => evt_cmp' (ev_local rfl rfl rfl rfl) ev_none (op_is_none_f (fun q => nomatch q)) rfl) rfl (fun h => by cases h) fun _ => ?_
    apply exs_append
    all_goals repeat' (walk_at "j1")
    · exact .inl (by decide)
    · rw [List.length_map, List.length_take]; omega
    · refine exs_done ⟨.inl rfl, Sub.cons ?_ (Sub.cons rfl Sub.nil)⟩
      show some (Bd.own _) = some (Bd.own _)
      rw [List.length_append, hdl]
      have : l.take (i + 1) = l.take i ++ [l.getD i 0] := by
        rw [List.take_add_one, List.getElem?_eq_getElem hi, List.getD_eq_getElem?_getD, List.getElem?_eq_getElem hi]; rfl
      show some (Bd.own (_ ++ _)) = some (Bd.own ((l.take (i + 1)).map _))
      rw [this, List.map_append]
      congr 4
      simp
      omega
  · rw [List.length_range, List.take_of_length_le (Nat.le_refl _)]
    apply exs_ret
    · repeat' (walk_at "j1")
      exact op_bytes_ints hb (by omega)
      all_goals walk_at "j1"
    · rintro d rfl
      exact ⟨_, rfl, rfl⟩
end
section
theorem wire_hex_ok {l : List Nat} (hl : l.length ≤ 100000) (hb : ∀ k ∈ l, k < 256) : FnP 154 2 [.bytes l] (· = .bytes (hexOf l)) := by
  have hlen := hexOf_len l
  refine Fn1 "oid" (fun w => by k_is) (fun w => by k_is) (fun v => rfl) rfl rfl (fun w A0 outer L s0 Z0 => ?_) rfl rfl rfl
  apply exs_ret
  · repeat' (walk_at "j1")
    · exact hex_of_ok (by omega) hb
    all_goals repeat' (walk_at "j1")
    · refine octets_of_ok (by omega) fun k hk => ?_
      obtain ⟨j, hj, hk⟩ := List.mem_flatMap.mp hk
      have : ∀ i < 16, hexN.getD i 0 < 256 := by decide
      have h1 := this (j / 16) (by have := hb j hj; omega)
      have h2 := this (j % 16) (by omega)
      simp only [List.mem_cons, List.not_mem_nil, or_false] at hk
      rcases hk with rfl | rfl <;> assumption
    all_goals repeat' (walk_at "j1")
  · rintro d rfl
    exact ⟨_, rfl, rfl⟩
theorem hexOf_lt {l : List Nat} (hb : ∀ k ∈ l, k < 256) : ∀ k ∈ hexOf l, k < 256 := fun k hk => by
  obtain ⟨j, hj, hk⟩ := List.mem_flatMap.mp hk
  have : ∀ i < 16, hexN.getD i 0 < 256 := by decide
  have h1 := this (j / 16) (by have := hb j hj; omega)
  have h2 := this (j % 16) (by omega)
  simp only [List.mem_cons, List.not_mem_nil, or_false] at hk
  rcases hk with rfl | rfl <;> assumption
theorem hexOf_plain {l : List Nat} (hb : ∀ k ∈ l, k < 256) : (hexOf l).all plainB = true := by
  rw [List.all_eq_true]
  intro k hk
  obtain ⟨j, hj, hk⟩ := List.mem_flatMap.mp hk
  have : ∀ i < 16, plainB (hexN.getD i 0) = true := by decide
  have h1 := this (j / 16) (by have := hb j hj; omega)
  have h2 := this (j % 16) (by omega)
  simp only [List.mem_cons, List.not_mem_nil, or_false] at hk
  rcases hk with rfl | rfl <;> assumption
theorem wire_id_ok {l : List Nat} {m : Nat} (hm : l.length = m) (hl : l.length ≤ 100000) (hb : ∀ k ∈ l, k < 256) : FnP 147 3 [.bytes (hexOf l), .int (m : Nat)] (· = .bytes l) := by
  have hlen := hexOf_len l
  refine Fn2 "octets" "size" (fun w => by k_is) (fun w => by k_is) (fun u v => rfl) ⟨rfl, rfl⟩ rfl (fun w A0 outer L s0 Z0 => ?_) rfl rfl rfl
  refine exs_if0 false (evt_not (b := true) (evt_val ?_ rfl)) rfl (fun h => by cases h) fun _ => ?_
  · repeat' (walk_at "j1")
    · exact .inl (by decide)
    · rw [show (2 : Int) * (m : Int) = ((2 * m : Nat) : Int) by omega]
      refine (?_ : FnP 97 1 _ _)
      have := is_plain_hex_ok (l := hexOf l) (m := 2 * m) (by omega)
      rw [hexOf_plain hb, hlen, hm] at this
      simpa using this
    all_goals repeat' (walk_at "j1")
  apply exs_ret
  · repeat' (walk_at "j1")
    · exact text_of_ok (by omega) (hexOf_lt hb)
    all_goals repeat' (walk_at "j1")
    · exact octets_of_hex_ok hl hb
    all_goals repeat' (walk_at "j1")
  · rintro d rfl
    exact ⟨_, rfl, rfl⟩
def stripN (l : List Nat) : List Nat := if l.drop (l.length - 1) == [10] then l.take (l.length - 1) else l
theorem wire_row_ok {l : List Nat} (hl : l.length ≤ 1000000) : FnP 140 1 [.bytes l] (· = .bytes (stripN l)) := by
  refine Fn1 "item" (fun w => by k_is) (fun w => by k_is) (fun v => rfl) rfl rfl (fun w A0 outer L s0 Z0 => ?_) rfl rfl rfl
  refine exs_if0 false (evt_val ?_ rfl) rfl (fun h => by cases h) fun _ => ?_
  · repeat' (walk_at "j1")
  apply exs_ret
  · apply ev_ifx (P := (· = .bytes (stripN l))) (bb := l.drop (l.length - 1) == [10])
    · apply EvT.cast
      · repeat' (walk_at "j1")
        omega
      · rw [show cut l (some (-1)) none = l.drop (l.length - 1) from cut_last l 1 (by decide)]; rfl
    · intro h
      apply Ev.cast
      · repeat' (walk_at "j1")
        omega
      · rw [show cut l none (some (-1)) = l.take (l.length - 1) from cut_butlast l 1 (by decide), stripN, if_pos h]
    · intro h
      apply Ev.cast
      · repeat' (walk_at "j1")
      · rw [stripN, if_neg (by rw [h]; exact Bool.false_ne_true)]
  · rintro d rfl
    exact ⟨_, rfl, rfl⟩
theorem zero_id_ok {m : Nat} (hm : m ≤ 1000) : FnP 104 1 [.int (m : Nat)] (· = .bytes (List.replicate m 0)) := by
  refine Fn1 "size" (fun w => by k_is) (fun w => by k_is) (fun v => rfl) rfl rfl (fun w A0 outer L s0 Z0 => ?_) rfl rfl rfl
  apply exs_ret
  · repeat' (walk_at "j1")
    · exact op_bytes_n hm
    all_goals repeat' (walk_at "j1")
  · rintro d rfl
    exact ⟨_, rfl, rfl⟩
end
section
def hex4 (n : Nat) : List Nat := [hexN.getD (n / 4096) 0, hexN.getD (n / 256 % 16) 0, hexN.getD (n / 16 % 16) 0, hexN.getD (n % 16) 0]
theorem pylong_small {a b : Int} (h : b.natAbs < 2 ^ 64) : Builtin.divisionGoesByPylong a b = false := by
  unfold Builtin.divisionGoesByPylong
  simp only [Bool.and_eq_false_iff, decide_eq_false_iff_not]
  left
  by_cases hb : b = 0
  · rw [hb]; decide
  · have : b.natAbs.log2 < 64 := (Nat.log2_lt (by omega)).mpr h
    rw [if_neg (by simpa using hb)]
    omega
theorem fd (a b : Nat) : (a : Int).fdiv (b : Int) = ((a / b : Nat) : Int) := by
  rw [Int.fdiv_eq_ediv_of_nonneg _ (by omega)]; rfl
theorem fm (a b : Nat) : (a : Int).fmod (b : Int) = ((a % b : Nat) : Int) := by
  rw [Int.fmod_eq_emod_of_nonneg _ (by omega)]; rfl
theorem hexN_lt (k : Nat) (h : k < 16) : hexN.getD k 0 < 256 := by
  have : ∀ i < 16, hexN.getD i 0 < 256 := by decide
  exact this k h
theorem pkt0_ok : FnP 111 1 [.int 0] (· = .bytes [48, 48, 48, 48]) := by
  refine Fn1 "thing" (fun w => by k_is) (fun w => by k_is) (fun v => rfl) rfl rfl (fun w A0 outer L s0 Z0 => ?_) rfl rfl rfl
  refine exs_if0 true (evt_val ?_ rfl) rfl (fun h => ?_) fun h => by cases h
  · repeat' (walk_at "j1")
  refine exs_if0 false (evt_or2 (b := false) (b' := false) ?_ fun _ => ?_) rfl (fun h => by cases h) fun _ => ?_
  · apply EvT.cast
    · repeat' (walk_at "j1")
    · rfl
  · apply EvT.cast
    · repeat' (walk_at "j1")
    · rfl
  apply exs_ret
  · repeat' (walk_at "j1")
    all_goals decide
  · rintro d rfl
    exact ⟨ret_ne, _, rfl, rfl⟩
theorem pkt_ok {l : List Nat} (hl : l.length ≤ 65516) : FnP 111 1 [.bytes l] (· = .bytes (hex4 (l.length + 4) ++ l)) := by
  refine Fn1 "thing" (fun w => by k_is) (fun w => by k_is) (fun v => rfl) rfl rfl (fun w A0 outer L s0 Z0 => ?_) rfl rfl rfl
  refine exs_if0 false (evt_val ?_ rfl) rfl (fun h => by cases h) fun _ => ?_
  · repeat' (walk_at "j1")
  refine exs_if0 (b := decide (((65516 : Int) < (l.length : Int)))) false ?_ (by simp; omega) (fun h => by cases h) fun _ => ?_
  · repeat' (walk_at "j1")
    omega
  refine exs_asg0 (.int (l.length + 4 : Nat)) ?_ (.inl ⟨rfl, rfl⟩) rfl ?_
  · apply Ev.cast
    · repeat' (walk_at "j1")
      omega
    · congr 1
  obtain ⟨n, hn⟩ : ∃ n, n = l.length + 4 := ⟨_, rfl⟩
  rw [← hn]
  have hn' : n ≤ 65520 := by omega
  have e1 := fd n 4096
  have e2 := fd n 256
  have e3 := fm (n / 256) 16
  have e4 := fd n 16
  have e5 := fm (n / 16) 16
  have e6 := fm n 16
  simp only [Int.cast_ofNat_Int] at e1 e2 e3 e4 e5 e6
  have g1 : (((hexN.getD ((n : Int).fdiv 4096).toNat 0 : Nat)) : Int) = (hexN.getD (n / 4096) 0 : Nat) := by rw [e1]; rfl
  have g2 : (((hexN.getD (((n : Int).fdiv 256).fmod 16).toNat 0 : Nat)) : Int) = (hexN.getD (n / 256 % 16) 0 : Nat) := by rw [e2, e3]; rfl
  have g3 : (((hexN.getD (((n : Int).fdiv 16).fmod 16).toNat 0 : Nat)) : Int) = (hexN.getD (n / 16 % 16) 0 : Nat) := by rw [e4, e5]; rfl
  have g4 : (((hexN.getD ((n : Int).fmod 16).toNat 0 : Nat)) : Int) = (hexN.getD (n % 16) 0 : Nat) := by rw [e6]; rfl
  apply exs_list (ds := [.int (hexN.getD (n / 4096) 0 : Nat), .int (hexN.getD (n / 256 % 16) 0 : Nat)])
  · apply EvL.cast
    · repeat' (walk_at "j1")
      all_goals first | exact pylong_small (by decide) | decide | skip
      · rw [e1]; omega
      · rw [e1]; show _ < (16 : Int); omega
      · rw [e2, e3]; omega
      · rw [e2, e3]; show _ < (16 : Int); omega
    · rw [g1, g2]
  · simp
  · exact .inl ⟨rfl, rfl⟩
  · rfl
  apply exs_ret
  · apply ev_bin' (d₁ := .bytes (hex4 n)) (d₂ := .bytes l)
    · apply ec_bytes (ds := [.list ((hex4 n).map fun k : Nat => .int (k : Nat))])
      · rfl
      · apply EvL.cast
        · repeat' (walk_at "j1")
          all_goals first | exact pylong_small (by decide) | decide | skip
          · rw [e4, e5]; omega
          · rw [e4, e5]; show _ < (16 : Int); omega
          · rw [e6]; omega
          · rw [e6]; show _ < (16 : Int); omega
        · rw [g3, g4]; rfl
      · refine op_bytes_ints (fun k hk => ?_) (by simp [hex4])
        simp only [hex4, List.mem_cons, List.not_mem_nil, or_false] at hk
        rcases hk with rfl | rfl | rfl | rfl <;> exact hexN_lt _ (by omega)
      all_goals repeat' (walk_at "j1")
    all_goals repeat' (walk_at "j1")
    · simp [hex4]; omega
  · rintro d rfl
    exact ⟨_, rfl, rfl⟩
end
section
def valN (l : List Nat) : Nat := l.foldl (fun v k => v * 16 + k) 0
theorem valN_snoc (l : List Nat) (k : Nat) : valN (l ++ [k]) = valN l * 16 + k := by simp [valN]
def nib4 (n : Nat) : List Nat := [n / 4096, n / 256 % 16, n / 16 % 16, n % 16]
theorem nib4_lt {n : Nat} (h : n < 65536) : ∀ k ∈ nib4 n, k < 16 := by
  intro k hk
  simp only [nib4, List.mem_cons, List.not_mem_nil, or_false] at hk
  omega
theorem valN_nib4 {n : Nat} (h : n < 65536) : valN (nib4 n) = n := by
  simp only [valN, nib4, List.foldl_cons, List.foldl_nil]
  omega
theorem valN_lt : ∀ (l : List Nat), (∀ k ∈ l, k < 16) → l.length ≤ 4 → valN l < 65536
  | [], _, _ => by decide
  | [a], h, _ => by have := h a (by simp); simp [valN]; omega
  | [a, b], h, _ => by have := h a (by simp); have := h b (by simp); simp [valN]; omega
  | [a, b, c], h, _ => by have := h a (by simp); have := h b (by simp); have := h c (by simp); simp [valN]; omega
  | [a, b, c, d], h, _ => by have := h a (by simp); have := h b (by simp); have := h c (by simp); have := h d (by simp); simp [valN]; omega
  | a :: b :: c :: d :: e :: r, _, h => by simp at h
section
variable {o : List Nat} {i n : Nat}
/-- the head of wire_line: the length is read -/
theorem wire_line_ok {P : D → Prop} (ho : o.length ≤ 1000000) (hi : i + 4 ≤ o.length) (hn : n < 65536) (hh : (o.drop i).take 4 = hex4 n)
    (hp : (n ≤ 2 ∧ P (.tup [.int (n : Nat), .int (i + 4 : Nat)])) ∨ (4 ≤ n ∧ n ≤ 65520 ∧ i + n ≤ o.length ∧ P (.tup [.bytes ((o.drop (i + 4)).take (n - 4)), .int (i + n : Nat)]))) : FnP 125 2 [.bytes o, .int (i : Nat)] P := by
  refine Fn2 "octets" "at" (fun w => by k_is) (fun w => by k_is) (fun u v => rfl) ⟨rfl, rfl⟩ rfl (fun w A0 outer L s0 Z0 => ?_) rfl rfl rfl
  refine exs_if0 (b := decide ((o.length : Int) < (i : Int) + 4)) false ?_ (by simp; omega) (fun h => by cases h) fun _ => ?_
  · repeat' (walk_at "j1")
    omega
  refine exs_asg0 (.int 0) ev_int (.inl ⟨rfl, rfl⟩) rfl ?_
  refine exs_forA (as := nib4 n) (fun k : Nat => .int (hexN.getD k 0 : Nat)) (fun done => [("length", .v (.int (valN done : Nat))), ("at", .v (.int (i : Nat))), ("octets", .v (.bytes o))]) (d := .bytes (hex4 n)) (ρ₁ := [("length", .v (.int 0)), ("at", .v (.int (i : Nat))), ("octets", .v (.bytes o))]) ?_ ?_ (.inl ⟨rfl, rfl⟩) (Sub.cons rfl (Sub.cons rfl (Sub.cons rfl Sub.nil))) ?_ (fun _ => rfl) ?_
  · apply Ev.cast
    · repeat' (walk_at "j1")
      omega
    · rw [show (i : Int) + 4 = ((i + 4 : Nat) : Int) by omega, cut_both, show i + 4 - i = 4 by omega, hh]
  · rfl
  · intro done k rest e
    have hk : k < 16 := nib4_lt hn k (by rw [e]; simp)
    have hdl : done.length ≤ 4 := by have := congrArg List.length e; simp [nib4] at this; omega
    have hv : valN done < 65536 := valN_lt done (fun k hk => nib4_lt hn k (by rw [e]; exact List.mem_append_left _ hk)) hdl
    refine exs_asg0 (.int (valN done * 16 + k : Nat)) ?_ (.inl ⟨rfl, rfl⟩) rfl (exs_done ⟨.inl rfl, Sub.cons ?_ (Sub.cons rfl (Sub.cons rfl Sub.nil))⟩)
    · apply Ev.cast
      · repeat' (walk_at "j1")
        · exact .inr (by decide)
        · exact wire_figure_ok hk
        all_goals repeat' (walk_at "j1")
      · congr 1
    · rw [valN_snoc]; rfl
  rw [valN_nib4 hn]
  rcases hp with ⟨h2, hp⟩ | ⟨h4, h5, h6, hp⟩
  · refine exs_if0 (b := decide ((n : Int) ≤ 2)) true ?_ (by simp; omega) (fun _ => ?_) fun h => by cases h
    · repeat' (walk_at "j1")
    apply exs_ret
    · repeat' (walk_at "j1")
    · rintro d rfl
      exact ⟨ret_ne, _, rfl, hp⟩
  · refine exs_if0 (b := decide ((n : Int) ≤ 2)) false ?_ (by simp; omega) (fun h => by cases h) fun _ => ?_
    · repeat' (walk_at "j1")
    refine exs_if0 (b := (n : Int) == 3) false ?_ (by simp; omega) (fun h => by cases h) fun _ => ?_
    · repeat' (walk_at "j1")
    refine exs_if0 (b := decide ((65516 : Int) + 4 < (n : Int))) false ?_ (by simp; omega) (fun h => by cases h) fun _ => ?_
    · repeat' (walk_at "j1")
    refine exs_if0 (b := decide ((o.length : Int) < (i : Int) + (n : Int))) false ?_ (by simp; omega) (fun h => by cases h) fun _ => ?_
    · repeat' (walk_at "j1")
      omega
    apply exs_ret
    · repeat' (walk_at "j1")
      · omega
    · rintro d rfl
      refine ⟨_, rfl, ?_⟩
      rw [show (i : Int) + 4 = ((i + 4 : Nat) : Int) by omega, show (i : Int) + (n : Int) = ((i + n : Nat) : Int) by omega, cut_both, show i + n - (i + 4) = n - 4 by omega]
      exact hp
end
end
section
def Good (o : List Nat) (i n : Nat) (d : D) (j : Nat) : Prop := i + 4 ≤ o.length ∧ n < 65536 ∧ (o.drop i).take 4 = hex4 n ∧
  ((n ≤ 2 ∧ d = .int (n : Nat) ∧ j = i + 4) ∨ (4 ≤ n ∧ n ≤ 65520 ∧ i + n ≤ o.length ∧ d = .bytes ((o.drop (i + 4)).take (n - 4)) ∧ j = i + n))
theorem Good.ok {o : List Nat} {i n j : Nat} {d : D} (h : Good o i n d j) (ho : o.length ≤ 1000000) : FnP 125 2 [.bytes o, .int (i : Nat)] (· = .tup [d, .int (j : Nat)]) := by
  obtain ⟨h1, h2, h3, h4⟩ := h
  refine wire_line_ok ho h1 h2 h3 ?_
  rcases h4 with ⟨h, rfl, rfl⟩ | ⟨h, h', h'', rfl, rfl⟩
  · exact .inl ⟨h, rfl⟩
  · exact .inr ⟨h, h', h'', rfl⟩
theorem Good.lt {o : List Nat} {i n j : Nat} {d : D} (h : Good o i n d j) : i < o.length ∧ i < j := by
  obtain ⟨h1, h2, h3, h4⟩ := h
  refine ⟨by omega, ?_⟩
  rcases h4 with ⟨h, rfl, rfl⟩ | ⟨h, h', h'', rfl, rfl⟩ <;> omega
inductive Reads (o : List Nat) : Nat → List D → Nat → Prop
  | stop {i : Nat} : o.length ≤ i → Reads o i [] i
  | last {i n j : Nat} : Good o i n (.int (n : Nat)) j → n = 0 ∨ n = 2 → Reads o i [.int (n : Nat)] j
  | more {i n j k : Nat} {d : D} {ds : List D} : Good o i n d j → ((∃ b, d = .bytes b) ∨ d = .int 1) → Reads o j ds k → Reads o i (d :: ds) k
theorem Reads.len {o : List Nat} {i k : Nat} {ds : List D} (h : Reads o i ds k) : ds.length + i ≤ o.length + 4 ∨ ds = [] := by
  induction h with
  | stop h => exact .inr rfl
  | last h _ => have := h.lt; left; simp; omega
  | more h _ r ih =>
    have := h.lt
    left
    rcases ih with ih | rfl
    · simp; omega
    · simp; omega
abbrev rpI (o : List Nat) (acc : List D) (i : Nat) : Rho := [("found", .own acc), ("at", .v (.int (i : Nat))), ("octets", .v (.bytes o))]
theorem reads_loop {c : Cx} {test : Expr} {body : List Stmt} {o : List Nat} (ht : ∀ i acc, EvT c (rpI o acc i) test (rpI o acc i) (decide ((i : Int) < (o.length : Int))))
    (hl : ∀ acc i n j, acc.length ≤ 1000010 → Good o i n (.int (n : Nat)) j → n = 0 ∨ n = 2 → Exs c (rpI o acc i) body fun o' r => o' = .brk ∧ Sub (rpI o (acc ++ [.int (n : Nat)]) j) r)
    (hm : ∀ acc i n j d, acc.length ≤ 1000010 → Good o i n d j → ((∃ b, d = .bytes b) ∨ d = .int 1) → Exs c (rpI o acc i) body fun o' r => o' = .next ∧ Sub (rpI o (acc ++ [d]) j) r)
    {i k : Nat} {ds : List D} (h : Reads o i ds k) : ∀ (acc : List D) (ρ : Rho), acc.length + ds.length ≤ 1000010 → Sub (rpI o acc i) ρ → WLoop c test body (fun o' r => o' = .next ∧ Sub (rpI o (acc ++ ds) k) r) (ds.length + 1) ρ := by
  induction h with
  | @stop i h =>
    intro acc ρ ha hs
    refine ⟨_, hs, .inl ⟨_, EvT.cast (ht i acc) (by simp; omega), rfl, ?_⟩⟩
    rw [List.append_nil]; exact Sub.refl
  | @last i n j h hn =>
    intro acc ρ ha hs
    have hlt := h.lt
    refine ⟨_, hs, .inr ⟨_, EvT.cast (ht i acc) (by simp; omega), (hl acc i n j (by simp at ha; omega) h hn).weak ?_⟩⟩
    rintro o' r ⟨rfl, hr⟩
    exact ⟨rfl, hr⟩
  | @more i n j k d ds h hd r ih =>
    intro acc ρ ha hs
    have hlt := h.lt
    refine ⟨_, hs, .inr ⟨_, EvT.cast (ht i acc) (by simp; omega), (hm acc i n j d (by simp at ha; omega) h hd).weak ?_⟩⟩
    rintro o' r ⟨rfl, hr⟩
    have := ih (acc ++ [d]) r (by simp at ha ⊢; omega) hr
    rw [List.append_assoc] at this
    exact this
theorem read_pkts_ok {o : List Nat} {i k : Nat} {ds : List D} (h : Reads o i ds k) (ho : o.length ≤ 1000000) : FnP 133 3 [.bytes o, .int (i : Nat)] (· = .tup [.list ds, .int (k : Nat)]) := by
  refine Fn2d "octets" "at" (fun w => by k_is) (fun w => by k_is) (fun w => by k_is) rfl rfl (fun u v => ⟨_, rfl, rfl⟩) ⟨rfl, rfl⟩ rfl (fun w A0 outer L s0 Z0 => ?_) rfl rfl rfl
  apply exs_list (ds := [])
  · walk_at "j1"
  · exact Nat.zero_le _
  · exact .inl ⟨rfl, rfl⟩
  · rfl
  refine exs_ex (P := fun o' r => o' = .next ∧ Sub (rpI o ([] ++ ds) k) r) (ex_while (n := ds.length + 1) (reads_loop ?_ ?_ ?_ h [] _ ?_ (Sub.cons rfl (Sub.cons rfl (Sub.cons rfl Sub.nil))))) ?_ (fun o r hn h => absurd h.1 hn)
  · intro i acc
    repeat' (walk_at "j1")
    omega
  · intro acc i n j ha h hn
    refine exs_pair (.int (n : Nat)) (.int (j : Nat)) ?_ (.inl ⟨rfl, rfl⟩) (.inl ⟨rfl, rfl⟩) rfl rfl ?_
    · repeat' (walk_at "j1")
      · exact h.ok ho
      all_goals repeat' (walk_at "j1")
    apply exs_append
    all_goals repeat' (walk_at "j1")
    · omega
    refine exs_iff (b := ((n : Int) == 0) || ((n : Int) == 2)) true (evt_or2 ?_ fun _ => ?_) ?_ (fun _ => ?_) fun h => by cases h
    · repeat' (walk_at "j1")
    · repeat' (walk_at "j1")
    · rcases hn with rfl | rfl <;> rfl
    · refine Ex.weak (exs_cons ex_break (fun r p => by cases p.1) (fun o r _ p => p) (R := fun o r => o = .brk ∧ r = _)) ?_
      rintro o' r ⟨rfl, rfl⟩
      exact .inr ⟨(fun q => nomatch q), rfl, Sub.cons rfl (Sub.cons rfl (Sub.cons rfl Sub.nil))⟩
  · intro acc i n j d ha h hd
    refine exs_pair d (.int (j : Nat)) ?_ (.inl ⟨rfl, rfl⟩) (.inl ⟨rfl, rfl⟩) rfl rfl ?_
    · repeat' (walk_at "j1")
      · exact h.ok ho
      all_goals repeat' (walk_at "j1")
    apply exs_append
    all_goals repeat' (walk_at "j1")
    · omega
    refine exs_iff (b := false || false) false (evt_or2 ?_ fun _ => ?_) rfl (fun h => by cases h) fun _ => exs_done (.inl ⟨rfl, exs_done ⟨rfl, Sub.cons rfl (Sub.cons rfl (Sub.cons rfl Sub.nil))⟩⟩)
    · rcases hd with ⟨b, rfl⟩ | rfl
      · repeat' (walk_at "j1")
      · refine evt_cmp' (ev_local rfl rfl rfl rfl) (ev_FLUSH rfl) (op_eq (a := 1) (b := 0)) rfl
    · rcases hd with ⟨b, rfl⟩ | rfl
      · repeat' (walk_at "j1")
      · refine evt_cmp' (ev_local rfl rfl rfl rfl) (ev_END rfl) (op_eq (a := 1) (b := 2)) rfl
  · have := h.len
    rcases this with h | rfl <;> simp <;> omega
  · intro r hr
    refine Ex.pre (ρ₁ := rpI o ([] ++ ds) k) ?_ hr.2
    apply exs_ret
    · repeat' (walk_at "j1")
    · rintro d rfl
      exact ⟨_, rfl, rfl⟩
end
section
def shN : List Nat := [115, 104, 97, 108, 108, 111, 119]
theorem wire_told_none {l : List Nat} {m : Int} (hl : l.length ≤ 1000000) (h : l.take 8 ≠ shN ++ [32]) : FnP 161 4 [.bytes l, .bytes shN, .int m] (· = .none) := by
  refine Fn3 "row" "word" "size" (fun w => by k_is) (fun w => by k_is) (fun u v t => rfl) ⟨rfl, rfl, rfl⟩ rfl (fun w A0 outer L s0 Z0 => ?_) rfl rfl rfl
  refine exs_asg0 (.bytes (shN ++ [32])) ?_ (.inl ⟨rfl, rfl⟩) rfl ?_
  · apply Ev.cast
    · repeat' (walk_at "j1")
    · rfl
  apply exs_ret
  · apply ev_ifx (P := (· = .none)) (bb := false)
    · apply EvT.cast
      · repeat' (walk_at "j1")
        · omega
      · show (cut l none (some ((8 : Nat) : Int)) == _) = false
        rw [cut_upto]
        simpa using h
    · intro h; cases h
    · intro h
      repeat' (walk_at "j1")
  · rintro d rfl
    exact ⟨_, rfl, rfl⟩
theorem wire_told_ok {l : List Nat} {m : Nat} (hm : l.length = m) (hl : l.length ≤ 100000) (hb : ∀ k ∈ l, k < 256) : FnP 161 4 [.bytes (shN ++ [32] ++ hexOf l), .bytes shN, .int (m : Nat)] (· = .bytes l) := by
  have hlen := hexOf_len l
  have hx : (shN ++ [32]).length = 8 := rfl
  refine Fn3 "row" "word" "size" (fun w => by k_is) (fun w => by k_is) (fun u v t => rfl) ⟨rfl, rfl, rfl⟩ rfl (fun w A0 outer L s0 Z0 => ?_) rfl rfl rfl
  refine exs_asg0 (.bytes (shN ++ [32])) ?_ (.inl ⟨rfl, rfl⟩) rfl ?_
  · apply Ev.cast
    · repeat' (walk_at "j1")
    · rfl
  apply exs_ret
  · apply ev_ifx (P := (· = .bytes l)) (bb := true)
    · apply EvT.cast
      · repeat' (walk_at "j1")
        · rw [List.length_append]; omega
      · show (cut _ none (some ((8 : Nat) : Int)) == _) = true
        rw [cut_upto, List.take_append_of_le_length (by rw [hx]; exact Nat.le_refl _), List.take_of_length_le (by rw [hx]; exact Nat.le_refl _)]
        simp
    · intro h
      apply ec_wire_id (ds := [.bytes (hexOf l), .int (m : Nat)])
      · rfl
      · apply EvL.cast
        · repeat' (walk_at "j1")
          · rw [List.length_append]; omega
        · congr 1
          show D.bytes (cut _ (some ((8 : Nat) : Int)) none) = _
          rw [cut_from, List.drop_append_of_le_length (by rw [hx]; exact Nat.le_refl _), List.drop_of_length_le (by rw [hx]; exact Nat.le_refl _)]
          rfl
      · exact wire_id_ok hm hl hb
      all_goals repeat' (walk_at "j1")
    · intro h; cases h
  · rintro d rfl
    exact ⟨_, rfl, rfl⟩
theorem law_octets_ok {l : List Nat} (hl : l.length ≤ 1000000) (hb : ∀ k ∈ l, k < 256) : FnP 232 1 [.str l] (· = .bytes l) := by
  refine Fn1 "text" (fun w => by k_is) (fun w => by k_is) (fun v => rfl) rfl rfl (fun w A0 outer L s0 Z0 => ?_) rfl rfl rfl
  apply exs_ret
  · apply ec_bytes (ds := [.list (l.map fun k : Nat => .int (k : Nat))])
    · rfl
    · refine evl_cons (ev_compA (as := l) (f := fun d => match d with | .str [k] => .int (k : Nat) | _ => .none) (g := fun k : Nat => .str [k]) (f' := fun k => .int (k : Nat)) (ρf := []) (ev_local rfl rfl rfl rfl) rfl rfl rfl rfl rfl CL.nil (fun _ _ _ => .inl ⟨rfl, rfl⟩) HF.nil (fun _ => rfl) rfl ?_ (fun _ => rfl) ?_) evl_nil rfl
      · omega
      · intro k hk C s0 Z0
        repeat' (walk_at "j1")
    · exact op_bytes_ints hb (by omega)
    all_goals repeat' (walk_at "j1")
  · rintro d rfl
    exact ⟨_, rfl, rfl⟩
theorem joinN_nil : ∀ l : List (List Nat), joinN [] l = l.flatten
  | [] => rfl
  | [x] => by simp [joinN]
  | x :: y :: r => by
    have := joinN_nil (y :: r)
    show x ++ [] ++ joinN [] (y :: r) = _
    rw [this]; simp
theorem law_hex_ok {l : List Nat} (hl : l.length ≤ 1000000) (hb : ∀ k ∈ l, k < 256) : FnP 237 1 [.bytes l] (· = .str (hexOf l)) := by
  refine Fn1 "oid" (fun w => by k_is) (fun w => by k_is) (fun v => rfl) rfl rfl (fun w A0 outer L s0 Z0 => ?_) rfl rfl rfl
  apply exs_ret
  · repeat' (walk_at "j1")
    · refine ev_compA (as := l) (f := fun d => match d with | .int k => .str [hexN.getD (k.toNat / 16) 0, hexN.getD (k.toNat % 16) 0] | _ => .none) (g := fun k : Nat => .int (k : Nat)) (f' := fun k => .str [hexN.getD (k / 16) 0, hexN.getD (k % 16) 0]) (ρf := []) (ev_local rfl rfl rfl rfl) rfl rfl rfl rfl rfl CL.nil (fun _ _ _ => .inl ⟨rfl, rfl⟩) HF.nil (fun _ => rfl) rfl ?_ (fun _ => rfl) ?_
      · omega
      · intro k hk C s0 Z0
        have hk' := hb k hk
        have e1 : (k : Int).fdiv 16 = ((k / 16 : Nat) : Int) := fd k 16
        have e2 : (k : Int).fmod 16 = ((k % 16 : Nat) : Int) := fm k 16
        apply Ev.cast
        · repeat' (walk_at "j1")
          all_goals first | exact pylong_small (by decide) | decide | skip
          · rw [e1]; omega
          · rw [e1]; show _ < (16 : Int); omega
          · rw [e2]; omega
          · rw [e2]; show _ < (16 : Int); omega
          all_goals simp
        · rw [e1, e2]; rfl
    all_goals repeat' (walk_at "j1")
    rw [show l.map (fun k => D.str [hexN.getD (k / 16) 0, hexN.getD (k % 16) 0]) = (l.map fun k => [hexN.getD (k / 16) 0, hexN.getD (k % 16) 0]).map D.str by rw [List.map_map]; rfl]
    refine op_join ?_
    rw [show (Str.ofString "").cps.toList = [] from rfl]
    have : ((l.map fun k => [hexN.getD (k / 16) 0, hexN.getD (k % 16) 0]).map List.length).sum = 2 * l.length := by
      clear hb hl
      induction l with
      | nil => rfl
      | cons a r ih => simp only [List.map_cons, List.sum_cons, ih, List.length_cons, List.length_nil]; omega
    rw [this]
    simp; omega
  · rintro d rfl
    refine ⟨_, rfl, ?_⟩
    rw [show (Str.ofString "").cps.toList = [] from rfl, joinN_nil]
    rfl
end
section
def encN (feed : List Nat) (r : List Nat) : List Nat := hex4 (r.length + feed.length + 4) ++ r ++ feed
def framedN (rows : List (List Nat)) (feed : List Nat) : List Nat := rows.flatMap (encN feed)
theorem encN_len (feed r : List Nat) : (encN feed r).length = r.length + feed.length + 4 := by simp [encN, hex4]; try omega
theorem framed_snoc (rows : List (List Nat)) (r feed : List Nat) : framedN (rows ++ [r]) feed = framedN rows feed ++ encN feed r := by simp [framedN]
theorem framed_mono {rows done rest : List (List Nat)} {r feed : List Nat} (e : rows = done ++ r :: rest) : (framedN done feed).length + (encN feed r).length ≤ (framedN rows feed).length := by
  rw [e]; simp [framedN]
theorem law_framed_ok {rows : List (List Nat)} {feed : List Nat} (hf : (framedN rows feed).length ≤ 60000) (hn : rows.length ≤ 1000) : FnP 242 1 [.list (rows.map D.bytes), .bytes feed] (· = .bytes (framedN rows feed ++ [48, 48, 48, 48])) := by
  refine Fn2C "rows" "feed" (fun w => by k_is) (fun w => by k_is) (fun u v => rfl) ⟨rfl, rfl⟩ (fun L => ⟨rfl, rfl⟩) ?_ (fun w A0 outer L s0 Z0 => ?_) rfl rfl rfl
  · intro L
    show [L + 1].Nodup
    simp
  refine exs_asg0 (.bytes []) (ev_bytes rfl) (.inl ⟨rfl, rfl⟩) rfl ?_
  refine exs_forA (as := rows) (fun r => .bytes r) (fun done => [("found", .v (.bytes (framedN done feed))), ("feed", .v (.bytes feed))]) (ρ₁ := [("found", .v (.bytes [])), ("feed", .v (.bytes feed)), ("rows", .v (.list (rows.map D.bytes)))]) (ev_local rfl rfl rfl rfl) rfl (.inl ⟨rfl, rfl⟩) (Sub.cons rfl (Sub.cons rfl Sub.nil)) ?_ (fun _ => rfl) ?_
  · intro done r rest e
    have hm := framed_mono (feed := feed) e
    rw [encN_len] at hm
    refine exs_asg0 (.int (r.length + feed.length + 4 : Nat)) ?_ (.inr ⟨rfl, rfl, rfl⟩) rfl ?_
    · apply Ev.cast
      · repeat' (walk_at "j1")
        · omega
        · omega
      · rfl
    obtain ⟨m, hm'⟩ : ∃ m, m = r.length + feed.length + 4 := ⟨_, rfl⟩
    rw [← hm']
    refine exs_asg0 (.bytes (framedN done feed ++ encN feed r)) ?_ (.inl ⟨rfl, rfl⟩) rfl (exs_done ⟨.inl rfl, Sub.cons (by rw [framed_snoc]; rfl) (Sub.cons rfl Sub.nil)⟩)
    apply Ev.cast (d := .bytes (framedN done feed ++ hex4 m ++ r ++ feed))
    · apply ev_bin' (d₁ := .bytes (framedN done feed ++ hex4 m ++ r)) (d₂ := .bytes feed)
      · apply ev_bin' (d₁ := .bytes (framedN done feed ++ hex4 m)) (d₂ := .bytes r)
        · apply ev_bin' (d₁ := .bytes (framedN done feed)) (d₂ := .bytes (hex4 m))
          · walk_at "j1"
          · apply ec_bytes (ds := [.list ((hex4 m).map fun k : Nat => .int (k : Nat))])
            · rfl
            · apply EvL.cast
              · refine evl_cons (ev_compA (as := [3, 2, 1, 0]) (f := fun d => match d with | .int k => .int (hexN.getD (m / 16 ^ k.toNat % 16) 0 : Nat) | _ => .none) (g := fun k : Nat => .int (k : Nat)) (f' := fun k => .int (hexN.getD (m / 16 ^ k % 16) 0 : Nat)) (ρf := [("many", .v (.int (m : Nat)))]) (ρ₁ := [("many", .v (.int (m : Nat))), ("row", .v (.bytes r)), ("found", .v (.bytes (framedN done feed))), ("feed", .v (.bytes feed))]) (d := .tup [.int 3, .int 2, .int 1, .int 0]) ?_ rfl rfl rfl rfl rfl (CL.cons rfl CL.nil) (fun _ _ _ => .inl ⟨rfl, rfl⟩) (HF.cons rfl rfl HF.nil) (fun _ => rfl) rfl ?_ (fun _ => rfl) ?_) evl_nil rfl
                · repeat' (walk_at "j1")
                · decide
                · intro k hk C s0 Z0
                  have e1 : (m : Int).fdiv (16 ^ ((k : Int)).toNat) = ((m / 16 ^ k : Nat) : Int) := by
                    rw [← fd]; simp
                  have e2 : (((m / 16 ^ k : Nat)) : Int).fmod 16 = ((m / 16 ^ k % 16 : Nat) : Int) := fm _ 16
                  have hk3 : k ≤ 3 := by simp at hk; omega
                  have e3 : ((16 : Int) ^ ((k : Int)).toNat).natAbs ≤ 4096 ∧ (16 : Int) ^ ((k : Int)).toNat ≠ 0 := by
                    rw [Int.toNat_natCast]
                    have : k = 0 ∨ k = 1 ∨ k = 2 ∨ k = 3 := by omega
                    rcases this with rfl | rfl | rfl | rfl <;> decide
                  apply Ev.cast
                  · repeat' (walk_at "j1")
                    all_goals first | exact e3.2 | exact pylong_small (Nat.lt_of_le_of_lt e3.1 (by decide)) | exact pylong_small (by decide) | decide | omega | (rw [e1, e2]; omega) | (rw [e1, e2]; show _ < (16 : Int); omega) | skip
                    all_goals trace_state
                  · rw [e1, e2]; rfl
              · congr 2
                show [D.int _, D.int _, D.int _, D.int _] = [D.int _, D.int _, D.int _, D.int _]
                rw [show m / 16 ^ 3 % 16 = m / 4096 by omega, show m / 16 ^ 2 % 16 = m / 256 % 16 by omega, show m / 16 ^ 1 % 16 = m / 16 % 16 by omega, show m / 16 ^ 0 % 16 = m % 16 by omega]
            · refine op_bytes_ints (fun k hk => ?_) (by simp [hex4])
              simp only [hex4, List.mem_cons, List.not_mem_nil, or_false] at hk
              rcases hk with rfl | rfl | rfl | rfl <;> exact hexN_lt _ (by omega)
            all_goals repeat' (walk_at "j1")
          · apply op_add_bytes
            simp [hex4]; omega
        · walk_at "j1"
        · apply op_add_bytes
          simp [hex4]; omega
      · walk_at "j1"
      · apply op_add_bytes
        simp [hex4]; omega
    · rw [encN, ← hm']; simp
  · apply exs_ret
    · repeat' (walk_at "j1")
      simp; omega
    · rintro d rfl
      exact ⟨_, rfl, rfl⟩
end
section
/-- a ref: its name (as numbers), its id -/
abbrev RefN := List Nat × List Nat
def rowsA (refs : List RefN) (size : Nat) : List (List Nat) := if refs.isEmpty then [(List.replicate (2 * size) 48) ++ 32 :: capN] else refs.map fun r => hexOf r.2 ++ 32 :: r.1
def setHead (f : List Nat → List Nat) : List (List Nat) → List (List Nat)
  | [] => []
  | a :: r => f a :: r
def rowsN (refs : List RefN) (words : List (List Nat)) (shallow : List (List Nat)) (size : Nat) : List (List Nat) :=
  setHead (fun a => a ++ 0 :: joinN [32] words) (rowsA refs size) ++ shallow.map fun o => shN ++ 32 :: hexOf o
def refD (r : RefN) : D := .tup [.str r.1, .bytes r.2]
structure Inp (refs : List RefN) (words shallow : List (List Nat)) (size : Nat) : Prop where
  sz : size ≤ 100
  nrefs : refs.length ≤ 100
  nwords : words.length ≤ 100
  nsh : shallow.length ≤ 100
  name : ∀ r ∈ refs, r.1.length ≤ 100 ∧ ∀ k ∈ r.1, k < 256
  ids : ∀ r ∈ refs, r.2.length = size ∧ ∀ k ∈ r.2, k < 256
  word : ∀ w ∈ words, w.length ≤ 100 ∧ ∀ k ∈ w, k < 256
  sh : ∀ o ∈ shallow, o.length = size ∧ ∀ k ∈ o, k < 256
theorem sum_le {B : Nat} : ∀ {l : List (List Nat)}, (∀ w ∈ l, w.length ≤ B) → (l.map List.length).sum ≤ l.length * B
  | [], _ => by simp
  | a :: r, h => by
    have h1 := h a (.head _)
    have h2 := sum_le (l := r) fun w hw => h w (.tail _ hw)
    simp only [List.map_cons, List.sum_cons, List.length_cons, Nat.succ_mul]
    omega
theorem joinN_len (sep : List Nat) : ∀ l : List (List Nat), (joinN sep l).length ≤ (l.map List.length).sum + l.length * sep.length
  | [] => by simp [joinN]
  | [a] => by simp [joinN]
  | a :: b :: r => by
    have := joinN_len sep (b :: r)
    show (a ++ sep ++ joinN sep (b :: r)).length ≤ _
    simp only [List.length_append, List.map_cons, List.sum_cons, List.length_cons, Nat.succ_mul] at this ⊢
    omega
theorem Inp.words_len {refs : List RefN} {words shallow : List (List Nat)} {size : Nat} (I : Inp refs words shallow size) : (joinN [32] words).length ≤ 10100 := by
  have h1 := joinN_len [32] words
  have h2 := sum_le (B := 100) (l := words) fun w hw => (I.word w hw).1
  have := I.nwords
  simp only [List.length_cons, List.length_nil] at h1
  have : words.length * 100 ≤ 100 * 100 := Nat.mul_le_mul_right _ I.nwords
  omega
theorem joinN_lt {sep : List Nat} {l : List (List Nat)} (hs : ∀ k ∈ sep, k < 256) (h : ∀ w ∈ l, ∀ k ∈ w, k < 256) : ∀ k ∈ joinN sep l, k < 256 := by
  induction l with
  | nil => intro k hk; cases hk
  | cons a r ih =>
    cases r with
    | nil => exact h a (.head _)
    | cons b r =>
      intro k hk
      have hk : k ∈ a ++ sep ++ joinN sep (b :: r) := hk
      rcases List.mem_append.mp hk with hk | hk
      · rcases List.mem_append.mp hk with hk | hk
        · exact h a (.head _) k hk
        · exact hs k hk
      · exact ih (fun w hw => h w (.tail _ hw)) k hk
theorem rowsN_ok {refs : List RefN} {words shallow : List (List Nat)} {size : Nat} (I : Inp refs words shallow size) : ∀ r ∈ rowsN refs words shallow size, r.length ≤ 12000 ∧ ∀ k ∈ r, k < 256 := by
  have hA : ∀ r ∈ rowsA refs size, r.length ≤ 400 ∧ ∀ k ∈ r, k < 256 := by
    intro r hr
    unfold rowsA at hr
    split at hr
    · rw [List.mem_singleton.mp hr]
      have := I.sz
      refine ⟨by simp [capN]; omega, fun k hk => ?_⟩
      rcases List.mem_append.mp hk with hk | hk
      · rw [(List.mem_replicate.mp hk).2]; decide
      · have : ∀ k ∈ 32 :: capN, k < 256 := by decide
        exact this k hk
    · obtain ⟨q, hq, rfl⟩ := List.mem_map.mp hr
      have h1 := I.name q hq; have h2 := I.ids q hq
      have := I.sz
      refine ⟨by simp [hexOf_len]; omega, fun k hk => ?_⟩
      rcases List.mem_append.mp hk with hk | hk
      · exact hexOf_lt h2.2 k hk
      · rcases List.mem_cons.mp hk with rfl | hk
        · decide
        · exact h1.2 k hk
  intro r hr
  rcases List.mem_append.mp hr with hr | hr
  · cases hA' : rowsA refs size with
    | nil => rw [hA'] at hr; cases hr
    | cons a rs =>
      rw [hA'] at hr hA
      rcases List.mem_cons.mp hr with rfl | hr
      · have h1 := hA a (.head _)
        have h2 := I.words_len
        refine ⟨by simp; omega, fun k hk => ?_⟩
        rcases List.mem_append.mp hk with hk | hk
        · exact h1.2 k hk
        · rcases List.mem_cons.mp hk with rfl | hk
          · decide
          · exact joinN_lt (by decide) (fun w hw => (I.word w hw).2) k hk
      · have := hA r (.tail _ hr)
        exact ⟨by omega, this.2⟩
  · obtain ⟨o, ho, rfl⟩ := List.mem_map.mp hr
    have h2 := I.sh o ho
    have := I.sz
    refine ⟨by simp [hexOf_len, shN]; omega, fun k hk => ?_⟩
    rcases List.mem_append.mp hk with hk | hk
    · have : ∀ k ∈ shN, k < 256 := by decide
      exact this k hk
    · rcases List.mem_cons.mp hk with rfl | hk
      · decide
      · exact hexOf_lt h2.2 k hk
theorem flatten_rep (n : Nat) : (List.replicate n [48]).flatten = List.replicate n 48 := by
  induction n with
  | zero => rfl
  | succ n ih => rw [List.replicate_succ, List.flatten_cons, ih, List.replicate_succ]; rfl
theorem law_rows_ok {refs : List RefN} {words shallow : List (List Nat)} {size : Nat} (I : Inp refs words shallow size) :
    FnP 247 2 [.list (refs.map refD), .list (words.map D.str), .list (shallow.map D.bytes), .int (size : Nat)] (· = .list ((rowsN refs words shallow size).map D.bytes)) := by
  have hw := I.words_len
  have hsz := I.sz
  refine FnP.intro (names := ["refs", "words", "shallow", "size"]) (ρ₀ := [("size", .v (.int (size : Nat))), ("shallow", .v (.list (shallow.map D.bytes))), ("words", .v (.list (words.map D.str))), ("refs", .v (.list (refs.map refD)))]) (fun w => by k_is) (fun w => by k_is) ?_ ?_ ?_ rfl (fun w A0 outer L s0 Z0 => ?_) rfl rfl rfl
  · intro w s vs X e
    rcases vs with _ | ⟨v1, _ | ⟨v2, _ | ⟨v3, _ | ⟨v4, _ | ⟨v5, r⟩⟩⟩⟩⟩
    · simp at e
    · simp at e
    · simp at e
    · simp at e
    · exact BindsTo.of_eq rfl
    · simp at e
  · decide
  · decide
  refine exs_compA2 (as := refs) (f := fun d => match d with | .tup [.str a, .bytes b] => .str (hexOf b ++ 32 :: a) | _ => .none) (g := fun r => .str r.1) (g' := fun r => .bytes r.2) (f' := fun r => .str (hexOf r.2 ++ 32 :: r.1)) (ρf := []) (ev_local rfl rfl rfl rfl) rfl rfl rfl rfl rfl CL.nil (fun _ _ _ => .inl ⟨rfl, rfl⟩) (fun _ _ _ => .inl ⟨rfl, rfl⟩) HF.nil (fun _ => rfl) rfl rfl (by have := I.nrefs; omega) (fun _ => rfl) ?_ (.inl ⟨rfl, rfl⟩) rfl ?_
  · intro r hr C s0 Z0
    have h1 := I.name r hr; have h2 := I.ids r hr
    apply Ev.cast
    · repeat' (walk_at "j1")
      · exact law_hex_ok (by omega) h2.2
      all_goals repeat' (walk_at "j1")
      · rw [hexOf_len]; show _ + 1 ≤ _; omega
      · rw [List.length_append, hexOf_len]; show _ + 1 + _ ≤ _; omega
    · show D.str (hexOf r.2 ++ [32] ++ r.1) = _
      rw [List.append_assoc]; rfl
  have hA : (if refs.isEmpty then [List.replicate (2 * size) 48 ++ 32 :: capN] else refs.map fun r => hexOf r.2 ++ 32 :: r.1) = rowsA refs size := rfl
  refine exs_ifI (b := (refs.map fun r : RefN => D.str (hexOf r.2 ++ 32 :: r.1)).isEmpty) refs.isEmpty [("rows", .own ((rowsA refs size).map D.str)), ("size", .v (.int (size : Nat))), ("shallow", .v (.list (shallow.map D.bytes))), ("words", .v (.list (words.map D.str)))] (evt_own_eq rfl rfl rfl rfl rfl) (by cases refs <;> rfl) (fun h => ?_) (fun h => ?_) ?_
  · refine exs_list0 ((rowsA refs size).map D.str) ?_ ?_ (.inl ⟨rfl, rfl⟩) rfl (exs_done ⟨rfl, Sub.cons rfl (Sub.cons rfl (Sub.cons rfl (Sub.cons rfl Sub.nil)))⟩)
    · rw [show (rowsA refs size).map D.str = [.str (List.replicate (2 * size) 48 ++ 32 :: capN)] by rw [← hA, if_pos h]; rfl]
      refine evl_one0 ?_ rfl
      apply Ev.cast
      · apply ev_bin' (d₁ := .str (List.replicate (2 * size) 48))
        · apply Ev.cast
          · apply ev_bin' (d₂ := .int (2 * size : Nat))
            · repeat' (walk_at "j1")
            · apply Ev.cast
              · repeat' (walk_at "j1")
                exact .inl (by decide)
              · congr 1
            · exact op_mul_str (by omega) (by decide)
          · show D.str (List.replicate (2 * size) [48]).flatten = _
            rw [flatten_rep]
        · repeat' (walk_at "j1")
        · apply op_add_str
          rw [List.length_replicate]; show _ + 16 ≤ _; omega
      · rfl
    · rw [List.length_map, ← hA, if_pos h]; exact Nat.le_of_ble_eq_true rfl
  · refine exs_done ⟨rfl, Sub.cons ?_ (Sub.cons rfl (Sub.cons rfl (Sub.cons rfl Sub.nil)))⟩
    rw [← hA, if_neg (by rw [h]; exact Bool.false_ne_true), List.map_map]; rfl
  have hrows := rowsN_ok I
  obtain ⟨a, rs, hars⟩ : ∃ a rs, rowsA refs size = a :: rs := by
    unfold rowsA
    split
    · exact ⟨_, _, rfl⟩
    · cases refs with
      | nil => simp at *
      | cons r rs => exact ⟨_, _, rfl⟩
  have hN : rowsN refs words shallow size = ((a ++ 0 :: joinN [32] words) :: rs) ++ shallow.map fun o => shN ++ 32 :: hexOf o := by rw [rowsN, hars]; rfl
  rw [hars]
  refine exs_setitem (k := 0) (d := .str (a ++ 0 :: joinN [32] words)) (ρ₁ := [("rows", .own ((a :: rs).map D.str)), ("size", .v (.int (size : Nat))), ("shallow", .v (.list (shallow.map D.bytes))), ("words", .v (.list (words.map D.str)))]) ?_ rfl (by simp) rfl rfl rfl (by decide) rfl ?_
  · apply Ev.cast (d := .str (a ++ [0] ++ joinN [32] words))
    · apply ev_bin' (d₁ := .str (a ++ [0])) (d₂ := .str (joinN [32] words))
      · apply ev_bin' (d₁ := .str a) (d₂ := .str [0])
        · exact ev_own_item (k := 0) rfl rfl rfl rfl rfl (by decide) (fun _ _ => rfl)
        · apply Ev.cast
          · repeat' (walk_at "j1")
            exact op_chr (k := 0) (by decide)
          · rfl
        · apply op_add_str
          have := (hrows (a ++ 0 :: joinN [32] words) (by rw [hN]; simp)).1
          simp at this ⊢; omega
      · repeat' (walk_at "j1")
        exact op_join (sep := [32]) (by have := sum_le (B := 100) (l := words) fun w hw => (I.word w hw).1; have := I.nwords; simp; omega)
      · apply op_add_str
        have := (hrows (a ++ 0 :: joinN [32] words) (by rw [hN]; simp)).1
        simp at this ⊢; omega
    · simp
  have hn1 := I.nsh
  have hn2 : rs.length ≤ 101 := by
    have : (rowsA refs size).length ≤ 101 := by unfold rowsA; split <;> simp; have := I.nrefs; omega
    rw [hars] at this; simp at this; omega
  apply exs_ret
  · refine ev_compA (as := rowsN refs words shallow size) (f := fun d => match d with | .str l => .bytes l | _ => .none) (g := D.str) (f' := D.bytes) (ρf := []) (d := .list ((rowsN refs words shallow size).map D.str)) (ρ₁ := [("rows", .v (.list (((a :: rs).map D.str).set 0 (.str (a ++ 0 :: joinN [32] words))))), ("rows", .own ((a :: rs).map D.str)), ("size", .v (.int (size : Nat))), ("shallow", .v (.list (shallow.map D.bytes))), ("words", .v (.list (words.map D.str)))]) ?_ rfl rfl rfl rfl rfl CL.nil (fun _ _ _ => .inl ⟨rfl, rfl⟩) HF.nil (fun _ => rfl) rfl ?_ (fun _ => rfl) ?_
    · rw [hN, List.map_append]
      apply ev_bin' (d₁ := .list (((a ++ 0 :: joinN [32] words) :: rs).map D.str)) (d₂ := .list ((shallow.map fun o => shN ++ 32 :: hexOf o).map D.str))
      · exact ev_local rfl rfl rfl rfl
      · rw [List.map_map]
        refine ev_compA (as := shallow) (f := fun d => match d with | .bytes o => .str (shN ++ 32 :: hexOf o) | _ => .none) (g := D.bytes) (f' := fun o => D.str (shN ++ 32 :: hexOf o)) (ρf := []) (ev_local rfl rfl rfl rfl) rfl rfl rfl rfl rfl CL.nil (fun _ _ _ => .inl ⟨rfl, rfl⟩) HF.nil (fun _ => rfl) rfl (by omega) (fun _ => rfl) ?_
        intro o ho C s0 Z0
        have h2 := I.sh o ho
        apply Ev.cast
        · repeat' (walk_at "j1")
          · exact law_hex_ok (by omega) h2.2
          all_goals repeat' (walk_at "j1")
          rw [hexOf_len]; show 8 + _ ≤ _; omega
        · rfl
      · apply op_add_list
        simp; omega
    · rw [hN]; simp; omega
    · intro r hr C s0 Z0
      have h := hrows r hr
      repeat' (walk_at "j1")
      · exact law_octets_ok (by omega) h.2
      all_goals repeat' (walk_at "j1")
  · rintro d rfl
    exact ⟨_, rfl, rfl⟩
end
section
abbrev tcA (A : Around) (a : Addr) (vs : List Value) : Around := A.under (.builtin "type.__call__" ⟨.ref a :: vs, []⟩)
theorem tc_frames (A : Around) (a : Addr) (vs : List Value) : (tcA A a vs).frames = A.frames := by cases A with | mk h d f g u => cases f <;> rfl
theorem Stk.tc {w : World} {A : Around} {outer : List Env} {n : Nat} {h : Heap} {a : Addr} {vs : List Value} (X : Stk w A outer (n + 1) h) : Stk w (tcA A a vs) outer n h :=
  ⟨X.handled, (tc_frames A a vs).trans X.frames, by have := X.depth; show A.depth + 1 + n < _; omega, by have := X.units; show A.units + 1 + 20 * n + 100 < _; omega, X.K, X.top, X.fr, X.bs⟩
theorem adv_makes (w : World) : makesIn (hd.heap_39 w.params) 211 = true := by k_is
theorem adv_init (w : World) : findIn (hd.heap_39 w.params) (.ref 211) "__init__" = some (some (.ref 178)) := by k_is
theorem adv_fn (w : World) : typeIn (hd.heap_39 w.params) (.ref 178) = some (.type "function") := by k_is
theorem adv_setattr (w : World) : findIn (hd.heap_39 w.params) (.ref 211) "__setattr__" = some (some (.builtin "object.__setattr__")) := by k_is
theorem adv_over (w : World) : plainOver (hd.heap_39 w.params) 211 = true := by k_is
theorem adv_hasDict (w : World) : hasDictIn (hd.heap_39 w.params) 211 = true := by k_is
theorem adv_taker1 (w : World) : takerIn (hd.heap_39 w.params) 211 "refs" = some none := by k_is
theorem adv_taker2 (w : World) : takerIn (hd.heap_39 w.params) 211 "capabilities" = some none := by k_is
theorem adv_taker3 (w : World) : takerIn (hd.heap_39 w.params) 211 "shallow" = some none := by k_is
/-- a frame whose self is an object that is being made: s0 is the state before the making -/
abbrev cxSelf (w : World) (qual : Str) (scope : Scope) (a : Addr) (cdv : Value) (A0 : Around) (outer : List Env) (n : Nat) (L : Addr) (s0 : Shared) (Z0 : Addr → Prop) (x : Addr) : Cx := { cxFn w qual scope a cdv A0 outer n L s0 Z0 [] with dk := .ref x }
theorem cxSelf_ok {w : World} {qual : Str} {scope : Scope} {a : Addr} {cdv : Value} {A0 : Around} {outer : List Env} {n : Nat} {s0 : Shared} {Z0 : Addr → Prop} {x L : Addr} (X : Stk w A0 outer (n + 1) s0.heap) (zok : ZOk Z0 s0.heap)
    (hfr : ∀ e ∈ outer, ∀ L, e.frame = some L → ¬ Z0 L) (hk : scope.kind = .function) (hL : s0.heap.get? L = none) : (cxSelf w qual scope a cdv A0 outer n L s0 Z0 x).Ok where
  base := fun h' hk' hn => by
    obtain ⟨m, hn⟩ := hn
    have kk : s0.heap.StaysIn h' := fun a o e => hk' a o (fun v => v.elim) e
    have x := X.keeps kk
    obtain ⟨B, b1, b2, b3, b4⟩ := X.bs
    exact ⟨x.handled, Around.frames_deeper x.frames, by have := x.depth; show A0.depth + 1 + n < _; omega, by have := x.units; show A0.units + 3 + 20 * n + 100 < _; omega, x.K, x.top, .cons (by show scope.kind ≠ _; rw [hk]; decide) rfl hn rfl x.fr, B, fun b o e => kk b o (b1 b o e), b2, b3, .cons (by show scope.kind ≠ _; rw [hk]; decide) rfl hn (stays_none b1 hL) (b4.of_keeps fun b o e _ => ⟨o, kk b o e, rfl⟩)⟩
  gst := fun _ _ _ _ => trivial
  gv := fun _ _ _ v => v.elim
  z0ok := zok
  fr0 := fun e he L hL' => by
    rcases List.mem_cons.mp he with rfl | he
    · exact .inl (Option.some.inj hL').symm
    · exact .inr ⟨Heap.FunFrames.alive X.fr he hL', hfr e he L hL'⟩
  Lnew := hL
  kind := hk
  vL := fun v => v
  vfr := fun _ _ _ _ v => v
  glob := rfl
  blt := rfl
  cinj := fun x y b e _ => by cases e
  bs := by
    obtain ⟨B, b1, b2, b3, b4⟩ := X.bs
    refine ⟨B, b2, b3, b1, fun _ v => v.elim, fun h' hk' hn => ?_⟩
    obtain ⟨m, hn⟩ := hn
    exact .cons (by show scope.kind ≠ _; rw [hk]; decide) rfl hn (stays_none b1 hL) (b4.of_keeps fun b o e _ => ⟨o, hk' b o (fun v => v.elim) e, rfl⟩)
/-- what isn't known to the frame changes; the frame's own object keeps its names -/
theorem St.junkL {c : Cx} {ρ : Rho} {Z : Addr → Prop} {s : Shared} (S : St c ρ Z s) (hno : NoOwn ρ) (hcs : c.env.cells = []) {t : Addr} {h' : Heap} {tk : Nat} {m : Str → Option Value} (hV : ∀ a, ¬ c.V a) (hn : s.heap.Ns c.L m) (hn' : h'.Ns c.L m)
    (hk : ∀ b o, b ≠ c.L → b ≠ t → s.heap.get? b = some o → h'.get? b = some o) (hz : ¬ Z t) (h0 : c.s0.heap.get? t = none) : St c ρ Z { s with heap := h', toks := tk } := by
  obtain ⟨m₀, own, l⟩ := S.loc
  cases ns_unique hn l.ns
  have hzk : ∀ a o, Z a → s.heap.get? a = some o → h'.get? a = some o := fun a o q e => hk a o (fun z => S.zL (z ▸ q)) (fun z => hz (z ▸ q)) e
  have hO := l.no_own hno
  refine { S with same := ?_, keep := fun a o v e => hk a o (fun q => by rw [q, S.ok.Lnew] at e; cases e) (fun q => by rw [q, h0] at e; cases e) (S.keep a o v e), zok := fun a q => some_of (fun o => hzk a o q) (S.zok a q), g := S.ok.gst _ _ S.g fun a v => absurd v (hV a), loc := ⟨m, own, hn', fun x b e => ?_, fun x a ha => (by rw [hO x] at ha; cases ha), l.apart, l.dom, fun x a e => (by rw [hcs] at e; cases e)⟩ }
  · obtain ⟨h, tk', e⟩ := S.same; exact ⟨h', tk, by rw [e]⟩
  · obtain ⟨v, h1, h2⟩ := l.get x b e
    refine ⟨v, ?_, ?_⟩
    · rcases h1 with h1 | ⟨a, o, q, _⟩
      · exact .inl h1
      · rw [hcs] at q; cases q
    · exact h2.mono (fun _ q => q) hzk fun a ha => by rw [hO x] at ha; cases ha

/-- what stands while __init__ runs -/
structure Self (c : Cx) (x dx : Addr) (s : Shared) (Z : Addr → Prop) : Prop where
  hx : s.heap.get? x = some (instObj 211 dx)
  xd : x ≠ dx
  xL : x ≠ c.L
  dL : dx ≠ c.L
  zx : ¬ Z x
  zd : ¬ Z dx
  x0 : c.s0.heap.get? x = none
  d0 : c.s0.heap.get? dx = none
abbrev rhoSelf (r c' s' : List D) : Rho := [("shallow", .v (.list s')), ("capabilities", .v (.list c')), ("refs", .v (.list r)), ("self", .deck)]
theorem adv_call_of {r c' s' : List D} {name qual : Str} {params : Arguments} {body : List Stmt} {scope : Scope} {dV kV doc pm cdv ct oc : Value} {an od : Option Addr} {osl : Array (Option Value)} {T : Addr} {o : Obj} {items : Array Value} {m : Nat}
    (ho : ∀ w : World, List.lookup 178 (hd.heap_39 w.params) = some ⟨oc, od, .func (fnX name qual params body scope [] dV kV doc pm an cdv ct), osl⟩) (hcd : ∀ w : World, codeIn (hd.heap_39 w.params) cdv qual = true)
    (hT : ∀ w : World, List.lookup T (hd.heap_39 w.params) = some o) (hdf : dV = .ref T) (hoo : o.data = .seq items m)
    (hbind : ∀ a b c d : Value, ∃ k : Option (Array Value) → Sem (List (Str × Value)), bindArgs (fnX name qual params body scope [] dV kV doc pm an cdv ct) ⟨[a, b, c, d], []⟩ = seqItems? dV >>= k ∧ k (some items) = pure [(Str.ofString "self", a), (Str.ofString "refs", b), (Str.ofString "capabilities", c), (Str.ofString "shallow", d)])
    (hloc : ∀ y ∈ (["self", "refs", "capabilities", "shallow"] : List Str), scope.names.lookup y = some .local) (hcell : (scope.names.all fun x => x.2 != .cell) = true)
    (hbody : ∀ w A0 outer L s0 Z0 x dx s Z (Q : Flow → Shared → Prop) (E : Value → Shared → Prop), St (cxSelf w qual scope 178 cdv A0 outer 0 L s0 Z0 x) (rhoSelf r c' s') Z s → Self (cxSelf w qual scope 178 cdv A0 outer 0 L s0 Z0 x) x dx s Z → s.heap.get? dx = some (dictOf [] 0) →
      (∀ s₁ Z₁ es n v₁ v₂ v₃, St (cxSelf w qual scope 178 cdv A0 outer 0 L s0 Z0 x) (rhoSelf r c' s') Z₁ s₁ → Self (cxSelf w qual scope 178 cdv A0 outer 0 L s0 Z0 x) x dx s₁ Z₁ → s₁.heap.get? dx = some (dictOf es n) → getL "refs" es = some (some v₁) → getL "capabilities" es = some (some v₂) → getL "shallow" es = some (some v₃) → (∀ nm ∈ advMeths, getL nm es = some none) → Tr s₁.heap Z₁ v₁ (.list r) → Tr s₁.heap Z₁ v₂ (.list c') → Tr s₁.heap Z₁ v₃ (.list s') → Q .next s₁) →
      wpAny (model PP w) (A0.deeper (envX qual scope L 178 cdv [])) (execs body (envX qual scope L 178 cdv [])) Q E s)
    (hco : scope.isCoroutine = false) (hgen : scope.isGenerator = false) (hk : scope.kind = .function) : OpC (.ref 211) 2 [.list r, .list c', .list s'] (· = .adv r c' s') := by
  refine .mk fun w A s Z vs R T Q E k => ?_
  obtain ⟨outer, X, hfr⟩ := R.stk
  obtain ⟨v1, v2, v3, rfl⟩ : ∃ v1 v2 v3, vs = [v1, v2, v3] := by
    cases T using TrL.c3 with
    | cons t1 t2 t3 => exact ⟨_, _, _, rfl⟩
  obtain ⟨h, g, d, t, os⟩ := s
  refine wpAny_call (make_core (makes_of X.K (adv_makes w)) (looks_findIn X.K (adv_init w)) (fun self => bind_fn X.K self (adv_fn w)) (.inl (by decide)) ?_)
  have X' : Stk w (tcA A 211 [v1, v2, v3]) outer 1 h := X.tc
  have kp : ∀ b o, h.get? b = some o → ((h.push emptyDict).push (instObj 211 h.objs.size)).get? b = some o := fun b o e => Heap.get?_push_of_some _ (Heap.get?_push_of_some _ e)
  have X'' : Stk w (tcA A 211 [v1, v2, v3]) outer 1 ((h.push emptyDict).push (instObj 211 h.objs.size)) := X'.keeps kp
  have hsz : (h.push emptyDict).objs.size = h.objs.size + 1 := Heap.size_push _ _
  have hdx0 : ((h.push emptyDict).push (instObj 211 h.objs.size)).get? h.objs.size = some (dictOf [] 0) := Heap.get?_push_of_some _ (Heap.get?_push_size _ rfl)
  have hx0 : ((h.push emptyDict).push (instObj 211 h.objs.size)).get? (h.objs.size + 1) = some (instObj 211 h.objs.size) := by rw [← hsz]; exact Heap.get?_push_size _ rfl
  have hge : ∀ a, h.objs.size ≤ a → h.get? a = none := fun a q => by
    cases z : h.get? a with
    | none => rfl
    | some o' => exact absurd (Heap.lt_size z) (Nat.not_lt.mpr q)
  have hL : ((h.push emptyDict).push (instObj 211 h.objs.size)).objs.size = h.objs.size + 2 := by rw [Heap.size_push, hsz]
  obtain ⟨mg, mb, TT⟩ := X''.top
  refine codeAny_call_def (fd := fnX name qual params body scope [] dV kV doc pm an cdv ct) (body := body) (binds := [(Str.ofString "self", .ref (h.objs.size + 1)), (Str.ofString "refs", v1), (Str.ofString "capabilities", v2), (Str.ofString "shallow", v3)]) (Nat.lt_of_le_of_lt (Nat.le_add_right _ _) X''.depth) (X''.K _ _ (ho w)) rfl TT.nolimit (codeRec_of X''.K (hcd w)) rfl
    ?_ (fun y hy q => by have := List.all_eq_true.mp hcell y hy; rw [q] at this; cases this) (fun y hy => hloc _ (by simp at hy ⊢; rcases hy with rfl | rfl | rfl | rfl <;> simp)) (fun h₀ hns hk₀ => ?_) hco hgen hk
  · obtain ⟨k, e1, e2⟩ := hbind (.ref (h.objs.size + 1)) v1 v2 v3
    exact BindsTo.of_defaults hdf (X''.K _ _ (hT w)) hoo e1 e2
  have kp0 : ∀ b o, h.get? b = some o → h₀.get? b = some o := fun b o e => hk₀ _ _ (kp b o e)
  have S : St (cxSelf w qual scope 178 cdv (tcA A 211 [v1, v2, v3]) outer 0 ((h.push emptyDict).push (instObj 211 h.objs.size)).objs.size ⟨h, g, d, t, os⟩ Z (h.objs.size + 1)) (rhoSelf r c' s') Z { heap := h₀, gens := g, drawn := d, toks := t + 4, os := os } := by
    refine ⟨⟨_, _, rfl⟩, cxSelf_ok X' R.zok hfr hk (hge _ (by rw [hL]; omega)), fun a o _ e => kp0 a o e, fun _ q => q, fun _ q => .inl q, fun a q => some_of (kp0 a) (R.zok a q), fun q => ?_, fun _ _ v => v, trivial, _, fun _ => [], hns, fun x b e => ?_, fun _ _ q => (nomatch q), fun _ _ _ q => (nomatch q), fun _ _ => rfl, fun x a e => by cases e⟩
    · have := R.zok _ q
      have e := hge ((h.push emptyDict).push (instObj 211 h.objs.size)).objs.size (by rw [hL]; omega)
      rw [show (cxSelf w qual scope 178 cdv (tcA A 211 [v1, v2, v3]) outer 0 ((h.push emptyDict).push (instObj 211 h.objs.size)).objs.size ⟨h, g, d, t, os⟩ Z (h.objs.size + 1)).L = ((h.push emptyDict).push (instObj 211 h.objs.size)).objs.size from rfl] at this
      rw [show (Shared.heap ⟨h, g, d, t, os⟩) = h from rfl, e] at this; cases this
    · cases T with
      | cons t1 T => cases T with
        | cons t2 T => cases T with
          | cons t3 T =>
            have fr : ∀ {v : Value} {d : D}, Tr h Z v d → Tr h₀ Z v d := fun q => q.mono (fun _ z => z) fun a o _ e => kp0 a o e
            have e' : List.lookup x (rhoSelf r c' s') = some b := e
            simp only [rhoSelf, List.lookup_cons] at e'
            show ∃ v, Holds _ h₀ (fun x => List.lookup x [(Str.ofString "shallow", v3), (Str.ofString "capabilities", v2), (Str.ofString "refs", v1), (Str.ofString "self", .ref (h.objs.size + 1))]) x v ∧ _
            split at e'
            · rename_i q; cases e'; rw [beq_iff_eq.mp q]; exact ⟨v3, .inl ⟨rfl, rfl⟩, rfl, fr t3⟩
            · split at e'
              · rename_i q; cases e'; rw [beq_iff_eq.mp q]; exact ⟨v2, .inl ⟨rfl, rfl⟩, rfl, fr t2⟩
              · split at e'
                · rename_i q; cases e'; rw [beq_iff_eq.mp q]; exact ⟨v1, .inl ⟨rfl, rfl⟩, rfl, fr t1⟩
                · split at e'
                  · rename_i q; cases e'; rw [beq_iff_eq.mp q]; exact ⟨_, .inl ⟨rfl, rfl⟩, rfl, rfl⟩
                  · cases e'
  have zn : ∀ {a}, h.objs.size ≤ a → ¬ Z a := fun q z => by have := R.zok _ z; rw [show (Shared.heap ⟨h, g, d, t, os⟩) = h from rfl, hge _ q] at this; cases this
  refine hbody w (tcA A 211 [v1, v2, v3]) outer _ _ _ _ h.objs.size _ Z _ _ S ⟨hk₀ _ _ hx0, Nat.succ_ne_self _, ?_, ?_, zn (Nat.le_succ _), zn (Nat.le_refl _), hge _ (Nat.le_succ _), hge _ (Nat.le_refl _)⟩ (hk₀ _ _ hdx0) fun s₁ Z₁ es n w1 w2 w3 S₁ F hes g1 g2 g3 gm q1 q2 q3 => ?_
  · show h.objs.size + 1 ≠ ((h.push emptyDict).push (instObj 211 h.objs.size)).objs.size
    rw [hL]; omega
  · show h.objs.size ≠ ((h.push emptyDict).push (instObj 211 h.objs.size)).objs.size
    rw [hL]; omega
  · refine ⟨rfl, ?_⟩
    have mz : ∀ {v : Value} {d : D}, Tr s₁.heap Z₁ v d → Tr s₁.heap (fun a => Z₁ a ∨ a = h.objs.size + 1 ∨ a = h.objs.size) v d := fun q => q.mono (fun _ z => .inl z) fun _ _ _ e => e
    refine k (.ref (h.objs.size + 1)) s₁ (fun a => Z₁ a ∨ a = h.objs.size + 1 ∨ a = h.objs.size) _ ⟨S₁.same, fun a o e => S₁.keep a o (fun v => v) e, fun a q => .inl (S₁.z0 a q), fun a q => ?_, fun a q => ?_⟩ (.adv (.inr (.inl rfl)) (.inr (.inr rfl)) F.hx hes g1 g2 g3 gm (mz q1) (mz q2) (mz q3)) rfl
    · rcases q with q | rfl | rfl
      · exact S₁.znew a q
      · exact .inr (hge _ (Nat.le_succ _))
      · exact .inr (hge _ (Nat.le_refl _))
    · rcases q with q | rfl | rfl
      · exact S₁.zok a q
      · rw [F.hx]; rfl
      · rw [hes]; rfl
theorem putL_len (nm : Str) (kh : Int) (kv v : Value) : ∀ es : List DictEntry, (putL nm kh kv v es).length ≤ es.length + 1
  | [] => Nat.le_refl _
  | e :: r => by
    have := putL_len nm kh kv v r
    unfold putL
    split <;> simp
    omega
/-- self.x = e -/
theorem adv_store {c : Cx} {r c' s' : List D} {x dx : Addr} {d : D} {e : Expr} {nm : Str} {np ap pos : Pos} {rest : List Stmt} {s : Shared} {Z : Addr → Prop} {es : List DictEntry} {n : Nat} {Q : Flow → Shared → Prop} {E : Value → Shared → Prop} (S : St c (rhoSelf r c' s') Z s) (F : Self c x dx s Z) (hdx : s.heap.get? dx = some (dictOf es n))
    (hdk : c.dk = .ref x) (hV : ∀ a, ¬ c.V a) (hcs : c.env.cells = []) (hks : c.env.kindOf "self" = some .local) (he : Ev c (rhoSelf r c' s') e (rhoSelf r c' s') d)
    (ht : ∀ w : World, takerIn (hd.heap_39 w.params) 211 nm = some none) (hl : (getL nm es).isSome = true) (hes : es.length ≤ 100)
    (hs : swapsWith e (some (.Attribute (.Name "self" np) nm ap)) pos.line c.env = pure false)
    (k : ∀ s₁ Z₁ kh tk n' v, St c (rhoSelf r c' s') Z₁ s₁ → Self c x dx s₁ Z₁ → s₁.heap.get? dx = some (dictOf (putL nm kh (.str nm tk) v es) n') → Tr s₁.heap Z₁ v d → (∀ v d, Tr s.heap Z v d → Tr s₁.heap Z₁ v d) → (putL nm kh (.str nm tk) v es).length ≤ es.length + 1 → wpAny (model PP c.w) c.A (execs rest c.env) Q E s₁) :
    wpAny (model PP c.w) c.A (execs (.Assign [.Attribute (.Name "self" np) nm ap] e pos :: rest) c.env) Q E s := by
  have noOwn : NoOwn (rhoSelf r c' s') := fun y ds q => by
    simp only [rhoSelf, List.lookup_cons] at q
    split at q
    · cases q
    · split at q
      · cases q
      · split at q
        · cases q
        · split at q <;> cases q
  refine wpAny_execs_cons (plainObj_wpAny_Assign_Attribute (he.run s Z _ E S fun v s₁ Z₁ _ S₁ l₁ t₁ e₁ => ?_) hs)
  subst e₁
  have fzn : ∀ a, (s.heap.get? a).isSome = true → ¬ Z a → ¬ Z₁ a := fun a hs' hz q => by
    obtain ⟨o, ho⟩ := Option.isSome_iff_exists.mp hs'
    rcases l₁.fz a o (hV a) ho q with q | ⟨y, ds, m, q, _⟩
    · exact hz q
    · exact noOwn y ds q
  have F₁ : Self c x dx s₁ Z₁ := ⟨l₁.all _ _ (hV _) F.hx, F.xd, F.xL, F.dL, fzn _ (by rw [F.hx]; rfl) F.zx, fzn _ (by rw [hdx]; rfl) F.zd, F.x0, F.d0⟩
  have hdx₁ := l₁.all _ _ (hV _) hdx
  obtain ⟨m, own, l⟩ := S₁.loc
  obtain ⟨u, h1, h2⟩ := l.get "self" .deck rfl
  have hm : m "self" = some (.ref x) := by
    rcases h1 with ⟨_, h1⟩ | ⟨a, o, q, _⟩
    · rw [h1, h2.2, hdk]
    · rw [hcs] at q; cases q
  refine wpAny_Name (wpAny_loadName_local S₁.kind hks l.ns hm ?_) rfl
  have I : InstAt s₁.heap x (instObj 211 dx) 211 (some (dictOf es n)) := ⟨F₁.hx, rfl, rfl, hdx₁⟩
  have hpl : ∀ kh kv, (putL nm kh kv v es).length ≤ es.length + 1 := fun kh kv => putL_len nm kh kv v es
  refine set_any l.ns S₁.stk.K (Ne.symm F.dL) I rfl hdx₁ (adv_setattr c.w) (adv_over c.w) (ht c.w) (adv_hasDict c.w) hl (Nat.le_trans (hpl _ _) (by omega)) fun h' hk hd' hn' => ?_
  have S₂ := S₁.junkL (tk := s₁.toks + 2) noOwn hcs hV l.ns hn' hk F₁.zd F₁.d0
  refine k _ Z₁ _ _ _ v S₂ ⟨hk _ _ F.xL F.xd F₁.hx, F.xd, F.xL, F.dL, F₁.zx, F₁.zd, F.x0, F.d0⟩ hd' (t₁.mono (fun _ q => q) fun a o q e => hk a o (fun z => S₁.zL (z ▸ q)) (fun z => F₁.zd (z ▸ q)) e) (fun v d t => (l₁.tr t).mono (fun _ q => q) fun a o q e => hk a o (fun z => S₁.zL (z ▸ q)) (fun z => F₁.zd (z ▸ q)) e) (hpl _ _)

theorem adv_call {r c' s' : List D} (h1 : r.length ≤ 1000000) (h2 : c'.length ≤ 1000000) (h3 : s'.length ≤ 1000000) : OpC (.ref 211) 2 [.list r, .list c', .list s'] (· = .adv r c' s') := by
  refine adv_call_of (fun w => by k_is) (fun w => by k_is) (fun w => by k_is) rfl rfl (fun a b c d => ⟨_, rfl, rfl⟩) (by decide) rfl (fun w A0 outer L s0 Z0 x dx s Z Q E S F hdx k => ?_) rfl rfl rfl
  refine adv_store (c := cxSelf w _ _ 178 _ A0 outer 0 L s0 Z0 x) (d := .list r) S F hdx rfl (fun _ v => v) rfl rfl ?_ adv_taker1 rfl (by decide) rfl fun s₁ Z₁ kh tk n v S₁ F₁ hd₁ t₁ m₁ hl₁ => ?_
  · repeat' (walk_at "j1")
    omega
  refine adv_store (c := cxSelf w _ _ 178 _ A0 outer 0 L s0 Z0 x) (d := .list c') S₁ F₁ hd₁ rfl (fun _ v => v) rfl rfl ?_ adv_taker2 rfl (by simp at hl₁ ⊢; omega) rfl fun s₂ Z₂ kh₂ tk₂ n₂ v₂ S₂ F₂ hd₂ t₂ m₂ hl₂ => ?_
  · repeat' (walk_at "j1")
    omega
  refine adv_store (c := cxSelf w _ _ 178 _ A0 outer 0 L s0 Z0 x) (d := .list s') S₂ F₂ hd₂ rfl (fun _ v => v) rfl rfl ?_ adv_taker3 rfl (by simp at hl₁ hl₂ ⊢; omega) rfl fun s₃ Z₃ kh₃ tk₃ n₃ v₃ S₃ F₃ hd₃ t₃ m₃ hl₃ => ?_
  · repeat' (walk_at "j1")
    omega
  have hgm : ∀ nm ∈ advMeths, getL nm (putL "shallow" kh₃ (.str "shallow" tk₃) v₃ (putL "capabilities" kh₂ (.str "capabilities" tk₂) v₂ (putL "refs" kh (.str "refs" tk) v []))) = some none := fun nm hm => by
    rcases List.mem_cons.mp hm with rfl | hm
    · rfl
    · rcases List.mem_cons.mp hm with rfl | hm
      · rfl
      · rw [List.mem_singleton.mp hm]; rfl
  exact wpAny_execs_nil (k _ _ _ _ v v₂ v₃ S₃ F₃ hd₃ rfl rfl rfl hgm (m₃ _ _ (m₂ _ _ t₁)) (m₃ _ _ t₂) t₃)
end
section
theorem adv_get1 (w : World) : plainGet (hd.heap_39 w.params) 211 "refs" = true := by k_is
theorem adv_get2 (w : World) : plainGet (hd.heap_39 w.params) 211 "capabilities" = true := by k_is
theorem adv_get3 (w : World) : plainGet (hd.heap_39 w.params) 211 "shallow" = true := by k_is
theorem adv_no1 (w : World) : findIn (hd.heap_39 w.params) (.ref 211) "refs" = some none := by k_is
theorem adv_no2 (w : World) : findIn (hd.heap_39 w.params) (.ref 211) "capabilities" = some none := by k_is
theorem adv_no3 (w : World) : findIn (hd.heap_39 w.params) (.ref 211) "shallow" = some none := by k_is
theorem Tr.in_hand {h : Heap} {Z : Addr → Prop} {v : Value} {ds : List D} (t : Tr h Z v (.list ds)) : handedIn v = true := by cases t using Tr.listC; rfl
section
variable {c : Cx} {ρ ρ₁ : Rho} {r c' s' : List D} {o : Expr} {pos : Pos}
theorem ev_refs (h : Ev c ρ o ρ₁ (.adv r c' s')) (he : eval (.Attribute o "refs" pos) c.env = (do let v ← eval o c.env; standAt pos.atName; let r ← holding [v] (getAttr v "refs" true); letTemporaryGo o v r; pure r)) : Ev c ρ (.Attribute o "refs" pos) ρ₁ (.list r) := by
  refine .mk fun s Z Q E S k => ?_
  refine Attribute_any_ (h.run s Z _ E S fun v s₁ Z₁ d S₁ l₁ t₁ e₁ => ?_) he
  subst e₁
  cases t₁ using Tr.advC with
  | adv z1 z2 g1 g2 f1 f2 f3 gm q1 q2 q3 =>
    exact get_value S₁.stk.K (⟨g1, rfl, rfl, g2⟩ : InstAt s₁.heap _ (advObj _) 211 (some (dictOf _ _))) (plainGet_of (adv_get1 c.w)).1 (findObj_own (adv_hasDict c.w) (adv_no1 c.w) rfl f1) q1.in_hand (k _ _ Z₁ _ (S₁.ext (Ext.of S₁.zok fun _ _ e => e)) l₁ q1 rfl)
theorem ev_caps (h : Ev c ρ o ρ₁ (.adv r c' s')) (he : eval (.Attribute o "capabilities" pos) c.env = (do let v ← eval o c.env; standAt pos.atName; let r ← holding [v] (getAttr v "capabilities" true); letTemporaryGo o v r; pure r)) : Ev c ρ (.Attribute o "capabilities" pos) ρ₁ (.list c') := by
  refine .mk fun s Z Q E S k => ?_
  refine Attribute_any_ (h.run s Z _ E S fun v s₁ Z₁ d S₁ l₁ t₁ e₁ => ?_) he
  subst e₁
  cases t₁ using Tr.advC with
  | adv z1 z2 g1 g2 f1 f2 f3 gm q1 q2 q3 =>
    exact get_value S₁.stk.K (⟨g1, rfl, rfl, g2⟩ : InstAt s₁.heap _ (advObj _) 211 (some (dictOf _ _))) (plainGet_of (adv_get2 c.w)).1 (findObj_own (adv_hasDict c.w) (adv_no2 c.w) rfl f2) q2.in_hand (k _ _ Z₁ _ (S₁.ext (Ext.of S₁.zok fun _ _ e => e)) l₁ q2 rfl)
theorem ev_shal (h : Ev c ρ o ρ₁ (.adv r c' s')) (he : eval (.Attribute o "shallow" pos) c.env = (do let v ← eval o c.env; standAt pos.atName; let r ← holding [v] (getAttr v "shallow" true); letTemporaryGo o v r; pure r)) : Ev c ρ (.Attribute o "shallow" pos) ρ₁ (.list s') := by
  refine .mk fun s Z Q E S k => ?_
  refine Attribute_any_ (h.run s Z _ E S fun v s₁ Z₁ d S₁ l₁ t₁ e₁ => ?_) he
  subst e₁
  cases t₁ using Tr.advC with
  | adv z1 z2 g1 g2 f1 f2 f3 gm q1 q2 q3 =>
    exact get_value S₁.stk.K (⟨g1, rfl, rfl, g2⟩ : InstAt s₁.heap _ (advObj _) 211 (some (dictOf _ _))) (plainGet_of (adv_get3 c.w)).1 (findObj_own (adv_hasDict c.w) (adv_no3 c.w) rfl f3) q3.in_hand (k _ _ Z₁ _ (S₁.ext (Ext.of S₁.zok fun _ _ e => e)) l₁ q3 rfl)
end
end
section
theorem op_tuple_tup {n : Nat} {ds : List D} : OpC (.type "tuple") n [.tup ds] (· = .tup ds) := by
  refine .mk fun w A s Z vs R t Q E q => ?_
  cases t using TrL.c1 with
  | cons t => cases t using Tr.tupC with
    | tup z l t => exact call_tuple_tup l (q _ s Z _ (Ext.refl R.zok) (.tup z l t) rfl)
theorem law_seen_ok {refs : List RefN} {c' s' : List D} (h1 : refs.length ≤ 100000) (h2 : c'.length ≤ 100000) (h3 : s'.length ≤ 100000) : FnP 252 1 [.adv (refs.map refD) c' s'] (· = .list [.list (refs.map refD), .list c', .list s']) := by
  refine Fn1 "advert" (fun w => by k_is) (fun w => by k_is) (fun v => rfl) rfl rfl (fun w A0 outer L s0 Z0 => ?_) rfl rfl rfl
  apply exs_ret
  · apply ev_list (ds := [.list (refs.map refD), .list c', .list s'])
    · refine evl_cons (ρ₁ := [("advert", .v (.adv (refs.map refD) c' s'))]) (ρ₂ := [("advert", .v (.adv (refs.map refD) c' s'))]) ?_ (evl_cons (ρ₁ := [("advert", .v (.adv (refs.map refD) c' s'))]) ?_ (evl_one0 ?_ rfl) rfl) rfl
      · refine ev_compA (as := refs) (f := fun d => d) (g := refD) (f' := refD) (ρf := []) (ev_refs (ev_local rfl rfl rfl rfl) rfl) rfl rfl rfl rfl rfl CL.nil (fun _ _ _ => .inl ⟨rfl, rfl⟩) HF.nil (fun _ => rfl) rfl (by omega) (fun _ => rfl) ?_
        intro r hr C s0 Z0
        repeat' (walk_at "j1")
        exact op_tuple_tup
        all_goals repeat' (walk_at "j1")
      · apply ec_list
        · rfl
        · exact evl_one0 (ev_caps (ev_local rfl rfl rfl rfl) rfl) rfl
        · exact op_list_list (by omega)
        all_goals repeat' (walk_at "j1")
      · apply ec_list
        · rfl
        · exact evl_one0 (ev_shal (ev_local rfl rfl rfl rfl) rfl) rfl
        · exact op_list_list (by omega)
        all_goals repeat' (walk_at "j1")
    · rw [sizeLine_is]; simp
  · rintro d rfl
    exact ⟨_, rfl, rfl⟩
def idOf (refs : List RefN) (nm : List Nat) : D := match refs.find? (fun r => r.1 == nm) with
  | some r => .bytes r.2
  | none => .none
theorem id_of_ok {refs : List RefN} {c' s' : List D} {nm : List Nat} (h1 : refs.length ≤ 100000) : FnP 185 1 [.adv (refs.map refD) c' s', .str nm] (· = idOf refs nm) := by
  refine Fn2 "self" "name" (fun w => by k_is) (fun w => by k_is) (fun u v => rfl) ⟨rfl, rfl⟩ rfl (fun w A0 outer L s0 Z0 => ?_) rfl rfl rfl
  refine exs_forF2 (as := refs) (fun r => .str r.1) (fun r => .bytes r.2) [("name", .v (.str nm)), ("self", .v (.adv (refs.map refD) c' s'))] (fun r => r.1 == nm) (fun r => .bytes r.2) (ev_refs (ev_local rfl rfl rfl rfl) rfl) rfl (.inl ⟨rfl, rfl⟩) (.inl ⟨rfl, rfl⟩) Sub.refl ?_ (fun _ => rfl) ?_ ?_
  · intro r hr
    refine exs_if0 (r.1 == nm) (evt_cmp' (ev_local rfl rfl rfl rfl) (ev_local rfl rfl rfl rfl) op_eq_str rfl) rfl (fun h => ?_) fun h => ?_
    · apply exs_ret
      · repeat' (walk_at "j1")
      · rintro d rfl
        exact ⟨ret_ne, by rw [if_pos h]⟩
    · refine exs_done ?_
      rw [if_neg (by rw [h]; exact Bool.false_ne_true)]
      exact ⟨.inl rfl, Sub.cons rfl (Sub.cons rfl Sub.nil)⟩
  · intro a r q
    exact ⟨_, rfl, by rw [idOf, q]⟩
  · intro q
    apply exs_ret
    · repeat' (walk_at "j1")
    · rintro d rfl
      exact ⟨_, rfl, by rw [idOf, q]⟩
def hdN : List Nat := [115, 121, 109, 114, 101, 102, 61, 72, 69, 65, 68, 58]
def headOf (words : List (List Nat)) : D := match words.find? (fun w => w.take 12 == hdN) with
  | some w => .str (w.drop 12)
  | none => .none
theorem head_name_ok {words : List (List Nat)} {r' s' : List D} (hw : ∀ w ∈ words, w.length ≤ 100000) : FnP 192 1 [.adv r' (words.map D.str) s'] (· = headOf words) := by
  refine Fn1 "self" (fun w => by k_is) (fun w => by k_is) (fun v => rfl) rfl rfl (fun w A0 outer L s0 Z0 => ?_) rfl rfl rfl
  refine exs_forF (as := words) D.str [("self", .v (.adv r' (words.map D.str) s'))] (fun w => w.take 12 == hdN) (fun w => .str (w.drop 12)) (ev_caps (ev_local rfl rfl rfl rfl) rfl) rfl (.inl ⟨rfl, rfl⟩) Sub.refl ?_ (fun _ => rfl) ?_ ?_
  · intro a ha
    have hl := hw a ha
    refine exs_if0 (b := cut a none (some 12) == hdN) (a.take 12 == hdN) ?_ (by rw [show cut a none (some 12) = a.take 12 from cut_upto a 12]) (fun h => ?_) fun h => ?_
    · apply evt_cmp'
      · exact ev_slice_str (ev_local rfl rfl rfl rfl) evo_none (evo_some ev_int) (by omega)
      · exact ev_str rfl
      · exact op_eq_str
      · rfl
    · apply exs_ret
      · exact ev_slice_str (ev_local rfl rfl rfl rfl) (evo_some ev_int) evo_none (by omega)
      · rintro d rfl
        exact ⟨ret_ne, by rw [if_pos h, show cut a (some 12) none = a.drop 12 from cut_from a 12]⟩
    · refine exs_done ?_
      rw [if_neg (by rw [h]; exact Bool.false_ne_true)]
      exact ⟨.inl rfl, Sub.cons rfl Sub.nil⟩
  · intro a r q
    exact ⟨_, rfl, by rw [headOf, q]⟩
  · intro q
    apply exs_ret
    · repeat' (walk_at "j1")
    · rintro d rfl
      exact ⟨_, rfl, by rw [headOf, q]⟩
end
section
def refsZ (refs : List RefN) (size : Nat) : List RefN := if refs.isEmpty then [(capN, List.replicate size 0)] else refs
theorem hexOf_zero (n : Nat) : hexOf (List.replicate n 0) = List.replicate (2 * n) 48 := by
  induction n with
  | zero => rfl
  | succ n ih =>
    rw [List.replicate_succ, show 2 * (n + 1) = 2 * n + 1 + 1 by omega, List.replicate_succ, List.replicate_succ, ← ih]
    simp [hexOf, hexN]
theorem rowsA_eq (refs : List RefN) (size : Nat) : rowsA refs size = (refsZ refs size).map fun r => hexOf r.2 ++ 32 :: r.1 := by
  unfold rowsA refsZ
  split
  · simp [hexOf_zero]
  · rfl
def rowsW (words : List (List Nat)) (refs : List RefN) : List (List Nat) := setHead (fun a => a ++ 0 :: joinN [32] words) (refs.map fun r => hexOf r.2 ++ 32 :: r.1)
theorem rowsW_snoc (words : List (List Nat)) (done : List RefN) (r : RefN) : rowsW words (done ++ [r]) = rowsW words done ++ [hexOf r.2 ++ 32 :: r.1 ++ (if done.isEmpty then 0 :: joinN [32] words else [])] := by
  cases done with
  | nil => simp [rowsW, setHead]
  | cons a l => simp [rowsW, setHead]
theorem rowsW_empty (words : List (List Nat)) (done : List RefN) : (rowsW words done).isEmpty = done.isEmpty := by cases done <;> rfl
theorem rowsW_len (words : List (List Nat)) (done : List RefN) : (rowsW words done).length = done.length := by cases done <;> simp [rowsW, setHead]
theorem pkt_enc (r : List Nat) : hex4 ((r ++ [10]).length + 4) ++ (r ++ [10]) = encN [10] r := by simp [encN]
theorem octets_ok {refs : List RefN} {words shallow : List (List Nat)} {size : Nat} (I : Inp refs words shallow size) (hz : (framedN (rowsN refs words shallow size) [10]).length ≤ 60000) :
    FnP 199 3 [.adv (refs.map refD) (words.map D.str) (shallow.map D.bytes), .int (size : Nat)] (· = .bytes (framedN (rowsN refs words shallow size) [10] ++ [48, 48, 48, 48])) := by
  have hw := I.words_len
  have hsz := I.sz
  have hn1 := I.nsh
  have hn2 := I.nrefs
  have hrows := rowsN_ok I
  refine Fn2 "self" "size" (fun w => by k_is) (fun w => by k_is) (fun u v => rfl) ⟨rfl, rfl⟩ rfl (fun w A0 outer L s0 Z0 => ?_) rfl rfl rfl
  have hS : ∀ r ∈ refsZ refs size, r.1.length ≤ 100 ∧ (∀ k ∈ r.1, k < 256) ∧ r.2.length = size ∧ ∀ k ∈ r.2, k < 256 := by
    intro r hr
    unfold refsZ at hr
    split at hr
    · rw [List.mem_singleton.mp hr]
      exact ⟨(by show capN.length ≤ 100; decide), (by show ∀ k ∈ capN, k < 256; decide), by simp, fun k hk => by rw [(List.mem_replicate.mp hk).2]; decide⟩
    · exact ⟨(I.name r hr).1, (I.name r hr).2, (I.ids r hr).1, (I.ids r hr).2⟩
  refine exs_swap_own (.bytes (0 :: joinN [32] words ++ [10])) ?_ (fun y ds q => ?_) (.inl ⟨rfl, rfl⟩) (.inl ⟨rfl, rfl⟩) rfl rfl rfl rfl (by decide) ?_
  · apply Ev.cast (d := .bytes ([0] ++ joinN [32] words ++ [10]))
    · apply ev_bin' (d₁ := .bytes ([0] ++ joinN [32] words)) (d₂ := .bytes [10])
      · apply ev_bin' (d₁ := .bytes [0]) (d₂ := .bytes (joinN [32] words))
        · exact ev_bytes rfl
        · apply ec_octets_of (ds := [.str (joinN [32] words)])
          · rfl
          · refine evl_one0 ?_ rfl
            apply ev_meth (id := "str.join") (d := .str [32]) (n := 0) (ds := [.list (words.map D.str)])
            · exact ev_str rfl
            · exact meth_join
            · exact evl_one0 (ev_caps (ev_local rfl rfl rfl rfl) rfl) rfl
            · exact op_join (sep := [32]) (by have := sum_le (B := 100) (l := words) fun w hw => (I.word w hw).1; have := I.nwords; simp; omega)
            all_goals walk_at "j1"
          · exact octets_of_ok (by omega) (joinN_lt (by decide) fun w hw => (I.word w hw).2)
          all_goals walk_at "j1"
        · apply op_add_bytes; simp; omega
      · exact ev_bytes rfl
      · apply op_add_bytes; simp; omega
    · simp
  · simp only [List.lookup_cons] at q
    split at q
    · cases q
    · split at q <;> cases q
  refine exs_asg0 (.list ((refsZ refs size).map refD)) ?_ (.inl ⟨rfl, rfl⟩) rfl ?_
  · apply ev_ifx (P := (· = .list ((refsZ refs size).map refD))) (bb := !refs.isEmpty)
    · apply EvT.cast
      · apply evt_cmp'
        · exact ev_refs (ev_local rfl rfl rfl rfl) rfl
        · exact ev_list evl_nil (Nat.zero_le _)
        · exact op_ne_list (m := 0) eqv_nil (by decide)
        · rfl
      · cases refs <;> rfl
    · intro h
      apply Ev.cast
      · exact ev_refs (ev_local rfl rfl rfl rfl) rfl
      · rw [refsZ, if_neg (by simpa using h)]
    · intro h
      apply Ev.cast (d := .list [.tup [.str capN, .bytes (List.replicate size 0)]])
      · apply ev_list
        · refine evl_one0 ?_ rfl
          apply ev_tup
          · refine evl_cons (ev_NOREFS rfl) (evl_one0 ?_ rfl) rfl
            apply ec_zero_id
            · rfl
            · exact evl_one0 (ev_local rfl rfl rfl rfl) rfl
            · exact zero_id_ok (by omega)
            all_goals walk_at "j1"
          · exact Nat.le_of_ble_eq_true rfl
        · exact Nat.le_of_ble_eq_true rfl
      · rw [refsZ, if_pos (by simpa using h)]; rfl
  have hZl : (refsZ refs size).length ≤ 101 := by
    unfold refsZ
    split
    · exact Nat.le_of_ble_eq_true rfl
    · omega
  refine exs_forA2 (as := refsZ refs size) (fun r => .str r.1) (fun r => .bytes r.2) (fun done => [("rows", .own ((rowsW words done).map fun r => .bytes (encN [10] r))), ("words", .v (.bytes (0 :: joinN [32] words ++ [10]))), ("size", .v (.int (size : Nat))), ("self", .v (.adv (refs.map refD) (words.map D.str) (shallow.map D.bytes)))]) (ev_local rfl rfl rfl rfl) rfl (.inl ⟨rfl, rfl⟩) (.inl ⟨rfl, rfl⟩) (Sub.cons rfl (Sub.cons rfl (Sub.cons rfl (Sub.cons rfl Sub.nil)))) ?_ (fun _ => rfl) ?_
  · intro done r rest e
    have hr := hS r (by rw [e]; simp)
    have hdl : done.length ≤ 101 := by have := congrArg List.length e; simp at this; omega
    have hlen := hexOf_len r.2
    apply exs_append (d := .bytes (encN [10] (hexOf r.2 ++ 32 :: r.1 ++ (if done.isEmpty then 0 :: joinN [32] words else []))))
    · rfl
    · rfl
    · rfl
    · refine evl_one0 ?_ rfl
      apply Ev.cast (d := .bytes (hex4 ((hexOf r.2 ++ 32 :: r.1 ++ (if done.isEmpty then 0 :: joinN [32] words else []) ++ [10]).length + 4) ++ (hexOf r.2 ++ 32 :: r.1 ++ (if done.isEmpty then 0 :: joinN [32] words else []) ++ [10])))
      · apply ec_pkt (ds := [.bytes (hexOf r.2 ++ 32 :: r.1 ++ (if done.isEmpty then 0 :: joinN [32] words else []) ++ [10])])
        · rfl
        · refine evl_one0 ?_ rfl
          apply Ev.cast (d := .bytes (hexOf r.2 ++ [32] ++ r.1 ++ (if done.isEmpty then 0 :: joinN [32] words ++ [10] else [10])))
          · apply ev_bin' (d₁ := .bytes (hexOf r.2 ++ [32] ++ r.1)) (d₂ := .bytes (if done.isEmpty then 0 :: joinN [32] words ++ [10] else [10]))
            · apply ev_bin' (d₁ := .bytes (hexOf r.2 ++ [32])) (d₂ := .bytes r.1)
              · apply ev_bin' (d₁ := .bytes (hexOf r.2)) (d₂ := .bytes [32])
                · apply ec_wire_hex (ds := [.bytes r.2])
                  · rfl
                  · exact evl_one0 (ev_local rfl rfl rfl rfl) rfl
                  · exact wire_hex_ok (by omega) hr.2.2.2
                  all_goals walk_at "j1"
                · exact ev_bytes rfl
                · apply op_add_bytes; rw [hlen]; simp; omega
              · apply ec_octets_of (ds := [.str r.1])
                · rfl
                · exact evl_one0 (ev_local rfl rfl rfl rfl) rfl
                · exact octets_of_ok (by omega) hr.2.1
                all_goals walk_at "j1"
              · apply op_add_bytes; simp [hlen]; omega
            · apply ev_ifx (bb := ((rowsW words done).map fun r => D.bytes (encN [10] r)).isEmpty)
              · exact evt_own_eq rfl rfl rfl rfl rfl
              · intro h
                have h : done.isEmpty = true := by rw [List.isEmpty_map, rowsW_empty] at h; exact h
                apply Ev.cast
                · exact ev_local rfl rfl rfl rfl
                · rw [if_pos h]
              · intro h
                have h : done.isEmpty = false := by rw [List.isEmpty_map, rowsW_empty] at h; exact h
                apply Ev.cast
                · exact ev_bytes rfl
                · rw [if_neg (by rw [h]; exact Bool.false_ne_true)]; rfl
            · apply op_add_bytes; split <;> simp [hlen] <;> omega
          · split <;> simp
        · exact pkt_ok (by split <;> simp [hlen] <;> omega)
        all_goals walk_at "j1"
      · rw [pkt_enc]
    · rfl
    · rw [List.length_map, rowsW_len]; omega
    · rfl
    · rfl
    · with_unfolding_all rfl
    · rfl
    · rfl
    · refine exs_done ⟨.inl rfl, Sub.cons ?_ (Sub.cons rfl (Sub.cons rfl (Sub.cons rfl Sub.nil)))⟩
      show some (Bd.own _) = some (Bd.own _)
      rw [rowsW_snoc, List.map_append]; rfl
  refine exs_forA (as := shallow) (fun o => .bytes o) (fun done => [("rows", .own (((rowsW words (refsZ refs size)) ++ done.map fun o => shN ++ 32 :: hexOf o).map fun r => .bytes (encN [10] r))), ("self", .v (.adv (refs.map refD) (words.map D.str) (shallow.map D.bytes)))]) (ev_shal (ev_local rfl rfl rfl rfl) rfl) rfl (.inl ⟨rfl, rfl⟩) (Sub.cons (by rw [List.map_nil, List.append_nil]; rfl) (Sub.cons rfl Sub.nil)) ?_ (fun _ => rfl) ?_
  · intro done o rest e
    have ho := I.sh o (by rw [e]; simp)
    have hdl : done.length ≤ 100 := by have := congrArg List.length e; simp at this; omega
    have hlen := hexOf_len o
    apply exs_append (d := .bytes (encN [10] (shN ++ 32 :: hexOf o)))
    · rfl
    · rfl
    · rfl
    · refine evl_one0 ?_ rfl
      apply Ev.cast (d := .bytes (hex4 ((shN ++ 32 :: hexOf o ++ [10]).length + 4) ++ (shN ++ 32 :: hexOf o ++ [10])))
      · apply ec_pkt (ds := [.bytes (shN ++ 32 :: hexOf o ++ [10])])
        · rfl
        · refine evl_one0 ?_ rfl
          apply Ev.cast (d := .bytes ((shN ++ [32]) ++ hexOf o ++ [10]))
          · apply ev_bin' (d₁ := .bytes ((shN ++ [32]) ++ hexOf o)) (d₂ := .bytes [10])
            · apply ev_bin' (d₁ := .bytes (shN ++ [32])) (d₂ := .bytes (hexOf o))
              · exact ev_bytes rfl
              · apply ec_wire_hex (ds := [.bytes o])
                · rfl
                · exact evl_one0 (ev_local rfl rfl rfl rfl) rfl
                · exact wire_hex_ok (by omega) ho.2
                all_goals walk_at "j1"
              · apply op_add_bytes; simp [hlen, shN]; omega
            · exact ev_bytes rfl
            · apply op_add_bytes; simp [hlen, shN]; omega
          · simp
        · exact pkt_ok (by simp [hlen, shN]; omega)
        all_goals walk_at "j1"
      · rw [pkt_enc]
    · rfl
    · rw [List.length_map, List.length_append, rowsW_len, List.length_map]; omega
    · rfl
    · rfl
    · with_unfolding_all rfl
    · rfl
    · rfl
    · refine exs_done ⟨.inl rfl, Sub.cons ?_ (Sub.cons rfl Sub.nil)⟩
      show some (Bd.own _) = some (Bd.own _)
      rw [List.map_append (l₂ := [o]), ← List.append_assoc, List.map_append (l₂ := List.map _ [o])]; rfl
  have hN : rowsW words (refsZ refs size) ++ shallow.map (fun o => shN ++ 32 :: hexOf o) = rowsN refs words shallow size := by rw [rowsN, rowsA_eq]; rfl
  rw [hN]
  apply exs_ret
  · apply ev_bin' (d₁ := .bytes (framedN (rowsN refs words shallow size) [10])) (d₂ := .bytes [48, 48, 48, 48])
    · apply Ev.cast (d := .bytes ((rowsN refs words shallow size).map (encN [10])).flatten)
      · apply ev_meth (id := "bytes.join") (d := .bytes []) (n := 0) (ds := [.list (((rowsN refs words shallow size).map (encN [10])).map D.bytes)])
        · exact ev_bytes rfl
        · exact meth_bjoin
        · apply EvL.cast
          · repeat' (walk_at "j1")
          · rw [List.map_map]; rfl
        · refine op_bjoin ?_
          rw [← List.length_flatten, ← List.flatMap_def]
          show (framedN _ _).length ≤ _
          omega
        all_goals walk_at "j1"
      · rw [← List.flatMap_def]; rfl
    · apply ec_pkt (ds := [.int 0])
      · rfl
      · repeat' (walk_at "j1")
      · exact pkt0_ok
      all_goals walk_at "j1"
    · apply op_add_bytes; simp; omega
  · rintro d rfl
    exact ⟨_, rfl, rfl⟩
end
section
/-- what the round trip leans on besides Inp -/
structure Inp2 (refs : List RefN) (words shallow : List (List Nat)) (size : Nat) (feed : List Nat) : Prop where
  inp : Inp refs words shallow size
  sz1 : 1 ≤ size
  nm0 : ∀ r ∈ refs, 0 ∉ r.1 ∧ r.1 ≠ [] ∧ r.1 ≠ capN
  wd : ∀ w ∈ words, 32 ∉ w ∧ 0 ∉ w ∧ w ≠ []
  strip : ∀ r ∈ rowsN refs words shallow size, stripN (r ++ feed) = r
  nfeed : feed.length ≤ 1
theorem rowsN_cons (refs : List RefN) (words shallow : List (List Nat)) (size : Nat) : ∃ a rs, rowsA refs size = a :: rs ∧ rowsN refs words shallow size = (a ++ 0 :: joinN [32] words) :: (rs ++ shallow.map fun o => shN ++ 32 :: hexOf o) := by
  obtain ⟨a, rs, h⟩ : ∃ a rs, rowsA refs size = a :: rs := by
    unfold rowsA
    split
    · exact ⟨_, _, rfl⟩
    · cases refs with
      | nil => simp at *
      | cons r rs => exact ⟨_, _, rfl⟩
  exact ⟨a, rs, h, by rw [rowsN, h]; rfl⟩
def rowB : RefN ⊕ List Nat → List Nat
  | .inl r => hexOf r.2 ++ 32 :: r.1
  | .inr o => shN ++ 32 :: hexOf o
def allE (refs : List RefN) (shallow : List (List Nat)) (size : Nat) : List (RefN ⊕ List Nat) := (refsZ refs size).map .inl ++ shallow.map .inr
def lefts : List (RefN ⊕ List Nat) → List RefN := List.filterMap fun | .inl r => some r | .inr _ => none
def rights : List (RefN ⊕ List Nat) → List (List Nat) := List.filterMap fun | .inl _ => none | .inr o => some o
theorem rights_nil : ∀ (A : List RefN) (B : List (List Nat)) (done : List (RefN ⊕ List Nat)) (r : RefN) (rest : List (RefN ⊕ List Nat)), A.map .inl ++ B.map .inr = done ++ .inl r :: rest → rights done = []
  | [], B, done, r, rest, e => by
    have : Sum.inl r ∈ B.map (Sum.inr : List Nat → RefN ⊕ List Nat) := by rw [show B.map Sum.inr = done ++ .inl r :: rest from e]; simp
    obtain ⟨b, _, q⟩ := List.mem_map.mp this
    cases q
  | a :: A, B, [], r, rest, e => rfl
  | a :: A, B, d :: done, r, rest, e => by
    have e' : Sum.inl a :: (A.map .inl ++ B.map .inr) = d :: (done ++ .inl r :: rest) := e
    obtain ⟨rfl, e2⟩ := List.cons.inj e'
    have := rights_nil A B done r rest e2
    simpa [rights] using this
theorem hex_ne_sh {l x : List Nat} (h : 1 ≤ l.length) (hb : ∀ k ∈ l, k < 256) : (hexOf l ++ x).take 8 ≠ shN ++ [32] := by
  cases l with
  | nil => simp at h
  | cons a r =>
    intro q
    have ha : a < 256 := hb a (.head _)
    have h16 : ∀ i < 16, hexN.getD i 0 ≠ 115 := by decide
    have e : hexOf (a :: r) = hexN.getD (a / 16) 0 :: hexN.getD (a % 16) 0 :: hexOf r := by simp [hexOf]
    rw [e] at q
    have := congrArg (fun z => z.getD 0 0) q
    exact h16 (a / 16) (by omega) (by simpa [shN] using this)
theorem read_ok {refs : List RefN} {words shallow : List (List Nat)} {size : Nat} {feed : List Nat} (I : Inp2 refs words shallow size feed) {o : List Nat} {i k : Nat} (ho : o.length ≤ 100000)
    (hR : Reads o i (((rowsN refs words shallow size).map fun r => D.bytes (r ++ feed)) ++ [.int 0]) k) :
    FnP 205 5 [.bytes o, .int (size : Nat), .int (i : Nat)] (· = .tup [.adv (refs.map refD) (words.map D.str) (shallow.map D.bytes), .int (k : Nat)]) := by
  have hlenR := hR.len
  have hrows := rowsN_ok I.inp
  obtain ⟨a, rs, hA, hN⟩ := rowsN_cons refs words shallow size
  refine Fn3d "octets" "size" "at" (fun w => by k_is) (fun w => by k_is) (fun w => by k_is) rfl rfl (fun u v t => ⟨_, rfl, rfl⟩) ⟨rfl, rfl, rfl⟩ rfl (fun w A0 outer L s0 Z0 => ?_) rfl rfl rfl
  refine exs_pair (.list (((rowsN refs words shallow size).map fun r => D.bytes (r ++ feed)) ++ [.int 0])) (.int (k : Nat)) ?_ (.inl ⟨rfl, rfl⟩) (.inl ⟨rfl, rfl⟩) rfl rfl ?_
  · repeat' (walk_at "j1")
    · exact read_pkts_ok hR (by omega)
    all_goals repeat' (walk_at "j1")
  have hr0 := hrows (a ++ 0 :: joinN [32] words) (by rw [hN]; exact .head _)
  have hst0 := I.strip (a ++ 0 :: joinN [32] words) (by rw [hN]; exact .head _)
  have hnf := I.nfeed
  have ha0 : 0 ∉ a := by
    have hm : a ∈ (refsZ refs size).map fun r => hexOf r.2 ++ 32 :: r.1 := by rw [← rowsA_eq, hA]; exact .head _
    obtain ⟨r, hr, rfl⟩ := List.mem_map.mp hm
    intro q
    have hn : 0 ∉ r.1 := by
      unfold refsZ at hr
      split at hr
      · rw [List.mem_singleton.mp hr]; show 0 ∉ capN; decide
      · exact (I.nm0 r hr).1
    rcases List.mem_append.mp q with q | q
    · obtain ⟨j, hj, q⟩ := List.mem_flatMap.mp q
      have h16 : ∀ i < 16, hexN.getD i 0 ≠ 0 := by decide
      have hj' : j < 256 := by
        unfold refsZ at hr
        split at hr
        · rw [List.mem_singleton.mp hr] at hj
          rw [(List.mem_replicate.mp hj).2]; decide
        · exact (I.inp.ids r hr).2 j hj
      simp only [List.mem_cons, List.not_mem_nil, or_false] at q
      rcases q with q | q
      · exact h16 _ (by omega) q.symm
      · exact h16 _ (by omega) q.symm
    · rcases List.mem_cons.mp q with q | q
      · cases q
      · exact hn q
  obtain ⟨its, hits⟩ : ∃ its, its = ((rowsN refs words shallow size).map fun r => D.bytes (r ++ feed)) ++ [.int 0] := ⟨_, rfl⟩
  rw [← hits] at hlenR ⊢
  have hil : its.length ≤ 100010 := by rcases hlenR with h | h <;> simp [hits] at * <;> omega
  have hits0 : its = D.bytes ((a ++ 0 :: joinN [32] words) ++ feed) :: (((rs ++ shallow.map fun o => shN ++ 32 :: hexOf o).map fun r => D.bytes (r ++ feed)) ++ [.int 0]) := by rw [hits, hN]; rfl
  refine exs_if0 (b := decide ((its.length : Int) < 2) || ((0 : Int) != 0)) false (evt_or2 ?_ fun _ => ?_) (by rw [hits0]; simp; omega) (fun h => by cases h) fun _ => ?_
  · repeat' (walk_at "j1")
    omega
  · apply evt_cmp' (d₁ := .int 0) (d₂ := .int 0)
    · apply ev_sub'
      · exact ev_local rfl rfl rfl rfl
      · exact ev_neg ev_int
      · exact op_item_last (by rw [hits]; simp) (by omega) (fun _ _ => by with_unfolding_all rfl) (fun _ _ => by with_unfolding_all rfl)
    · exact ev_FLUSH rfl
    · exact op_ne
    · rfl
  refine exs_asg0 (.bytes (a ++ 0 :: joinN [32] words)) ?_ (.inl ⟨rfl, rfl⟩) rfl ?_
  · apply Ev.cast (d := .bytes (stripN ((a ++ 0 :: joinN [32] words) ++ feed)))
    · apply ec_wire_row (ds := [.bytes ((a ++ 0 :: joinN [32] words) ++ feed)])
      · rfl
      · refine evl_one0 ?_ rfl
        apply Ev.cast
        · apply ev_sub'
          · exact ev_local rfl rfl rfl rfl
          · exact ev_int
          · exact op_item_list (by decide) (by rw [hits0]; simp; omega) (by omega) (fun _ _ => by with_unfolding_all rfl) (fun _ _ => by with_unfolding_all rfl)
        · rw [hits0]; rfl
      · exact wire_row_ok (by rw [List.length_append]; omega)
      all_goals walk_at "j1"
    · rw [hst0]
  refine exs_asg0 (.int (a.length : Nat)) ?_ (.inl ⟨rfl, rfl⟩) rfl ?_
  · apply ev_meth (id := "bytes.find") (d := .bytes (a ++ 0 :: joinN [32] words)) (n := 0) (ds := [.bytes [0]])
    · exact ev_local rfl rfl rfl rfl
    · exact meth_bfind
    · exact evl_one0 (ev_bytes rfl) rfl
    · exact op_bfind rfl ha0
    all_goals walk_at "j1"
  refine exs_if0 (b := decide ((a.length : Int) < 0)) false ?_ (by simp) (fun h => by cases h) fun _ => ?_
  · repeat' (walk_at "j1")
  have hwl := I.inp.words_len
  have hws : ((if words.isEmpty then [[]] else words).filter fun w => w != []) = words := by
    cases words with
    | nil => rfl
    | cons w ws => rw [if_neg (by simp)]; exact List.filter_eq_self.mpr fun v hv => by simpa using (I.wd v hv).2.2
  have hwn := I.inp.nwords
  refine exs_compIf (as := if words.isEmpty then [[]] else words) (d := .list ((if words.isEmpty then [[]] else words).map D.str)) (f := fun d => d) (g := D.str) (f' := D.str) (kd := fun d => match d with | .str l => l != [] | _ => false) (ka := fun w => w != []) (ρf := []) (cl := []) (ρ₁ := [("cut", .v (.int (a.length : Nat))), ("first", .v (.bytes (a ++ 0 :: joinN [32] words))), ("at", .v (.int (k : Nat))), ("items", .v (.list its)), ("at", .v (.int (i : Nat))), ("size", .v (.int (size : Nat))), ("octets", .v (.bytes o))]) ?_ rfl rfl rfl rfl rfl CL.nil (fun _ _ _ => .inl ⟨rfl, rfl⟩) HF.nil (fun _ => rfl) rfl (by split; (exact Nat.le_of_ble_eq_true rfl); omega) (fun _ => rfl) (fun _ => rfl) ?_ (.inl ⟨rfl, rfl⟩) rfl ?_
  · apply ev_meth (id := "str.split") (d := .str (joinN [32] words)) (n := 0) (ds := [.str [32]])
    · apply ec_text_of (ds := [.bytes (joinN [32] words)])
      · rfl
      · refine evl_one0 ?_ rfl
        apply Ev.cast (d := .bytes (cut (a ++ 0 :: joinN [32] words) (some ((a.length + 1 : Nat) : Int)) none))
        · apply Ev.cast
          · apply ev_slice_bytes
            · exact ev_local rfl rfl rfl rfl
            · exact evo_some (ev_bin' (ev_local rfl rfl rfl rfl) ev_int op_add)
            · exact evo_none
            · omega
          · rfl
        · rw [cut_from]; simp
      · exact text_of_ok (by omega) (joinN_lt (by decide) fun w hw => (I.inp.word w hw).2)
      all_goals walk_at "j1"
    · exact meth_split
    · exact evl_one0 (ev_str rfl) rfl
    · exact op_split_join (by omega) fun w hw => (I.wd w hw).1
    all_goals walk_at "j1"
  · intro w hw C s0 Z0
    refine ⟨evt_cmp' (ev_local rfl rfl rfl rfl) (ev_str rfl) op_ne_str rfl, fun _ => ev_local rfl rfl rfl rfl⟩
  rw [hws]
  refine exs_swap_own2 (.inl ⟨rfl, rfl⟩) rfl rfl rfl rfl rfl rfl (by decide) ?_
  have hE : (allE refs shallow size).map rowB = a :: (rs ++ shallow.map fun o => shN ++ 32 :: hexOf o) := by
    rw [allE, List.map_append, List.map_map, List.map_map, ← List.cons_append, ← hA, rowsA_eq]; rfl
  have hcutits : cut its (some 1) (some (-1)) = (rs ++ shallow.map fun o => shN ++ 32 :: hexOf o).map fun r => D.bytes (r ++ feed) := by
    rw [show cut its (some 1) (some (-1)) = (its.drop 1).take (its.length - 1 - 1) from cut_mid its 1 1 (by decide), hits0]
    generalize (rs ++ shallow.map fun o => shN ++ 32 :: hexOf o).map (fun r => D.bytes (r ++ feed)) = X
    show (X ++ [D.int 0]).take ((X ++ [D.int 0]).length + 1 - 1 - 1) = X
    rw [show (X ++ [D.int 0]).length + 1 - 1 - 1 = X.length by simp]
    simp
  have hrl : (rs ++ shallow.map fun o => shN ++ 32 :: hexOf o).length ≤ 100010 := by
    have := congrArg List.length hits0
    simp only [List.length_cons, List.length_append, List.length_map, List.length_nil] at this ⊢
    omega
  have e1 : (rs ++ shallow.map fun o => shN ++ 32 :: hexOf o).map (fun r => D.bytes (stripN (r ++ feed))) = (rs ++ shallow.map fun o => shN ++ 32 :: hexOf o).map D.bytes := List.map_congr_left fun r hr => by rw [I.strip r (by rw [hN]; exact .tail _ hr)]
  refine exs_forA (as := allE refs shallow size) (fun e => .bytes (rowB e)) (fun done => [("refs", .own ((lefts done).map refD)), ("shallow", .own ((rights done).map D.bytes)), ("words", .own (words.map D.str)), ("at", .v (.int (k : Nat))), ("size", .v (.int (size : Nat)))])
    (ρ₁ := [("refs", .own []), ("shallow", .own []), ("words", .own (words.map D.str)), ("cut", .v (.int (a.length : Nat))), ("first", .v (.bytes (a ++ 0 :: joinN [32] words))), ("at", .v (.int (k : Nat))), ("items", .v (.list its)), ("at", .v (.int (i : Nat))), ("size", .v (.int (size : Nat))), ("octets", .v (.bytes o))]) (d := .list ((allE refs shallow size).map fun e => .bytes (rowB e))) ?_ rfl (.inl ⟨rfl, rfl⟩) (Sub.cons rfl (Sub.cons rfl (Sub.cons rfl (Sub.cons rfl (Sub.cons rfl Sub.nil))))) ?_ (fun _ => rfl) ?_
  · apply Ev.cast (d := .list ([.bytes a] ++ (rs ++ shallow.map fun o => shN ++ 32 :: hexOf o).map D.bytes))
    · apply ev_bin'
      · apply ev_list (ds := [.bytes a])
        · refine evl_one0 ?_ rfl
          apply Ev.cast
          · apply ev_slice_bytes
            · exact ev_local rfl rfl rfl rfl
            · exact evo_none
            · exact evo_some (ev_local rfl rfl rfl rfl)
            · omega
          · rw [cut_upto]; simp
        · exact Nat.le_of_ble_eq_true rfl
      · refine Ev.cast (ev_compA (as := rs ++ shallow.map fun o => shN ++ 32 :: hexOf o) (f := fun d => match d with | .bytes l => .bytes (stripN l) | _ => .none) (g := fun r => .bytes (r ++ feed)) (f' := fun r => .bytes (stripN (r ++ feed))) (ρf := []) (d := .list (cut its (some 1) (some (-1)))) ?_ (by rw [hcutits]; rfl) rfl rfl rfl rfl CL.nil (fun _ _ _ => .inl ⟨rfl, rfl⟩) HF.nil (fun _ => rfl) rfl ?_ (fun _ => rfl) ?_) (congrArg D.list e1)
        · exact ev_slice_list (ev_local rfl rfl rfl rfl) (evo_some ev_int) (evo_some (ev_neg ev_int)) (by omega) (fun _ _ => by with_unfolding_all rfl)
        · omega
        · intro r hr C s0 Z0
          have h1 := hrows r (by rw [hN]; exact .tail _ hr)
          apply ec_wire_row (ds := [.bytes (r ++ feed)])
          · rfl
          · exact evl_one0 (ev_local rfl rfl rfl rfl) rfl
          · exact wire_row_ok (by rw [List.length_append]; omega)
          all_goals walk_at "j1"
      · apply op_add_list
        rw [List.length_map]; simp only [List.length_cons, List.length_nil]; omega
    · rw [show (allE refs shallow size).map (fun e => D.bytes (rowB e)) = ((allE refs shallow size).map rowB).map D.bytes by rw [List.map_map]; rfl, hE]; rfl
  · intro done e rest he
    have hsz := I.inp.sz
    have hmem : e ∈ allE refs shallow size := by rw [he]; simp
    have hdl : done.length ≤ 300 := by
      have := congrArg List.length he
      have h1 := I.inp.nsh
      have h2 := I.inp.nrefs
      have h3 : (refsZ refs size).length ≤ 101 := by
        unfold refsZ
        split
        · exact Nat.le_of_ble_eq_true rfl
        · omega
      simp only [allE, List.length_append, List.length_map, List.length_cons] at this
      omega
    cases e with
    | inr o' =>
      have ho' := I.inp.sh o' (by simpa [allE] using hmem)
      refine exs_asg0 (.bytes o') ?_ (.inl ⟨rfl, rfl⟩) rfl ?_
      · apply ec_wire_told (ds := [.bytes (shN ++ [32] ++ hexOf o'), .bytes shN, .int (size : Nat)])
        · rfl
        · apply EvL.cast
          · repeat' (walk_at "j1")
          · simp [rowB]; rfl
        · exact wire_told_ok ho'.1 (by omega) ho'.2
        all_goals walk_at "j1"
      refine exs_iff (b := true) true (evt_cmp' (ev_local rfl rfl rfl rfl) ev_none (op_isnot_none_t ⟨_, rfl⟩) rfl) rfl (fun _ => ?_) (fun h => by cases h)
      apply exs_append
      all_goals repeat' (walk_at "j1")
      · have := List.length_filterMap_le (fun | .inl _ => none | .inr o => some o : RefN ⊕ List Nat → Option (List Nat)) done
        rw [List.length_map]
        show (rights done).length ≤ _
        unfold rights
        omega
      · refine exs_done (.inl ⟨rfl, exs_done ⟨.inl rfl, Sub.cons ?_ (Sub.cons ?_ (Sub.cons rfl (Sub.cons rfl (Sub.cons rfl Sub.nil))))⟩⟩)
        · show some (Bd.own _) = some (Bd.own _)
          simp [lefts]
        · show some (Bd.own _) = some (Bd.own _)
          simp [rights]
    | inl r =>
      have hrz : r ∈ refsZ refs size := by simpa [allE] using hmem
      have hS : r.1.length ≤ 100 ∧ (∀ k ∈ r.1, k < 256) ∧ r.2.length = size ∧ ∀ k ∈ r.2, k < 256 := by
        unfold refsZ at hrz
        split at hrz
        · rw [List.mem_singleton.mp hrz]
          exact ⟨(by show capN.length ≤ 100; decide), (by show ∀ k ∈ capN, k < 256; decide), by simp, fun k hk => by rw [(List.mem_replicate.mp hk).2]; decide⟩
        · exact ⟨(I.inp.name r hrz).1, (I.inp.name r hrz).2, (I.inp.ids r hrz).1, (I.inp.ids r hrz).2⟩
      have hlen := hexOf_len r.2
      have hrl : (hexOf r.2 ++ 32 :: r.1).length = 2 * size + 1 + r.1.length := by
        rw [List.length_append, List.length_cons, hlen, hS.2.2.1]; omega
      have hR : rights done = [] := rights_nil (refsZ refs size) shallow done r rest he
      have hrb : rowB (.inl r) = hexOf r.2 ++ 32 :: r.1 := rfl
      have hne : (hexOf r.2 ++ 32 :: r.1).take 8 ≠ shN ++ [32] := hex_ne_sh (by have := I.sz1; omega) hS.2.2.2
      refine exs_asg0 .none ?_ (.inl ⟨rfl, rfl⟩) rfl ?_
      · apply ec_wire_told (ds := [.bytes (hexOf r.2 ++ 32 :: r.1), .bytes shN, .int (size : Nat)])
        · rfl
        · apply EvL.cast
          · repeat' (walk_at "j1")
          · rfl
        · exact wire_told_none (by omega) hne
        all_goals walk_at "j1"
      refine exs_iff (b := false) false (evt_cmp' (ev_local rfl rfl rfl rfl) ev_none (op_isnot_none rfl) rfl) rfl (fun h => by cases h) (fun _ => ?_)
      refine exs_iff (b := false || false) false (evt_or2 ?_ fun _ => ?_) rfl (fun h => by cases h) (fun _ => ?_)
      · apply EvT.cast
        · repeat' (walk_at "j1")
          · exact .inl (by decide)
          · exact .inl (by decide)
          · rw [hrb]; omega
        · rw [hrb, show (2 : Int) * (size : Int) = ((2 * size : Nat) : Int) by omega, show ((2 * size : Nat) : Int) + 1 = ((2 * size + 1 : Nat) : Int) by omega, cut_both, List.drop_append_of_le_length (by omega), List.drop_of_length_le (by omega), show 2 * size + 1 - 2 * size = 1 by omega]
          rfl
      · apply EvT.cast
        · apply evt_own_ne
          all_goals rfl
        · rw [hR]; rfl
      have hll : (lefts done).length ≤ 300 := by
        have := List.length_filterMap_le (fun | .inl r => some r | .inr _ => none : RefN ⊕ List Nat → Option RefN) done
        show (lefts done).length ≤ _
        unfold lefts
        omega
      refine exs_append (d := .tup [.str r.1, .bytes r.2]) (ρ₁ := ("oid", .v .none) :: ("row", .v (.bytes (rowB (.inl r)))) :: [("refs", .own ((lefts done).map refD)), ("shallow", .own ((rights done).map D.bytes)), ("words", .own (words.map D.str)), ("at", .v (.int (k : Nat))), ("size", .v (.int (size : Nat)))]) rfl rfl rfl ?_ rfl (by rw [List.length_map]; omega) rfl rfl rfl rfl rfl ?_
      · refine evl_one0 ?_ rfl
        apply ev_tup
        · refine evl_cons (ρ₁ := ("oid", .v .none) :: ("row", .v (.bytes (rowB (.inl r)))) :: [("refs", .own ((lefts done).map refD)), ("shallow", .own ((rights done).map D.bytes)), ("words", .own (words.map D.str)), ("at", .v (.int (k : Nat))), ("size", .v (.int (size : Nat)))]) ?_ (evl_one0 ?_ rfl) rfl
          · apply ec_text_of (ds := [.bytes r.1])
            · rfl
            · apply EvL.cast
              · repeat' (walk_at "j1")
                · exact .inl (by decide)
                · rw [hrb]; omega
              · rw [hrb, show (2 : Int) * (size : Int) = ((2 * size : Nat) : Int) by omega, show ((2 * size : Nat) : Int) + 1 = ((2 * size + 1 : Nat) : Int) by omega, cut_from, List.drop_append, List.drop_of_length_le (by omega), show 2 * size + 1 - (hexOf r.2).length = 1 by omega]
                rfl
            · exact text_of_ok (by omega) hS.2.1
            all_goals walk_at "j1"
          · apply ec_wire_id (ds := [.bytes (hexOf r.2), .int (size : Nat)])
            · rfl
            · apply EvL.cast
              · repeat' (walk_at "j1")
                · exact .inl (by decide)
                · rw [hrb]; omega
              · rw [hrb, show (2 : Int) * (size : Int) = ((2 * size : Nat) : Int) by omega, cut_upto, List.take_append_of_le_length (by omega), List.take_of_length_le (by omega)]
            · exact wire_id_ok hS.2.2.1 (by omega) hS.2.2.2
            all_goals walk_at "j1"
        · exact Nat.le_of_ble_eq_true rfl
      · refine exs_done (.inl ⟨rfl, exs_done (.inl ⟨rfl, exs_done ⟨.inl rfl, Sub.cons ?_ (Sub.cons ?_ (Sub.cons rfl (Sub.cons rfl (Sub.cons rfl Sub.nil))))⟩⟩)⟩)
        · show some (Bd.own _) = some (Bd.own _)
          simp [lefts, refD]
        · show some (Bd.own _) = some (Bd.own _)
          simp [rights]
  have hl1 : lefts (allE refs shallow size) = refsZ refs size := by
    unfold lefts allE
    rw [List.filterMap_append, List.filterMap_map, List.filterMap_map]
    simp [Function.comp_def]
  have hl2 : rights (allE refs shallow size) = shallow := by
    unfold rights allE
    rw [List.filterMap_append, List.filterMap_map, List.filterMap_map]
    simp [Function.comp_def]
  rw [hl1, hl2]
  refine exs_ifG (b := refs.isEmpty) (ρ₁ := [("refs", .v (.list ((refsZ refs size).map refD))), ("refs", .own ((refsZ refs size).map refD)), ("shallow", .own (shallow.map D.bytes)), ("words", .own (words.map D.str)), ("at", .v (.int (k : Nat))), ("size", .v (.int (size : Nat)))]) refs.isEmpty [("refs", .v (.list (refs.map refD))), ("shallow", .own (shallow.map D.bytes)), ("words", .own (words.map D.str)), ("at", .v (.int (k : Nat))), ("size", .v (.int (size : Nat)))] ?_ rfl (fun h => ?_) (fun h => ?_) ?_
  · have hq : Eqv (2 + 1) (.list ((refsZ refs size).map refD)) (.list [.tup [.str capN, .bytes (List.replicate size 0)]]) refs.isEmpty := by
      cases refs with
      | nil =>
        have : Eqv (2 + 1) (.list [.tup [.str capN, .bytes (List.replicate size 0)]]) (.list [.tup [.str capN, .bytes (List.replicate size 0)]]) (((capN == capN) && ((List.replicate size 0 == List.replicate size 0) && true)) && true) := .list (.cons (.tup (.cons (.str _ _) (.cons (.bytes _ _) .nil))) .nil)
        simp only [beq_self_eq_true, Bool.and_self] at this
        exact this
      | cons r rs =>
        cases rs with
        | nil =>
          have hne : (r.1 == capN) = false := by simpa using (I.nm0 r (.head _)).2.2
          have : Eqv (2 + 1) (.list [.tup [.str r.1, .bytes r.2]]) (.list [.tup [.str capN, .bytes (List.replicate size 0)]]) (((r.1 == capN) && ((r.2 == List.replicate size 0) && true)) && true) := .list (.cons (.tup (.cons (.str _ _) (.cons (.bytes _ _) .nil))) .nil)
          rw [hne] at this
          exact this
        | cons r' rs => exact .lens (by simp [refsZ])
    have hsz := I.inp.sz
    apply evt_cmp'
    · exact ev_own rfl rfl rfl rfl
    · apply ev_list (ds := [.tup [.str capN, .bytes (List.replicate size 0)]])
      · refine evl_one0 ?_ rfl
        apply ev_tup
        · refine evl_cons (ev_NOREFS rfl) (evl_one0 ?_ rfl) rfl
          apply ec_zero_id
          · rfl
          · exact evl_one0 (ev_local rfl rfl rfl rfl) rfl
          · exact zero_id_ok (by omega)
          all_goals walk_at "j1"
        · exact Nat.le_of_ble_eq_true rfl
      · exact Nat.le_of_ble_eq_true rfl
    · exact op_eq_list hq (by decide)
    · rfl
  · refine exs_asg0 (.list []) (ev_list evl_nil (Nat.zero_le _)) (.inl ⟨rfl, rfl⟩) rfl (exs_done ⟨rfl, Sub.cons ?_ (Sub.cons rfl (Sub.cons rfl (Sub.cons rfl (Sub.cons rfl Sub.nil))))⟩)
    rw [List.isEmpty_iff.mp h]; rfl
  · refine exs_done ⟨rfl, Sub.cons ?_ (Sub.cons rfl (Sub.cons rfl (Sub.cons rfl (Sub.cons rfl Sub.nil))))⟩
    rw [refsZ, if_neg (by rw [h]; exact Bool.false_ne_true)]; rfl
  · have hr100 := I.inp.nrefs
    have hs100 := I.inp.nsh
    apply exs_ret
    · apply ev_tup (ds := [.adv (refs.map refD) (words.map D.str) (shallow.map D.bytes), .int (k : Nat)])
      · apply evl_cons
        · apply ec_Advert (ds := [.list (refs.map refD), .list (words.map D.str), .list (shallow.map D.bytes)])
          · rfl
          · repeat' (walk_at "j1")
          · exact adv_call (by rw [List.length_map]; omega) (by rw [List.length_map]; omega) (by rw [List.length_map]; omega)
          all_goals walk_at "j1"
        · repeat' (walk_at "j1")
        · rfl
      · exact Nat.le_of_ble_eq_true rfl
    · rintro d rfl
      exact ⟨_, rfl, rfl⟩
end
section
def badHex (l : List Nat) (m : Nat) : Prop := (l.length == 2 * m && l.all plainB) = false
theorem wire_id_bad {l : List Nat} {m : Nat} (hl : l.length ≤ 1000000) (h : badHex l m) : OpR (.ref 147) 3 [.bytes l, .int (m : Nat)] := by
  refine Fn2R "octets" "size" (fun w => by k_is) (fun w => by k_is) (fun u v => rfl) ⟨rfl, rfl⟩ rfl (fun w A0 outer L s0 Z0 B hB => ?_) rfl rfl rfl
  refine exr_if0 (x := true) (evt_not (b := false) (evt_val ?_ rfl)) rfl (exr_here (exr_raise hB rfl (Nat.le_of_ble_eq_true rfl) rfl rfl))
  repeat' (walk_at "j1")
  · exact .inl (by decide)
  · rw [show (2 : Int) * (m : Int) = ((2 * m : Nat) : Int) by omega]
    refine (?_ : FnP 97 1 _ _)
    have := is_plain_hex_ok (l := l) (m := 2 * m) hl
    rw [show (l.length == 2 * m && l.all plainB) = false from h] at this
    exact this
  all_goals repeat' (walk_at "j1")
theorem wire_row_bad {i : Int} : OpR (.ref 140) 3 [.int i] := by
  refine Fn1R "item" (fun w => by k_is) (fun w => by k_is) (fun v => rfl) rfl rfl (fun w A0 outer L s0 Z0 B hB => ?_) rfl rfl rfl
  refine exr_if0 (x := true) (evt_val ?_ rfl) rfl (exr_here (exr_raise hB rfl (Nat.le_of_ble_eq_true rfl) rfl rfl))
  repeat' (walk_at "j1")
theorem wire_told_bad {l : List Nat} {m : Nat} (hl : l.length ≤ 100000) (h : badHex l m) : OpR (.ref 161) 4 [.bytes (shN ++ [32] ++ l), .bytes shN, .int (m : Nat)] := by
  have hx : (shN ++ [32]).length = 8 := rfl
  refine Fn3R "row" "word" "size" (fun w => by k_is) (fun w => by k_is) (fun u v t => rfl) ⟨rfl, rfl, rfl⟩ rfl (fun w A0 outer L s0 Z0 B hB => ?_) rfl rfl rfl
  refine exr_asg (.bytes (shN ++ [32])) ?_ (.inl ⟨rfl, rfl⟩) rfl (exr_here (exr_ret (evr_if_t (ρ₁ := [("head", .v (.bytes (shN ++ [32]))), ("size", .v (.int (m : Nat))), ("word", .v (.bytes shN)), ("row", .v (.bytes (shN ++ [32] ++ l)))]) ?_
    (evr_call_fn (ρ₁ := [("head", .v (.bytes (shN ++ [32]))), ("size", .v (.int (m : Nat))), ("word", .v (.bytes shN)), ("row", .v (.bytes (shN ++ [32] ++ l)))]) (ds := [.bytes l, .int (m : Nat)]) hB gl_wire_id kp_wire_id rfl ?_ (wire_id_bad (by omega) h) (Nat.le_of_ble_eq_true rfl) rfl rfl rfl rfl))))
  · apply Ev.cast
    · repeat' (walk_at "j1")
    · rfl
  · apply EvT.cast
    · repeat' (walk_at "j1")
      · rw [List.length_append]; omega
    · show (cut _ none (some ((8 : Nat) : Int)) == _) = true
      rw [cut_upto, List.take_append_of_le_length (by rw [hx]; exact Nat.le_refl _), List.take_of_length_le (by rw [hx]; exact Nat.le_refl _)]
      simp
  · apply EvL.cast
    · repeat' (walk_at "j1")
      · rw [List.length_append]; omega
    · congr 1
      show D.bytes (cut _ (some ((8 : Nat) : Int)) none) = _
      rw [cut_from, List.drop_append_of_le_length (by rw [hx]; exact Nat.le_refl _), List.drop_of_length_le (by rw [hx]; exact Nat.le_refl _)]
      rfl
theorem wire_line_bad {o : List Nat} {i : Nat} (ho : o.length ≤ 1000000) (h : o.length < i + 4) : OpR (.ref 125) 3 [.bytes o, .int (i : Nat)] := by
  refine Fn2R "octets" "at" (fun w => by k_is) (fun w => by k_is) (fun u v => rfl) ⟨rfl, rfl⟩ rfl (fun w A0 outer L s0 Z0 B hB => ?_) rfl rfl rfl
  refine exr_if0 (x := decide ((o.length : Int) < (i : Int) + 4)) ?_ (by simp; omega) (exr_here (exr_raise hB rfl (Nat.le_of_ble_eq_true rfl) rfl rfl))
  repeat' (walk_at "j1")
  omega
/-- read_pkts: good lines, then one that is cut -/
inductive ReadsBad (o : List Nat) : Nat → Prop
  | here {i : Nat} : i < o.length → o.length < i + 4 → ReadsBad o i
  | more {i n j : Nat} {d : D} : Good o i n d j → ((∃ b, d = .bytes b) ∨ d = .int 1) → ReadsBad o j → ReadsBad o i
theorem reads_loop_bad {B : Heap} {c : Cx} {test : Expr} {body : List Stmt} {o : List Nat} (ht : ∀ i acc, EvT c (rpI o acc i) test (rpI o acc i) (decide ((i : Int) < (o.length : Int))))
    (hb : ∀ acc i, o.length < i + 4 → ExsR B c (rpI o acc i) body)
    (hm : ∀ acc i n j d, acc.length ≤ 1000010 → Good o i n d j → ((∃ b, d = .bytes b) ∨ d = .int 1) → Exs c (rpI o acc i) body fun o' r => o' = .next ∧ Sub (rpI o (acc ++ [d]) j) r)
    {i : Nat} (h : ReadsBad o i) : ∃ n, n ≤ o.length + 1 - i ∧ ∀ (acc : List D) (ρ : Rho), acc.length + (o.length + 1 - i) ≤ 1000010 → Sub (rpI o acc i) ρ → WLoopR B c test body n ρ := by
  induction h with
  | @here i h1 h2 =>
    exact ⟨1, by omega, fun acc ρ ha hs => ⟨_, _, hs, EvT.cast (ht i acc) (by simp; omega), .inl (hb acc i h2)⟩⟩
  | @more i n j d h hd r ih =>
    have hlt := h.lt
    obtain ⟨m, hm', ih⟩ := ih
    refine ⟨m + 1, by omega, fun acc ρ ha hs => ⟨_, _, hs, EvT.cast (ht i acc) (by simp; omega), .inr ((hm acc i n j d (by omega) h hd).weak ?_)⟩⟩
    rintro o' r ⟨rfl, hr⟩
    exact ⟨.inl rfl, ih (acc ++ [d]) r (by simp; omega) hr⟩
theorem exr_reads {B : Heap} {c : Cx} {test : Expr} {body : List Stmt} {pos : Pos} {o : List Nat} (hT : c.Top) (ht : ∀ i acc, EvT c (rpI o acc i) test (rpI o acc i) (decide ((i : Int) < (o.length : Int))))
    (hb : ∀ acc i, o.length < i + 4 → ExsR B c (rpI o acc i) body)
    (hm : ∀ acc i n j d, acc.length ≤ 1000010 → Good o i n d j → ((∃ b, d = .bytes b) ∨ d = .int 1) → Exs c (rpI o acc i) body fun o' r => o' = .next ∧ Sub (rpI o (acc ++ [d]) j) r)
    {i : Nat} (h : ReadsBad o i) (ho : o.length ≤ 100000) : EvR B c (rpI o [] i) (exec (.While test body [] pos) c.env) := by
  obtain ⟨n, hn, H⟩ := reads_loop_bad ht hb hm h
  exact exr_while hT (H [] _ (by simp; omega) Sub.refl)
theorem read_pkts_bad {o : List Nat} {i : Nat} (h : ReadsBad o i) (ho : o.length ≤ 100000) : OpR (.ref 133) 4 [.bytes o, .int (i : Nat)] := by
  refine Fn2dR "octets" "at" (fun w => by k_is) (fun w => by k_is) (fun w => by k_is) rfl rfl (fun u v => ⟨_, rfl, rfl⟩) ⟨rfl, rfl⟩ rfl (fun w A0 outer L s0 Z0 B hB => ?_) rfl rfl rfl
  refine exr_step (ex_list (ds := []) evl_nil (Nat.zero_le _) (.inl ⟨rfl, rfl⟩) rfl) (exr_here (exr_reads cxFn_top ?_ ?_ ?_ h ho))
  · intro i acc
    repeat' (walk_at "j1")
    omega
  · intro acc i hi
    refine exr_here (exr_assign_pair (evr_call_fn (ds := [.bytes o, .int (i : Nat)]) (ρ₁ := rpI o acc i) hB gl_wire_line kp_wire_line rfl ?_ (wire_line_bad (by omega) hi) (Nat.le_of_ble_eq_true rfl) rfl rfl rfl rfl) rfl rfl)
    repeat' (walk_at "j1")
  · intro acc i n j d ha h hd
    refine exs_pair d (.int (j : Nat)) ?_ (.inl ⟨rfl, rfl⟩) (.inl ⟨rfl, rfl⟩) rfl rfl ?_
    · repeat' (walk_at "j1")
      · exact h.ok (by omega)
      all_goals repeat' (walk_at "j1")
    apply exs_append
    all_goals repeat' (walk_at "j1")
    · omega
    refine exs_iff (b := false || false) false (evt_or2 ?_ fun _ => ?_) rfl (fun h => by cases h) fun _ => exs_done (.inl ⟨rfl, exs_done ⟨rfl, Sub.cons rfl (Sub.cons rfl (Sub.cons rfl Sub.nil))⟩⟩)
    · rcases hd with ⟨b, rfl⟩ | rfl
      · repeat' (walk_at "j1")
      · refine evt_cmp' (ev_local rfl rfl rfl rfl) (ev_FLUSH rfl) (op_eq (a := 1) (b := 0)) rfl
    · rcases hd with ⟨b, rfl⟩ | rfl
      · repeat' (walk_at "j1")
      · refine evt_cmp' (ev_local rfl rfl rfl rfl) (ev_END rfl) (op_eq (a := 1) (b := 2)) rfl
end
section
def dueD (refs : List RefN) (words shallow : List (List Nat)) : List D := [.list (refs.map refD), .list (words.map D.str), .list (shallow.map D.bytes)]
theorem told_ok {refs : List RefN} {words shallow : List (List Nat)} {size : Nat} {feed : List Nat} (I : Inp2 refs words shallow size feed) {o : List Nat} {i k : Nat} (ho : o.length ≤ 100000)
    (hR : Reads o i (((rowsN refs words shallow size).map fun r => D.bytes (r ++ feed)) ++ [.int 0]) k) :
    FnP 259 6 [.bytes o, .int (size : Nat), .int (i : Nat)] (· = .list (dueD refs words shallow ++ [.int (k : Nat)])) := by
  have h1 := I.inp.nrefs
  have h2 := I.inp.nwords
  have h3 := I.inp.nsh
  refine Fn3 "octets" "size" "at" (fun w => by k_is) (fun w => by k_is) (fun u v t => rfl) ⟨rfl, rfl, rfl⟩ rfl (fun w A0 outer L s0 Z0 => ?_) rfl rfl rfl
  refine exs_asg0 .none ev_none (.inl ⟨rfl, rfl⟩) rfl ?_
  refine exs_ex (P := fun o' r => o' = .next ∧ Sub [("found", .v (.list (dueD refs words shallow ++ [.int (k : Nat)])))] r) (ex_try ?_) (fun r hr => ?_) (fun o r hn h => absurd h.1 hn)
  · refine exs_pair (.adv (refs.map refD) (words.map D.str) (shallow.map D.bytes)) (.int (k : Nat)) ?_ (.inl ⟨rfl, rfl⟩) (.inl ⟨rfl, rfl⟩) rfl rfl ?_
    · apply ec_read (ds := [.bytes o, .int (size : Nat), .int (i : Nat)])
      · rfl
      · repeat' (walk_at "j1")
      · exact read_ok I ho hR
      all_goals walk_at "j1"
    · refine exs_asg0 (.list (dueD refs words shallow ++ [.int (k : Nat)])) ?_ (.inl ⟨rfl, rfl⟩) rfl (exs_done ⟨rfl, Sub.cons rfl Sub.nil⟩)
      apply ev_bin' (d₁ := .list (dueD refs words shallow)) (d₂ := .list [.int (k : Nat)])
      · apply ec__law_seen (ds := [.adv (refs.map refD) (words.map D.str) (shallow.map D.bytes)])
        · rfl
        · exact evl_one0 (ev_local rfl rfl rfl rfl) rfl
        · exact law_seen_ok (by omega) (by rw [List.length_map]; omega) (by rw [List.length_map]; omega)
        all_goals walk_at "j1"
      · exact ev_list (evl_one0 (ev_local rfl rfl rfl rfl) rfl) (Nat.le_of_ble_eq_true rfl)
      · exact op_add_list (Nat.le_of_ble_eq_true rfl)
  · refine Ex.pre (ρ₁ := [("found", .v (.list (dueD refs words shallow ++ [.int (k : Nat)])))]) ?_ hr.2
    apply exs_ret
    · repeat' (walk_at "j1")
    · rintro d rfl
      exact ⟨_, rfl, rfl⟩
theorem told_bad {o : List Nat} {size i : Nat} (h : OpR (.ref 205) 5 [.bytes o, .int (size : Nat), .int (i : Nat)]) : OpN (.ref 259) 6 [.bytes o, .int (size : Nat), .int (i : Nat)] := by
  refine Fn3N "octets" "size" "at" (fun w => by k_is) (fun w => by k_is) (fun u v t => rfl) ⟨rfl, rfl, rfl⟩ rfl (fun w A0 outer L s0 Z0 B hB => ?_) rfl rfl rfl
  refine exn_step (ex_assign ev_none (.inl ⟨rfl, rfl⟩) rfl) (exn_try cxFn_top rfl (exr_here (exr_assign_pair (evr_static (ds := [.bytes o, .int (size : Nat), .int (i : Nat)]) (ρ₂ := [("found", .v .none), ("at", .v (.int (i : Nat))), ("size", .v (.int (size : Nat))), ("octets", .v (.bytes o))]) hB gl_Advert rfl rfl adv_read adv_read6 ?_ h (Nat.le_of_ble_eq_true rfl) rfl rfl rfl) rfl rfl)) rfl rfl rfl rfl)
  repeat' (walk_at "j1")
end
section
theorem draw_call {dk l : Addr} : ∀ {c : Cx} {ρ : Rho} {Z : Addr → Prop} {s : Shared} {many : Int} {tk : Tok} {Q E : Value → Shared → Prop} (S : St c ρ Z s) (hc : DeckCx c dk l) (hn : 1 ≤ c.n) (hm : 1 ≤ many)
    (k : ∀ r t s' Z', ExtV c.V s Z s' Z' → c.G s'.heap → 0 ≤ r → r < many → Q (.int r t) s'), wpAny (model PP c.w) c.A (call (.ref 227) [.ref dk, .int many tk]) Q E s := by
  refine draw_call_of (fun w => by k_is) (fun w => by k_is) (fun a b => rfl) ⟨rfl, rfl⟩ rfl (fun c L s Z many hc hm => ?_) rfl rfl rfl
  refine exs_pop (dk := dk) (l := l) ⟨hc.V, hc.G, hc.k⟩ rfl rfl hm rfl rfl rfl rfl (fun _ _ => by with_unfolding_all rfl) (fun _ _ => by with_unfolding_all rfl) rfl rfl rfl (fun r h0 h1 => ⟨r, h0, h1, rfl⟩) ?_
  refine exs_setmixed (dk := dk) (l := l) ⟨hc.V, hc.G, hc.k⟩ rfl rfl rfl rfl rfl ?_ rfl ?_
  · refine ev_binP (P₁ := fun d => ∃ m : Int, 0 ≤ m ∧ d = .int m) (ev_binP (P₁ := fun d => ∃ m : Int, 0 ≤ m ∧ d = .int m) (ev_binP (P₁ := fun d => ∃ m : Int, 0 ≤ m ∧ m < 1000003 ∧ d = .int m) (ev_mixed (dk := dk) (l := l) ⟨hc.V, hc.G, hc.k⟩ rfl rfl rfl rfl rfl (fun _ _ => by with_unfolding_all rfl)) ev_int ?_) ev_int ?_) ev_int ?_
    · rintro d ⟨m, h0, h1, rfl⟩
      refine (Op2.weak (op_mul (.inr (by decide)))) ?_
      rintro d rfl
      exact ⟨_, by omega, rfl⟩
    · rintro d ⟨m, h0, rfl⟩
      refine (Op2.weak op_add) ?_
      rintro d rfl
      exact ⟨_, by omega, rfl⟩
    · rintro d ⟨m, h0, rfl⟩
      refine (Op2.weak (op_mod (by decide))) ?_
      rintro d rfl
      exact ⟨_, Int.fmod_nonneg_of_pos _ (by decide), Int.fmod_lt_of_pos _ (by decide), rfl⟩
  · apply exs_ret
    · refine ev_binP (P := fun d => ∃ r : Int, 0 ≤ r ∧ r < many ∧ d = .int r) (P₁ := fun d => ∃ m : Int, 0 ≤ m ∧ d = .int m) (ev_binP (P₁ := fun d => ∃ m : Int, 0 ≤ m ∧ m < 1000003 ∧ d = .int m) (ev_mixed (dk := dk) (l := l) ⟨hc.V, hc.G, hc.k⟩ rfl rfl rfl rfl rfl (fun _ _ => by with_unfolding_all rfl)) ev_int ?_) (ev_local rfl rfl rfl rfl) ?_
      · rintro d ⟨m, h0, h1, rfl⟩
        obtain ⟨j, rfl⟩ : ∃ n : Nat, m = n := ⟨m.toNat, by omega⟩
        refine (Op2.weak (op_div (by decide) (pylong_small (by decide)))) ?_
        rintro d rfl
        refine ⟨_, ?_, rfl⟩
        rw [Int.fdiv_eq_ediv_of_nonneg _ (by decide)]
        omega
      · rintro d ⟨m, h0, rfl⟩
        refine (Op2.weak (op_mod (by omega))) ?_
        rintro d rfl
        exact ⟨_, Int.fmod_nonneg_of_pos _ (by omega), Int.fmod_lt_of_pos _ (by omega), rfl⟩
    · rintro d ⟨r, h0, h1, rfl⟩
      exact ⟨r, h0, h1, rfl⟩
def mixF (done : List Int) : Int := done.foldl (fun m i => (m * 31 + i.fmod 1000003 + 1).fmod 1000003) 7907
theorem mixF_snoc (done : List Int) (i : Int) : mixF (done ++ [i]) = (mixF done * 31 + i.fmod 1000003 + 1).fmod 1000003 := by simp [mixF]
theorem mixF_range (done : List Int) : 0 ≤ mixF done ∧ mixF done < 1000003 := by
  rcases List.eq_nil_or_concat done with rfl | ⟨l, i, rfl⟩
  · exact ⟨by decide, by decide⟩
  · rw [List.concat_eq_append, mixF_snoc]
    exact ⟨Int.fmod_nonneg_of_pos _ (by decide), Int.fmod_lt_of_pos _ (by decide)⟩
theorem deck_call {w : World} {A : Around} {s : Shared} {Z : Addr → Prop} {v : Value} {xs : List Int} (hlen : xs.length ≤ 1000) (R : Rdy w A 1 s Z) (t : Tr s.heap Z v (.list (xs.map D.int))) {Q E : Value → Shared → Prop}
    (k : ∀ h' tk dk l, s.heap.StaysIn h' → s.heap.get? dk = none → s.heap.get? l = none → DeckAt w h' dk l → Q (.ref dk) { s with heap := h', toks := tk }) : wpAny (model PP w) A (call (.ref 220) [v]) Q E s := by
  refine FnX.intro (names := [Str.ofString "script"]) (ds := [.list (xs.map D.int)]) (ρ₀ := [("script", .v (.list (xs.map D.int)))]) (fun w => by k_is) (fun w => by k_is) (fun w s vs X e => BindsTo.of_eq (by
    rcases vs with _ | ⟨v, _ | ⟨u, r⟩⟩
    · simp at e
    · rfl
    · simp at e)) (fun y hy => by rw [List.mem_singleton.mp hy]; rfl) (by decide) rfl rfl rfl rfl R (.cons t .nil) fun outer s₀ E' S => ?_
  refine exk_pre S (Pr := fun r => ∃ l, s.heap.get? l = none ∧ r = ([("left", .v (.xlist l ((xs.take 24).map fun i => D.int (i.fmod 1000003)))), ("mixed", .v (.int 7907)), ("script", .v (.list (xs.map D.int)))] : Rho)) (exs_swapP (ρ₁ := [("script", .v (.list (xs.map D.int)))]) (ρ₂ := [("script", .v (.list (xs.map D.int)))]) (P₁ := fun d => ∃ l, d = .xlist l ((xs.take 24).map fun i => D.int (i.fmod 1000003)) ∧ s.heap.get? l = none) (P₂ := (· = .int 7907)) ?_ ev_int (.inl ⟨rfl, rfl⟩) (.inl ⟨rfl, rfl⟩) rfl rfl rfl rfl ?_) fun r s₁ Z₁ hr S₁ l₁ => ?_
  · refine ev_compX (as := xs.take 24) (f := fun d => match d with | .int i => .int (i.fmod 1000003) | _ => .none) (g := D.int) (f' := fun i => D.int (i.fmod 1000003)) (ρf := []) (d := .list ((xs.take 24).map D.int)) ?_ rfl rfl rfl rfl rfl CL.nil (fun _ _ _ => .inl ⟨rfl, rfl⟩) HF.nil (fun _ => rfl) rfl ?_ (fun _ => rfl) ?_
    · refine Ev.cast (ev_slice_list (ev_local rfl rfl rfl rfl) evo_none (evo_some ev_int) (by rw [List.length_map]; omega) (fun _ _ => by with_unfolding_all rfl)) ?_
      rw [show cut (xs.map D.int) none (some 24) = (xs.map D.int).take 24 from cut_upto _ 24, List.map_take]
    · rw [List.length_take]; omega
    · intro i hi C s0 Z0
      repeat' (walk_at "j1")
      all_goals first | exact op_int | decide
  · rintro d₁ d₂ ⟨l, rfl, hl⟩ rfl
    exact exs_done ⟨rfl, l, hl, rfl⟩
  obtain ⟨l, hl, rfl⟩ := hr
  refine exk_pre S₁ (Pr := fun r => ∃ m : Int, 0 ≤ m ∧ m < 1000003 ∧ Sub [("mixed", .v (.int m)), ("left", .v (.xlist l ((xs.take 24).map fun i => D.int (i.fmod 1000003))))] r) (exs_forA (as := xs.take 24) (fun i => D.int (i.fmod 1000003)) (fun done => [("mixed", .v (.int (mixF done))), ("left", .v (.xlist l ((xs.take 24).map fun i => D.int (i.fmod 1000003))))])
    (ρ₁ := [("left", .v (.xlist l ((xs.take 24).map fun i => D.int (i.fmod 1000003)))), ("mixed", .v (.int 7907)), ("script", .v (.list (xs.map D.int)))]) (d := .xlist l ((xs.take 24).map fun i => D.int (i.fmod 1000003))) (ev_local rfl rfl rfl rfl) rfl (.inl ⟨rfl, rfl⟩) (Sub.cons rfl (Sub.cons rfl Sub.nil)) ?_ (fun _ => rfl) ?_) fun r s₂ Z₂ hr S₂ l₂ => ?_
  · intro done i rest e
    refine exs_asg0 (.int (mixF (done ++ [i]))) ?_ (.inl ⟨rfl, rfl⟩) rfl (exs_done ⟨.inl rfl, Sub.cons rfl (Sub.cons rfl Sub.nil)⟩)
    apply Ev.cast
    · repeat' (walk_at "j1")
      · exact .inr (by decide)
      · decide
    · rw [mixF_snoc]
  · exact exs_done ⟨rfl, mixF (xs.take 24), (mixF_range _).1, (mixF_range _).2, Sub.refl⟩
  obtain ⟨m, m0, m1, hsub⟩ := hr
  have S₃ := S₂.weak hsub
  refine wpAny_execs_cons (wpAny_Return_some (deck_made S₃ rfl rfl rfl rfl rfl rfl fun h' tk vs n t k1 hz hg ht hd => ?_))
  have hst : s.heap.StaysIn h' := fun b o e => k1 b o (S₂.keep b o (fun v => v) e)
  have hdk : s.heap.get? s₂.heap.objs.size = none := stays_none (fun b o e => S₂.keep b o (fun v => v) e) (get_size _)
  obtain ⟨hh, tkk, hsame⟩ := S₂.same
  have hne : s₂.heap.objs.size ≠ l := fun q => by
    have := S₂.zok _ hz
    rw [← q, get_size] at this; cases this
  have fin := k h' tk s₂.heap.objs.size l hst hdk hl ⟨⟨m, t, m0, m1, hd⟩, ⟨vs, n, hg, fun v hv => ?_, ?_⟩, hne⟩
  · show Q (.ref s₂.heap.objs.size) { s₂ with heap := h', toks := tk }
    rw [hsame] at fin ⊢
    exact fin
  · obtain ⟨j, hj, rfl⟩ := List.getElem_of_mem hv
    obtain ⟨d, hd', td⟩ := ht.getV j _ (List.getElem?_eq_getElem hj)
    rw [List.getElem?_map] at hd'
    obtain ⟨i, _, rfl⟩ := Option.map_eq_some_iff.mp hd'
    generalize hv' : vs[j] = v' at td
    cases td using Tr.intC with
    | int u => exact ⟨_, u, rfl, Int.fmod_nonneg_of_pos _ (by decide), Int.fmod_lt_of_pos _ (by decide)⟩
  · rw [ht.length, List.length_map, List.length_take]; omega
end
section
theorem rights_le (l : List (RefN ⊕ List Nat)) : (rights l).length ≤ l.length := List.length_filterMap_le _ _
theorem lefts_le (l : List (RefN ⊕ List Nat)) : (lefts l).length ≤ l.length := List.length_filterMap_le _ _
inductive BadRow (size : Nat) (sh : Bool) (bad : List Nat) : Prop
  | row : bad.take 8 ≠ shN ++ [32] → ((bad.drop (2 * size)).take 1 ≠ [32] ∨ sh = true) → BadRow size sh bad
  | hex : bad.take 8 ≠ shN ++ [32] → (bad.drop (2 * size)).take 1 = [32] → sh = false → badHex (bad.take (2 * size)) size → BadRow size sh bad
  | told (l : List Nat) : bad = shN ++ [32] ++ l → badHex l size → BadRow size sh bad
def goodE (size : Nat) : RefN ⊕ List Nat → Prop
  | .inl r => r.1.length ≤ 100 ∧ (∀ k ∈ r.1, k < 256) ∧ r.2.length = size ∧ ∀ k ∈ r.2, k < 256
  | .inr o => o.length = size ∧ ∀ k ∈ o, k < 256
structure BadIn (size : Nat) (E : List (RefN ⊕ List Nat)) (bad : List Nat) (more : List (List Nat)) (a : List Nat) (words : List (List Nat)) (x0 : List Nat) (xs : List (List Nat)) : Prop where
  sz : size ≤ 100
  sz1 : 1 ≤ size
  nE : E.length ≤ 300
  good : ∀ e ∈ E, goodE size e
  ord : ∀ done r rest, E = done ++ .inl r :: rest → rights done = []
  rows : E.map rowB ++ bad :: more = a :: xs.map stripN
  x0s : stripN x0 = a ++ 0 :: joinN [32] words
  a0 : 0 ∉ a
  wd : ∀ w ∈ words, 32 ∉ w
  wl : (joinN [32] words).length ≤ 12000 ∧ ∀ k ∈ joinN [32] words, k < 256
  nw : words.length ≤ 1000
  al : a.length ≤ 20000
  x0l : x0.length ≤ 100000
  xl : ∀ x ∈ xs, x.length ≤ 100000
  nx : xs.length ≤ 1000
  bl : bad.length ≤ 20000 ∧ ∀ k ∈ bad, k < 256
  br : BadRow size (!(rights E).isEmpty) bad
theorem read_bad_loop {size : Nat} {E : List (RefN ⊕ List Nat)} {bad : List Nat} {more : List (List Nat)} {a : List Nat} {words : List (List Nat)} {x0 : List Nat} {xs : List (List Nat)} (I : BadIn size E bad more a words x0 xs) {o : List Nat} {i k : Nat} (ho : o.length ≤ 100000)
    (hR : Reads o i (D.bytes x0 :: (xs.map D.bytes ++ [.int 0])) k) : OpR (.ref 205) 5 [.bytes o, .int (size : Nat), .int (i : Nat)] := by
  have hwl := I.wl
  have hwn := I.nw
  have hal := I.al
  have hx0l := I.x0l
  have hnx := I.nx
  obtain ⟨its, hits0⟩ : ∃ its, its = D.bytes x0 :: (xs.map D.bytes ++ [.int 0]) := ⟨_, rfl⟩
  have hil : its.length ≤ 1010 := by rw [hits0]; simp; omega
  have hil2 : 2 ≤ its.length := by rw [hits0]; simp
  have hlast : its.getLast? = some (.int 0) := by
    rw [hits0]
    show ((D.bytes x0 :: xs.map D.bytes) ++ [D.int 0]).getLast? = _
    exact List.getLast?_concat
  rw [← hits0] at hR
  refine Fn3dR "octets" "size" "at" (fun w => by k_is) (fun w => by k_is) (fun w => by k_is) rfl rfl (fun u v t => ⟨_, rfl, rfl⟩) ⟨rfl, rfl, rfl⟩ rfl (fun w A0 outer L s0 Z0 B hB => ?_) rfl rfl rfl
  refine exr_step (ex_assign_pair (d₁ := .list its) (d₂ := .int (k : Nat)) (ρ₁ := [("at", .v (.int (i : Nat))), ("size", .v (.int (size : Nat))), ("octets", .v (.bytes o))]) ?_ (.inl ⟨rfl, rfl⟩) (.inl ⟨rfl, rfl⟩) rfl rfl) ?_
  · repeat' (walk_at "j1")
    · exact read_pkts_ok hR (by omega)
    all_goals repeat' (walk_at "j1")
  refine exr_skip (x := decide ((its.length : Int) < 2) || ((0 : Int) != 0)) (evt_or2 ?_ fun _ => ?_) (by rw [decide_eq_false (by omega)]; rfl) ?_
  · repeat' (walk_at "j1")
    omega
  · apply evt_cmp' (d₁ := .int 0) (d₂ := .int 0)
    · apply ev_sub'
      · exact ev_local rfl rfl rfl rfl
      · exact ev_neg ev_int
      · exact op_item_last hlast (by omega) (fun _ _ => by with_unfolding_all rfl) (fun _ _ => by with_unfolding_all rfl)
    · exact ev_FLUSH rfl
    · exact op_ne
    · rfl
  refine exr_asg (.bytes (a ++ 0 :: joinN [32] words)) ?_ (.inl ⟨rfl, rfl⟩) rfl ?_
  · apply Ev.cast (d := .bytes (stripN x0))
    · apply ec_wire_row (ds := [.bytes x0])
      · rfl
      · refine evl_one0 ?_ rfl
        apply Ev.cast
        · apply ev_sub'
          · exact ev_local rfl rfl rfl rfl
          · exact ev_int
          · exact op_item_list (by decide) (by rw [hits0]; simp; omega) (by omega) (fun _ _ => by with_unfolding_all rfl) (fun _ _ => by with_unfolding_all rfl)
        · rw [hits0]; rfl
      · exact wire_row_ok (by omega)
      all_goals walk_at "j1"
    · rw [I.x0s]
  refine exr_asg (.int (a.length : Nat)) ?_ (.inl ⟨rfl, rfl⟩) rfl ?_
  · apply ev_meth (id := "bytes.find") (d := .bytes (a ++ 0 :: joinN [32] words)) (n := 0) (ds := [.bytes [0]])
    · exact ev_local rfl rfl rfl rfl
    · exact meth_bfind
    · exact evl_one0 (ev_bytes rfl) rfl
    · exact op_bfind rfl I.a0
    all_goals walk_at "j1"
  refine exr_skip (x := decide ((a.length : Int) < 0)) ?_ (by simp) ?_
  · repeat' (walk_at "j1")
  obtain ⟨W, hW⟩ : ∃ W, W = (if words.isEmpty then [[]] else words).filter fun w => w != [] := ⟨_, rfl⟩
  refine exr_pre [("words", .own (W.map D.str)), ("cut", .v (.int (a.length : Nat))), ("first", .v (.bytes (a ++ 0 :: joinN [32] words))), ("at", .v (.int (k : Nat))), ("items", .v (.list its)), ("size", .v (.int (size : Nat)))] (exs_compIf (as := if words.isEmpty then [[]] else words) (d := .list ((if words.isEmpty then [[]] else words).map D.str)) (f := fun d => d) (g := D.str) (f' := D.str) (kd := fun d => match d with | .str l => l != [] | _ => false) (ka := fun w => w != []) (ρf := []) (cl := []) (ρ₁ := [("cut", .v (.int (a.length : Nat))), ("first", .v (.bytes (a ++ 0 :: joinN [32] words))), ("at", .v (.int (k : Nat))), ("items", .v (.list its)), ("at", .v (.int (i : Nat))), ("size", .v (.int (size : Nat))), ("octets", .v (.bytes o))]) ?_ rfl rfl rfl rfl rfl CL.nil (fun _ _ _ => .inl ⟨rfl, rfl⟩) HF.nil (fun _ => rfl) rfl (by split; (exact Nat.le_of_ble_eq_true rfl); omega) (fun _ => rfl) (fun _ => rfl) ?_ (.inl ⟨rfl, rfl⟩) rfl (exs_done ⟨rfl, by rw [hW]; exact Sub.cons rfl (Sub.cons rfl (Sub.cons rfl (Sub.cons rfl (Sub.cons rfl (Sub.cons rfl Sub.nil)))))⟩)) ?_
  · apply ev_meth (id := "str.split") (d := .str (joinN [32] words)) (n := 0) (ds := [.str [32]])
    · apply ec_text_of (ds := [.bytes (joinN [32] words)])
      · rfl
      · refine evl_one0 ?_ rfl
        apply Ev.cast (d := .bytes (cut (a ++ 0 :: joinN [32] words) (some ((a.length + 1 : Nat) : Int)) none))
        · apply Ev.cast
          · apply ev_slice_bytes
            · exact ev_local rfl rfl rfl rfl
            · exact evo_some (ev_bin' (ev_local rfl rfl rfl rfl) ev_int op_add)
            · exact evo_none
            · simp; omega
          · rfl
        · rw [cut_from]; simp
      · exact text_of_ok (by omega) hwl.2
      all_goals walk_at "j1"
    · exact meth_split
    · exact evl_one0 (ev_str rfl) rfl
    · exact op_split_join (by omega) I.wd
    all_goals walk_at "j1"
  · intro w hw C s0 Z0
    refine ⟨evt_cmp' (ev_local rfl rfl rfl rfl) (ev_str rfl) op_ne_str rfl, fun _ => ev_local rfl rfl rfl rfl⟩
  refine exr_pre [("refs", .own []), ("shallow", .own []), ("words", .own (W.map D.str)), ("cut", .v (.int (a.length : Nat))), ("first", .v (.bytes (a ++ 0 :: joinN [32] words))), ("at", .v (.int (k : Nat))), ("items", .v (.list its)), ("size", .v (.int (size : Nat)))] (exs_swap_own2 (.inl ⟨rfl, rfl⟩) rfl rfl rfl rfl rfl rfl (by decide) (exs_done ⟨rfl, Sub.refl⟩)) ?_
  have hcutits : cut its (some 1) (some (-1)) = xs.map D.bytes := by
    rw [show cut its (some 1) (some (-1)) = (its.drop 1).take (its.length - 1 - 1) from cut_mid its 1 1 (by decide), hits0]
    generalize xs.map D.bytes = X
    show (X ++ [D.int 0]).take ((X ++ [D.int 0]).length + 1 - 1 - 1) = X
    rw [show (X ++ [D.int 0]).length + 1 - 1 - 1 = X.length by simp]
    simp
  refine exr_here (exr_forA (good := E) (fun e => .bytes (rowB e)) (fun done => [("refs", .own ((lefts done).map refD)), ("shallow", .own ((rights done).map D.bytes)), ("words", .own (W.map D.str)), ("at", .v (.int (k : Nat))), ("size", .v (.int (size : Nat)))])
    (bad := .bytes bad) (more := more.map D.bytes) (ρ₁ := [("refs", .own []), ("shallow", .own []), ("words", .own (W.map D.str)), ("cut", .v (.int (a.length : Nat))), ("first", .v (.bytes (a ++ 0 :: joinN [32] words))), ("at", .v (.int (k : Nat))), ("items", .v (.list its)), ("size", .v (.int (size : Nat)))]) (d := .list (E.map (fun e => D.bytes (rowB e)) ++ .bytes bad :: more.map D.bytes)) cxFn_top ?_ rfl (.inl ⟨rfl, rfl⟩) (Sub.cons rfl (Sub.cons rfl (Sub.cons rfl (Sub.cons rfl (Sub.cons rfl Sub.nil))))) ?_ ?_ (fun _ => rfl))
  · apply Ev.cast (d := .list ([.bytes a] ++ (xs.map stripN).map D.bytes))
    · apply ev_bin'
      · apply ev_list (ds := [.bytes a])
        · refine evl_one0 ?_ rfl
          apply Ev.cast
          · apply ev_slice_bytes
            · exact ev_local rfl rfl rfl rfl
            · exact evo_none
            · exact evo_some (ev_local rfl rfl rfl rfl)
            · simp; omega
          · rw [cut_upto]; simp
        · exact Nat.le_of_ble_eq_true rfl
      · refine Ev.cast (ev_compA (as := xs) (f := fun d => match d with | .bytes l => .bytes (stripN l) | _ => .none) (g := D.bytes) (f' := fun r => .bytes (stripN r)) (ρf := []) (d := .list (cut its (some 1) (some (-1)))) ?_ (by rw [hcutits]; rfl) rfl rfl rfl rfl CL.nil (fun _ _ _ => .inl ⟨rfl, rfl⟩) HF.nil (fun _ => rfl) rfl ?_ (fun _ => rfl) ?_) (show _ = D.list ((xs.map stripN).map D.bytes) by rw [List.map_map]; rfl)
        · exact ev_slice_list (ev_local rfl rfl rfl rfl) (evo_some ev_int) (evo_some (ev_neg ev_int)) (by omega) (fun _ _ => by with_unfolding_all rfl)
        · omega
        · intro r hr C s0 Z0
          have h1 := I.xl r hr
          apply ec_wire_row (ds := [.bytes r])
          · rfl
          · exact evl_one0 (ev_local rfl rfl rfl rfl) rfl
          · exact wire_row_ok (by omega)
          all_goals walk_at "j1"
      · apply op_add_list
        rw [List.length_map, List.length_map]; simp only [List.length_cons, List.length_nil]; omega
    · have h1 := congrArg (List.map D.bytes) I.rows
      rw [List.map_append, List.map_map, List.map_cons, List.map_cons] at h1
      rw [show (E.map fun e => D.bytes (rowB e)) = E.map (D.bytes ∘ rowB) from rfl, h1]; rfl
  · intro done e rest he
    have hsz := I.sz
    have hmem : e ∈ E := by rw [he]; simp
    have hdl : done.length ≤ 300 := by
      have := congrArg List.length he
      have h1 := I.nE
      simp only [List.length_append, List.length_cons] at this
      omega
    cases e with
    | inr o' =>
      have ho' : o'.length = size ∧ ∀ k ∈ o', k < 256 := I.good _ hmem
      refine exs_asg0 (.bytes o') ?_ (.inl ⟨rfl, rfl⟩) rfl ?_
      · apply ec_wire_told (ds := [.bytes (shN ++ [32] ++ hexOf o'), .bytes shN, .int (size : Nat)])
        · rfl
        · apply EvL.cast
          · repeat' (walk_at "j1")
          · simp [rowB]; rfl
        · exact wire_told_ok ho'.1 (by omega) ho'.2
        all_goals walk_at "j1"
      refine exs_iff (b := true) true (evt_cmp' (ev_local rfl rfl rfl rfl) ev_none (op_isnot_none_t ⟨_, rfl⟩) rfl) rfl (fun _ => ?_) (fun h => by cases h)
      apply exs_append
      all_goals repeat' (walk_at "j1")
      · have := rights_le done
        rw [List.length_map]
        omega
      · refine exs_done (.inl ⟨rfl, exs_done ⟨.inl rfl, Sub.cons ?_ (Sub.cons ?_ (Sub.cons rfl (Sub.cons rfl (Sub.cons rfl Sub.nil))))⟩⟩)
        · show some (Bd.own _) = some (Bd.own _)
          simp [lefts]
        · show some (Bd.own _) = some (Bd.own _)
          simp [rights]
    | inl r =>
      have hS : r.1.length ≤ 100 ∧ (∀ k ∈ r.1, k < 256) ∧ r.2.length = size ∧ ∀ k ∈ r.2, k < 256 := I.good _ hmem
      have hlen := hexOf_len r.2
      have hrl : (hexOf r.2 ++ 32 :: r.1).length = 2 * size + 1 + r.1.length := by
        rw [List.length_append, List.length_cons, hlen, hS.2.2.1]; omega
      have hR : rights done = [] := I.ord done r rest he
      have hrb : rowB (.inl r) = hexOf r.2 ++ 32 :: r.1 := rfl
      have hne : (hexOf r.2 ++ 32 :: r.1).take 8 ≠ shN ++ [32] := hex_ne_sh (by have := I.sz1; omega) hS.2.2.2
      refine exs_asg0 .none ?_ (.inl ⟨rfl, rfl⟩) rfl ?_
      · apply ec_wire_told (ds := [.bytes (hexOf r.2 ++ 32 :: r.1), .bytes shN, .int (size : Nat)])
        · rfl
        · apply EvL.cast
          · repeat' (walk_at "j1")
          · rfl
        · exact wire_told_none (by omega) hne
        all_goals walk_at "j1"
      refine exs_iff (b := false) false (evt_cmp' (ev_local rfl rfl rfl rfl) ev_none (op_isnot_none rfl) rfl) rfl (fun h => by cases h) (fun _ => ?_)
      refine exs_iff (b := false || false) false (evt_or2 ?_ fun _ => ?_) rfl (fun h => by cases h) (fun _ => ?_)
      · apply EvT.cast
        · repeat' (walk_at "j1")
          · exact .inl (by decide)
          · exact .inl (by decide)
          · rw [hrb]; omega
        · rw [hrb, show (2 : Int) * (size : Int) = ((2 * size : Nat) : Int) by omega, show ((2 * size : Nat) : Int) + 1 = ((2 * size + 1 : Nat) : Int) by omega, cut_both, List.drop_append_of_le_length (by omega), List.drop_of_length_le (by omega), show 2 * size + 1 - 2 * size = 1 by omega]
          rfl
      · apply EvT.cast
        · apply evt_own_ne
          all_goals rfl
        · rw [hR]; rfl
      have hll : (lefts done).length ≤ 300 := by
        have := lefts_le done
        omega
      refine exs_append (d := .tup [.str r.1, .bytes r.2]) (ρ₁ := ("oid", .v .none) :: ("row", .v (.bytes (rowB (.inl r)))) :: [("refs", .own ((lefts done).map refD)), ("shallow", .own ((rights done).map D.bytes)), ("words", .own (W.map D.str)), ("at", .v (.int (k : Nat))), ("size", .v (.int (size : Nat)))]) rfl rfl rfl ?_ rfl (by rw [List.length_map]; omega) rfl rfl rfl rfl rfl ?_
      · refine evl_one0 ?_ rfl
        apply ev_tup
        · refine evl_cons (ρ₁ := ("oid", .v .none) :: ("row", .v (.bytes (rowB (.inl r)))) :: [("refs", .own ((lefts done).map refD)), ("shallow", .own ((rights done).map D.bytes)), ("words", .own (W.map D.str)), ("at", .v (.int (k : Nat))), ("size", .v (.int (size : Nat)))]) ?_ (evl_one0 ?_ rfl) rfl
          · apply ec_text_of (ds := [.bytes r.1])
            · rfl
            · apply EvL.cast
              · repeat' (walk_at "j1")
                · exact .inl (by decide)
                · rw [hrb]; omega
              · rw [hrb, show (2 : Int) * (size : Int) = ((2 * size : Nat) : Int) by omega, show ((2 * size : Nat) : Int) + 1 = ((2 * size + 1 : Nat) : Int) by omega, cut_from, List.drop_append, List.drop_of_length_le (by omega), show 2 * size + 1 - (hexOf r.2).length = 1 by omega]
                rfl
            · exact text_of_ok (by omega) hS.2.1
            all_goals walk_at "j1"
          · apply ec_wire_id (ds := [.bytes (hexOf r.2), .int (size : Nat)])
            · rfl
            · apply EvL.cast
              · repeat' (walk_at "j1")
                · exact .inl (by decide)
                · rw [hrb]; omega
              · rw [hrb, show (2 : Int) * (size : Int) = ((2 * size : Nat) : Int) by omega, cut_upto, List.take_append_of_le_length (by omega), List.take_of_length_le (by omega)]
            · exact wire_id_ok hS.2.2.1 (by omega) hS.2.2.2
            all_goals walk_at "j1"
        · exact Nat.le_of_ble_eq_true rfl
      · refine exs_done (.inl ⟨rfl, exs_done (.inl ⟨rfl, exs_done ⟨.inl rfl, Sub.cons ?_ (Sub.cons ?_ (Sub.cons rfl (Sub.cons rfl (Sub.cons rfl Sub.nil))))⟩⟩)⟩)
        · show some (Bd.own _) = some (Bd.own _)
          simp [lefts, refD]
        · show some (Bd.own _) = some (Bd.own _)
          simp [rights]
  · have hbl := I.bl
    have hsz := I.sz
    rcases I.br with ⟨h8, hb⟩ | ⟨h8, hb, hsh, hx⟩ | ⟨l, hl, hx⟩
    · refine exr_asg .none ?_ (.inl ⟨rfl, rfl⟩) rfl (exr_else0 (x := false) (evt_cmp' (ev_local rfl rfl rfl rfl) ev_none (op_isnot_none rfl) rfl) rfl ?_)
      · apply ec_wire_told (ds := [.bytes bad, .bytes shN, .int (size : Nat)])
        · rfl
        · apply EvL.cast
          · repeat' (walk_at "j1")
          · rfl
        · exact wire_told_none (by omega) h8
        all_goals walk_at "j1"
      · refine exr_if0 (x := ((bad.drop (2 * size)).take 1 != [32]) || !(rights E).isEmpty) (evt_or2 ?_ fun _ => ?_) ?_ (exr_here (exr_raise hB rfl (Nat.le_of_ble_eq_true rfl) rfl rfl))
        · apply EvT.cast
          · repeat' (walk_at "j1")
            · exact .inl (by decide)
            · exact .inl (by decide)
            · omega
          · rw [show (2 : Int) * (size : Int) = ((2 * size : Nat) : Int) by omega, show ((2 * size : Nat) : Int) + 1 = ((2 * size + 1 : Nat) : Int) by omega, cut_both, show 2 * size + 1 - 2 * size = 1 by omega]
            rfl
        · apply EvT.cast
          · apply evt_own_ne
            all_goals rfl
          · cases rights E <;> rfl
        · rcases hb with hb | hb
          · rw [show ((bad.drop (2 * size)).take 1 != [32]) = true by simpa using hb]; rfl
          · rw [hb, Bool.or_true]
    · have hre : (rights E).isEmpty = true := by simpa using hsh
      refine exr_asg .none ?_ (.inl ⟨rfl, rfl⟩) rfl (exr_else0 (x := false) (evt_cmp' (ev_local rfl rfl rfl rfl) ev_none (op_isnot_none rfl) rfl) rfl ?_)
      · apply ec_wire_told (ds := [.bytes bad, .bytes shN, .int (size : Nat)])
        · rfl
        · apply EvL.cast
          · repeat' (walk_at "j1")
          · rfl
        · exact wire_told_none (by omega) h8
        all_goals walk_at "j1"
      · refine exr_else0 (x := ((bad.drop (2 * size)).take 1 != [32]) || !(rights E).isEmpty) (evt_or2 ?_ fun _ => ?_) (by rw [hb, hre]; rfl) ?_
        · apply EvT.cast
          · repeat' (walk_at "j1")
            · exact .inl (by decide)
            · exact .inl (by decide)
            · omega
          · rw [show (2 : Int) * (size : Int) = ((2 * size : Nat) : Int) by omega, show ((2 * size : Nat) : Int) + 1 = ((2 * size + 1 : Nat) : Int) by omega, cut_both, show 2 * size + 1 - 2 * size = 1 by omega]
            rfl
        · apply EvT.cast
          · apply evt_own_ne
            all_goals rfl
          · cases rights E <;> rfl
        refine exr_here (exr_append (ds := (lefts E).map refD) rfl rfl rfl (evlr_head (evr_tup (evlr_tail (d := .str (bad.drop (2 * size + 1))) (ρ₁ := [("oid", .v .none), ("row", .v (.bytes bad)), ("refs", .own ((lefts E).map refD)), ("shallow", .own ((rights E).map D.bytes)), ("words", .own (W.map D.str)), ("at", .v (.int (k : Nat))), ("size", .v (.int (size : Nat)))]) ?_ (evlr_head (evr_call_fn (ds := [.bytes (bad.take (2 * size)), .int (size : Nat)])
          (ρ₁ := [("oid", .v .none), ("row", .v (.bytes bad)), ("refs", .own ((lefts E).map refD)), ("shallow", .own ((rights E).map D.bytes)), ("words", .own (W.map D.str)), ("at", .v (.int (k : Nat))), ("size", .v (.int (size : Nat)))]) hB gl_wire_id kp_wire_id rfl ?_ (wire_id_bad (by rw [List.length_take]; omega) hx) (Nat.le_of_ble_eq_true rfl) rfl rfl rfl rfl) rfl) rfl)) rfl) rfl rfl rfl rfl rfl)
        · apply ec_text_of (ds := [.bytes (bad.drop (2 * size + 1))])
          · rfl
          · apply EvL.cast
            · repeat' (walk_at "j1")
              · exact .inl (by decide)
              · omega
            · rw [show (2 : Int) * (size : Int) = ((2 * size : Nat) : Int) by omega, show ((2 * size : Nat) : Int) + 1 = ((2 * size + 1 : Nat) : Int) by omega, cut_from]
          · exact text_of_ok (by rw [List.length_drop]; omega) fun k hk => hbl.2 k (List.mem_of_mem_drop hk)
          all_goals walk_at "j1"
        · apply EvL.cast
          · repeat' (walk_at "j1")
            · exact .inl (by decide)
            · omega
          · rw [show (2 : Int) * (size : Int) = ((2 * size : Nat) : Int) by omega, cut_upto]
    · subst hl
      refine exr_here (exr_assign (evr_call_fn (ds := [.bytes (shN ++ [32] ++ l), .bytes shN, .int (size : Nat)]) (ρ₁ := [("row", .v (.bytes (shN ++ [32] ++ l))), ("refs", .own ((lefts E).map refD)), ("shallow", .own ((rights E).map D.bytes)), ("words", .own (W.map D.str)), ("at", .v (.int (k : Nat))), ("size", .v (.int (size : Nat)))]) hB gl_wire_told kp_wire_told rfl ?_ (wire_told_bad (by have := hbl.1; rw [List.length_append] at this; omega) hx) (Nat.le_of_ble_eq_true rfl) rfl rfl rfl rfl) rfl)
      apply EvL.cast
      · repeat' (walk_at "j1")
      · rfl
end
section
theorem read_bad_pkts {o : List Nat} {size i : Nat} (h : ReadsBad o i) (ho : o.length ≤ 100000) : OpR (.ref 205) 5 [.bytes o, .int (size : Nat), .int (i : Nat)] := by
  refine Fn3dR "octets" "size" "at" (fun w => by k_is) (fun w => by k_is) (fun w => by k_is) rfl rfl (fun u v t => ⟨_, rfl, rfl⟩) ⟨rfl, rfl, rfl⟩ rfl (fun w A0 outer L s0 Z0 B hB => ?_) rfl rfl rfl
  refine exr_here (exr_assign_pair (evr_call_fn (ds := [.bytes o, .int (i : Nat)]) (ρ₁ := [("at", .v (.int (i : Nat))), ("size", .v (.int (size : Nat))), ("octets", .v (.bytes o))]) hB gl_read_pkts kp_read_pkts rfl ?_ (read_pkts_bad h ho) (Nat.le_of_ble_eq_true rfl) rfl rfl rfl rfl) rfl rfl)
  repeat' (walk_at "j1")
theorem read_bad_end {o : List Nat} {size i k : Nat} {its : List D} (hR : Reads o i its k) (ho : o.length ≤ 100000) (hz : its.length ≤ 10000) (h : its.length < 2 ∨ ∃ b, its.getLast? = some (.bytes b)) : OpR (.ref 205) 5 [.bytes o, .int (size : Nat), .int (i : Nat)] := by
  refine Fn3dR "octets" "size" "at" (fun w => by k_is) (fun w => by k_is) (fun w => by k_is) rfl rfl (fun u v t => ⟨_, rfl, rfl⟩) ⟨rfl, rfl, rfl⟩ rfl (fun w A0 outer L s0 Z0 B hB => ?_) rfl rfl rfl
  refine exr_step (ex_assign_pair (d₁ := .list its) (d₂ := .int (k : Nat)) (ρ₁ := [("at", .v (.int (i : Nat))), ("size", .v (.int (size : Nat))), ("octets", .v (.bytes o))]) ?_ (.inl ⟨rfl, rfl⟩) (.inl ⟨rfl, rfl⟩) rfl rfl) ?_
  · repeat' (walk_at "j1")
    · exact read_pkts_ok hR (by omega)
    all_goals repeat' (walk_at "j1")
  rcases Nat.lt_or_ge its.length 2 with h2 | h2
  · refine exr_if0 (x := true) (EvT.cast (evt_or_t ?_) rfl) rfl (exr_here (exr_raise hB rfl (Nat.le_of_ble_eq_true rfl) rfl rfl))
    apply EvT.cast
    · repeat' (walk_at "j1")
      omega
    · simp; omega
  · rcases h with h | ⟨b, h⟩
    · omega
    refine exr_if0 (x := decide ((its.length : Int) < 2) || true) (evt_or2 ?_ fun _ => ?_) (Bool.or_true _) (exr_here (exr_raise hB rfl (Nat.le_of_ble_eq_true rfl) rfl rfl))
    · repeat' (walk_at "j1")
      omega
    · apply evt_cmp' (d₁ := .bytes b) (d₂ := .int 0)
      · apply ev_sub'
        · exact ev_local rfl rfl rfl rfl
        · exact ev_neg ev_int
        · exact op_item_last h (by omega) (fun _ _ => by with_unfolding_all rfl) (fun _ _ => by with_unfolding_all rfl)
      · exact ev_FLUSH rfl
      · exact op_ne_bi
      · rfl
theorem read_bad_cut {o : List Nat} {size i k : Nat} {x0 a : List Nat} {xs : List D} (hR : Reads o i (D.bytes x0 :: (xs ++ [.int 0])) k) (ho : o.length ≤ 100000) (hz : xs.length ≤ 10000) (hx : x0.length ≤ 100000) (ha : stripN x0 = a) (h0 : 0 ∉ a) (hal : a.length ≤ 100000) : OpR (.ref 205) 5 [.bytes o, .int (size : Nat), .int (i : Nat)] := by
  obtain ⟨its, hits0⟩ : ∃ its, its = D.bytes x0 :: (xs ++ [.int 0]) := ⟨_, rfl⟩
  have hil : its.length ≤ 10010 := by rw [hits0]; simp; omega
  have hil2 : 2 ≤ its.length := by rw [hits0]; simp
  have hlast : its.getLast? = some (.int 0) := by
    rw [hits0]
    show ((D.bytes x0 :: xs) ++ [D.int 0]).getLast? = _
    exact List.getLast?_concat
  rw [← hits0] at hR
  refine Fn3dR "octets" "size" "at" (fun w => by k_is) (fun w => by k_is) (fun w => by k_is) rfl rfl (fun u v t => ⟨_, rfl, rfl⟩) ⟨rfl, rfl, rfl⟩ rfl (fun w A0 outer L s0 Z0 B hB => ?_) rfl rfl rfl
  refine exr_step (ex_assign_pair (d₁ := .list its) (d₂ := .int (k : Nat)) (ρ₁ := [("at", .v (.int (i : Nat))), ("size", .v (.int (size : Nat))), ("octets", .v (.bytes o))]) ?_ (.inl ⟨rfl, rfl⟩) (.inl ⟨rfl, rfl⟩) rfl rfl) ?_
  · repeat' (walk_at "j1")
    · exact read_pkts_ok hR (by omega)
    all_goals repeat' (walk_at "j1")
  refine exr_skip (x := decide ((its.length : Int) < 2) || ((0 : Int) != 0)) (evt_or2 ?_ fun _ => ?_) (by rw [decide_eq_false (by omega)]; rfl) ?_
  · repeat' (walk_at "j1")
    omega
  · apply evt_cmp' (d₁ := .int 0) (d₂ := .int 0)
    · apply ev_sub'
      · exact ev_local rfl rfl rfl rfl
      · exact ev_neg ev_int
      · exact op_item_last hlast (by omega) (fun _ _ => by with_unfolding_all rfl) (fun _ _ => by with_unfolding_all rfl)
    · exact ev_FLUSH rfl
    · exact op_ne
    · rfl
  refine exr_asg (.bytes a) ?_ (.inl ⟨rfl, rfl⟩) rfl ?_
  · apply Ev.cast (d := .bytes (stripN x0))
    · apply ec_wire_row (ds := [.bytes x0])
      · rfl
      · refine evl_one0 ?_ rfl
        apply Ev.cast
        · apply ev_sub'
          · exact ev_local rfl rfl rfl rfl
          · exact ev_int
          · exact op_item_list (by decide) (by rw [hits0]; simp; omega) (by omega) (fun _ _ => by with_unfolding_all rfl) (fun _ _ => by with_unfolding_all rfl)
        · rw [hits0]; rfl
      · exact wire_row_ok (by omega)
      all_goals walk_at "j1"
    · rw [ha]
  refine exr_asg (.int (-1)) ?_ (.inl ⟨rfl, rfl⟩) rfl ?_
  · apply ev_meth (id := "bytes.find") (d := .bytes a) (n := 0) (ds := [.bytes [0]])
    · exact ev_local rfl rfl rfl rfl
    · exact meth_bfind
    · exact evl_one0 (ev_bytes rfl) rfl
    · exact op_bfind_none h0
    all_goals walk_at "j1"
  refine exr_if0 (x := decide ((-1 : Int) < 0)) ?_ (by decide) (exr_here (exr_raise hB rfl (Nat.le_of_ble_eq_true rfl) rfl rfl))
  repeat' (walk_at "j1")
theorem read_bad_mark {o : List Nat} {size i k : Nat} {x0 a : List Nat} {words : List (List Nat)} {good : List (List Nat)} {m : Int} {more : List D} (hR : Reads o i (D.bytes x0 :: ((good.map D.bytes ++ .int m :: more) ++ [.int 0])) k) (ho : o.length ≤ 100000) (hz : (good.map D.bytes ++ .int m :: more).length ≤ 10000) (hx : x0.length ≤ 100000)
    (ha : stripN x0 = a ++ 0 :: joinN [32] words) (h0 : 0 ∉ a) (hal : a.length ≤ 20000) (hwl : (joinN [32] words).length ≤ 12000 ∧ ∀ k ∈ joinN [32] words, k < 256) (hwd : ∀ w ∈ words, 32 ∉ w) (hwn : words.length ≤ 1000) (hg : ∀ x ∈ good, x.length ≤ 100000) : OpR (.ref 205) 5 [.bytes o, .int (size : Nat), .int (i : Nat)] := by
  obtain ⟨its, hits0⟩ : ∃ its, its = D.bytes x0 :: ((good.map D.bytes ++ .int m :: more) ++ [.int 0]) := ⟨_, rfl⟩
  have hil : its.length ≤ 10010 := by rw [hits0]; simp at hz ⊢; omega
  have hil2 : 2 ≤ its.length := by rw [hits0]; simp; omega
  have hlast : its.getLast? = some (.int 0) := by
    rw [hits0]
    show ((D.bytes x0 :: (good.map D.bytes ++ .int m :: more)) ++ [D.int 0]).getLast? = _
    exact List.getLast?_concat
  have hcutits : cut its (some 1) (some (-1)) = good.map D.bytes ++ .int m :: more := by
    rw [show cut its (some 1) (some (-1)) = (its.drop 1).take (its.length - 1 - 1) from cut_mid its 1 1 (by decide), hits0]
    generalize good.map D.bytes ++ .int m :: more = X
    show (X ++ [D.int 0]).take ((X ++ [D.int 0]).length + 1 - 1 - 1) = X
    rw [show (X ++ [D.int 0]).length + 1 - 1 - 1 = X.length by simp]
    simp
  rw [← hits0] at hR
  refine Fn3dR "octets" "size" "at" (fun w => by k_is) (fun w => by k_is) (fun w => by k_is) rfl rfl (fun u v t => ⟨_, rfl, rfl⟩) ⟨rfl, rfl, rfl⟩ rfl (fun w A0 outer L s0 Z0 B hB => ?_) rfl rfl rfl
  refine exr_step (ex_assign_pair (d₁ := .list its) (d₂ := .int (k : Nat)) (ρ₁ := [("at", .v (.int (i : Nat))), ("size", .v (.int (size : Nat))), ("octets", .v (.bytes o))]) ?_ (.inl ⟨rfl, rfl⟩) (.inl ⟨rfl, rfl⟩) rfl rfl) ?_
  · repeat' (walk_at "j1")
    · exact read_pkts_ok hR (by omega)
    all_goals repeat' (walk_at "j1")
  refine exr_skip (x := decide ((its.length : Int) < 2) || ((0 : Int) != 0)) (evt_or2 ?_ fun _ => ?_) (by rw [decide_eq_false (by omega)]; rfl) ?_
  · repeat' (walk_at "j1")
    omega
  · apply evt_cmp' (d₁ := .int 0) (d₂ := .int 0)
    · apply ev_sub'
      · exact ev_local rfl rfl rfl rfl
      · exact ev_neg ev_int
      · exact op_item_last hlast (by omega) (fun _ _ => by with_unfolding_all rfl) (fun _ _ => by with_unfolding_all rfl)
    · exact ev_FLUSH rfl
    · exact op_ne
    · rfl
  refine exr_asg (.bytes (a ++ 0 :: joinN [32] words)) ?_ (.inl ⟨rfl, rfl⟩) rfl ?_
  · apply Ev.cast (d := .bytes (stripN x0))
    · apply ec_wire_row (ds := [.bytes x0])
      · rfl
      · refine evl_one0 ?_ rfl
        apply Ev.cast
        · apply ev_sub'
          · exact ev_local rfl rfl rfl rfl
          · exact ev_int
          · exact op_item_list (by decide) (by rw [hits0]; simp; omega) (by omega) (fun _ _ => by with_unfolding_all rfl) (fun _ _ => by with_unfolding_all rfl)
        · rw [hits0]; rfl
      · exact wire_row_ok (by omega)
      all_goals walk_at "j1"
    · rw [ha]
  refine exr_asg (.int (a.length : Nat)) ?_ (.inl ⟨rfl, rfl⟩) rfl ?_
  · apply ev_meth (id := "bytes.find") (d := .bytes (a ++ 0 :: joinN [32] words)) (n := 0) (ds := [.bytes [0]])
    · exact ev_local rfl rfl rfl rfl
    · exact meth_bfind
    · exact evl_one0 (ev_bytes rfl) rfl
    · exact op_bfind rfl h0
    all_goals walk_at "j1"
  refine exr_skip (x := decide ((a.length : Int) < 0)) ?_ (by simp) ?_
  · repeat' (walk_at "j1")
  obtain ⟨W, hW⟩ : ∃ W, W = (if words.isEmpty then [[]] else words).filter fun w => w != [] := ⟨_, rfl⟩
  refine exr_pre [("words", .own (W.map D.str)), ("cut", .v (.int (a.length : Nat))), ("first", .v (.bytes (a ++ 0 :: joinN [32] words))), ("at", .v (.int (k : Nat))), ("items", .v (.list its)), ("size", .v (.int (size : Nat)))] (exs_compIf (as := if words.isEmpty then [[]] else words) (d := .list ((if words.isEmpty then [[]] else words).map D.str)) (f := fun d => d) (g := D.str) (f' := D.str) (kd := fun d => match d with | .str l => l != [] | _ => false) (ka := fun w => w != []) (ρf := []) (cl := []) (ρ₁ := [("cut", .v (.int (a.length : Nat))), ("first", .v (.bytes (a ++ 0 :: joinN [32] words))), ("at", .v (.int (k : Nat))), ("items", .v (.list its)), ("at", .v (.int (i : Nat))), ("size", .v (.int (size : Nat))), ("octets", .v (.bytes o))]) ?_ rfl rfl rfl rfl rfl CL.nil (fun _ _ _ => .inl ⟨rfl, rfl⟩) HF.nil (fun _ => rfl) rfl (by split; (exact Nat.le_of_ble_eq_true rfl); omega) (fun _ => rfl) (fun _ => rfl) ?_ (.inl ⟨rfl, rfl⟩) rfl (exs_done ⟨rfl, by rw [hW]; exact Sub.cons rfl (Sub.cons rfl (Sub.cons rfl (Sub.cons rfl (Sub.cons rfl (Sub.cons rfl Sub.nil)))))⟩)) ?_
  · apply ev_meth (id := "str.split") (d := .str (joinN [32] words)) (n := 0) (ds := [.str [32]])
    · apply ec_text_of (ds := [.bytes (joinN [32] words)])
      · rfl
      · refine evl_one0 ?_ rfl
        apply Ev.cast (d := .bytes (cut (a ++ 0 :: joinN [32] words) (some ((a.length + 1 : Nat) : Int)) none))
        · apply Ev.cast
          · apply ev_slice_bytes
            · exact ev_local rfl rfl rfl rfl
            · exact evo_some (ev_bin' (ev_local rfl rfl rfl rfl) ev_int op_add)
            · exact evo_none
            · simp; omega
          · rfl
        · rw [cut_from]; simp
      · exact text_of_ok (by omega) hwl.2
      all_goals walk_at "j1"
    · exact meth_split
    · exact evl_one0 (ev_str rfl) rfl
    · exact op_split_join (by omega) hwd
    all_goals walk_at "j1"
  · intro w hw C s0 Z0
    refine ⟨evt_cmp' (ev_local rfl rfl rfl rfl) (ev_str rfl) op_ne_str rfl, fun _ => ev_local rfl rfl rfl rfl⟩
  refine exr_pre [("refs", .own []), ("shallow", .own []), ("words", .own (W.map D.str)), ("cut", .v (.int (a.length : Nat))), ("first", .v (.bytes (a ++ 0 :: joinN [32] words))), ("at", .v (.int (k : Nat))), ("items", .v (.list its)), ("size", .v (.int (size : Nat)))] (exs_swap_own2 (.inl ⟨rfl, rfl⟩) rfl rfl rfl rfl rfl rfl (by decide) (exs_done ⟨rfl, Sub.refl⟩)) ?_
  refine exr_here (exr_for_iter (evr_binr (d₁ := .list [.bytes a]) (ρ₁ := [("refs", .own []), ("shallow", .own []), ("words", .own (W.map D.str)), ("cut", .v (.int (a.length : Nat))), ("first", .v (.bytes (a ++ 0 :: joinN [32] words))), ("at", .v (.int (k : Nat))), ("items", .v (.list its)), ("size", .v (.int (size : Nat)))]) ?_ (evr_compA (α := Unit) (good := good.map D.bytes) (bad := .int m) (rest := more) (d := .list (cut its (some 1) (some (-1)))) (ρf := []) (ρ₁ := [("refs", .own []), ("shallow", .own []), ("words", .own (W.map D.str)), ("cut", .v (.int (a.length : Nat))), ("first", .v (.bytes (a ++ 0 :: joinN [32] words))), ("at", .v (.int (k : Nat))), ("items", .v (.list its)), ("size", .v (.int (size : Nat)))]) (fun d => match d with | .bytes l => .bytes (stripN l) | _ => .none) hB ?_ (by rw [hcutits]; rfl) (by omega) rfl rfl rfl rfl CL.nil (fun _ _ _ => .inl ⟨rfl, rfl⟩) HF.nil rfl ?_ ?_ cxFn_top (fun _ => rfl))) (fun _ => rfl))
  · apply ev_list (ds := [.bytes a])
    · refine evl_one0 ?_ rfl
      apply Ev.cast
      · apply ev_slice_bytes
        · exact ev_local rfl rfl rfl rfl
        · exact evo_none
        · exact evo_some (ev_local rfl rfl rfl rfl)
        · simp; omega
      · rw [cut_upto]; simp
    · exact Nat.le_of_ble_eq_true rfl
  · exact ev_slice_list (ev_local rfl rfl rfl rfl) (evo_some ev_int) (evo_some (ev_neg ev_int)) (by omega) (fun _ _ => by with_unfolding_all rfl)
  · intro d hd C s0 Z0
    obtain ⟨r, hr, rfl⟩ := List.mem_map.mp hd
    have h1 := hg r hr
    apply ec_wire_row (ds := [.bytes r])
    · rfl
    · exact evl_one0 (ev_local rfl rfl rfl rfl) rfl
    · exact wire_row_ok (by omega)
    all_goals walk_at "j1"
  · intro C s0 Z0 hB'
    refine evr_call_fn (ds := [.int m]) (ρ₁ := [("item", .v (.int m))]) hB' gl_wire_row kp_wire_row rfl ?_ wire_row_bad (Nat.le_of_ble_eq_true rfl) rfl rfl rfl rfl
    exact evl_one0 (ev_local rfl rfl rfl rfl) rfl
end
section
theorem evl_cons0 {c : Cx} {ρ : Rho} {e : Expr} {es : List Expr} {d : D} {ds : List D} (h : Ev c ρ e ρ d) (r : EvL c ρ es ρ ds) (he : starEach (e :: es) c.env = (false, eval e c.env) :: starEach es c.env) : EvL c ρ (e :: es) ρ (d :: ds) := evl_cons h r he
def oneN (size : Nat) : List Nat := (List.replicate size [97, 98]).flatten
def ONEN (size : Nat) : List Nat := (List.replicate size [65, 66]).flatten
def Z4 : List Nat := [48, 48, 48, 48]
def spoilL (rows : List (List Nat)) (size : Nat) : List (List Nat) :=
  [Z4, framedN rows [10], framedN [oneN size ++ [32, 120]] [] ++ Z4, framedN [ONEN size ++ [32, 120, 0]] [10] ++ Z4, framedN [(oneN size).drop 1 ++ [32, 120, 0]] [10] ++ Z4,
   framedN [oneN size ++ [97, 98, 32, 120, 0]] [10] ++ Z4, framedN [oneN size ++ [120, 0]] [10] ++ Z4, framedN (rows ++ [shN ++ [32] ++ oneN size, oneN size ++ [32, 121]]) [10] ++ Z4,
   framedN (rows ++ [shN ++ [32] ++ (oneN size).drop 1]) [10] ++ Z4, framedN rows [10] ++ [48, 48, 48, 49] ++ (framedN rows [10] ++ Z4), framedN rows [10] ++ [48, 48],
   framedN [(oneN size).take ((oneN size).length - 1) ++ [103, 32, 120, 0]] [10] ++ Z4]
theorem oneN_len (size : Nat) : (oneN size).length = 2 * size := by
  unfold oneN
  induction size with
  | zero => rfl
  | succ n ih => rw [List.replicate_succ, List.flatten_cons, List.length_append, ih]; simp; omega
theorem ONEN_len (size : Nat) : (ONEN size).length = 2 * size := by
  unfold ONEN
  induction size with
  | zero => rfl
  | succ n ih => rw [List.replicate_succ, List.flatten_cons, List.length_append, ih]; simp; omega
theorem oneN_lt (size : Nat) : ∀ k ∈ oneN size, k < 256 := by
  intro k hk
  obtain ⟨l, hl, hk⟩ := List.mem_flatten.mp hk
  rw [(List.mem_replicate.mp hl).2] at hk
  have : ∀ k ∈ [97, 98], k < 256 := by decide
  exact this k hk
theorem ONEN_lt (size : Nat) : ∀ k ∈ ONEN size, k < 256 := by
  intro k hk
  obtain ⟨l, hl, hk⟩ := List.mem_flatten.mp hk
  rw [(List.mem_replicate.mp hl).2] at hk
  have : ∀ k ∈ [65, 66], k < 256 := by decide
  exact this k hk
theorem framed_app (a b : List (List Nat)) (feed : List Nat) : framedN (a ++ b) feed = framedN a feed ++ framedN b feed := by simp [framedN]
theorem framed_one (r feed : List Nat) : (framedN [r] feed).length = r.length + feed.length + 4 := by
  simp [framedN, encN_len]
theorem ev_framed {c : Cx} {ρ : Rho} {e : Expr} {p pp pos : Pos} {y : List UInt8} {kk : Nat} {rs : List (List Nat)} {feed : List Nat} (hk : c.env.kindOf "_law_framed" = some .globalImplicit) (h : Ev c ρ e ρ (.list (rs.map D.bytes))) (hy : y.map UInt8.toNat = feed) (hf : (framedN rs feed).length ≤ 60000) (hn : rs.length ≤ 1000)
    (he : starEach [e, .Constant (.bytes y) kk pp] c.env = (false, eval e c.env) :: starEach [.Constant (.bytes y) kk pp] c.env) (he' : starEach [.Constant (.bytes y) kk pp] c.env = (false, eval (.Constant (.bytes y) kk pp) c.env) :: starEach [] c.env)
    (hp : (backTo pos (starEach [.Constant (.bytes y) kk pp] c.env)).any (·.1) = false)
    (h1 : eval (.Call (.Name "_law_framed" p) [e, .Constant (.bytes y) kk pp] [] pos) c.env = (do callWith pos (← eval (.Name "_law_framed" p) c.env) [] (backTo pos (starEach [e, .Constant (.bytes y) kk pp] c.env)) (backToKw pos (keywordEach [] c.env)))) (hn1 : 1 ≤ c.n) :
    Ev c ρ (.Call (.Name "_law_framed" p) [e, .Constant (.bytes y) kk pp] [] pos) ρ (.bytes (framedN rs feed ++ Z4)) :=
  ec__law_framed (ds := [.list (rs.map D.bytes), .bytes feed]) hk (evl_cons h (evl_one0 (ev_bytes hy) he') he) (law_framed_ok hf hn) he hp h1 hn1
theorem law_spoilt_ok {rows : List (List Nat)} {size way : Nat} (hz : (framedN rows [10]).length ≤ 20000) (hn : rows.length ≤ 100) (hs : size ≤ 100) (hw : way < 12) :
    FnP 266 2 [.list (rows.map D.bytes), .int (size : Nat), .int (way : Nat)] (· = .bytes ((spoilL rows size).getD way [])) := by
  have h1 := oneN_len size
  have h2 := ONEN_len size
  refine Fn3 "rows" "size" "way" (fun w => by k_is) (fun w => by k_is) (fun u v t => rfl) ⟨rfl, rfl, rfl⟩ rfl (fun w A0 outer L s0 Z0 => ?_) rfl rfl rfl
  refine exs_swapP (ρ₁ := [("way", .v (.int (way : Nat))), ("size", .v (.int (size : Nat))), ("rows", .v (.list (rows.map D.bytes)))]) (ρ₂ := [("way", .v (.int (way : Nat))), ("size", .v (.int (size : Nat))), ("rows", .v (.list (rows.map D.bytes)))]) (P₁ := (· = .bytes (framedN rows [10] ++ Z4))) (P₂ := (· = .bytes (oneN size))) ?_ ?_ (.inl ⟨rfl, rfl⟩) (.inl ⟨rfl, rfl⟩) rfl rfl rfl rfl ?_
  · exact ev_framed rfl (ev_local rfl rfl rfl rfl) rfl (by omega) (by omega) rfl rfl rfl rfl (Nat.le_of_ble_eq_true rfl)
  · apply ec__law_octets (ds := [.str (oneN size)])
    · rfl
    · refine evl_one0 ?_ rfl
      apply ev_bin' (d₁ := .str [97, 98]) (d₂ := .int (size : Nat))
      · exact ev_str rfl
      · exact ev_local rfl rfl rfl rfl
      · exact op_mul_str (by omega) (by decide)
    · exact law_octets_ok (by omega) (oneN_lt size)
    all_goals walk_at "j1"
  rintro d₁ d₂ rfl rfl
  refine exs_asg0 (.list ((spoilL rows size).map D.bytes)) ?_ (.inl ⟨rfl, rfl⟩) rfl ?_
  · apply ev_list
    · refine evl_cons0 ?_ (evl_cons0 ?_ (evl_cons0 ?_ (evl_cons0 ?_ (evl_cons0 ?_ (evl_cons0 ?_ (evl_cons0 ?_ (evl_cons0 ?_ (evl_cons0 ?_ (evl_cons0 ?_ (evl_cons0 ?_ (evl_cons0 ?_ evl_nil rfl) rfl) rfl) rfl) rfl) rfl) rfl) rfl) rfl) rfl) rfl) rfl
      · exact ev_bytes rfl
      · refine Ev.cast (ev_slice_bytes (ev_local rfl rfl rfl rfl) evo_none (evo_some (ev_neg ev_int)) (by simp [Z4]; omega)) ?_
        rw [show cut (framedN rows [10] ++ Z4) none (some (-4)) = (framedN rows [10] ++ Z4).take ((framedN rows [10] ++ Z4).length - 4) from cut_butlast _ 4 (by decide)]
        simp [Z4]
      · exact ev_framed (rs := [oneN size ++ [32, 120]]) rfl (ev_list (evl_one0 (ev_bin' (ev_local rfl rfl rfl rfl) (ev_bytes rfl) (op_add_bytes (by simp; omega))) rfl) (Nat.le_of_ble_eq_true rfl)) rfl (by rw [framed_one]; simp; omega) (Nat.le_of_ble_eq_true rfl) rfl rfl rfl rfl (Nat.le_of_ble_eq_true rfl)
      · refine ev_framed (rs := [ONEN size ++ [32, 120, 0]]) rfl (ev_list (evl_one0 (ev_bin' (d₁ := .bytes (ONEN size)) ?_ (ev_bytes rfl) (op_add_bytes (by simp; omega))) rfl) (Nat.le_of_ble_eq_true rfl)) rfl (by rw [framed_one]; simp; omega) (Nat.le_of_ble_eq_true rfl) rfl rfl rfl rfl (Nat.le_of_ble_eq_true rfl)
        apply ec__law_octets (ds := [.str (ONEN size)])
        · rfl
        · refine evl_one0 ?_ rfl
          apply ev_bin' (d₁ := .str [65, 66]) (d₂ := .int (size : Nat))
          · exact ev_str rfl
          · exact ev_local rfl rfl rfl rfl
          · exact op_mul_str (by omega) (by decide)
        · exact law_octets_ok (by omega) (ONEN_lt size)
        all_goals walk_at "j1"
      · refine ev_framed (rs := [(oneN size).drop 1 ++ [32, 120, 0]]) rfl (ev_list (evl_one0 (ev_bin' (d₁ := .bytes ((oneN size).drop 1)) (Ev.cast (ev_slice_bytes (ev_local rfl rfl rfl rfl) (evo_some ev_int) evo_none (by omega)) ?_) (ev_bytes rfl) (op_add_bytes (by simp; omega))) rfl) (Nat.le_of_ble_eq_true rfl)) rfl (by rw [framed_one]; simp; omega) (Nat.le_of_ble_eq_true rfl) rfl rfl rfl rfl (Nat.le_of_ble_eq_true rfl)
        rw [show cut (oneN size) (some 1) none = (oneN size).drop 1 from cut_from _ 1]
      · exact ev_framed (rs := [oneN size ++ [97, 98, 32, 120, 0]]) rfl (ev_list (evl_one0 (ev_bin' (ev_local rfl rfl rfl rfl) (ev_bytes rfl) (op_add_bytes (by simp; omega))) rfl) (Nat.le_of_ble_eq_true rfl)) rfl (by rw [framed_one]; simp; omega) (Nat.le_of_ble_eq_true rfl) rfl rfl rfl rfl (Nat.le_of_ble_eq_true rfl)
      · exact ev_framed (rs := [oneN size ++ [120, 0]]) rfl (ev_list (evl_one0 (ev_bin' (ev_local rfl rfl rfl rfl) (ev_bytes rfl) (op_add_bytes (by simp; omega))) rfl) (Nat.le_of_ble_eq_true rfl)) rfl (by rw [framed_one]; simp; omega) (Nat.le_of_ble_eq_true rfl) rfl rfl rfl rfl (Nat.le_of_ble_eq_true rfl)
      · refine ev_framed (rs := rows ++ [shN ++ [32] ++ oneN size, oneN size ++ [32, 121]]) rfl ?_ rfl ?_ (by simp; omega) rfl rfl rfl rfl (Nat.le_of_ble_eq_true rfl)
        · refine Ev.cast (d := .list (rows.map D.bytes ++ [.bytes (shN ++ [32] ++ oneN size), .bytes (oneN size ++ [32, 121])])) (ev_bin' (ev_local rfl rfl rfl rfl) (ev_list (evl_cons (ev_bin' (d₁ := .bytes (shN ++ [32])) (ev_bytes rfl) (ev_local rfl rfl rfl rfl) (op_add_bytes (by simp [shN]; omega))) (evl_one0 (ev_bin' (ev_local rfl rfl rfl rfl) (ev_bytes rfl) (op_add_bytes (by simp; omega))) rfl) rfl) (Nat.le_of_ble_eq_true rfl)) (op_add_list (by simp; omega))) ?_
          rw [List.map_append]; rfl
        · rw [framed_app]; simp [framedN, encN_len, shN] at hz ⊢; omega
      · refine ev_framed (rs := rows ++ [shN ++ [32] ++ (oneN size).drop 1]) rfl ?_ rfl ?_ (by simp; omega) rfl rfl rfl rfl (Nat.le_of_ble_eq_true rfl)
        · refine Ev.cast (d := .list (rows.map D.bytes ++ [.bytes (shN ++ [32] ++ (oneN size).drop 1)])) (ev_bin' (ev_local rfl rfl rfl rfl) (ev_list (evl_one0 (ev_bin' (d₁ := .bytes (shN ++ [32])) (d₂ := .bytes ((oneN size).drop 1)) (ev_bytes rfl) (Ev.cast (ev_slice_bytes (ev_local rfl rfl rfl rfl) (evo_some ev_int) evo_none (by omega)) ?_) (op_add_bytes (by simp [shN]; omega))) rfl) (Nat.le_of_ble_eq_true rfl)) (op_add_list (by simp; omega))) ?_
          · rw [show cut (oneN size) (some 1) none = (oneN size).drop 1 from cut_from _ 1]
          · rw [List.map_append]; rfl
        · rw [framed_app]; simp [framedN, encN_len, shN] at hz ⊢; omega
      · refine ev_bin' (d₁ := .bytes (framedN rows [10] ++ [48, 48, 48, 49])) (d₂ := .bytes (framedN rows [10] ++ Z4)) (ev_bin' (d₁ := .bytes (framedN rows [10])) (d₂ := .bytes [48, 48, 48, 49]) (Ev.cast (ev_slice_bytes (ev_local rfl rfl rfl rfl) evo_none (evo_some (ev_neg ev_int)) (by simp [Z4]; omega)) ?_) (ev_bytes rfl) (op_add_bytes (by simp; omega))) (ev_local rfl rfl rfl rfl) (op_add_bytes (by simp [Z4]; omega))
        rw [show cut (framedN rows [10] ++ Z4) none (some (-4)) = (framedN rows [10] ++ Z4).take ((framedN rows [10] ++ Z4).length - 4) from cut_butlast _ 4 (by decide)]
        simp [Z4]
      · refine Ev.cast (ev_slice_bytes (ev_local rfl rfl rfl rfl) evo_none (evo_some (ev_neg ev_int)) (by simp [Z4]; omega)) ?_
        rw [show cut (framedN rows [10] ++ Z4) none (some (-2)) = (framedN rows [10] ++ Z4).take ((framedN rows [10] ++ Z4).length - 2) from cut_butlast _ 2 (by decide)]
        rw [show (framedN rows [10] ++ Z4).length - 2 = (framedN rows [10]).length + 2 by simp [Z4], List.take_length_add_append]
        rfl
      · refine ev_framed (rs := [(oneN size).take ((oneN size).length - 1) ++ [103, 32, 120, 0]]) rfl (ev_list (evl_one0 (ev_bin' (d₁ := .bytes ((oneN size).take ((oneN size).length - 1))) (Ev.cast (ev_slice_bytes (ev_local rfl rfl rfl rfl) evo_none (evo_some (ev_neg ev_int)) (by omega)) ?_) (ev_bytes rfl) (op_add_bytes (by simp; omega))) rfl) (Nat.le_of_ble_eq_true rfl)) rfl (by rw [framed_one]; simp; omega) (Nat.le_of_ble_eq_true rfl) rfl rfl rfl rfl (Nat.le_of_ble_eq_true rfl)
        rw [show cut (oneN size) none (some (-1)) = (oneN size).take ((oneN size).length - 1) from cut_butlast _ 1 (by decide)]
    · rw [sizeLine_is, List.length_map]; exact Nat.le_of_ble_eq_true rfl
  · apply exs_ret
    · apply ev_sub'
      · exact ev_local rfl rfl rfl rfl
      · exact ev_local rfl rfl rfl rfl
      · exact op_item_list (by omega) (by rw [List.length_map]; show (way : Int) < ((12 : Nat) : Int); omega) (by rw [List.length_map]; exact Nat.le_of_ble_eq_true rfl) (fun _ _ => by with_unfolding_all rfl) (fun _ _ => by with_unfolding_all rfl)
    · rintro d rfl
      refine ⟨_, rfl, ?_⟩
      rw [show ((way : Nat) : Int).toNat = way from rfl]
      have h12 : (spoilL rows size).length = 12 := rfl
      rw [List.getD_eq_getElem?_getD, List.getElem?_map, List.getD_eq_getElem?_getD, List.getElem?_eq_getElem (by omega)]; rfl
end
section
/-- plain words on octets: what is framed is read again -/
theorem good_row {o pre r feed rest : List Nat} (ho : o = pre ++ (encN feed r ++ rest)) (hr : r.length + feed.length ≤ 60000) : Good o pre.length (r.length + feed.length + 4) (.bytes (r ++ feed)) (pre.length + (encN feed r).length) := by
  have hl := encN_len feed r
  have h4 : (hex4 (r.length + feed.length + 4)).length = 4 := rfl
  have hd : o.drop pre.length = encN feed r ++ rest := by rw [ho]; simp
  have hol : o.length = pre.length + ((encN feed r).length + rest.length) := by rw [ho]; simp
  refine ⟨by omega, by omega, ?_, .inr ⟨by omega, by omega, by omega, ?_, by omega⟩⟩
  · rw [hd]; unfold encN
    rw [List.append_assoc, List.append_assoc, List.take_append_of_le_length (by omega), List.take_of_length_le (by omega)]
  · rw [← List.drop_drop, hd]
    unfold encN
    rw [List.append_assoc, List.append_assoc, List.drop_append_of_le_length (by omega), List.drop_of_length_le (by omega), List.nil_append, ← List.append_assoc, List.take_append_of_le_length (by simp), List.take_of_length_le (by simp)]
theorem reads_rows {o feed : List Nat} {its : List D} {k : Nat} : ∀ (rows : List (List Nat)) (pre rest : List Nat), o = pre ++ (framedN rows feed ++ rest) → (∀ r ∈ rows, r.length + feed.length ≤ 60000) → Reads o (pre.length + (framedN rows feed).length) its k →
    Reads o pre.length (rows.map (fun r => D.bytes (r ++ feed)) ++ its) k
  | [], pre, rest, ho, _, h => h
  | r :: rs, pre, rest, ho, hr, h => by
    have e : framedN (r :: rs) feed = encN feed r ++ framedN rs feed := rfl
    have ho' : o = pre ++ (encN feed r ++ (framedN rs feed ++ rest)) := by rw [ho, e]; simp
    have g := good_row ho' (hr r (.head _))
    refine .more g (.inl ⟨_, rfl⟩) ?_
    have ih := reads_rows (o := o) rs (pre ++ encN feed r) rest (by rw [ho']; simp) (fun r h => hr r (.tail _ h)) (its := its) (k := k) (by rw [e] at h; simp only [List.length_append] at h ⊢; rw [show pre.length + (encN feed r).length + (framedN rs feed).length = pre.length + ((encN feed r).length + (framedN rs feed).length) by omega]; exact h)
    simpa using ih
theorem reads_bad_rows {o feed : List Nat} : ∀ (rows : List (List Nat)) (pre rest : List Nat), o = pre ++ (framedN rows feed ++ rest) → (∀ r ∈ rows, r.length + feed.length ≤ 60000) → ReadsBad o (pre.length + (framedN rows feed).length) → ReadsBad o pre.length
  | [], pre, rest, ho, _, h => h
  | r :: rs, pre, rest, ho, hr, h => by
    have e : framedN (r :: rs) feed = encN feed r ++ framedN rs feed := rfl
    have ho' : o = pre ++ (encN feed r ++ (framedN rs feed ++ rest)) := by rw [ho, e]; simp
    have g := good_row ho' (hr r (.head _))
    refine .more g (.inl ⟨_, rfl⟩) ?_
    have ih := reads_bad_rows (o := o) rs (pre ++ encN feed r) rest (by rw [ho']; simp) (fun r h => hr r (.tail _ h)) (by rw [e] at h; simp only [List.length_append] at h ⊢; rw [show pre.length + (encN feed r).length + (framedN rs feed).length = pre.length + ((encN feed r).length + (framedN rs feed).length) by omega]; exact h)
    simpa using ih
theorem good_mark {o pre rest : List Nat} {n : Nat} (hn : n ≤ 2) (ho : o = pre ++ (hex4 n ++ rest)) : Good o pre.length n (.int (n : Nat)) (pre.length + 4) := by
  have h4 : (hex4 n).length = 4 := rfl
  have hd : o.drop pre.length = hex4 n ++ rest := by rw [ho]; simp
  have hol : o.length = pre.length + (4 + rest.length) := by rw [ho, List.length_append, List.length_append, h4]
  refine ⟨by omega, by omega, ?_, .inl ⟨hn, rfl, rfl⟩⟩
  rw [hd, List.take_append_of_le_length (by omega), List.take_of_length_le (by omega)]
theorem reads_end {o pre rest : List Nat} (ho : o = pre ++ (Z4 ++ rest)) : Reads o pre.length [.int 0] (pre.length + 4) := by
  have := good_mark (n := 0) (rest := rest) (pre := pre) (Nat.zero_le _) (show o = pre ++ (hex4 0 ++ rest) from ho)
  exact Reads.last this (.inl rfl)
/-- all the framed rows and the end -/
theorem reads_framed {rows : List (List Nat)} {pre feed rest : List Nat} (hr : ∀ r ∈ rows, r.length + feed.length ≤ 60000) :
    Reads (pre ++ (framedN rows feed ++ (Z4 ++ rest))) pre.length (rows.map (fun r => D.bytes (r ++ feed)) ++ [.int 0]) (pre.length + (framedN rows feed ++ Z4).length) := by
  refine reads_rows rows pre (Z4 ++ rest) rfl hr ?_
  have := reads_end (o := pre ++ (framedN rows feed ++ (Z4 ++ rest))) (pre := pre ++ framedN rows feed) (rest := rest) (by simp)
  simp only [List.length_append] at this ⊢
  rw [show pre.length + ((framedN rows feed).length + Z4.length) = pre.length + (framedN rows feed).length + 4 by simp [Z4]; omega]
  exact this
theorem reads_framed0 {rows : List (List Nat)} {feed : List Nat} (hr : ∀ r ∈ rows, r.length + feed.length ≤ 60000) :
    Reads (framedN rows feed ++ Z4) 0 (rows.map (fun r => D.bytes (r ++ feed)) ++ [.int 0]) (framedN rows feed ++ Z4).length := by
  have := reads_framed (pre := []) (rest := []) hr
  rw [List.nil_append, List.append_nil, List.length_nil, Nat.zero_add] at this
  exact this
theorem reads_rows0 {rows : List (List Nat)} {feed rest : List Nat} {its : List D} {k : Nat} (hr : ∀ r ∈ rows, r.length + feed.length ≤ 60000) (h : Reads (framedN rows feed ++ rest) (framedN rows feed).length its k) :
    Reads (framedN rows feed ++ rest) 0 (rows.map (fun r => D.bytes (r ++ feed)) ++ its) k := by
  refine reads_rows (o := framedN rows feed ++ rest) rows [] rest rfl hr ?_
  rw [List.length_nil, Nat.zero_add]; exact h
theorem reads_bad0 {rows : List (List Nat)} {feed rest : List Nat} (hr : ∀ r ∈ rows, r.length + feed.length ≤ 60000) (h : ReadsBad (framedN rows feed ++ rest) (framedN rows feed).length) : ReadsBad (framedN rows feed ++ rest) 0 := by
  refine reads_bad_rows (o := framedN rows feed ++ rest) rows [] rest rfl hr ?_
  rw [List.length_nil, Nat.zero_add]; exact h
end
section
def nOf (s : String) : List Nat := s.toList.map Char.toNat
/-- the law's menus -/
def namesL : List (List Nat) := [[72, 69, 65, 68], [114, 101, 102, 115, 47, 104, 101, 97, 100, 115, 47, 109], [114, 101, 102, 115, 47, 116, 97, 103, 115, 47, 118], [114, 101, 102, 115, 47, 116, 97, 103, 115, 47, 118, 94, 123, 125], [114, 101, 102, 115, 47, 104, 101, 97, 100, 115, 47, 109]]
def wordsL : List (List Nat) := [nOf "thin-pack", nOf "symref=HEAD:refs/heads/m", nOf "agent=git/2", nOf "symref=HEAD:refs/heads/x", nOf "symref=refs/x:y"]
def idsL (size : Nat) : List (List Nat) := [[171, 205, 7, 16].take size, [0, 0, 1, 255].take size, [16, 32, 48, 64].take size]
structure LawIn (refs : List RefN) (words shallow : List (List Nat)) (size : Nat) : Prop where
  sz : size = 3 ∨ size = 4
  nrefs : refs.length < 4
  nwords : words.length < 4
  nsh : shallow.length < 3
  ref : ∀ r ∈ refs, r.1 ∈ namesL ∧ r.2 ∈ idsL size
  word : ∀ w ∈ words, w ∈ wordsL
  sh : ∀ o ∈ shallow, o ∈ idsL size
theorem namesL_ok : ∀ n ∈ namesL, n.length ≤ 100 ∧ (∀ k ∈ n, k < 256) ∧ 0 ∉ n ∧ n ≠ [] ∧ n ≠ capN ∧ 10 ∉ n := by decide
theorem wordsL_ok : ∀ n ∈ wordsL, n.length ≤ 100 ∧ (∀ k ∈ n, k < 256) ∧ 32 ∉ n ∧ 0 ∉ n ∧ n ≠ [] ∧ 10 ∉ n := by decide
theorem idsL_ok {size : Nat} (h : size = 3 ∨ size = 4) : ∀ o ∈ idsL size, o.length = size ∧ ∀ k ∈ o, k < 256 := by
  rcases h with rfl | rfl <;> decide
theorem hexOf_no10 {l : List Nat} (hb : ∀ k ∈ l, k < 256) : 10 ∉ hexOf l := by
  intro q
  obtain ⟨j, hj, q⟩ := List.mem_flatMap.mp q
  have h16 : ∀ i < 16, hexN.getD i 0 ≠ 10 := by decide
  have := hb j hj
  simp only [List.mem_cons, List.not_mem_nil, or_false] at q
  rcases q with q | q
  · exact h16 _ (by omega) q.symm
  · exact h16 _ (by omega) q.symm
theorem stripN_no {l : List Nat} (h : 10 ∉ l) : stripN l = l := by
  unfold stripN
  rw [if_neg]
  intro q
  have : l.drop (l.length - 1) = [10] := by simpa using q
  exact h (List.mem_of_mem_drop (by rw [this]; exact .head _))
theorem stripN_10 (l : List Nat) : stripN (l ++ [10]) = l := by
  have e : (l ++ [10]).length - 1 = l.length := by simp
  unfold stripN
  rw [e, if_pos (by simp)]
  simp
theorem joinN_no {c : Nat} {sep : List Nat} {l : List (List Nat)} (hs : c ∉ sep) (h : ∀ w ∈ l, c ∉ w) : c ∉ joinN sep l := by
  induction l with
  | nil => intro q; cases q
  | cons a r ih =>
    cases r with
    | nil => exact h a (.head _)
    | cons b r =>
      intro q
      have q : c ∈ a ++ sep ++ joinN sep (b :: r) := q
      rcases List.mem_append.mp q with q | q
      · rcases List.mem_append.mp q with q | q
        · exact h a (.head _) q
        · exact hs q
      · exact ih (fun w hw => h w (.tail _ hw)) q
section
variable {refs : List RefN} {words shallow : List (List Nat)} {size : Nat}
theorem LawIn.inp (I : LawIn refs words shallow size) : Inp refs words shallow size where
  sz := by rcases I.sz with rfl | rfl <;> decide
  nrefs := by have := I.nrefs; omega
  nwords := by have := I.nwords; omega
  nsh := by have := I.nsh; omega
  name := fun r hr => let h := namesL_ok _ (I.ref r hr).1; ⟨h.1, h.2.1⟩
  ids := fun r hr => idsL_ok I.sz _ (I.ref r hr).2
  word := fun w hw => let h := wordsL_ok _ (I.word w hw); ⟨h.1, h.2.1⟩
  sh := fun o ho => idsL_ok I.sz _ (I.sh o ho)
theorem LawIn.rowsA_no (I : LawIn refs words shallow size) : ∀ r ∈ rowsA refs size, 10 ∉ r ∧ r.length ≤ 400 := by
  have hs : size ≤ 4 := by rcases I.sz with rfl | rfl <;> decide
  intro r hr
  rw [rowsA_eq] at hr
  obtain ⟨q, hq, rfl⟩ := List.mem_map.mp hr
  have h1 : 10 ∉ q.1 ∧ q.1.length ≤ 100 ∧ q.2.length = size ∧ ∀ k ∈ q.2, k < 256 := by
    unfold refsZ at hq
    split at hq
    · rw [List.mem_singleton.mp hq]
      exact ⟨by show 10 ∉ capN; decide, by show capN.length ≤ 100; decide, by simp, fun k hk => by rw [(List.mem_replicate.mp hk).2]; decide⟩
    · have h := namesL_ok _ (I.ref q hq).1
      have h' := idsL_ok I.sz _ (I.ref q hq).2
      exact ⟨h.2.2.2.2.2, h.1, h'.1, h'.2⟩
  refine ⟨fun z => ?_, ?_⟩
  · rcases List.mem_append.mp z with z | z
    · exact hexOf_no10 h1.2.2.2 z
    · rcases List.mem_cons.mp z with z | z
      · cases z
      · exact h1.1 z
  · rw [List.length_append, List.length_cons, hexOf_len]; omega
theorem LawIn.joinN_len (I : LawIn refs words shallow size) : (joinN [32] words).length ≤ 306 := by
  have h1 := Mine.joinN_len [32] words
  have h2 := sum_le (B := 100) (l := words) fun w hw => (wordsL_ok _ (I.word w hw)).1
  have := I.nwords
  simp only [List.length_cons, List.length_nil] at h1
  omega
theorem LawIn.rows_no (I : LawIn refs words shallow size) : ∀ r ∈ rowsN refs words shallow size, 10 ∉ r ∧ r.length ≤ 800 := by
  have hA := I.rowsA_no
  have hs : size ≤ 4 := by rcases I.sz with rfl | rfl <;> decide
  have hj := I.joinN_len
  intro r hr
  rcases List.mem_append.mp hr with hr | hr
  · cases hA' : rowsA refs size with
    | nil => rw [hA'] at hr; cases hr
    | cons a rs =>
      rw [hA'] at hr hA
      rcases List.mem_cons.mp hr with rfl | hr
      · have h1 := hA a (.head _)
        refine ⟨fun z => ?_, by simp; omega⟩
        rcases List.mem_append.mp z with z | z
        · exact h1.1 z
        · rcases List.mem_cons.mp z with z | z
          · cases z
          · exact joinN_no (by decide) (fun w hw => (wordsL_ok _ (I.word w hw)).2.2.2.2.2) z
      · have := hA r (.tail _ hr)
        exact ⟨this.1, by omega⟩
  · obtain ⟨o, ho, rfl⟩ := List.mem_map.mp hr
    have h2 := idsL_ok I.sz _ (I.sh o ho)
    refine ⟨fun z => ?_, by simp [hexOf_len, shN]; omega⟩
    rcases List.mem_append.mp z with z | z
    · revert z; decide
    · rcases List.mem_cons.mp z with z | z
      · cases z
      · exact hexOf_no10 h2.2 z
theorem LawIn.rows_len (I : LawIn refs words shallow size) : (rowsN refs words shallow size).length ≤ 5 ∧ 1 ≤ (rowsN refs words shallow size).length := by
  obtain ⟨a, rs, hA, hN⟩ := rowsN_cons refs words shallow size
  have h1 : (rowsA refs size).length ≤ 3 := by
    rw [rowsA_eq, List.length_map]
    unfold refsZ
    split
    · exact Nat.le_of_ble_eq_true rfl
    · have := I.nrefs; omega
  have h2 := I.nsh
  rw [hA] at h1
  rw [hN]; simp at h1 ⊢; omega
theorem framed_le {rows : List (List Nat)} {feed : List Nat} {B : Nat} (h : ∀ r ∈ rows, r.length ≤ B) : (framedN rows feed).length ≤ rows.length * (B + feed.length + 4) := by
  induction rows with
  | nil => exact Nat.zero_le _
  | cons r rs ih =>
    have h1 := ih fun r hr => h r (.tail _ hr)
    have h2 := h r (.head _)
    show (encN feed r ++ framedN rs feed).length ≤ _
    rw [List.length_append, encN_len, List.length_cons, Nat.succ_mul]; omega
theorem LawIn.framed_len (I : LawIn refs words shallow size) {feed : List Nat} (hf : feed.length ≤ 1) : (framedN (rowsN refs words shallow size) feed).length ≤ 5000 := by
  have h1 := framed_le (feed := feed) (fun r hr => (I.rows_no r hr).2)
  have h2 := I.rows_len.1
  have : (rowsN refs words shallow size).length * (800 + feed.length + 4) ≤ 5 * 805 := Nat.mul_le_mul h2 (by omega)
  omega
theorem LawIn.inp2 (I : LawIn refs words shallow size) {feed : List Nat} (hf : feed = [10] ∨ feed = []) : Inp2 refs words shallow size feed where
  inp := I.inp
  sz1 := by rcases I.sz with rfl | rfl <;> decide
  nm0 := fun r hr => let h := namesL_ok _ (I.ref r hr).1; ⟨h.2.2.1, h.2.2.2.1, h.2.2.2.2.1⟩
  wd := fun w hw => let h := wordsL_ok _ (I.word w hw); ⟨h.2.2.1, h.2.2.2.1, h.2.2.2.2.1⟩
  strip := fun r hr => by
    rcases hf with rfl | rfl
    · exact stripN_10 r
    · rw [List.append_nil]; exact stripN_no (I.rows_no r hr).1
  nfeed := by rcases hf with rfl | rfl <;> decide
end
end
section
/-- one row alone, spoilt -/
theorem one_bad {size : Nat} {bad : List Nat} (hs : size = 3 ∨ size = 4) (hb : bad.length ≤ 100 ∧ ∀ k ∈ bad, k < 256) (h0 : 0 ∉ bad) (hr : BadRow size false bad) :
    OpR (.ref 205) 5 [.bytes (framedN [bad ++ [0]] [10] ++ Z4), .int (size : Nat), .int ((0 : Nat) : Nat)] := by
  have hZ : Z4.length = 4 := rfl
  have hl : (framedN [bad ++ [0]] [10] ++ Z4).length ≤ 1000 := by rw [List.length_append, framed_one, hZ]; simp; omega
  refine read_bad_loop (E := []) (bad := bad) (more := []) (a := bad) (words := []) (x0 := bad ++ [0] ++ [10]) (xs := []) (k := (framedN [bad ++ [0]] [10] ++ Z4).length) ?_ (by omega) (reads_framed0 (rows := [bad ++ [0]]) (feed := [10]) (fun r h => by rw [List.mem_singleton.mp h]; simp; omega))
  refine ⟨(by rcases hs with rfl | rfl <;> decide), (by rcases hs with rfl | rfl <;> decide), Nat.zero_le _, (fun e h => (nomatch h)), (fun done r rest e => ?_), rfl, ?_, h0, (fun w h => (nomatch h)), ⟨Nat.zero_le _, (fun k h => (nomatch h))⟩, Nat.zero_le _, (by omega), (by simp; omega), (fun x h => (nomatch h)), Nat.zero_le _, ⟨(by omega), hb.2⟩, hr⟩
  · cases done <;> cases e
  · rw [stripN_10]; rfl
section
variable {refs : List RefN} {words shallow : List (List Nat)} {size : Nat}
theorem allE_good (I : LawIn refs words shallow size) : ∀ e ∈ allE refs shallow size, goodE size e := by
  intro e he
  rcases List.mem_append.mp he with he | he
  · obtain ⟨r, hr, rfl⟩ := List.mem_map.mp he
    unfold refsZ at hr
    split at hr
    · rw [List.mem_singleton.mp hr]
      exact ⟨(by show capN.length ≤ 100; decide), (by show ∀ k ∈ capN, k < 256; decide), by simp, fun k hk => by rw [(List.mem_replicate.mp hk).2]; decide⟩
    · have h1 := I.inp.name r hr
      have h2 := I.inp.ids r hr
      exact ⟨h1.1, h1.2, h2.1, h2.2⟩
  · obtain ⟨o, ho, rfl⟩ := List.mem_map.mp he
    exact I.inp.sh o ho
theorem a_no0 (I : LawIn refs words shallow size) : ∀ r ∈ rowsA refs size, 0 ∉ r := by
  intro r hr
  rw [rowsA_eq] at hr
  obtain ⟨q, hq, rfl⟩ := List.mem_map.mp hr
  have h1 : 0 ∉ q.1 ∧ ∀ k ∈ q.2, k < 256 := by
    unfold refsZ at hq
    split at hq
    · rw [List.mem_singleton.mp hq]
      exact ⟨by show 0 ∉ capN; decide, fun k hk => by rw [(List.mem_replicate.mp hk).2]; decide⟩
    · exact ⟨(namesL_ok _ (I.ref q hq).1).2.2.1, (idsL_ok I.sz _ (I.ref q hq).2).2⟩
  intro z
  rcases List.mem_append.mp z with z | z
  · obtain ⟨j, hj, z⟩ := List.mem_flatMap.mp z
    have h16 : ∀ i < 16, hexN.getD i 0 ≠ 0 := by decide
    have := h1.2 j hj
    simp only [List.mem_cons, List.not_mem_nil, or_false] at z
    rcases z with z | z
    · exact h16 _ (by omega) z.symm
    · exact h16 _ (by omega) z.symm
  · rcases List.mem_cons.mp z with z | z
    · cases z
    · exact h1.1 z
theorem strip_map {l : List (List Nat)} : (l.map fun r => r ++ [10]).map stripN = l := by
  rw [List.map_map]
  exact (List.map_congr_left fun r _ => stripN_10 r).trans (List.map_id' l)
/-- the good rows, then one that is spoilt -/
theorem more_bad (I : LawIn refs words shallow size) {E : List (RefN ⊕ List Nat)} {shs : List (List Nat)} {bad : List Nat} (hE : E = (refsZ refs size).map .inl ++ (shallow ++ shs).map .inr) (hs : ∀ o ∈ shs, o.length = size ∧ ∀ k ∈ o, k < 256) (hn : shs.length ≤ 1) (hb : bad.length ≤ 100 ∧ ∀ k ∈ bad, k < 256) (hr : BadRow size (!(rights E).isEmpty) bad) :
    OpR (.ref 205) 5 [.bytes (framedN (rowsN refs words shallow size ++ (shs.map fun o => shN ++ 32 :: hexOf o) ++ [bad]) [10] ++ Z4), .int (size : Nat), .int ((0 : Nat) : Nat)] := by
  obtain ⟨a, rs, hA, hN⟩ := rowsN_cons refs words shallow size
  have hrows := I.rows_no
  have hlen := I.rows_len
  have hsz : size ≤ 4 := by rcases I.sz with rfl | rfl <;> decide
  have hZ : Z4.length = 4 := rfl
  obtain ⟨X, hX⟩ : ∃ X, X = rs ++ (shallow.map fun o => shN ++ 32 :: hexOf o) ++ (shs.map fun o => shN ++ 32 :: hexOf o) ++ [bad] := ⟨_, rfl⟩
  have hall : rowsN refs words shallow size ++ (shs.map fun o => shN ++ 32 :: hexOf o) ++ [bad] = (a ++ 0 :: joinN [32] words) :: X := by rw [hN, hX]; simp
  have hXl : X.length ≤ 7 := by
    have h1 := congrArg List.length hall
    simp only [List.length_append, List.length_map, List.length_cons, List.length_nil] at h1
    omega
  have hshl : ∀ o ∈ shs, (shN ++ 32 :: hexOf o).length ≤ 800 := fun o ho => by
    have := (hs o ho).1
    simp [hexOf_len, shN]; omega
  have hrl : ∀ r ∈ rowsN refs words shallow size ++ (shs.map fun o => shN ++ 32 :: hexOf o) ++ [bad], r.length ≤ 800 := fun r hr => by
    rcases List.mem_append.mp hr with hr | hr
    · rcases List.mem_append.mp hr with hr | hr
      · exact (hrows r hr).2
      · obtain ⟨o, ho, rfl⟩ := List.mem_map.mp hr
        exact hshl o ho
    · rw [List.mem_singleton.mp hr]; omega
  have hfl : (framedN (rowsN refs words shallow size ++ (shs.map fun o => shN ++ 32 :: hexOf o) ++ [bad]) [10]).length ≤ 8 * 815 := by
    refine Nat.le_trans (framed_le (feed := [10]) hrl) (Nat.mul_le_mul ?_ (by decide))
    rw [hall, List.length_cons]; omega
  have hEr : E.map rowB = (refsZ refs size).map (fun r => hexOf r.2 ++ 32 :: r.1) ++ (shallow.map (fun o => shN ++ 32 :: hexOf o) ++ shs.map (fun o => shN ++ 32 :: hexOf o)) := by
    rw [hE, List.map_append, List.map_map, List.map_map, List.map_append]; rfl
  have hj := I.joinN_len
  have ha := I.rowsA_no a (by rw [hA]; exact .head _)
  refine read_bad_loop (E := E) (bad := bad) (more := []) (a := a) (words := words) (x0 := (a ++ 0 :: joinN [32] words) ++ [10]) (xs := X.map fun r => r ++ [10]) (k := (framedN (rowsN refs words shallow size ++ (shs.map fun o => shN ++ 32 :: hexOf o) ++ [bad]) [10] ++ Z4).length) ?_ (by rw [List.length_append, hZ]; omega) ?_
  · refine ⟨by omega, by rcases I.sz with rfl | rfl <;> decide, ?_, ?_, fun done r rest e => ?_, ?_, stripN_10 _, a_no0 I a (by rw [hA]; exact .head _), fun w hw => (wordsL_ok _ (I.word w hw)).2.2.1, ⟨by omega, joinN_lt (by decide) fun w hw => (wordsL_ok _ (I.word w hw)).2.1⟩, by have := I.nwords; omega, by omega, by simp; omega, fun x hx => ?_, by rw [List.length_map]; omega, ⟨by omega, hb.2⟩, hr⟩
    · have h1 := I.nrefs
      have h2 := I.nsh
      rw [hE]
      unfold refsZ
      split <;> simp <;> omega
    · intro e he
      rw [hE] at he
      rcases List.mem_append.mp he with he | he
      · exact allE_good I e (List.mem_append_left _ he)
      · obtain ⟨o, ho, rfl⟩ := List.mem_map.mp he
        rcases List.mem_append.mp ho with ho | ho
        · exact I.inp.sh o ho
        · exact hs o ho
    · exact rights_nil _ _ done r rest (by rw [← e, hE])
    · rw [strip_map, hEr, hX, ← rowsA_eq, hA]; simp
    · obtain ⟨r, hr', rfl⟩ := List.mem_map.mp hx
      have := hrl r (by rw [hall]; exact .tail _ hr')
      simp; omega
  · have := reads_framed0 (rows := rowsN refs words shallow size ++ (shs.map fun o => shN ++ 32 :: hexOf o) ++ [bad]) (feed := [10]) (fun r h => by have := hrl r h; simp; omega)
    rw [hall] at this ⊢
    rw [List.map_map]
    exact this
theorem oneN_hex (size : Nat) : hexOf (List.replicate size 171) = oneN size := by
  unfold oneN
  induction size with
  | zero => rfl
  | succ n ih => rw [List.replicate_succ, List.replicate_succ, List.flatten_cons, ← ih]; rfl
theorem way_bad (I : LawIn refs words shallow size) {way : Nat} (hw : way < 12) :
    OpR (.ref 205) 5 [.bytes ((spoilL (rowsN refs words shallow size) size).getD way []), .int (size : Nat), .int ((0 : Nat) : Nat)] := by
  obtain ⟨a, rs, hA, hN⟩ := rowsN_cons refs words shallow size
  have hrows := I.rows_no
  have hlen := I.rows_len
  have hsz : size ≤ 4 := by rcases I.sz with rfl | rfl <;> decide
  have hfl := I.framed_len (feed := [10]) (by decide)
  have hj := I.joinN_len
  have ha := I.rowsA_no a (by rw [hA]; exact .head _)
  have hr6 : ∀ r ∈ rowsN refs words shallow size, r.length + ([10] : List Nat).length ≤ 60000 := fun r h => by have := (hrows r h).2; simp; omega
  have hZ : Z4.length = 4 := rfl
  have hne : rowsN refs words shallow size ≠ [] := by rw [hN]; simp
  rcases way with _ | _ | _ | _ | _ | _ | _ | _ | _ | _ | _ | _ | w
  all_goals simp only [spoilL, List.getD_cons_succ, List.getD_cons_zero]
  · have := reads_end (o := Z4) (pre := []) (rest := []) rfl
    exact read_bad_end (its := [.int 0]) this (by decide) (by decide) (.inl (by decide))
  · have := reads_rows0 (rows := rowsN refs words shallow size) (feed := [10]) (rest := []) (its := []) (k := (framedN (rowsN refs words shallow size) [10]).length) hr6 (.stop (by rw [List.append_nil]; exact Nat.le_refl _))
    rw [List.append_nil, List.append_nil] at this
    refine read_bad_end this (by omega) (by rw [List.length_map]; omega) (.inr ?_)
    rw [List.getLast?_map]
    cases h : (rowsN refs words shallow size).getLast? with
    | none => exact absurd (List.getLast?_eq_none_iff.mp h) hne
    | some r => exact ⟨_, rfl⟩
  · have := reads_framed0 (rows := [oneN size ++ [32, 120]]) (feed := []) (fun r h => by rw [List.mem_singleton.mp h]; simp [oneN_len]; omega)
    have h10 : 10 ∉ oneN size ++ [32, 120] ∧ 0 ∉ oneN size ++ [32, 120] := by rcases I.sz with rfl | rfl <;> decide
    refine read_bad_cut (x0 := oneN size ++ [32, 120] ++ []) (a := oneN size ++ [32, 120]) (xs := []) this (by rw [List.length_append, framed_one, hZ]; simp [oneN_len]; omega) (Nat.zero_le _) (by simp [oneN_len]; omega) (by rw [List.append_nil]; exact stripN_no h10.1) h10.2 (by simp [oneN_len]; omega)
  · have := one_bad (bad := ONEN size ++ [32, 120]) I.sz (by rcases I.sz with rfl | rfl <;> decide) (by rcases I.sz with rfl | rfl <;> decide) (.hex (by rcases I.sz with rfl | rfl <;> decide) (by rcases I.sz with rfl | rfl <;> decide) rfl (by unfold badHex; rcases I.sz with rfl | rfl <;> decide))
    rw [List.append_assoc] at this; exact this
  · have := one_bad (bad := (oneN size).drop 1 ++ [32, 120]) I.sz (by rcases I.sz with rfl | rfl <;> decide) (by rcases I.sz with rfl | rfl <;> decide) (.row (by rcases I.sz with rfl | rfl <;> decide) (.inl (by rcases I.sz with rfl | rfl <;> decide)))
    rw [List.append_assoc] at this; exact this
  · have := one_bad (bad := oneN size ++ [97, 98, 32, 120]) I.sz (by rcases I.sz with rfl | rfl <;> decide) (by rcases I.sz with rfl | rfl <;> decide) (.row (by rcases I.sz with rfl | rfl <;> decide) (.inl (by rcases I.sz with rfl | rfl <;> decide)))
    rw [List.append_assoc] at this; exact this
  · have := one_bad (bad := oneN size ++ [120]) I.sz (by rcases I.sz with rfl | rfl <;> decide) (by rcases I.sz with rfl | rfl <;> decide) (.row (by rcases I.sz with rfl | rfl <;> decide) (.inl (by rcases I.sz with rfl | rfl <;> decide)))
    rw [List.append_assoc] at this; exact this
  · have := more_bad I (E := (refsZ refs size).map .inl ++ (shallow ++ [List.replicate size 171]).map .inr) (shs := [List.replicate size 171]) (bad := oneN size ++ [32, 121]) rfl (fun o ho => by rw [List.mem_singleton.mp ho]; exact ⟨by simp, fun k hk => by rw [(List.mem_replicate.mp hk).2]; decide⟩) (Nat.le_refl _) (by rcases I.sz with rfl | rfl <;> decide) (.row (by rcases I.sz with rfl | rfl <;> decide) (.inr ?_))
    · rw [List.map_cons, List.map_nil, oneN_hex, List.append_assoc] at this
      exact this
    · simp [rights]
  · have := more_bad I (E := (refsZ refs size).map .inl ++ (shallow ++ []).map .inr) (shs := []) (bad := shN ++ [32] ++ (oneN size).drop 1) rfl (fun o ho => (nomatch ho)) (by decide) (by rcases I.sz with rfl | rfl <;> decide) (.told _ rfl (by unfold badHex; rcases I.sz with rfl | rfl <;> decide))
    rw [List.map_nil, List.append_nil] at this
    exact this
  · obtain ⟨F, hF⟩ : ∃ F, F = framedN (rowsN refs words shallow size) [10] := ⟨_, rfl⟩
    have h1 := good_mark (o := F ++ [48, 48, 48, 49] ++ (F ++ Z4)) (n := 1) (pre := F) (rest := F ++ Z4) (by decide) (by rw [List.append_assoc]; rfl)
    have h2 := reads_framed (rows := rowsN refs words shallow size) (pre := F ++ [48, 48, 48, 49]) (feed := [10]) (rest := []) hr6
    rw [← hF, List.append_nil] at h2
    have e4 : (F ++ [48, 48, 48, 49]).length = F.length + 4 := by simp
    rw [e4] at h2
    have h3 := Reads.more h1 (.inr rfl) h2
    have h4 := reads_rows0 (rows := rowsN refs words shallow size) (feed := [10]) (rest := [48, 48, 48, 49] ++ (F ++ Z4)) hr6 (by rw [← hF, ← List.append_assoc]; exact h3)
    rw [← hF, ← List.append_assoc] at h4
    rw [← hF]
    have hX : (rs ++ shallow.map fun o => shN ++ 32 :: hexOf o).length ≤ 4 := by
      have := congrArg List.length hN
      simp only [List.length_cons] at this
      omega
    have hXr : ∀ r ∈ rs ++ shallow.map (fun o => shN ++ 32 :: hexOf o), r.length ≤ 800 := fun r hr => (hrows r (by rw [hN]; exact .tail _ hr)).2
    rw [← hF] at hfl
    refine read_bad_mark (x0 := (a ++ 0 :: joinN [32] words) ++ [10]) (a := a) (words := words) (good := (rs ++ shallow.map fun o => shN ++ 32 :: hexOf o).map fun r => r ++ [10]) (m := 1) (more := (rowsN refs words shallow size).map fun r => D.bytes (r ++ [10])) (k := _) (by
      have e : ((rowsN refs words shallow size).map fun r => D.bytes (r ++ [10])) ++ (D.int ((1 : Nat) : Int) :: (((rowsN refs words shallow size).map fun r => D.bytes (r ++ [10])) ++ [D.int 0])) = D.bytes ((a ++ 0 :: joinN [32] words) ++ [10]) :: ((((rs ++ shallow.map fun o => shN ++ 32 :: hexOf o).map fun r => r ++ [10]).map D.bytes ++ D.int 1 :: ((rowsN refs words shallow size).map fun r => D.bytes (r ++ [10]))) ++ [D.int 0]) := by
        generalize hG : ((rowsN refs words shallow size).map fun r => D.bytes (r ++ [10])) = G
        have hG' : G = D.bytes ((a ++ 0 :: joinN [32] words) ++ [10]) :: ((rs ++ shallow.map fun o => shN ++ 32 :: hexOf o).map fun r => r ++ [10]).map D.bytes := by rw [← hG, hN, List.map_cons, List.map_map]; rfl
        rw [show G ++ (D.int ((1 : Nat) : Int) :: (G ++ [D.int 0])) = (D.bytes ((a ++ 0 :: joinN [32] words) ++ [10]) :: ((rs ++ shallow.map fun o => shN ++ 32 :: hexOf o).map fun r => r ++ [10]).map D.bytes) ++ (D.int ((1 : Nat) : Int) :: (G ++ [D.int 0])) by rw [← hG']]
        simp
      rw [e] at h4
      exact h4) (by simp [hZ]; omega) (by simp at hX hlen ⊢; omega) (by simp; omega) (stripN_10 _) (a_no0 I a (by rw [hA]; exact .head _)) (by omega) ⟨by omega, joinN_lt (by decide) fun w hw => (wordsL_ok _ (I.word w hw)).2.1⟩ (fun w hw => (wordsL_ok _ (I.word w hw)).2.2.1) (by have := I.nwords; omega) (fun x hx => by
        obtain ⟨r, hr, rfl⟩ := List.mem_map.mp hx
        have := hXr r hr
        simp; omega)
  · refine read_bad_pkts (reads_bad0 hr6 (.here (by simp) (by simp))) (by simp; omega)
  · have := one_bad (bad := (oneN size).take ((oneN size).length - 1) ++ [103, 32, 120]) I.sz (by rcases I.sz with rfl | rfl <;> decide) (by rcases I.sz with rfl | rfl <;> decide) (.hex (by rcases I.sz with rfl | rfl <;> decide) (by rcases I.sz with rfl | rfl <;> decide) rfl (by unfold badHex; rcases I.sz with rfl | rfl <;> decide))
    rw [List.append_assoc] at this; exact this
  · omega
end
end
section
/-- the frame from where the deck is made on -/
abbrev cxD (c : Cx) (dk l : Addr) : Cx := { c with V := fun a => a = dk ∨ a = l, G := fun h => DeckAt c.w h dk l, dk := .ref dk }
section
variable {c : Cx} {ρ : Rho} {Z : Addr → Prop} {s : Shared} {dk l : Addr} {h' : Heap} {tk : Nat}
theorem cxD_ok (S : St c ρ Z s) (h0 : ∀ a, ¬ c.V a) (n1 : s.heap.get? dk = none) (n2 : s.heap.get? l = none) : (cxD c dk l).Ok := by
  have o1 : c.s0.heap.get? dk = none := stays_none (fun a o e => S.keep a o (h0 a) e) n1
  have o2 : c.s0.heap.get? l = none := stays_none (fun a o e => S.keep a o (h0 a) e) n2
  have kk : ∀ h' : Heap, (∀ a o, ¬ (a = dk ∨ a = l) → c.s0.heap.get? a = some o → h'.get? a = some o) → ∀ a o, ¬ c.V a → c.s0.heap.get? a = some o → h'.get? a = some o := fun h' k a o _ e => k a o (fun q => by
    rcases q with rfl | rfl
    · rw [o1] at e; cases e
    · rw [o2] at e; cases e) e
  have hL := S.Lalive
  have vL : ¬ (c.L = dk ∨ c.L = l) := fun q => by
    rcases q with q | q
    · rw [q, n1] at hL; cases hL
    · rw [q, n2] at hL; cases hL
  obtain ⟨B, b1, b2, b3, b4, b5⟩ := S.ok.bs
  refine ⟨fun h' k hn => S.ok.base h' (kk h' k) hn, fun h h' x k => x.of (k _ (.inl rfl)) (k _ (.inr rfl)), fun h a x v => ?_, S.ok.z0ok, S.ok.fr0, S.ok.Lnew, S.ok.kind, vL, fun e he L hf v => ?_, S.ok.glob, S.ok.blt, S.ok.cinj, B, b1, b2, b3, fun a v => ?_, fun h' k hn => b5 h' (kk h' k) hn⟩
  · rcases v with rfl | rfl
    · obtain ⟨m, t, _, _, o, es, ep, ho, _, hd, _⟩ := x.d
      exact ⟨o, ho, fun fs q => by rw [hd] at q; cases q⟩
    · obtain ⟨vs, n, ho, _⟩ := x.ls
      exact ⟨_, ho, fun fs q => by cases q⟩
  · rcases S.ok.fr0 e he L hf with rfl | ⟨h1, _⟩
    · exact vL v
    · rcases v with rfl | rfl
      · rw [o1] at h1; cases h1
      · rw [o2] at h1; cases h1
  · rcases v with rfl | rfl
    · exact stays_none b3 o1
    · exact stays_none b3 o2
theorem St.deckIn (S : St c ρ Z s) (h0 : ∀ a, ¬ c.V a) (hnd : ∀ x, ρ.lookup x ≠ some .deck) (k : s.heap.StaysIn h') (n1 : s.heap.get? dk = none) (n2 : s.heap.get? l = none) (D : DeckAt c.w h' dk l) : St (cxD c dk l) ρ Z { s with heap := h', toks := tk } := by
  have X : Ext s Z { s with heap := h', toks := tk } Z := Ext.of S.zok k
  obtain ⟨m, own, lc⟩ := S.loc
  have lx := S.extL X lc
  have S' := S.ext X
  have ne : ∀ a, (s.heap.get? a).isSome = true → ¬ (a = dk ∨ a = l) := fun a e q => by
    rcases q with rfl | rfl
    · rw [n1] at e; cases e
    · rw [n2] at e; cases e
  refine ⟨S'.same, cxD_ok S h0 n1 n2, fun a o _ e => S'.keep a o (h0 a) e, S'.z0, S'.znew, S'.zok, S'.zL, fun a z => ne a (S.zok a z), D, m, own, lx.ns, fun x b e => ?_, fun x a ha => ?_, lx.apart, lx.dom, fun x a e => ?_⟩
  · obtain ⟨v, g1, g2⟩ := lx.get x b e
    refine ⟨v, g1, ?_⟩
    cases b with
    | v d => exact g2
    | own ds => exact g2
    | deck => exact absurd e (hnd x)
  · obtain ⟨g1, g2, g3, g4, g5⟩ := lx.off x a ha
    exact ⟨g1, g2, g3, g4, ne a (lc.off x a ha).2.2.2.1⟩
  · obtain ⟨g1, g2, g3, g4⟩ := lx.cell x a e
    obtain ⟨_, _, ⟨o, u, ho, _⟩, _⟩ := lc.cell x a e
    exact ⟨g1, ne a (by rw [ho]; rfl), g3, g4⟩
end
/-- the law's frame, ahead of the deck -/
abbrev cxLaw (w : World) (env : Env) (s : Shared) (Z0 : Addr → Prop) : Cx := { w, A := callerA.deeper env, frames := [env], env, n := 20, s0 := s, Z0, V := fun _ => False, G := fun _ => True, dk := .none, mine := true }
structure LawEnv (w : World) (env : Env) (s : Shared) : Prop where
  kind : env.scope.kind = .function
  K : (KF w).In s.heap
  top : ∃ mg mb, TopRead VP looseN mg mb s.heap
  fr : env.frame = some env.locals
  new : s.heap.get? env.locals = none
  glob : env.globals = mainGlobals
  blt : env.builtins = builtinsNs
  cinj : ∀ x y a, env.cells.lookup x = some a → env.cells.lookup y = some a → x = y
section
variable {w : World} {env : Env} {s : Shared} {Z0 : Addr → Prop}
theorem LawEnv.fun (X : LawEnv w env s) {h' : Heap} (hn : ∃ m, h'.Ns env.locals m) : h'.FunFrames s.heap [env] := by
  obtain ⟨m, hn⟩ := hn
  exact .cons (by rw [X.kind]; decide) X.fr hn X.new trivial
theorem cxLaw_ok (X : LawEnv w env s) (z : ZOk Z0 s.heap) : (cxLaw w env s Z0).Ok where
  base := fun h' hk' hn => by
    have kk : s.heap.StaysIn h' := fun a o e => hk' a o (fun v => v) e
    have f := X.fun hn
    obtain ⟨m, hn⟩ := hn
    obtain ⟨mg, mb, T⟩ := X.top
    exact ⟨rfl, rfl, show 302 + 20 < recursionLimit by decide, show 7 + 20 * 20 + 100 < cLine by decide, X.K.keeps kk, ⟨mg, mb, T.keeps kk⟩, .cons (by rw [X.kind]; decide) X.fr hn rfl trivial, s.heap, kk, X.K, X.top, f⟩
  gst := fun _ _ _ _ => trivial
  gv := fun _ _ _ v => v.elim
  z0ok := z
  fr0 := fun e he L hL => by
    rw [List.mem_singleton.mp he, X.fr] at hL
    exact .inl (Option.some.inj hL).symm
  Lnew := X.new
  kind := X.kind
  vL := fun v => v
  vfr := fun _ _ _ _ v => v
  glob := X.glob
  blt := X.blt
  cinj := X.cinj
  bs := ⟨s.heap, X.K, X.top, fun _ _ e => e, fun _ v => v.elim, fun h' _ hn => X.fun hn⟩
theorem LawEnv.rdyB (X : LawEnv w env s) {ρ : Rho} {Z : Addr → Prop} {s' : Shared} {dk l : Addr} {n : Nat} (S : St (cxD (cxLaw w env s Z0) dk l) ρ Z s') (n1 : s.heap.get? dk = none) (n2 : s.heap.get? l = none) (hn : n ≤ 20) : RdyB s.heap w (callerA.deeper env) n s' Z := by
  refine ⟨S.rdy hn, ⟨X.K, X.top⟩, fun a o e => S.keep a o (fun v => ?_) e, fun fs e => ?_⟩
  · rcases v with rfl | rfl
    · rw [n1] at e; cases e
    · rw [n2] at e; cases e
  · rw [S.stk.frames] at e; cases e
    obtain ⟨m, own, lc⟩ := S.loc
    exact X.fun ⟨m, lc.ns⟩
theorem ints_tr {h : Heap} {Z : Addr → Prop} {vs : List Value} {ns : List Int} (x : IntsAre vs ns) : TrL h Z vs (ns.map D.int) := by
  induction x with
  | nil => exact .nil
  | cons _ _ r ih => exact .cons (.int _ _) ih
/-- deck = _law_deck(script) -/
theorem law_open {lst : Addr} {vs : List Value} {ns : List Int} {h₁ : Heap} {tk₁ : Nat} {m : Str → Option Value} {rest : List Stmt} {p p2 p3 p4 p5 : Pos} {Q : Flow → Shared → Prop} {E : Value → Shared → Prop} (X : LawEnv w env s) (hl : s.heap.IsList lst vs.toArray) (hi : IntsAre vs ns) (hlen : ns.length ≤ 63)
    (hk : s.heap.StaysIn h₁) (hns : h₁.Ns env.locals m) (hm : m "script" = some (.ref lst)) (hcells : ∀ x a, env.cells.lookup x = some a → s.heap.get? a = none ∧ ∃ o w, h₁.get? a = some o ∧ o.data = .cell w)
    (k1 : env.kindOf "script" = some .local ∧ env.cells.lookup (Str.ofString "script") = none) (k2 : env.kindOf "deck" = some .cell ∧ (env.cells.lookup (Str.ofString "deck")).isSome = true) (k3 : env.kindOf "_law_deck" = some .globalImplicit)
    (he : starEach [.Name "script" p3] env = (false, eval (.Name "script" p3) env) :: starEach [] env)
    (h1 : eval (.Call (.Name "_law_deck" p2) [.Name "script" p3] [] p4) env = (do callWith p4 (← eval (.Name "_law_deck" p2) env) [] (backTo p4 (starEach [.Name "script" p3] env)) (backToKw p4 (keywordEach [] env))))
    (hsw : swapsWith (.Call (.Name "_law_deck" p2) [.Name "script" p3] [] p4) (some (.Name "deck" p)) p5.line env = pure false)
    (h : ∀ dk l s' Z', (∀ (n : Nat) (ρ : Rho) (Z : Addr → Prop) (s' : Shared), n ≤ 20 → St (cxD (cxLaw w env s fun a => a = lst) dk l) ρ Z s' → RdyB s.heap w (callerA.deeper env) n s' Z) → St (cxD (cxLaw w env s fun a => a = lst) dk l) [("deck", .deck), ("script", .v (.list (ns.map D.int)))] Z' s' → wpAny (model PP w) (callerA.deeper env) (execs rest env) Q E s') :
    wpAny (model PP w) (callerA.deeper env) (execs (.Assign [.Name "deck" p] (.Call (.Name "_law_deck" p2) [.Name "script" p3] [] p4) p5 :: rest) env) Q E { s with heap := h₁, toks := tk₁ } := by
  have z0 : ZOk (fun a => a = lst) s.heap := fun a e => by
    obtain ⟨o, ho, _⟩ := hl
    rw [e, ho]; rfl
  have t0 : Tr s.heap (fun a => a = lst) (.ref lst) (.list (ns.map D.int)) := .list rfl hl (ints_tr hi)
  have S : St (cxLaw w env s fun a => a = lst) [("script", .v (.list (ns.map D.int)))] (fun a => a = lst) { s with heap := h₁, toks := tk₁ } := by
    refine ⟨⟨_, _, rfl⟩, cxLaw_ok X z0, fun a o _ e => hk a o e, fun _ q => q, fun _ q => .inl q, fun a q => stays_some hk (z0 a q), fun q => ?_, fun _ _ v => v, trivial, m, fun _ => [], hns, fun x b e => ?_, fun _ _ q => (nomatch q), fun _ _ _ q => (nomatch q), fun _ _ => rfl, fun x a e => ?_⟩
    · have := z0 _ q
      rw [X.new] at this; cases this
    · rw [List.lookup_cons] at e
      split at e
      · rename_i q
        cases e
        rw [beq_iff_eq.mp q]
        exact ⟨_, .inl ⟨k1.2, hm⟩, rfl, t0.mono (fun _ q => q) fun a o _ e => hk a o e⟩
      · cases e
    · obtain ⟨g1, g2⟩ := hcells x a e
      exact ⟨fun q => (by have := z0 _ q; rw [g1] at this; cases this), fun v => v, g2, fun _ => g1⟩
  have hv : ∀ a, ¬ (cxLaw w env s fun a => a = lst).V a := fun _ v => v
  have ho : ∀ Z' s', St (cxLaw w env s fun a => a = lst) [("script", .v (.list (ns.map D.int)))] Z' s' → ∀ a, s'.heap.get? a = none → s.heap.get? a = none := fun Z' s' S' a e => stays_none (fun b o q => S'.keep b o (hv b) q) e
  refine wpAny_execs_cons (wpAny_Assign_Name (Call_ (name_glob S (gl__law_deck _) k3 rfl (callWith_K (K := KF w) (h₀ := h₁) S.stk.K (kp__law_deck _) ((evl_cons (ev_local (x := "script") rfl k1.1 k1.2 rfl) evl_nil he).run p4 _ _ _ E S fun us s₂ Z₂ S₂ l₂ t₂ => ⟨S₂.stk.K, ?_⟩) he rfl)) h1) hsw)
  cases t₂ using TrL.c1 with
  | cons t =>
    refine deck_call (xs := ns) (by omega) (S₂.rdy (show 1 ≤ 20 by decide)) t fun h' tk dk l k2' n1 n2 D => ?_
    have S₃ := S₂.deckIn (tk := tk) hv (fun x e => by
      rw [List.lookup_cons] at e
      split at e <;> cases e) k2' n1 n2 D
    obtain ⟨m', own, lc⟩ := S₃.loc
    refine store_any (b := .deck) (O := []) (x := "deck") S₃ lc (fun _ _ _ => ⟨rfl, rfl⟩) (fun a ha => nomatch ha) (fun a ha => nomatch ha) (fun a ha => nomatch ha) (.inr ⟨k2.1, k2.2, rfl⟩) fun s₄ S₄ _ _ => ?_
    exact h dk l s₄ Z₂ (fun n ρ Z s' hn S' => X.rdyB S' (ho _ _ S₂ _ n1) (ho _ _ S₂ _ n2) hn) S₄
end
end
section
/-- statements that end in return True, whatever is drawn -/
def Fin (B : Heap) (c : Cx) (ρ : Rho) (sts : List Stmt) : Prop := ∀ (s : Shared) (Z : Addr → Prop) (Q : Flow → Shared → Prop) (E : Value → Shared → Prop), St c ρ Z s →
  (∀ h tk, B.StaysIn h → Q (.ret (.bool true)) { c.s0 with heap := h, toks := tk }) → wpAny (model PP c.w) c.A (execs sts c.env) Q E s
section
variable {B : Heap} {c : Cx} {ρ ρ₁ : Rho} {st : Stmt} {rest : List Stmt} {dk l : Addr}
theorem fin_cons (Pr : Rho → Prop) (h : Exs c ρ [st] fun o r => o = .next ∧ Pr r) (k : ∀ r, Pr r → Fin B c r rest) : Fin B c ρ (st :: rest) := fun s Z Q E S q =>
  exk_pre S h fun r s₁ Z₁ p S₁ _ => k r p s₁ Z₁ Q E S₁ q
theorem Fin.pre (h : Fin B c ρ₁ rest) (k : Sub ρ₁ ρ) : Fin B c ρ rest := fun s Z Q E S q => h s Z Q E (S.weak k) q
theorem ev_draw {p p1 p2 pos : Pos} {many : Int} {kk : Nat} (hc : DeckCx c dk l) (hl : ρ.lookup (Str.ofString "deck") = some .deck) (hkd : (c.env.kindOf (Str.ofString "deck") = some .local ∧ c.env.cells.lookup (Str.ofString "deck") = none) ∨ ((c.env.kindOf (Str.ofString "deck") = some .cell ∨ c.env.kindOf (Str.ofString "deck") = some .free) ∧ (c.env.cells.lookup (Str.ofString "deck")).isSome = true)) (hn : 1 ≤ c.n) (hm : 1 ≤ many) (hk : c.env.kindOf (Str.ofString "_law_draw") = some .globalImplicit)
    (he : starEach [.Name "deck" p1, .Constant (.int many) kk p2] c.env = (false, eval (.Name "deck" p1) c.env) :: starEach [.Constant (.int many) kk p2] c.env) (he' : starEach [.Constant (.int many) kk p2] c.env = (false, eval (.Constant (.int many) kk p2) c.env) :: starEach [] c.env)
    (hp : (backTo pos (starEach [.Constant (.int many) kk p2] c.env)).any (·.1) = false)
    (h1 : eval (.Call (.Name "_law_draw" p) [.Name "deck" p1, .Constant (.int many) kk p2] [] pos) c.env = (do callWith pos (← eval (.Name "_law_draw" p) c.env) [] (backTo pos (starEach [.Name "deck" p1, .Constant (.int many) kk p2] c.env)) (backToKw pos (keywordEach [] c.env)))) :
    EvP c ρ (eval (.Call (.Name "_law_draw" p) [.Name "deck" p1, .Constant (.int many) kk p2] [] pos) c.env) ρ (fun d => ∃ r : Nat, (r : Int) < many ∧ d = .int (r : Nat)) := ev_draw_of draw_call hc hl hkd hn hm hk he he' hp h1
theorem all_map {α : Type} {f : α → D} {Pa : α → Prop} : ∀ {rs : List D}, (∀ d ∈ rs, ∃ a, Pa a ∧ d = f a) → ∃ as : List α, rs = as.map f ∧ ∀ a ∈ as, Pa a
  | [], _ => ⟨[], rfl, fun a h => nomatch h⟩
  | d :: r, h => by
    obtain ⟨a, pa, e⟩ := h d (.head _)
    obtain ⟨as, e', ha⟩ := all_map fun x hx => h x (.tail _ hx)
    exact ⟨a :: as, by rw [e, e', List.map_cons], fun b hb => by
      rcases List.mem_cons.mp hb with rfl | hb
      · exact pa
      · exact ha b hb⟩
theorem op_item_of {α : Type} {f : α → D} {xs : List α} {i : Expr} {v : Expr} {n k : Nat} (hk : k < xs.length) (hl : xs.length ≤ 16777216) (hs : ∀ o k, subscripted i false o k = operate [o, k] (getItem o k)) (ht : ∀ o r, letTemporaryGo v o r = pure ()) :
    Op2 (subscriptTail v i) n (.list (xs.map f)) (.int (k : Nat)) (fun d => ∃ a, a ∈ xs ∧ d = f a) := by
  refine (op_item_list (Int.natCast_nonneg k) (by rw [List.length_map]; omega) (by rw [List.length_map]; exact hl) hs ht).weak fun d e => ⟨xs[k], List.getElem_mem hk, ?_⟩
  rw [e, Int.toNat_natCast, List.getD_eq_getElem?_getD, List.getElem?_map, List.getElem?_eq_getElem hk]
  rfl
end
theorem op_bytes_take {l : List Nat} (hl : l.length ≤ 100) (hb : ∀ k ∈ l, k < 256) {size n : Nat} {d : D} (hd : d = .list (cut (l.map fun k : Nat => D.int (k : Int)) none (some (size : Int)))) : OpC (.type "bytes") n [d] (· = .bytes (l.take size)) := by
  rw [hd, cut_upto, ← List.map_take]
  exact op_bytes_ints (fun k hk => hb k (List.mem_of_mem_take hk)) (by rw [List.length_take]; omega)
theorem five_nodup (n : Nat) : [n + 1 + 1 + 1 + 1 + 1, n + 1 + 1 + 1 + 1, n + 1 + 1 + 1, n + 1 + 1, n + 1].Nodup := by
  simp only [List.nodup_cons, List.mem_cons, List.not_mem_nil, or_false, not_or, not_false_iff, and_true, List.nodup_nil]
  omega
theorem lt_of_cast {r k : Nat} (h : (r : Int) < (k : Nat)) : r < k := by omega
theorem rng_op {k : Nat} (hk : k ≤ 1000) : ∀ d₁, (∃ r : Nat, (r : Int) < (k : Nat) ∧ d₁ = .int (r : Nat)) → OpC (.type "range") 0 [d₁] (fun d => ∃ n : Nat, n < k ∧ d = .rng 0 1 n) := by
  rintro d ⟨r, h, rfl⟩
  refine (op_range1 (Int.natCast_nonneg r) (by omega)).weak fun d e => ⟨r, by omega, ?_⟩
  rw [e, Int.toNat_natCast]
theorem item_op {α : Type} {f : α → D} {xs : List α} {i v : Expr} {k : Nat} (hk : xs.length = k) (hl : k ≤ 1000) (hs : ∀ o k, subscripted i false o k = operate [o, k] (getItem o k)) (ht : ∀ o r, letTemporaryGo v o r = pure ()) :
    ∀ d₂, (∃ r : Nat, (r : Int) < (k : Nat) ∧ d₂ = .int (r : Nat)) → Op2 (subscriptTail v i) 0 (.list (xs.map f)) d₂ (fun d => ∃ a, a ∈ xs ∧ d = f a) := by
  rintro d ⟨r, h, rfl⟩
  exact op_item_of (by omega) (by omega) hs ht
theorem eqvL_self {α : Type} {n : Nat} {f : α → D} : ∀ {l : List α}, (∀ a ∈ l, Eqv n (f a) (f a) true) → EqvL n (l.map f) (l.map f) true
  | [], _ => .nil
  | a :: r, h => .cons (h a (.head _)) (eqvL_self fun b hb => h b (.tail _ hb))
theorem eqv_str {n : Nat} (a : List Nat) : Eqv n (.str a) (.str a) true := by have := Eqv.str (n := n) a a; rwa [beq_self_eq_true] at this
theorem eqv_bytes {n : Nat} (a : List Nat) : Eqv n (.bytes a) (.bytes a) true := by have := Eqv.bytes (n := n) a a; rwa [beq_self_eq_true] at this
theorem eqv_int {n : Nat} (a : Int) : Eqv n (.int a) (.int a) true := by have := Eqv.int (n := n) a a; rwa [beq_self_eq_true] at this
theorem due_ne {refs : List RefN} {words shallow : List (List Nat)} {k : Int} : Op2 (compareOp .NotEq) 0 (.list (dueD refs words shallow ++ [.int k])) (.list (dueD refs words shallow ++ [.int k])) (· = .bool false) :=
  op_ne_list (m := 2) (b := true) (.list (.cons (.list (eqvL_self fun a _ => .tup (.cons (eqv_str _) (.cons (eqv_bytes _) .nil)))) (.cons (.list (eqvL_self fun a _ => eqv_str _)) (.cons (.list (eqvL_self fun a _ => eqv_bytes _)) (.cons (eqv_int _) .nil))))) (by decide)
theorem find_filter {α : Type} {p : α → Bool} : ∀ l : List α, l.find? p = (l.filter p).head?
  | [] => rfl
  | a :: r => by
    rw [List.find?_cons, List.filter_cons]
    cases h : p a with
    | true => rfl
    | false => exact find_filter r
theorem id_or {refs : List RefN} {nm : List Nat} : (∃ l, idOf refs nm = .bytes l) ∨ idOf refs nm = .none := by
  unfold idOf
  split
  · exact .inl ⟨_, rfl⟩
  · exact .inr rfl
theorem id_is {refs : List RefN} {nm : List Nat} : idOf refs nm = ((refs.filter fun r => r.1 == nm).map fun r => D.bytes r.2).getD 0 .none := by
  unfold idOf
  rw [find_filter]
  cases (refs.filter fun r => r.1 == nm) <;> rfl
theorem head_or {words : List (List Nat)} : headOf words = .none ∨ (∃ l, headOf words = .bytes l) ∨ ∃ l, headOf words = .str l := by
  unfold headOf
  split
  · exact .inr (.inr ⟨_, rfl⟩)
  · exact .inl rfl
theorem head_is {words : List (List Nat)} : headOf words = ((words.filter fun w => w.take 12 == hdN).map fun w => D.str (w.drop 12)).getD 0 .none := by
  unfold headOf
  rw [find_filter]
  cases (words.filter fun w => w.take 12 == hdN) <;> rfl
section
variable {c : Cx} {ρ : Rho} {x : Str} {ds : List D}
theorem evt_same {l r : Expr} {pos : Pos} {d : D} (h₁ : Ev c ρ l ρ d) (h₂ : Ev c ρ r ρ d) (o : Op2 (compareOp .NotEq) 0 d d (· = .bool false)) (hm : behindInMarks .NotEq r = false) : EvT c ρ (.Compare l [.NotEq] [r] pos) ρ false := evt_cmp' h₁ h₂ o hm
/-- if l != r: .. where both are equal -/
theorem fin_same {B : Heap} {l r : Expr} {pos ps : Pos} {aa rest : List Stmt} (d : D) (o : Op2 (compareOp .NotEq) 0 d d (· = .bool false)) (h₁ : Ev c ρ l ρ d) (h₂ : Ev c ρ r ρ d) (hm : behindInMarks .NotEq r = false) (k : Fin B c ρ rest) : Fin B c ρ (.If (.Compare l [.NotEq] [r] pos) aa [] ps :: rest) :=
  fin_cons (· = ρ) (exs_if0 false (evt_same h₁ h₂ o hm) rfl (fun q => by cases q) fun _ => exs_done ⟨rfl, rfl⟩) fun r e => e ▸ k
/-- x[0] if x != [] else None -/
theorem ev_first {p p1 p2 p3 p4 lp pos : Pos} {k1 k2 : Nat} (hl : ρ.lookup x = some (.own ds)) (hk : c.env.kindOf x = some .local) (hc : c.env.cells.lookup x = none) (hd : (x == ("__debug__" : Str)) = false) (hm : behindInMarks .NotEq (.List [] lp) = false)
    (hs : ∀ o i, subscripted (.Constant (.int (0 : Nat)) k1 p2) false o i = operate [o, i] (getItem o i)) : Ev c ρ (.IfExp (.Compare (.Name x p) [.NotEq] [.List [] lp] p1) (.Subscript (.Name x p3) (.Constant (.int (0 : Nat)) k1 p2) p4) (.Constant .none k2 pos) pos) ρ (ds.getD 0 .none) := by
  refine ev_ifx (evt_own_ne hl hk hc hd hm) (fun h => ?_) (fun h => ?_)
  · cases ds with
    | nil => cases h
    | cons d r => exact ev_own_item hl rfl hk hc hd (by decide) hs
  · cases ds with
    | nil => exact ev_none
    | cons d r => cases h
end
abbrev bAdv (refs : List RefN) (words shallow : List (List Nat)) : Str × Bd := (Str.ofString "advert", .v (.adv (refs.map refD) (words.map D.str) (shallow.map D.bytes)))
abbrev bRows (rows : List (List Nat)) : Str × Bd := (Str.ofString "rows", .v (.list (rows.map D.bytes)))
abbrev bOct (o : List Nat) : Str × Bd := (Str.ofString "octets", .v (.bytes o))
abbrev bDue (refs : List RefN) (words shallow : List (List Nat)) : Str × Bd := (Str.ofString "due", .v (.list (dueD refs words shallow)))
abbrev bHead (o : List Nat) : Str × Bd := (Str.ofString "head", .v (.bytes o))
abbrev bBare (o : List Nat) : Str × Bd := (Str.ofString "bare", .v (.bytes o))
abbrev bNames : Str × Bd := (Str.ofString "names", .v (.list (namesL.map D.str)))
abbrev bIds (size : Nat) : Str × Bd := (Str.ofString "ids", .v (.list ((idsL size).map D.bytes)))
abbrev bSize (size : Nat) : Str × Bd := (Str.ofString "size", .v (.int (size : Nat)))
abbrev bDeck : Str × Bd := (Str.ofString "deck", .deck)
abbrev bRefs (refs : List RefN) : Str × Bd := (Str.ofString "refs", .v (.list (refs.map refD)))
abbrev bWords (words : List (List Nat)) : Str × Bd := (Str.ofString "words", .v (.list (words.map D.str)))
abbrev bSh (shallow : List (List Nat)) : Str × Bd := (Str.ofString "shallow", .v (.list (shallow.map D.bytes)))
abbrev bGo (i : Int) : Str × Bd := (Str.ofString "go", .v (.int i))
set_option maxHeartbeats 8000000 in
theorem try1 : PySem.Challenge.rw_pb0106_01.Holds := by
  refine hd ?_
  k_go0
  rename_i w s₀ s₁ mg mb G Y fa o pm doc ho hg KX X V GL T BB TE TW w9 w8 M w7 w6 hcd ns hs hlay0 hL1 hr1 hl2 w4 w3 lst vs w0 hL ra w1 r0 hI hr hcond hT K0 hD h₁ tk₁ F o5 o4 o3 o2 o1 c5 c4 c3 c2 c1 N0 X0
  refine wpAny_mono (Q := fun f s' => f = .ret (.bool true) ∧ ∃ h tk, s₁.heap.StaysIn h ∧ s' = { s₁ with heap := h, toks := tk }) (E := fun _ _ => False) ?_ (fun f s' hf => ?_) (fun e s' h => h.elim)
  · clear hD
    refine law_open (w := w) (s := s₁) (lst := lst) (vs := vs) (ns := ns) ?_ hL hI ?_ F.keep F.ns ?_ ?_ ⟨rfl, rfl⟩ ⟨rfl, rfl⟩ rfl rfl rfl rfl ?_
    · exact ⟨rfl, KX, ⟨_, _, topRead_of T⟩, rfl, get_size _, rfl, rfl, Inj.of (five_nodup _)⟩
    · omega
    · rfl
    · intro x a e
      have hm := lookup_mem e
      change (x, a) ∈ [(_, _), (_, _), (_, _), (_, _), (_, _)] at hm
      rcases List.mem_cons.mp hm with h | hm
      · cases h; exact ⟨(N0 _ (.head _)).2.2, _, _, (N0 _ (.head _)).1, c5⟩
      rcases List.mem_cons.mp hm with h | hm
      · cases h; exact ⟨(N0 _ (.tail _ (.head _))).2.2, _, _, (N0 _ (.tail _ (.head _))).1, c4⟩
      rcases List.mem_cons.mp hm with h | hm
      · cases h; exact ⟨(N0 _ (.tail _ (.tail _ (.head _)))).2.2, _, _, (N0 _ (.tail _ (.tail _ (.head _)))).1, c3⟩
      rcases List.mem_cons.mp hm with h | hm
      · cases h; exact ⟨(N0 _ (.tail _ (.tail _ (.tail _ (.head _))))).2.2, _, _, (N0 _ (.tail _ (.tail _ (.tail _ (.head _))))).1, c2⟩
      rcases List.mem_cons.mp hm with h | hm
      · cases h; exact ⟨(N0 _ (.tail _ (.tail _ (.tail _ (.tail _ (.head _)))))).2.2, _, _, (N0 _ (.tail _ (.tail _ (.tail _ (.tail _ (.head _)))))).1, c1⟩
      · cases hm
    · intro dk l s' Z' hB S
      refine (show Fin s₁.heap (cxD (cxLaw w _ s₁ fun a => a = lst) dk l) _ _ from ?_) s' Z' _ _ S fun h tk st => ⟨rfl, h, tk, st, rfl⟩
      clear S F N0 X0 c1 c2 c3 c4 c5 hcd K0 G Y hg ho X V GL T BB TE TW M ra w1 r0 hI hL
      refine fin_cons (fun r => ∃ size : Nat, (size = 3 ∨ size = 4) ∧ r = ([bNames, bSize size, bDeck, ("script", .v (.list (ns.map D.int)))] : Rho)) (exs_pairP (ρ₁ := [bDeck, ("script", .v (.list (ns.map D.int)))]) (P₁ := fun d => ∃ size : Nat, (size = 3 ∨ size = 4) ∧ d = .int (size : Nat)) (P₂ := (· = .list (namesL.map D.str)))
        (ev_tupP (ρ₁ := [bDeck, ("script", .v (.list (ns.map D.int)))]) (ρ₂ := [bDeck, ("script", .v (.list (ns.map D.int)))]) (ev_binPr ev_int (ev_draw (dk := dk) (l := l) ⟨rfl, rfl, rfl⟩ rfl (.inr ⟨.inl rfl, rfl⟩) (Nat.le_of_ble_eq_true rfl) (by decide) rfl rfl rfl rfl rfl) ?_) ?_ rfl rfl) (.inl ⟨rfl, rfl⟩) (.inr ⟨rfl, rfl, rfl⟩) rfl rfl ?_) ?_
      · rintro d ⟨r, h, rfl⟩
        refine op_add.weak fun d e => ⟨3 + r, by omega, ?_⟩
        rw [e]; simp
      · apply Ev.cast
        · repeat' (walk_at "j1")
        · rfl
      · rintro d₁ d₂ ⟨size, h, rfl⟩ rfl
        exact exs_done ⟨rfl, size, h, rfl⟩
      rintro r ⟨size, hsz, rfl⟩
      refine Fin.pre (ρ₁ := [bSize size, bNames, bDeck]) ?_ (Sub.cons rfl (Sub.cons rfl (Sub.cons rfl Sub.nil)))
      clear hlay0 hL1 hr1 hl2 hr hcond hs
      refine fin_cons (fun r => r = ([bIds size, bSize size, bNames, bDeck] : Rho)) (exs_asg0 (.list ((idsL size).map D.bytes)) ?_ (.inr ⟨rfl, rfl, rfl⟩) rfl (exs_done ⟨rfl, rfl⟩)) ?_
      · refine Ev.cast (ev_list (ds := (idsL size).map D.bytes) (evl_cons0 ?_ (evl_cons0 ?_ (evl_cons0 ?_ evl_nil rfl) rfl) rfl) (by show 3 ≤ sizeLine; decide)) rfl
        · refine ec_bytes (ds := [.list (cut [.int 171, .int 205, .int 7, .int 16] none (some ((size : Nat) : Int)))]) rfl ?_ (op_bytes_take (l := [171, 205, 7, 16]) (size := size) (by decide) (by decide) rfl) rfl rfl rfl (Nat.zero_le _)
          refine evl_cons0 (ev_slice_any ?_ evo_none (evo_some (ev_local rfl rfl rfl rfl)) (Nat.le_of_ble_eq_true rfl)) evl_nil rfl
          repeat' (walk_at "j1")
        · refine ec_bytes (ds := [.list (cut [.int 0, .int 0, .int 1, .int 255] none (some ((size : Nat) : Int)))]) rfl ?_ (op_bytes_take (l := [0, 0, 1, 255]) (size := size) (by decide) (by decide) rfl) rfl rfl rfl (Nat.zero_le _)
          refine evl_cons0 (ev_slice_any ?_ evo_none (evo_some (ev_local rfl rfl rfl rfl)) (Nat.le_of_ble_eq_true rfl)) evl_nil rfl
          repeat' (walk_at "j1")
        · refine ec_bytes (ds := [.list (cut [.int 16, .int 32, .int 48, .int 64] none (some ((size : Nat) : Int)))]) rfl ?_ (op_bytes_take (l := [16, 32, 48, 64]) (size := size) (by decide) (by decide) rfl) rfl rfl rfl (Nat.zero_le _)
          refine evl_cons0 (ev_slice_any ?_ evo_none (evo_some (ev_local rfl rfl rfl rfl)) (Nat.le_of_ble_eq_true rfl)) evl_nil rfl
          repeat' (walk_at "j1")
      rintro r rfl
      refine fin_cons (fun r => ∃ refs : List RefN, refs.length < 4 ∧ (∀ x ∈ refs, x.1 ∈ namesL ∧ x.2 ∈ idsL size) ∧ r = ([bRefs refs, bIds size, bSize size, bNames, bDeck] : Rho)) ?_ ?_
      · refine exs_drawn (k := 4) (PE := fun d => ∃ x : RefN, (x.1 ∈ namesL ∧ x.2 ∈ idsL size) ∧ d = refD x) (ρf := [bDeck, bIds size, bNames]) ?_ (by decide) rfl rfl rfl rfl (CL.cons rfl (CL.cons rfl (CL.cons rfl CL.nil))) (fun _ _ _ => .inl ⟨rfl, rfl⟩) (HF.deck rfl rfl (HF.cons rfl rfl (HF.cons rfl rfl HF.nil))) rfl (fun _ => rfl) (.inl ⟨rfl, rfl⟩) rfl (fun i C s0 Z0 => ?_) (fun rs hl hall => ?_)
        · exact ev_callP gb_range rfl (by decide) rfl (ev_draw (dk := dk) (l := l) ⟨rfl, rfl, rfl⟩ rfl (.inr ⟨.inl rfl, rfl⟩) (Nat.le_of_ble_eq_true rfl) (by decide) rfl rfl rfl rfl rfl) (rng_op (k := 4) (by decide)) rfl rfl rfl (Nat.zero_le _)
        · refine EvP.weak (ev_tupP (ρ₁ := [bGo i, bDeck, bIds size, bNames]) (ρ₂ := [bGo i, bDeck, bIds size, bNames]) (P₁ := fun d => ∃ a, a ∈ namesL ∧ d = .str a) (P₂ := fun d => ∃ a, a ∈ idsL size ∧ d = .bytes a) (ev_subP (ev_cell rfl rfl rfl rfl) ?_ (item_op (k := 5) rfl (by decide) (fun _ _ => by with_unfolding_all rfl) (fun _ _ => by with_unfolding_all rfl))) (ev_subP (ev_cell rfl rfl rfl rfl) ?_ (item_op (k := 3) rfl (by decide) (fun _ _ => by with_unfolding_all rfl) (fun _ _ => by with_unfolding_all rfl))) rfl rfl)
            (fun d ⟨d₁, d₂, ⟨a, ha, e₁⟩, ⟨b, hb, e₂⟩, e⟩ => ⟨(a, b), ⟨ha, hb⟩, by rw [e, e₁, e₂]; rfl⟩)
          · exact ev_draw (dk := dk) (l := l) ⟨rfl, rfl, rfl⟩ rfl (.inr ⟨.inl rfl, rfl⟩) (Nat.le_of_ble_eq_true rfl) (by decide) rfl rfl rfl rfl rfl
          · exact ev_draw (dk := dk) (l := l) ⟨rfl, rfl, rfl⟩ rfl (.inr ⟨.inl rfl, rfl⟩) (Nat.le_of_ble_eq_true rfl) (by decide) rfl rfl rfl rfl rfl
        · obtain ⟨refs, rfl, hr⟩ := all_map hall
          rw [List.length_map] at hl
          exact exs_done ⟨rfl, refs, hl, hr, rfl⟩
      rintro r ⟨refs, hrl, hrs, rfl⟩
      refine fin_cons (fun r => r = ([bWords wordsL, bRefs refs, bIds size, bSize size, bNames, bDeck] : Rho)) (exs_asg0 (.list (wordsL.map D.str)) ?_ (.inr ⟨rfl, rfl, rfl⟩) rfl (exs_done ⟨rfl, rfl⟩)) ?_
      · apply Ev.cast
        · repeat' (walk_at "j1")
        · rfl
      rintro r rfl
      refine fin_cons (fun r => ∃ words : List (List Nat), words.length < 4 ∧ (∀ x ∈ words, x ∈ wordsL) ∧ Sub [bWords words, bRefs refs, bIds size, bSize size, bNames, bDeck] r) ?_ ?_
      · refine exs_drawnF (k := 4) (PE := fun d => ∃ x : List Nat, x ∈ wordsL ∧ d = .str x) (ρf := [bDeck, bWords wordsL]) ?_ (by decide) rfl rfl rfl rfl (CL.cons rfl (CL.cons rfl CL.nil)) (fun _ _ _ => .inl ⟨rfl, rfl⟩) (HF.deck rfl rfl (HF.cons rfl rfl HF.nil)) rfl (fun _ => rfl) (.inr ⟨rfl, rfl, rfl⟩) rfl (fun i C s0 Z0 => ?_) (fun rs hl hall => ?_)
        · exact ev_callP gb_range rfl (by decide) rfl (ev_draw (dk := dk) (l := l) ⟨rfl, rfl, rfl⟩ rfl (.inr ⟨.inl rfl, rfl⟩) (Nat.le_of_ble_eq_true rfl) (by decide) rfl rfl rfl rfl rfl) (rng_op (k := 4) (by decide)) rfl rfl rfl (Nat.zero_le _)
        · refine ev_subP (ev_cell rfl rfl rfl rfl) ?_ (item_op (k := 5) rfl (by decide) (fun _ _ => by with_unfolding_all rfl) (fun _ _ => by with_unfolding_all rfl))
          exact ev_draw (dk := dk) (l := l) ⟨rfl, rfl, rfl⟩ rfl (.inr ⟨.inl rfl, rfl⟩) (Nat.le_of_ble_eq_true rfl) (by decide) rfl rfl rfl rfl rfl
        · obtain ⟨words, rfl, hr⟩ := all_map hall
          rw [List.length_map] at hl
          exact exs_done ⟨rfl, words, hl, hr, Sub.cons rfl (Sub.cons rfl (Sub.cons rfl (Sub.cons rfl (Sub.cons rfl (Sub.cons rfl Sub.nil)))))⟩
      rintro r ⟨words, hwl, hws, hsub⟩
      refine Fin.pre ?_ hsub
      clear hsub
      refine fin_cons (fun r => ∃ shallow : List (List Nat), shallow.length < 3 ∧ (∀ x ∈ shallow, x ∈ idsL size) ∧ r = ([bSh shallow, bWords words, bRefs refs, bIds size, bSize size, bNames, bDeck] : Rho)) ?_ ?_
      · refine exs_drawn (k := 3) (PE := fun d => ∃ x : List Nat, x ∈ idsL size ∧ d = .bytes x) (ρf := [bDeck, bIds size]) ?_ (by decide) rfl rfl rfl rfl (CL.cons rfl (CL.cons rfl CL.nil)) (fun _ _ _ => .inl ⟨rfl, rfl⟩) (HF.deck rfl rfl (HF.cons rfl rfl HF.nil)) rfl (fun _ => rfl) (.inl ⟨rfl, rfl⟩) rfl (fun i C s0 Z0 => ?_) (fun rs hl hall => ?_)
        · exact ev_callP gb_range rfl (by decide) rfl (ev_draw (dk := dk) (l := l) ⟨rfl, rfl, rfl⟩ rfl (.inr ⟨.inl rfl, rfl⟩) (Nat.le_of_ble_eq_true rfl) (by decide) rfl rfl rfl rfl rfl) (rng_op (k := 3) (by decide)) rfl rfl rfl (Nat.zero_le _)
        · refine ev_subP (ev_cell rfl rfl rfl rfl) ?_ (item_op (k := 3) rfl (by decide) (fun _ _ => by with_unfolding_all rfl) (fun _ _ => by with_unfolding_all rfl))
          exact ev_draw (dk := dk) (l := l) ⟨rfl, rfl, rfl⟩ rfl (.inr ⟨.inl rfl, rfl⟩) (Nat.le_of_ble_eq_true rfl) (by decide) rfl rfl rfl rfl rfl
        · obtain ⟨shallow, rfl, hr⟩ := all_map hall
          rw [List.length_map] at hl
          exact exs_done ⟨rfl, shallow, hl, hr, rfl⟩
      rintro r ⟨shallow, hsl, hss, rfl⟩
      have I : LawIn refs words shallow size := ⟨hsz, hrl, hwl, hsl, hrs, hws, hss⟩
      clear hrl hwl hsl hrs hws hss
      obtain ⟨rows, hrows⟩ : ∃ rows, rows = rowsN refs words shallow size := ⟨_, rfl⟩
      have hF1 := I.framed_len (feed := [10]) (by decide)
      have hF0 := I.framed_len (feed := []) (by decide)
      have hRl := I.rows_len
      rw [← hrows] at hF1 hF0 hRl
      refine fin_cons (fun r => r = ([bRows rows, bSh shallow, bWords words, bRefs refs, bIds size, bSize size, bNames, bDeck] : Rho)) (exs_asg0 (.list (rows.map D.bytes)) ?_ (.inl ⟨rfl, rfl⟩) rfl (exs_done ⟨rfl, rfl⟩)) ?_
      · refine ec__law_rows (ds := [.list (refs.map refD), .list (words.map D.str), .list (shallow.map D.bytes), .int (size : Nat)]) rfl ?_ (hrows ▸ law_rows_ok I.inp) rfl rfl rfl (Nat.le_of_ble_eq_true rfl)
        repeat' (walk_at "j1")
      rintro r rfl
      refine fin_cons (fun r => r = ([bAdv refs words shallow, bOct (framedN rows [10] ++ Z4), bRows rows, bSh shallow, bWords words, bRefs refs, bIds size, bSize size, bNames, bDeck] : Rho)) (exs_step (ex_swap (d₁ := .adv (refs.map refD) (words.map D.str) (shallow.map D.bytes)) (d₂ := .bytes (framedN rows [10] ++ Z4)) (evl_cons0 ?_ (evl_cons0 ?_ evl_nil rfl) rfl) (.inl ⟨rfl, rfl⟩) (.inl ⟨rfl, rfl⟩) rfl rfl) (exs_done ⟨rfl, rfl⟩)) ?_
      · refine ec_Advert (ds := [.list (refs.map refD), .list (words.map D.str), .list (shallow.map D.bytes)]) rfl ?_ (adv_call ?_ ?_ ?_) rfl rfl rfl (Nat.le_of_ble_eq_true rfl)
        · repeat' (walk_at "j1")
        · rw [List.length_map]; have := I.nrefs; omega
        · rw [List.length_map]; have := I.nwords; omega
        · rw [List.length_map]; have := I.nsh; omega
      · exact ev_framed rfl (ev_local rfl rfl rfl rfl) rfl (by omega) (by omega) rfl rfl rfl rfl (Nat.le_of_ble_eq_true rfl)
      rintro r rfl
      refine fin_same (.bytes (framedN rows [10] ++ Z4)) (op_ne_self (.inr (.inl ⟨_, rfl⟩))) ?_ (ev_local rfl rfl rfl rfl) rfl ?_
      · refine ev_methF (n := 3) (ds := [.int (size : Nat)]) (ev_local rfl rfl rfl rfl) meth_octets adv_k1 (evl_cons0 (ev_local rfl rfl rfl rfl) evl_nil rfl) ?_ rfl rfl rfl (Nat.le_of_ble_eq_true rfl)
        rw [hrows]
        exact octets_ok I.inp (by rw [← hrows]; omega)
      refine fin_cons (fun r => ∃ hN : List Nat, hN.length ≤ 4 ∧ r = ([bDue refs words shallow, bHead hN, bAdv refs words shallow, bOct (framedN rows [10] ++ Z4), bRows rows, bSh shallow, bWords words, bRefs refs, bIds size, bSize size, bNames, bDeck] : Rho)) (exs_swapP (ρ₁ := [bAdv refs words shallow, bOct (framedN rows [10] ++ Z4), bRows rows, bSh shallow, bWords words, bRefs refs, bIds size, bSize size, bNames, bDeck]) (P₁ := (· = .list (dueD refs words shallow))) (P₂ := fun d => ∃ hN : List Nat, hN.length ≤ 4 ∧ d = .bytes hN)
        (ev_list (ds := dueD refs words shallow) (evl_cons0 (ev_local rfl rfl rfl rfl) (evl_cons0 (ev_cell rfl rfl rfl rfl) (evl_cons0 (ev_local rfl rfl rfl rfl) evl_nil rfl) rfl) rfl) (by show 3 ≤ sizeLine; decide))
        (evp_call_fn (n := 1) gl__law_octets kp__law_octets rfl (evlp_cons (ev_takeP (l := [108, 101, 102, 116]) (k := 5) (ev_str rfl) (EvP.weak (ev_draw (dk := dk) (l := l) (many := 5) ⟨rfl, rfl, rfl⟩ rfl (.inr ⟨.inl rfl, rfl⟩) (Nat.le_of_ble_eq_true rfl) (by decide) rfl rfl rfl rfl rfl) (fun d ⟨r, h, e⟩ => ⟨r, lt_of_cast h, e⟩)) (by decide)) evlp_nil rfl) ?_ rfl rfl rfl rfl (Nat.le_of_ble_eq_true rfl))
        (.inl ⟨rfl, rfl⟩) (.inl ⟨rfl, rfl⟩) rfl rfl rfl rfl ?_) ?_
      · rintro ds ⟨d, r, rfl, ⟨k, rfl⟩, rfl⟩
        exact (law_octets_ok (by rw [List.length_take]; exact Nat.le_trans (Nat.min_le_right _ _) (by decide)) (fun x hx => (by decide : ∀ x ∈ [108, 101, 102, 116], x < 256) x (List.mem_of_mem_take hx))).weak fun d e => ⟨_, by rw [List.length_take]; exact Nat.min_le_right _ _, e⟩
      · rintro d₁ d₂ rfl ⟨hN, hl, rfl⟩
        exact exs_done ⟨rfl, hN, hl, rfl⟩
      rintro r ⟨hN, hl4, rfl⟩
      have hlF : (framedN rows [10] ++ Z4).length ≤ 5004 := by rw [List.length_append]; have : Z4.length = 4 := rfl; omega
      refine fin_same (.list (dueD refs words shallow ++ [.int ((hN.length + (framedN rows [10] ++ Z4).length : Nat) : Int)])) due_ne ?_ ?_ rfl ?_
      · refine ec__law_told (ds := [.bytes ((hN ++ (framedN rows [10] ++ Z4)) ++ Z4), .int (size : Nat), .int (hN.length : Nat)]) rfl ?_ ?_ rfl rfl rfl (Nat.le_of_ble_eq_true rfl)
        · refine evl_cons0 (ev_bin' (ev_bin' (ev_local rfl rfl rfl rfl) (ev_local rfl rfl rfl rfl) (op_add_bytes (by omega))) (ev_bytes rfl) (op_add_bytes ?_)) (evl_cons0 (ev_local rfl rfl rfl rfl) (evl_cons0 (ec_len rfl (evl_cons0 (ev_local rfl rfl rfl rfl) evl_nil rfl) (op_len_bytes (by omega)) rfl rfl rfl (Nat.zero_le _)) evl_nil rfl) rfl) rfl
          rw [List.length_append]; show hN.length + _ + 4 ≤ _; omega
        · refine told_ok (I.inp2 (feed := [10]) (.inl rfl)) ?_ ?_
          · rw [List.length_append, List.length_append]; have : Z4.length = 4 := rfl; omega
          · rw [← hrows]
            have := reads_framed (rows := rows) (pre := hN) (feed := [10]) (rest := Z4) (fun r hr => by
              have := (I.rows_no r (hrows ▸ hr)).2
              simp only [List.length_cons, List.length_nil]; omega)
            rw [show hN ++ (framedN rows [10] ++ Z4) ++ Z4 = hN ++ (framedN rows [10] ++ (Z4 ++ Z4)) by simp only [List.append_assoc]]
            exact this
      · apply Ev.cast
        · refine ev_bin' (ev_local rfl rfl rfl rfl) (ev_list (evl_cons0 (ev_bin' (ec_len rfl (evl_cons0 (ev_local rfl rfl rfl rfl) evl_nil rfl) (op_len_bytes (by omega)) rfl rfl rfl (Nat.zero_le _)) (ec_len rfl (evl_cons0 (ev_local rfl rfl rfl rfl) evl_nil rfl) (op_len_bytes (by omega)) rfl rfl rfl (Nat.zero_le _)) op_add) evl_nil rfl) (Nat.le_of_ble_eq_true rfl)) (op_add_list (Nat.le_of_ble_eq_true rfl))
        · rw [Int.natCast_add]
      refine fin_cons (fun r => r = ([bBare (framedN rows [] ++ Z4), bDue refs words shallow, bHead hN, bAdv refs words shallow, bOct (framedN rows [10] ++ Z4), bRows rows, bSh shallow, bWords words, bRefs refs, bIds size, bSize size, bNames, bDeck] : Rho)) (exs_asg0 (.bytes (framedN rows [] ++ Z4)) ?_ (.inl ⟨rfl, rfl⟩) rfl (exs_done ⟨rfl, rfl⟩)) ?_
      · exact ev_framed rfl (ev_local rfl rfl rfl rfl) rfl (by omega) (by omega) rfl rfl rfl rfl (Nat.le_of_ble_eq_true rfl)
      rintro r rfl
      have hlB : (framedN rows [] ++ Z4).length ≤ 5004 := by rw [List.length_append]; have : Z4.length = 4 := rfl; omega
      refine Fin.pre (ρ₁ := [bBare (framedN rows [] ++ Z4), bDue refs words shallow, bAdv refs words shallow, bRows rows, bWords words, bRefs refs, bSize size, bNames, bDeck]) ?_ (Sub.cons rfl (Sub.cons rfl (Sub.cons rfl (Sub.cons rfl (Sub.cons rfl (Sub.cons rfl (Sub.cons rfl (Sub.cons rfl (Sub.cons rfl Sub.nil)))))))))
      refine fin_same (.list (dueD refs words shallow ++ [.int (((framedN rows [] ++ Z4).length : Nat) : Int)])) due_ne ?_ ?_ rfl ?_
      · refine ec__law_told (ds := [.bytes (framedN rows [] ++ Z4), .int (size : Nat), .int ((0 : Nat) : Int)]) rfl ?_ ?_ rfl rfl rfl (Nat.le_of_ble_eq_true rfl)
        · exact evl_cons0 (ev_local rfl rfl rfl rfl) (evl_cons0 (ev_local rfl rfl rfl rfl) (evl_cons0 ev_int evl_nil rfl) rfl) rfl
        · refine told_ok (I.inp2 (feed := []) (.inr rfl)) (by omega) ?_
          rw [← hrows]
          exact reads_framed0 (fun r hr => by
            have := (I.rows_no r (hrows ▸ hr)).2
            simp only [List.length_nil]; omega)
      · exact ev_bin' (ev_local rfl rfl rfl rfl) (ev_list (evl_cons0 (ec_len rfl (evl_cons0 (ev_local rfl rfl rfl rfl) evl_nil rfl) (op_len_bytes (by omega)) rfl rfl rfl (Nat.zero_le _)) evl_nil rfl) (Nat.le_of_ble_eq_true rfl)) (op_add_list (Nat.le_of_ble_eq_true rfl))
      refine Fin.pre (ρ₁ := [bAdv refs words shallow, bRows rows, bWords words, bRefs refs, bSize size, bNames, bDeck]) ?_ (Sub.cons rfl (Sub.cons rfl (Sub.cons rfl (Sub.cons rfl (Sub.cons rfl (Sub.cons rfl (Sub.cons rfl Sub.nil)))))))
      clear hF0 hlF hlB hl4 hN
      refine fin_cons (fun r => r = ([bAdv refs words shallow, bRows rows, bWords words, bRefs refs, bSize size, bNames, bDeck] : Rho)) (exs_forA (as := namesL ++ [[114, 101, 102, 115, 47, 110, 111, 110, 101]]) D.str (fun _ => [bAdv refs words shallow, bRows rows, bWords words, bRefs refs, bSize size, bNames, bDeck]) (d := .list ((namesL ++ [[114, 101, 102, 115, 47, 110, 111, 110, 101]]).map D.str)) ?_ rfl (.inr ⟨rfl, rfl, rfl⟩) Sub.refl ?_ (fun _ => rfl) (exs_done ⟨rfl, rfl⟩)) ?_
      · apply Ev.cast
        · exact ev_bin' (ev_cell rfl rfl rfl rfl) (ev_list (evl_cons0 (ev_str rfl) evl_nil rfl) (Nat.le_of_ble_eq_true rfl)) (op_add_list (Nat.le_of_ble_eq_true rfl))
        · rfl
      · intro done nm rest _
        refine exs_compIf2 (fun d => match d with | .tup [_, b] => b | _ => .none) (fun r : RefN => .str r.1) (fun r : RefN => .bytes r.2) (fun r => .bytes r.2) (fun d => match d with | .tup [.str a, _] => a == nm | _ => false) (fun r => r.1 == nm) (as := refs) (ρf := [(Str.ofString "name", .v (.str nm))]) (ev_local rfl rfl rfl rfl) rfl rfl rfl rfl rfl (CL.cons rfl CL.nil) (fun _ _ _ => .inl ⟨rfl, rfl⟩) (fun _ _ _ => .inl ⟨rfl, rfl⟩) (HF.cons rfl rfl HF.nil) (fun _ => rfl) rfl rfl (by have := I.nrefs; omega) (fun _ => rfl) (fun _ => rfl) (fun r _ C s0 Z0 => ⟨evt_cmp' (ev_local rfl rfl rfl rfl) (ev_cell rfl rfl rfl rfl) op_eq_str rfl, fun _ => ev_local rfl rfl rfl rfl⟩) (.inl ⟨rfl, rfl⟩) rfl ?_
        refine exs_if0 false (evt_same (d := idOf refs nm) ?_ (id_is ▸ ev_first rfl rfl rfl rfl rfl (fun _ _ => by with_unfolding_all rfl)) (op_ne_self (id_or.elim (fun h => .inr (.inl h)) .inl)) rfl) rfl (fun q => by cases q) fun _ => exs_done ⟨.inl rfl, Sub.cons rfl (Sub.cons rfl (Sub.cons rfl (Sub.cons rfl (Sub.cons rfl (Sub.cons rfl (Sub.cons rfl Sub.nil))))))⟩
        exact ev_methF (n := 1) (ds := [.str nm]) (ev_local rfl rfl rfl rfl) meth_id_of adv_k2 (evl_cons0 (ev_cell rfl rfl rfl rfl) evl_nil rfl) (id_of_ok (by have := I.nrefs; omega)) rfl rfl rfl (Nat.le_of_ble_eq_true rfl)
      rintro r rfl
      refine fin_cons (fun r => r = ([(Str.ofString "some", .own ((words.filter fun x => x.take 12 == hdN).map fun x => D.str (x.drop 12))), bAdv refs words shallow, bRows rows, bWords words, bRefs refs, bSize size, bNames, bDeck] : Rho)) ?_ ?_
      · refine exs_compIf (as := words) (fun d => match d with | .str a => .str (a.drop 12) | _ => .none) D.str (fun a => .str (a.drop 12)) (fun d => match d with | .str a => a.take 12 == hdN | _ => false) (fun a => a.take 12 == hdN) (ρf := []) (ev_cell rfl rfl rfl rfl) rfl rfl rfl rfl rfl CL.nil (fun _ _ _ => .inl ⟨rfl, rfl⟩) HF.nil (fun _ => rfl) rfl (by have := I.nwords; omega) (fun _ => rfl) (fun _ => rfl) (fun a ha C s0 Z0 => ?_) (.inl ⟨rfl, rfl⟩) rfl (exs_done ⟨rfl, rfl⟩)
        have hz : a.length ≤ 16777216 := by have := (wordsL_ok a (I.word a ha)).1; omega
        refine ⟨evt_cmp' (d₁ := .str (a.take 12)) (d₂ := .str hdN) ?_ (ev_str rfl) op_eq_str rfl, fun _ => ?_⟩
        · exact Ev.cast (ev_slice_str (ev_local rfl rfl rfl rfl) evo_none (evo_some ev_int) hz) (by rw [show ((12 : Int)) = ((12 : Nat) : Int) from rfl, cut_upto])
        · exact Ev.cast (ev_slice_str (ev_local rfl rfl rfl rfl) (evo_some ev_int) evo_none hz) (by rw [show ((12 : Int)) = ((12 : Nat) : Int) from rfl, cut_from])
      rintro r rfl
      refine fin_same (headOf words) (op_ne_self head_or) ?_ (head_is ▸ ev_first rfl rfl rfl rfl rfl (fun _ _ => by with_unfolding_all rfl)) rfl ?_
      · exact ev_methF0 (n := 1) (ev_local rfl rfl rfl rfl) meth_head_name adv_k3 (head_name_ok (fun w hw => by have := (wordsL_ok w (I.word w hw)).1; omega)) rfl (Nat.le_of_ble_eq_true rfl)
      intro s Z Q E S q
      refine ret_none (B := s₁.heap) (n := 6) (ρ₁ := [(Str.ofString "some", .own ((words.filter fun x => x.take 12 == hdN).map fun x => D.str (x.drop 12))), bAdv refs words shallow, bRows rows, bWords words, bRefs refs, bSize size, bNames, bDeck]) (PL := fun ds => ∃ way < 12, ds = [.bytes ((spoilL rows size).getD way []), .int (size : Nat), .int ((0 : Nat) : Int)]) S gl__law_told kp__law_told rfl (EvLP.weak (evlp_cons (P := fun d => ∃ way < 12, d = .bytes ((spoilL rows size).getD way [])) ?_ (evlp_of (evl_cons0 (ev_local rfl rfl rfl rfl) (evl_cons0 (d := .int ((0 : Nat) : Int)) ev_int evl_nil rfl) rfl)) rfl) ?_) ?_ (fun s' Z' S' => hB 6 _ Z' s' (by decide) S') rfl rfl rfl rfl q
      · refine evp_call_fn (n := 2) gl__law_spoilt kp__law_spoilt rfl (evlp_cons (ρ₁ := [(Str.ofString "some", .own ((words.filter fun x => x.take 12 == hdN).map fun x => D.str (x.drop 12))), bAdv refs words shallow, bRows rows, bWords words, bRefs refs, bSize size, bNames, bDeck]) (P := (· = .list (rows.map D.bytes))) (ev_local rfl rfl rfl rfl) (evlp_cons (ρ₁ := [(Str.ofString "some", .own ((words.filter fun x => x.take 12 == hdN).map fun x => D.str (x.drop 12))), bAdv refs words shallow, bRows rows, bWords words, bRefs refs, bSize size, bNames, bDeck]) (P := (· = .int (size : Nat))) (ev_local rfl rfl rfl rfl) (evlp_cons (ev_draw (dk := dk) (l := l) (many := 12) ⟨rfl, rfl, rfl⟩ rfl (.inr ⟨.inl rfl, rfl⟩) (Nat.le_of_ble_eq_true rfl) (by decide) rfl rfl rfl rfl rfl) evlp_nil rfl) rfl) rfl) ?_ rfl rfl rfl rfl (Nat.le_of_ble_eq_true rfl)
        rintro ds ⟨_, _, rfl, rfl, _, _, rfl, rfl, _, _, rfl, ⟨way, hw, rfl⟩, rfl⟩
        have hw' : way < 12 := by omega
        exact (law_spoilt_ok (by omega) (by omega) (by rcases hsz with h | h <;> omega) hw').weak fun d e => ⟨way, hw', e⟩
      · rintro ds ⟨_, _, rfl, ⟨way, hw, rfl⟩, rfl⟩
        exact ⟨way, hw, rfl⟩
      · rintro ds ⟨way, hw, rfl⟩
        exact told_bad (hrows ▸ way_bad I hw)
  · obtain ⟨rfl, h, tk, hk, rfl⟩ := hf
    exact ⟨.inl ⟨_, .bool true, [], rfl, raisesW_false (by wrow_none_raised), .bool true, by wrow_post, unshared_nil⟩, hk, rfl, hg⟩
end
end Mine

theorem PySem.Challenge.cw_pb0106_01_holds : PySem.Challenge.rw_pb0106_01.Holds :=
  Mine.try1
