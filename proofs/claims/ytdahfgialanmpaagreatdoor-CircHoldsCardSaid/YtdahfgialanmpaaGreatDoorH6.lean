/- CircHolds: a part of the proof of the given statement, which is proved without conditions. -/
import Derived.Test.YtdahfgialanmpaaGreatDoorH5
import Derived.KernelRfl
import Derived.Test.YtdahfgialanmpaaGreatDoorProg
import Derived.Laws.BitsLemmas
set_option linter.all false
namespace Go.Proofs.YtdahfgialanmpaaGreatDoor
set_option maxRecDepth 100000
open Ev
open Go (IntKind)
open Go
noncomputable abbrev ZP:=Tryz.prog
theorem zags:fnB ZP 19 Tryz.f19 [4,9,14]=true:=by kernel_rfl
theorem zaga:CG ZP sg @zap6:=cg0
theorem zavu:zaf ZP sg 0 Tryz.f19 @zjq 4:=zas z8i good Tryz.func19 zags zaga zaa (fun a=>by kernel_rfl) (by kernel_rfl) (fun _ _=>rfl)
theorem zavv:zaf ZP sg 0 Tryz.f19 @zjq 9:=zas z8j good Tryz.func19 zags zaga zaa (fun a=>by kernel_rfl) (by kernel_rfl) (fun _ _=>rfl)
theorem zahf:zaf ZP sg 0 Tryz.f19 @zjq 14:=zas zyv good Tryz.func19 zags zaga zaa (fun a=>by kernel_rfl) (by kernel_rfl) (fun _ _=>rfl)
theorem za2k:SG ZP sg 19 @za5w:=conD (loops:=zjq) good Tryz.func19 zags (by kernel_rfl) zaga (all_cons zavu (all_cons zavv (all_cons zahf zaa))) (fun a=>by kernel_rfl)
theorem zvf:SG ZP sg 258 @zxd:=conE good Tryz.func258 (by kernel_rfl) (by kernel_rfl) cg0 (fun a=>by kernel_rfl)
theorem zamp:fnB ZP 174 Tryz.f174 [2]=true:=by kernel_rfl
theorem zakv:CG ZP sg @zae8:=(cgc zvf cg0)
theorem zahn:zaf ZP sg 0 Tryz.f174 @ztd 2:=zas zy3 good Tryz.func174 zamp zakv zaa (fun a=>by kernel_rfl) (by kernel_rfl) (fun _ _=>rfl)
theorem z55:SG ZP sg 174 @zxc:=conD (loops:=ztd) good Tryz.func174 zamp (by kernel_rfl) zakv (all_cons zahn zaa) (fun a=>by kernel_rfl)
theorem za2p:SG ZP sg 259 @zaph:=conE good Tryz.func259 (by kernel_rfl) (by kernel_rfl) (cgc zvf cg0) (fun a=>by kernel_rfl)
theorem zarj:SG ZP sg 260 @zabk:=conE good Tryz.func260 (by kernel_rfl) (by kernel_rfl) cg0 (fun a=>by kernel_rfl)
theorem zamq:fnB ZP 175 Tryz.f175 [4]=true:=by kernel_rfl
theorem zaks:CG ZP sg @zaey:=(cgc zvf (cgc za2p (cgc zarj cg0)))
theorem zahc:zaf ZP sg 0 Tryz.f175 @zta 4:=zas zys good Tryz.func175 zamq zaks zaa (fun a=>by kernel_rfl) (by kernel_rfl) (fun _ _=>rfl)
theorem zaq8:SG ZP sg 175 @zabf:=conD (loops:=zta) good Tryz.func175 zamq (by kernel_rfl) zaks (all_cons zahc zaa) (fun a=>by kernel_rfl)
theorem za3i:fnB ZP 68 Tryz.f68 [4]=true:=by kernel_rfl
theorem zak3:CG ZP sg @zafg:=(cgc z55 (cgc zaq8 cg0))
theorem zahu:zaf ZP sg 0 Tryz.f68 @ztl 4:=zas zza good Tryz.func68 za3i zak3 zaa (fun a=>by kernel_rfl) (by kernel_rfl) (fun _ _=>rfl)
theorem zarp:SG ZP sg 68 @zabo:=conD (loops:=ztl) good Tryz.func68 za3i (by kernel_rfl) zak3 (all_cons zahu zaa) (fun a=>by kernel_rfl)
theorem za3j:fnB ZP 69 Tryz.f69 [4]=true:=by kernel_rfl
theorem zak2:CG ZP sg @zaff:=cg0
theorem zaht:zaf ZP sg 0 Tryz.f69 @ztk 4:=zas zy9 good Tryz.func69 za3j zak2 zaa (fun a=>by kernel_rfl) (by kernel_rfl) (fun _ _=>rfl)
theorem zaro:SG ZP sg 69 @zabn:=conD (loops:=ztk) good Tryz.func69 za3j (by kernel_rfl) zak2 (all_cons zaht zaa) (fun a=>by kernel_rfl)
theorem z6z:SG ZP sg 261 @zacq:=conE good Tryz.func261 (by kernel_rfl) (by kernel_rfl) cg0 (fun a=>by kernel_rfl)
theorem z63:SG ZP sg 262 @zac3:=conE good Tryz.func262 (by kernel_rfl) (by kernel_rfl) cg0 (fun a=>by kernel_rfl)
theorem zasw:SG ZP sg 176 @zaco:=conE good Tryz.func176 (by kernel_rfl) (by kernel_rfl) (cgc z6z (cgc z63 cg0)) (fun a=>by kernel_rfl)
theorem zagw:fnB ZP 70 Tryz.f70 [4,12,15]=true:=by kernel_rfl
theorem zagc:CG ZP sg @zaqf:=(cgc zasw cg0)
theorem zav5:zaf ZP sg 0 Tryz.f70 @zjs 4:=zas z8u good Tryz.func70 zagw zagc zaa (fun a=>by kernel_rfl) (by kernel_rfl) (fun _ _=>rfl)
theorem z0h:zaf ZP sg 0 Tryz.f70 @zjs 15:=zas z0b good Tryz.func70 zagw zagc zaa (fun a=>by kernel_rfl) (by kernel_rfl) (fun _ _=>rfl)
theorem zaiu:zaf ZP sg 0 Tryz.f70 @zjs 12:=zas z0a good Tryz.func70 zagw zagc (all_cons z0h zaa) (fun a=>by kernel_rfl) (by kernel_rfl) (fun _ _=>rfl)
theorem zal0:SG ZP sg 70 @zadt:=conD (loops:=zjs) good Tryz.func70 zagw (by kernel_rfl) zagc (all_cons zav5 (all_cons zaiu (all_cons z0h zaa))) (fun a=>by kernel_rfl)
theorem zaus:SG ZP sg 177 @zads:=conE good Tryz.func177 (by kernel_rfl) (by kernel_rfl) cg0 (fun a=>by kernel_rfl)
theorem za3k:fnB ZP 71 Tryz.f71 [4]=true:=by kernel_rfl
theorem zakr:CG ZP sg @zaex:=(cgc zaus cg0)
theorem zahb:zaf ZP sg 0 Tryz.f71 @zs9 4:=zas zyr good Tryz.func71 za3k zakr zaa (fun a=>by kernel_rfl) (by kernel_rfl) (fun _ _=>rfl)
theorem zaq7:SG ZP sg 71 @zabe:=conD (loops:=zs9) good Tryz.func71 za3k (by kernel_rfl) zakr (all_cons zahb zaa) (fun a=>by kernel_rfl)
theorem zar5:SG ZP sg 263 @zaye:=conE good Tryz.func263 (by kernel_rfl) (by kernel_rfl) cg0 (fun a=>by kernel_rfl)
theorem zash:SG ZP sg 178 @zab9:=conE good Tryz.func178 (by kernel_rfl) (by kernel_rfl) (cgc zar5 cg0) (fun a=>by kernel_rfl)
theorem zavc:fnB ZP 72 Tryz.f72 [4,9]=true:=by kernel_rfl
theorem zaqv:CG ZP sg @zaqg:=(cgc zash cg0)
theorem z9p:zaf ZP sg 0 Tryz.f72 @zqs 9:=zas z8w good Tryz.func72 zavc zaqv zaa (fun a=>by kernel_rfl) (by kernel_rfl) (fun _ _=>rfl)
theorem zav6:zaf ZP sg 0 Tryz.f72 @zqs 4:=zas z8v good Tryz.func72 zavc zaqv (all_cons z9p zaa) (fun a=>by kernel_rfl) (by kernel_rfl) (fun _ _=>rfl)
theorem za2s:SG ZP sg 72 @zapk:=conD (loops:=zqs) good Tryz.func72 zavc (by kernel_rfl) zaqv (all_cons zav6 (all_cons z9p zaa)) (fun a=>by kernel_rfl)
theorem zavd:fnB ZP 73 Tryz.f73 [6,11]=true:=by kernel_rfl
theorem zaqy:CG ZP sg @zaqr:=cg0
theorem zawi:zaf ZP sg 0 Tryz.f73 @zqv 6:=zas z9b good Tryz.func73 zavd zaqy zaa (fun a=>by kernel_rfl) (by kernel_rfl) (fun _ _=>rfl)
theorem zaiz:zaf ZP sg 0 Tryz.f73 @zqv 11:=zas z0g good Tryz.func73 zavd zaqy zaa (fun a=>by kernel_rfl) (by kernel_rfl) (fun _ _=>rfl)
theorem za23:SG ZP sg 73 @zapp:=conD (loops:=zqv) good Tryz.func73 zavd (by kernel_rfl) zaqy (all_cons zawi (all_cons zaiz zaa)) (fun a=>by kernel_rfl)
theorem zamr:fnB ZP 179 Tryz.f179 [2]=true:=by kernel_rfl
theorem zak8:CG ZP sg @zafl:=cg0
theorem zahz:zaf ZP sg 0 Tryz.f179 @ztq 2:=zas zzf good Tryz.func179 zamr zak8 zaa (fun a=>by kernel_rfl) (by kernel_rfl) (fun _ _=>rfl)
theorem zars:SG ZP sg 179 @zaxz:=conD (loops:=ztq) good Tryz.func179 zamr (by kernel_rfl) zak8 (all_cons zahz zaa) (fun a=>by kernel_rfl)
theorem zic:SG ZP sg 74 @zme:=conE good Tryz.func74 (by kernel_rfl) (by kernel_rfl) (cgc zars cg0) (fun a=>by kernel_rfl)
theorem zasx:SG ZP sg 85 @zacp:=conE good Tryz.func85 (by kernel_rfl) (by kernel_rfl) cg0 (fun a=>by kernel_rfl)
theorem zauy:SG ZP sg 306 @za0k:=conE good Tryz.func306 (by kernel_rfl) (by kernel_rfl) cg0 (fun a=>by kernel_rfl)
theorem zasy:SG ZP sg 275 @zay7:=conE good Tryz.func275 (by kernel_rfl) (by kernel_rfl) (cgc zauy cg0) (fun a=>by kernel_rfl)
theorem zath:SG ZP sg 276 @zazn:=conE good Tryz.func276 (by kernel_rfl) (by kernel_rfl) cg0 (fun a=>by kernel_rfl)
theorem zasj:SG ZP sg 307 @zacb:=conE good Tryz.func307 (by kernel_rfl) (by kernel_rfl) cg0 (fun a=>by kernel_rfl)
theorem zam6:fnB ZP 277 Tryz.f277 [3]=true:=by kernel_rfl
theorem zakz:CG ZP sg @zafc:=(cgc zasj cg0)
theorem zahr:zaf ZP sg 0 Tryz.f277 @zth 3:=zas zy7 good Tryz.func277 zam6 zakz zaa (fun a=>by kernel_rfl) (by kernel_rfl) (fun _ _=>rfl)
theorem zarm:SG ZP sg 277 @zaxu:=conD (loops:=zth) good Tryz.func277 zam6 (by kernel_rfl) zakz (all_cons zahr zaa) (fun a=>by kernel_rfl)
theorem zas8:SG ZP sg 278 @zazd:=conE good Tryz.func278 (by kernel_rfl) (by kernel_rfl) cg0 (fun a=>by kernel_rfl)
theorem zat8:SG ZP sg 279 @zaz4:=conE good Tryz.func279 (by kernel_rfl) (by kernel_rfl) cg0 (fun a=>by kernel_rfl)
theorem z6p:SG ZP sg 200 @zxh:=conE good Tryz.func200 (by kernel_rfl) (by kernel_rfl) (cgc zasy (cgc zath (cgc zarm (cgc zas8 (cgc zat8 cg0))))) (fun a=>by kernel_rfl)
theorem zams:fnB ZP 180 Tryz.f180 [5]=true:=by kernel_rfl
theorem zaky:CG ZP sg @zafb:=(cgc zasx (cgc z6p cg0))
theorem zahq:zaf ZP sg 0 Tryz.f180 @ztg 5:=zas zy6 good Tryz.func180 zams zaky zaa (fun a=>by kernel_rfl) (by kernel_rfl) (fun _ _=>rfl)
theorem zarl:SG ZP sg 180 @zabl:=conD (loops:=ztg) good Tryz.func180 zams (by kernel_rfl) zaky (all_cons zahq zaa) (fun a=>by kernel_rfl)
theorem za3l:fnB ZP 84 Tryz.f84 [2]=true:=by kernel_rfl
theorem za19:CG ZP sg @zaqb:=cg0
theorem zav0:zaf ZP sg 0 Tryz.f84 @z0m 2:=zas z8p good Tryz.func84 za3l za19 zaa (fun a=>by kernel_rfl) (by kernel_rfl) (fun _ _=>rfl)
theorem ziv:SG ZP sg 84 @zo5:=conD (loops:=z0m) good Tryz.func84 za3l (by kernel_rfl) za19 (all_cons zav0 zaa) (fun a=>by kernel_rfl)
theorem zave:fnB ZP 75 Tryz.f75 [4,15]=true:=by kernel_rfl
theorem z5t:CG ZP sg @zae2:=(cgc ziv (cgc z55 (cgc zarl cg0)))
theorem zahh:zaf ZP sg 0 Tryz.f75 @zk5 4:=zas zyx good Tryz.func75 zave z5t zaa (fun a=>by kernel_rfl) (by kernel_rfl) (fun _ _=>rfl)
theorem z9g:zaf ZP sg 0 Tryz.f75 @zk5 15:=zas zsr good Tryz.func75 zave z5t zaa (fun a=>by kernel_rfl) (by kernel_rfl) (fun _ _=>rfl)
theorem zarc:SG ZP sg 75 @zabh:=conD (loops:=zk5) good Tryz.func75 zave (by kernel_rfl) z5t (all_cons zahh (all_cons z9g zaa)) (fun a=>by kernel_rfl)
theorem zat1:SG ZP sg 111 @zadi:=conE good Tryz.func111 (by kernel_rfl) (by kernel_rfl) cg0 (fun a=>by kernel_rfl)
theorem zamu:fnB ZP 201 Tryz.f201 [2]=true:=by kernel_rfl
theorem zakx:CG ZP sg @zafa:=cg0
theorem zahp:zaf ZP sg 0 Tryz.f201 @ztf 2:=zas zy5 good Tryz.func201 zamu zakx zaa (fun a=>by kernel_rfl) (by kernel_rfl) (fun _ _=>rfl)
theorem zark:SG ZP sg 201 @zaxt:=conD (loops:=ztf) good Tryz.func201 zamu (by kernel_rfl) zakx (all_cons zahp zaa) (fun a=>by kernel_rfl)
theorem zatl:SG ZP sg 122 @zac7:=conE good Tryz.func122 (by kernel_rfl) (by kernel_rfl) (cgc zark cg0) (fun a=>by kernel_rfl)
theorem zavf:fnB ZP 76 Tryz.f76 [2,10]=true:=by kernel_rfl
theorem z5s:CG ZP sg @zae1:=(cgc zic (cgc ziv (cgc zat1 (cgc zatl cg0))))
theorem zahg:zaf ZP sg 0 Tryz.f76 @zk4 2:=zas zyw good Tryz.func76 zavf z5s zaa (fun a=>by kernel_rfl) (by kernel_rfl) (fun _ _=>rfl)
theorem z9f:zaf ZP sg 0 Tryz.f76 @zk4 10:=zas zsq good Tryz.func76 zavf z5s zaa (fun a=>by kernel_rfl) (by kernel_rfl) (fun _ _=>rfl)
theorem zarb:SG ZP sg 76 @zabg:=conD (loops:=zk4) good Tryz.func76 zavf (by kernel_rfl) z5s (all_cons zahg (all_cons z9f zaa)) (fun a=>by kernel_rfl)
theorem zal7:fnB ZP 105 Tryz.f105 [2]=true:=by kernel_rfl
theorem zak0:CG ZP sg @zafd:=cg0
theorem zahs:zaf ZP sg 0 Tryz.f105 @zti 2:=zas zy8 good Tryz.func105 zal7 zak0 zaa (fun a=>by kernel_rfl) (by kernel_rfl) (fun _ _=>rfl)
theorem zarn:SG ZP sg 105 @zabm:=conD (loops:=zti) good Tryz.func105 zal7 (by kernel_rfl) zak0 (all_cons zahs zaa) (fun a=>by kernel_rfl)
theorem zavg:fnB ZP 77 Tryz.f77 [2,18]=true:=by kernel_rfl
theorem z5u:CG ZP sg @zae3:=(cgc zic (cgc ziv (cgc zarn cg0)))
theorem zahi:zaf ZP sg 0 Tryz.f77 @zk6 2:=zas zyy good Tryz.func77 zavg z5u zaa (fun a=>by kernel_rfl) (by kernel_rfl) (fun _ _=>rfl)
theorem z9h:zaf ZP sg 0 Tryz.f77 @zk6 18:=zas zss good Tryz.func77 zavg z5u zaa (fun a=>by kernel_rfl) (by kernel_rfl) (fun _ _=>rfl)
theorem zard:SG ZP sg 77 @zabi:=conD (loops:=zk6) good Tryz.func77 zavg (by kernel_rfl) z5u (all_cons zahi (all_cons z9h zaa)) (fun a=>by kernel_rfl)
theorem zau9:fnB ZP 21 Tryz.f21 [6,11]=true:=by kernel_rfl
theorem z5y:CG ZP sg @zae7:=(cgc zarp (cgc zaro (cgc zal0 (cgc zaq7 (cgc za2s (cgc za23 (cgc zic (cgc zarc (cgc zarb (cgc zard cg0))))))))))
theorem zahm:zaf ZP sg 0 Tryz.f21 @zla 6:=zas zy2 good Tryz.func21 zau9 z5y zaa (fun a=>by kernel_rfl) (by kernel_rfl) (fun _ _=>rfl)
theorem z9l:zaf ZP sg 0 Tryz.f21 @zla 11:=zas zsw good Tryz.func21 zau9 z5y zaa (fun a=>by kernel_rfl) (by kernel_rfl) (fun _ _=>rfl)
theorem zari:SG ZP sg 21 @zaxr:=conD (loops:=zla) good Tryz.func21 zau9 (by kernel_rfl) z5y (all_cons zahm (all_cons z9l zaa)) (fun a=>by kernel_rfl)
theorem zat9:SG ZP sg 22 @zaz5:=conE good Tryz.func22 (by kernel_rfl) (by kernel_rfl) (cgc za2k (cgc zari cg0)) (fun a=>by kernel_rfl)
theorem zatz:SG ZP sg 17 @zazw:=conE good Tryz.func17 (by kernel_rfl) (by kernel_rfl) cg0 (fun a=>by kernel_rfl)
theorem zas6:SG ZP sg 181 @zac0:=conE good Tryz.func181 (by kernel_rfl) (by kernel_rfl) cg0 (fun a=>by kernel_rfl)
theorem z2c:fnB ZP 80 Tryz.f80 [2]=true:=by kernel_rfl
theorem za18:CG ZP sg @zaqa:=(cgc zas6 cg0)
theorem zavz:zaf ZP sg 0 Tryz.f80 @z0l 2:=zas z8o good Tryz.func80 z2c za18 zaa (fun a=>by kernel_rfl) (by kernel_rfl) (fun _ _=>rfl)
theorem za2o:SG ZP sg 80 @za5z:=conD (loops:=z0l) good Tryz.func80 z2c (by kernel_rfl) za18 (all_cons zavz zaa) (fun a=>by kernel_rfl)
theorem zg6:SG ZP sg 78 @zmd:=conE good Tryz.func78 (by kernel_rfl) (by kernel_rfl) (cgc za2o cg0) (fun a=>by kernel_rfl)
theorem z68:SG ZP sg 79 @zadb:=conE good Tryz.func79 (by kernel_rfl) (by kernel_rfl) cg0 (fun a=>by kernel_rfl)
theorem zas2:SG ZP sg 81 @zacu:=conE good Tryz.func81 (by kernel_rfl) (by kernel_rfl) cg0 (fun a=>by kernel_rfl)
theorem zya:CG ZP sg @z1r:=(cgc zas2 cg0)
theorem z2v:zaf ZP sg 0 Tryz.f80 @zlf 2:=zas zn4 good Tryz.func80 z2c zya zaa (fun a=>by kernel_rfl) (by kernel_rfl) (fun _ _=>rfl)
theorem z65:SG ZP sg 80 @zac6:=conD (loops:=zlf) good Tryz.func80 z2c (by kernel_rfl) zya (all_cons z2v zaa) (fun a=>by kernel_rfl)
theorem z6q:SG ZP sg 83 @zayz:=conS (loops:=l0) (ids:=[]) good Tryz.func83 (by kernel_rfl) (by kernel_rfl) cg0 zaa (fun a=>by kernel_rfl) (by kernel_rfl)
theorem zpo:SG ZP sg 62 @zace:=conE good Tryz.func62 (by kernel_rfl) (by kernel_rfl) cg0 (fun a=>by kernel_rfl)
theorem zatu:SG ZP sg 166 @zada:=conE good Tryz.func166 (by kernel_rfl) (by kernel_rfl) (cgc zpo (cgc (sgP z61) cg0)) (fun a=>by kernel_rfl)
theorem zpm:SG ZP sg 162 @zab6:=conE good Tryz.func162 (by kernel_rfl) (by kernel_rfl) cg0 (fun a=>by kernel_rfl)
theorem zaux:SG ZP sg 238 @za0j:=conE good Tryz.func238 (by kernel_rfl) (by kernel_rfl) (cgc zpm cg0) (fun a=>by kernel_rfl)
theorem zauw:SG ZP sg 239 @za0i:=conE good Tryz.func239 (by kernel_rfl) (by kernel_rfl) (cgc zpm cg0) (fun a=>by kernel_rfl)
theorem z6l:SG ZP sg 241 @zaym:=conE good Tryz.func241 (by kernel_rfl) (by kernel_rfl) cg0 (fun a=>by kernel_rfl)
theorem zauz:SG ZP sg 240 @za0l:=conE good Tryz.func240 (by kernel_rfl) (by kernel_rfl) (cgc z6l cg0) (fun a=>by kernel_rfl)
theorem z69:SG ZP sg 163 @zadc:=conE good Tryz.func163 (by kernel_rfl) (by kernel_rfl) (cgc zpm (cgc zaux (cgc zauw (cgc zauz (cgc z6l cg0))))) (fun a=>by kernel_rfl)
theorem za3g:fnB ZP 58 Tryz.f58 [5]=true:=by kernel_rfl
theorem zalp:CG ZP sg @zaf2:=(cgc z68 (cgc zpm (cgc z69 cg0)))
theorem zaif:zaf ZP sg 0 Tryz.f58 @zt7 5:=zas zzv good Tryz.func58 za3g zalp zaa (fun a=>by kernel_rfl) (by kernel_rfl) (fun _ _=>rfl)
theorem zar7:SG ZP sg 58 @zab1:=conD (loops:=zt7) good Tryz.func58 za3g (by kernel_rfl) zalp (all_cons zaif zaa) (fun a=>by kernel_rfl)
theorem zagt:fnB ZP 63 Tryz.f63 [4,10,16]=true:=by kernel_rfl
theorem zagf:CG ZP sg @zaqm:=(cgc zar7 (cgc zg6 (cgc zatu cg0)))
theorem zawd:zaf ZP sg 0 Tryz.f63 @zjv 4:=zas z85 good Tryz.func63 zagt zagf zaa (fun a=>by kernel_rfl) (by kernel_rfl) (fun _ _=>rfl)
theorem zaix:zaf ZP sg 0 Tryz.f63 @zjv 10:=zas z0e good Tryz.func63 zagt zagf zaa (fun a=>by kernel_rfl) (by kernel_rfl) (fun _ _=>rfl)
theorem zaiy:zaf ZP sg 0 Tryz.f63 @zjv 16:=zas z0f good Tryz.func63 zagt zagf zaa (fun a=>by kernel_rfl) (by kernel_rfl) (fun _ _=>rfl)
theorem za2z:SG ZP sg 63 @za56:=conD (loops:=zjv) good Tryz.func63 zagt (by kernel_rfl) zagf (all_cons zawd (all_cons zaix (all_cons zaiy zaa))) (fun a=>by kernel_rfl)
theorem zasn:SG ZP sg 245 @zacc:=conE good Tryz.func245 (by kernel_rfl) (by kernel_rfl) (cgc (sgP z61) (cgc (sgP zaty) cg0)) (fun a=>by kernel_rfl)
theorem zamj:fnB ZP 167 Tryz.f167 [5]=true:=by kernel_rfl
theorem zalh:CG ZP sg @zafu:=(cgc zasn cg0)
theorem zah7:zaf ZP sg 0 Tryz.f167 @ztz 5:=zas zzn good Tryz.func167 zamj zalh zaa (fun a=>by kernel_rfl) (by kernel_rfl) (fun _ _=>rfl)
theorem z6f:SG ZP sg 167 @zabu:=conD (loops:=ztz) good Tryz.func167 zamj (by kernel_rfl) zalh (all_cons zah7 zaa) (fun a=>by kernel_rfl)
theorem zauf:SG ZP sg 246 @zadj:=conE good Tryz.func246 (by kernel_rfl) (by kernel_rfl) cg0 (fun a=>by kernel_rfl)
theorem z67:SG ZP sg 219 @zac8:=conE good Tryz.func219 (by kernel_rfl) (by kernel_rfl) cg0 (fun a=>by kernel_rfl)
theorem zamk:fnB ZP 168 Tryz.f168 [4]=true:=by kernel_rfl
theorem zalj:CG ZP sg @zafw:=(cgc z67 (cgc zauf cg0))
theorem zah9:zaf ZP sg 0 Tryz.f168 @zt1 4:=zas zzp good Tryz.func168 zamk zalj zaa (fun a=>by kernel_rfl) (by kernel_rfl) (fun _ _=>rfl)
theorem z6g:SG ZP sg 168 @zabx:=conD (loops:=zt1) good Tryz.func168 zamk (by kernel_rfl) zalj (all_cons zah9 zaa) (fun a=>by kernel_rfl)
theorem zvi:SG ZP sg 284 @zayu:=conE good Tryz.func284 (by kernel_rfl) (by kernel_rfl) cg0 (fun a=>by kernel_rfl)
theorem zatj:SG ZP sg 298 @zazo:=conE good Tryz.func298 (by kernel_rfl) (by kernel_rfl) (cgc zvi cg0) (fun a=>by kernel_rfl)
theorem zaup:SG ZP sg 247 @zadq:=conE good Tryz.func247 (by kernel_rfl) (by kernel_rfl) (cgc zvi (cgc zatj cg0)) (fun a=>by kernel_rfl)
theorem zasr:SG ZP sg 249 @zacj:=conE good Tryz.func249 (by kernel_rfl) (by kernel_rfl) cg0 (fun a=>by kernel_rfl)
theorem znr:fnB ZP 248 Tryz.f248 [2,5]=true:=by kernel_rfl
theorem zaqu:CG ZP sg @zap9:=(cgc zasr cg0)
theorem z9o:zaf ZP sg 0 Tryz.f248 @zqr 5:=zas z8n good Tryz.func248 znr zaqu zaa (fun a=>by kernel_rfl) (by kernel_rfl) (fun _ _=>rfl)
theorem zavy:zaf ZP sg 0 Tryz.f248 @zqr 2:=zas z8m good Tryz.func248 znr zaqu (all_cons z9o zaa) (fun a=>by kernel_rfl) (by kernel_rfl) (fun _ _=>rfl)
theorem za2n:SG ZP sg 248 @zapg:=conD (loops:=zqr) good Tryz.func248 znr (by kernel_rfl) zaqu (all_cons zavy (all_cons z9o zaa)) (fun a=>by kernel_rfl)
theorem zast:SG ZP sg 250 @zacn:=conE good Tryz.func250 (by kernel_rfl) (by kernel_rfl) cg0 (fun a=>by kernel_rfl)
theorem zpi:CG ZP sg @z1q:=(cgc zast cg0)
theorem zn9:zaf ZP sg 0 Tryz.f248 @zha 5:=zas zn3 good Tryz.func248 znr zpi zaa (fun a=>by kernel_rfl) (by kernel_rfl) (fun _ _=>rfl)
theorem z2u:zaf ZP sg 0 Tryz.f248 @zha 2:=zas zn2 good Tryz.func248 znr zpi (all_cons zn9 zaa) (fun a=>by kernel_rfl) (by kernel_rfl) (fun _ _=>rfl)
theorem z6x:SG ZP sg 248 @zus:=conD (loops:=zha) good Tryz.func248 znr (by kernel_rfl) zpi (all_cons z2u (all_cons zn9 zaa)) (fun a=>by kernel_rfl)
theorem zaml:fnB ZP 169 Tryz.f169 [4]=true:=by kernel_rfl
theorem za2b:CG ZP sg @zaqe:=(cgc zaup (cgc (sgi za2n (sgi z6x sg0)) cg0))
theorem zav4:zaf ZP sg 0 Tryz.f169 @z0o 4:=zas z8t good Tryz.func169 zaml za2b zaa (fun a=>by kernel_rfl) (by kernel_rfl) (fun _ _=>rfl)
theorem zalz:SG ZP sg 169 @zapj:=conD (loops:=z0o) good Tryz.func169 zaml (by kernel_rfl) za2b (all_cons zav4 zaa) (fun a=>by kernel_rfl)
theorem zauk:SG ZP sg 299 @za0c:=conE good Tryz.func299 (by kernel_rfl) (by kernel_rfl) cg0 (fun a=>by kernel_rfl)
theorem z7a:SG ZP sg 280 @zazv:=conE good Tryz.func280 (by kernel_rfl) (by kernel_rfl) cg0 (fun a=>by kernel_rfl)
theorem zasp:SG ZP sg 251 @zacf:=conE good Tryz.func251 (by kernel_rfl) (by kernel_rfl) (cgc z7a (cgc zauk cg0)) (fun a=>by kernel_rfl)
theorem zamm:fnB ZP 170 Tryz.f170 [4]=true:=by kernel_rfl
theorem zalk:CG ZP sg @zafx:=(cgc zasp cg0)
theorem zaia:zaf ZP sg 0 Tryz.f170 @zt2 4:=zas zzq good Tryz.func170 zamm zalk zaa (fun a=>by kernel_rfl) (by kernel_rfl) (fun _ _=>rfl)
theorem z6h:SG ZP sg 170 @zaby:=conD (loops:=zt2) good Tryz.func170 zamm (by kernel_rfl) zalk (all_cons zaia zaa) (fun a=>by kernel_rfl)
theorem z59:SG ZP sg 268 @zax8:=conE good Tryz.func268 (by kernel_rfl) (by kernel_rfl) cg0 (fun a=>by kernel_rfl)
theorem zaui:SG ZP sg 252 @zadm:=conE good Tryz.func252 (by kernel_rfl) (by kernel_rfl) (cgc z59 cg0) (fun a=>by kernel_rfl)
theorem z6r:SG ZP sg 253 @zacl:=conE good Tryz.func253 (by kernel_rfl) (by kernel_rfl) cg0 (fun a=>by kernel_rfl)
theorem zana:fnB ZP 300 Tryz.f300 [2]=true:=by kernel_rfl
theorem zakt:CG ZP sg @zaez:=(cgc z6r cg0)
theorem zahd:zaf ZP sg 0 Tryz.f300 @ztb 2:=zas zyt good Tryz.func300 zana zakt zaa (fun a=>by kernel_rfl) (by kernel_rfl) (fun _ _=>rfl)
theorem zaq9:SG ZP sg 300 @zaxl:=conD (loops:=ztb) good Tryz.func300 zana (by kernel_rfl) zakt (all_cons zahd zaa) (fun a=>by kernel_rfl)
theorem zaug:SG ZP sg 254 @zadk:=conE good Tryz.func254 (by kernel_rfl) (by kernel_rfl) (cgc z6r (cgc zaq9 cg0)) (fun a=>by kernel_rfl)
theorem zamn:fnB ZP 171 Tryz.f171 [4]=true:=by kernel_rfl
theorem za2g:CG ZP sg @zaqq:=(cgc zaui (cgc zaug cg0))
theorem zawh:zaf ZP sg 0 Tryz.f171 @z0t 4:=zas z9a good Tryz.func171 zamn za2g zaa (fun a=>by kernel_rfl) (by kernel_rfl) (fun _ _=>rfl)
theorem za22:SG ZP sg 171 @zapo:=conD (loops:=z0t) good Tryz.func171 zamn (by kernel_rfl) za2g (all_cons zawh zaa) (fun a=>by kernel_rfl)
theorem zvj:SG ZP sg 257 @zacv:=conE good Tryz.func257 (by kernel_rfl) (by kernel_rfl) cg0 (fun a=>by kernel_rfl)
theorem z60:SG ZP sg 256 @zacr:=conE good Tryz.func256 (by kernel_rfl) (by kernel_rfl) (cgc zvj cg0) (fun a=>by kernel_rfl)
theorem zanb:fnB ZP 301 Tryz.f301 [2]=true:=by kernel_rfl
theorem zaku:CG ZP sg @zae0:=(cgc z60 cg0)
theorem zahe:zaf ZP sg 0 Tryz.f301 @ztc 2:=zas zyu good Tryz.func301 zanb zaku zaa (fun a=>by kernel_rfl) (by kernel_rfl) (fun _ _=>rfl)
theorem zara:SG ZP sg 301 @zaxm:=conD (loops:=ztc) good Tryz.func301 zanb (by kernel_rfl) zaku (all_cons zahe zaa) (fun a=>by kernel_rfl)
theorem zauh:SG ZP sg 255 @zadl:=conE good Tryz.func255 (by kernel_rfl) (by kernel_rfl) (cgc z60 (cgc zara cg0)) (fun a=>by kernel_rfl)
theorem zamo:fnB ZP 172 Tryz.f172 [8]=true:=by kernel_rfl
theorem za2f:CG ZP sg @zaqo:=(cgc zauh cg0)
theorem zawf:zaf ZP sg 0 Tryz.f172 @z0s 8:=zas z87 good Tryz.func172 zamo za2f zaa (fun a=>by kernel_rfl) (by kernel_rfl) (fun _ _=>rfl)
theorem zal1:SG ZP sg 172 @zapm:=conD (loops:=z0s) good Tryz.func172 zamo (by kernel_rfl) za2f (all_cons zawf zaa) (fun a=>by kernel_rfl)
theorem zagu:fnB ZP 64 Tryz.f64 [4,12,18]=true:=by kernel_rfl
theorem zage:CG ZP sg @zaql:=(cgc zpo (cgc z6f (cgc z6g (cgc zalz (cgc z6h (cgc za22 (cgc zal1 cg0)))))))
theorem zawc:zaf ZP sg 0 Tryz.f64 @zju 4:=zas z84 good Tryz.func64 zagu zage zaa (fun a=>by kernel_rfl) (by kernel_rfl) (fun _ _=>rfl)
theorem zaiv:zaf ZP sg 0 Tryz.f64 @zju 12:=zas z0c good Tryz.func64 zagu zage zaa (fun a=>by kernel_rfl) (by kernel_rfl) (fun _ _=>rfl)
theorem zaiw:zaf ZP sg 0 Tryz.f64 @zju 18:=zas z0d good Tryz.func64 zagu zage zaa (fun a=>by kernel_rfl) (by kernel_rfl) (fun _ _=>rfl)
theorem za2y:SG ZP sg 64 @za55:=conD (loops:=zju) good Tryz.func64 zagu (by kernel_rfl) zage (all_cons zawc (all_cons zaiv (all_cons zaiw zaa))) (fun a=>by kernel_rfl)
theorem zas0:SG ZP sg 265 @zacs:=conE good Tryz.func265 (by kernel_rfl) (by kernel_rfl) cg0 (fun a=>by kernel_rfl)
theorem zyj:fnB ZP 185 Tryz.f185 [2]=true:=by kernel_rfl
theorem za2d:CG ZP sg @zaqi:=(cgc zas0 cg0)
theorem zav8:zaf ZP sg 0 Tryz.f185 @z0q 2:=zas z8y good Tryz.func185 zyj za2d zaa (fun a=>by kernel_rfl) (by kernel_rfl) (fun _ _=>rfl)
theorem za2u:SG ZP sg 185 @za52:=conD (loops:=z0q) good Tryz.func185 zyj (by kernel_rfl) za2d (all_cons zav8 zaa) (fun a=>by kernel_rfl)
theorem z6a:SG ZP sg 184 @zax9:=conE good Tryz.func184 (by kernel_rfl) (by kernel_rfl) (cgc za2u cg0) (fun a=>by kernel_rfl)
theorem zki:SG ZP sg 90 @zayy:=conE good Tryz.func90 (by kernel_rfl) (by kernel_rfl) (cgc z6a cg0) (fun a=>by kernel_rfl)
theorem zasq:SG ZP sg 173 @zach:=conE good Tryz.func173 (by kernel_rfl) (by kernel_rfl) (cgc zki cg0) (fun a=>by kernel_rfl)
theorem zagv:fnB ZP 65 Tryz.f65 [3,9,15]=true:=by kernel_rfl
theorem zagb:CG ZP sg @zaqc:=(cgc zg6 (cgc zasq cg0))
theorem zav1:zaf ZP sg 0 Tryz.f65 @zjr 3:=zas z8q good Tryz.func65 zagv zagb zaa (fun a=>by kernel_rfl) (by kernel_rfl) (fun _ _=>rfl)
theorem zav2:zaf ZP sg 0 Tryz.f65 @zjr 9:=zas z8r good Tryz.func65 zagv zagb zaa (fun a=>by kernel_rfl) (by kernel_rfl) (fun _ _=>rfl)
theorem zait:zaf ZP sg 0 Tryz.f65 @zjr 15:=zas zz9 good Tryz.func65 zagv zagb zaa (fun a=>by kernel_rfl) (by kernel_rfl) (fun _ _=>rfl)
theorem za2q:SG ZP sg 65 @za50:=conD (loops:=zjr) good Tryz.func65 zagv (by kernel_rfl) zagb (all_cons zav1 (all_cons zav2 (all_cons zait zaa))) (fun a=>by kernel_rfl)
theorem zkf:SG ZP sg 165 @zaxn:=conE good Tryz.func165 (by kernel_rfl) (by kernel_rfl) cg0 (fun a=>by kernel_rfl)
theorem z6n:SG ZP sg 243 @zacg:=conE good Tryz.func243 (by kernel_rfl) (by kernel_rfl) cg0 (fun a=>by kernel_rfl)
theorem zyk:fnB ZP 242 Tryz.f242 [2]=true:=by kernel_rfl
theorem za2c:CG ZP sg @zaqh:=(cgc z6n cg0)
theorem zav7:zaf ZP sg 0 Tryz.f242 @z0p 2:=zas z8x good Tryz.func242 zyk za2c zaa (fun a=>by kernel_rfl) (by kernel_rfl) (fun _ _=>rfl)
theorem za2t:SG ZP sg 242 @za51:=conD (loops:=z0p) good Tryz.func242 zyk (by kernel_rfl) za2c (all_cons zav7 zaa) (fun a=>by kernel_rfl)
theorem zkh:SG ZP sg 164 @zayg:=conE good Tryz.func164 (by kernel_rfl) (by kernel_rfl) (cgc za2t (cgc z6n cg0)) (fun a=>by kernel_rfl)
theorem zvg:SG ZP sg 59 @zxe:=conE good Tryz.func59 (by kernel_rfl) (by kernel_rfl) (cgc zkh (cgc zkf cg0)) (fun a=>by kernel_rfl)
theorem za3h:fnB ZP 66 Tryz.f66 [2]=true:=by kernel_rfl
theorem zalu:CG ZP sg @zaf7:=(cgc zvg cg0)
theorem zaik:zaf ZP sg 0 Tryz.f66 @zuc 2:=zas zz0 good Tryz.func66 za3h zalu zaa (fun a=>by kernel_rfl) (by kernel_rfl) (fun _ _=>rfl)
theorem zasd:SG ZP sg 66 @zayi:=conD (loops:=zuc) good Tryz.func66 za3h (by kernel_rfl) zalu (all_cons zaik zaa) (fun a=>by kernel_rfl)
theorem zasi:SG ZP sg 197 @zaca:=conE good Tryz.func197 (by kernel_rfl) (by kernel_rfl) cg0 (fun a=>by kernel_rfl)
theorem zm0:fnB ZP 99 Tryz.f99 [2]=true:=by kernel_rfl
theorem za17:CG ZP sg @zap7:=(cgc zasi cg0)
theorem zavw:zaf ZP sg 0 Tryz.f99 @z0k 2:=zas z8k good Tryz.func99 zm0 za17 zaa (fun a=>by kernel_rfl) (by kernel_rfl) (fun _ _=>rfl)
theorem za2l:SG ZP sg 99 @za5x:=conD (loops:=z0k) good Tryz.func99 zm0 (by kernel_rfl) za17 (all_cons zavw zaa) (fun a=>by kernel_rfl)
theorem zve:SG ZP sg 96 @zabv:=conE good Tryz.func96 (by kernel_rfl) (by kernel_rfl) (cgc za2l cg0) (fun a=>by kernel_rfl)
theorem zavb:fnB ZP 67 Tryz.f67 [2,16]=true:=by kernel_rfl
theorem z5w:CG ZP sg @zae5:=(cgc zg6 (cgc zve cg0))
theorem zahk:zaf ZP sg 0 Tryz.f67 @zk8 2:=zas zy0 good Tryz.func67 zavb z5w zaa (fun a=>by kernel_rfl) (by kernel_rfl) (fun _ _=>rfl)
theorem z9j:zaf ZP sg 0 Tryz.f67 @zk8 16:=zas zsu good Tryz.func67 zavb z5w zaa (fun a=>by kernel_rfl) (by kernel_rfl) (fun _ _=>rfl)
theorem zarg:SG ZP sg 67 @zaxp:=conD (loops:=zk8) good Tryz.func67 zavb (by kernel_rfl) z5w (all_cons zahk (all_cons z9j zaa)) (fun a=>by kernel_rfl)
theorem z64:SG ZP sg 20 @zazp:=conE good Tryz.func20 (by kernel_rfl) (by kernel_rfl) (cgc zpo (cgc za2z (cgc za2y (cgc za2q (cgc zasd (cgc zarg cg0)))))) (fun a=>by kernel_rfl)
theorem zare:SG ZP sg 23 @zaxo:=conE good Tryz.func23 (by kernel_rfl) (by kernel_rfl) (cgc z64 (cgc zg6 (cgc z68 (cgc z65 (cgc (sgP zatq) (cgc z6q cg0)))))) (fun a=>by kernel_rfl)
theorem zas4:SG ZP sg 186 @zacx:=conE good Tryz.func186 (by kernel_rfl) (by kernel_rfl) cg0 (fun a=>by kernel_rfl)
theorem zyd:CG ZP sg @z1u:=(cgc zas4 cg0)
theorem z2y:zaf ZP sg 0 Tryz.f185 @zli 2:=zas zn7 good Tryz.func185 zyj zyd zaa (fun a=>by kernel_rfl) (by kernel_rfl) (fun _ _=>rfl)
theorem z7g:SG ZP sg 185 @zadv:=conD (loops:=zli) good Tryz.func185 zyj (by kernel_rfl) zyd (all_cons z2y zaa) (fun a=>by kernel_rfl)
theorem zato:SG ZP sg 189 @zazr:=conS (loops:=l0) (ids:=[]) good Tryz.func189 (by kernel_rfl) (by kernel_rfl) cg0 zaa (fun a=>by kernel_rfl) (by kernel_rfl)
theorem zatt:SG ZP sg 187 @zazs:=conE good Tryz.func187 (by kernel_rfl) (by kernel_rfl) (cgc z6f cg0) (fun a=>by kernel_rfl)
theorem zasl:SG ZP sg 86 @zayq:=conE good Tryz.func86 (by kernel_rfl) (by kernel_rfl) (cgc z6a (cgc z7g (cgc zatt (cgc (sgP zatn) (cgc zato cg0))))) (fun a=>by kernel_rfl)
theorem zass:SG ZP sg 25 @zay4:=conE good Tryz.func25 (by kernel_rfl) (by kernel_rfl) (cgc zasl cg0) (fun a=>by kernel_rfl)
theorem zatv:SG ZP sg 60 @zazt:=conE good Tryz.func60 (by kernel_rfl) (by kernel_rfl) (cgc zatz (cgc zare (cgc zass cg0))) (fun a=>by kernel_rfl)
theorem zg8:SG ZP sg 88 @zays:=conN (loops:=l0) (ids:=[]) good Tryz.func88 (by kernel_rfl) (by kernel_rfl) cg0 zaa (fun a=>by kernel_rfl)
theorem ziw:SG ZP sg 91 @za57:=conM (loops:=l0) (ids:=[]) good Tryz.func91 (by kernel_rfl) (by kernel_rfl) cg0 zaa (fun a b=>by kernel_rfl)
theorem zpn:SG ZP sg 89 @zayn:=conM (loops:=l0) (ids:=[]) good Tryz.func89 (by kernel_rfl) (by kernel_rfl) (cgc zg6 (cgc ziw cg0)) zaa (fun a b=>by kernel_rfl)
theorem zata:SG ZP sg 192 @zazf:=conS (loops:=l0) (ids:=[]) good Tryz.func192 (by kernel_rfl) (by kernel_rfl) cg0 zaa (fun a=>by kernel_rfl) (by kernel_rfl)
theorem zg7:SG ZP sg 93 @zayd:=conM (loops:=l0) (ids:=[]) good Tryz.func93 (by kernel_rfl) (by kernel_rfl) (cgc z6q (cgc ziw (cgc z69 (cgc zata cg0)))) zaa (fun a b=>by kernel_rfl)
theorem zvh:SG ZP sg 222 @zxf:=conE good Tryz.func222 (by kernel_rfl) (by kernel_rfl) cg0 (fun a=>by kernel_rfl)
theorem z7r:fnB ZP 316 Tryz.f316 [1,4]=true:=by kernel_rfl
theorem zaqw:CG ZP sg @zaqk:=(cgc zvh cg0)
theorem z9r:zaf ZP sg MA Tryz.f316 @zqt 4:=zas z83 good Tryz.func316 z7r zaqw zaa (fun a=>by kernel_rfl) (by kernel_rfl) (fun _ _=>rfl)
theorem zawb:zaf ZP sg MA Tryz.f316 @zqt 1:=zas z82 good Tryz.func316 z7r zaqw (all_cons z9r zaa) (fun a=>by kernel_rfl) (by kernel_rfl) (fun _ _=>rfl)
theorem za2x:SG ZP sg 316 @zapl:=conI (loops:=zqt) good Tryz.func316 z7r (by kernel_rfl) zaqw (all_cons zawb (all_cons z9r zaa)) (fun a=>by kernel_rfl)
theorem zyl:fnB ZP 291 Tryz.f291 [2,7,9]=true:=by kernel_rfl
theorem zagd:CG ZP sg @zaqj:=(cgc zvh (cgc za2x (cgc (sgP zasz) cg0)))
theorem zav9:zaf ZP sg MA Tryz.f291 @zjt 2:=zas z8z good Tryz.func291 zyl zagd zaa (fun a=>by kernel_rfl) (by kernel_rfl) (fun _ _=>rfl)
theorem z9q:zaf ZP sg MA Tryz.f291 @zjt 9:=zas z81 good Tryz.func291 zyl zagd zaa (fun a=>by kernel_rfl) (by kernel_rfl) (fun _ _=>rfl)
theorem zawa:zaf ZP sg MA Tryz.f291 @zjt 7:=zas z80 good Tryz.func291 zyl zagd (all_cons z9q zaa) (fun a=>by kernel_rfl) (by kernel_rfl) (fun _ _=>rfl)
theorem za2v:SG ZP sg 291 @za53:=conI (loops:=zjt) good Tryz.func291 zyl (by kernel_rfl) zagd (all_cons zav9 (all_cons zawa (all_cons z9q zaa))) (fun a=>by kernel_rfl)
theorem zatm:SG ZP sg 221 @zac9:=conI (loops:=l0) (ids:=[]) good Tryz.func221 (by kernel_rfl) (by kernel_rfl) (cgc zvh (cgc za2v cg0)) zaa (fun a=>by kernel_rfl)
theorem zamc:fnB ZP 135 Tryz.f135 [3]=true:=by kernel_rfl
theorem za2a:CG ZP sg @zaqd:=(cgc zatm cg0)
theorem zav3:zaf ZP sg 0 Tryz.f135 @z0n 3:=zas z8s good Tryz.func135 zamc za2a zaa (fun a=>by kernel_rfl) (by kernel_rfl) (fun _ _=>rfl)
theorem za2r:SG ZP sg 135 @zapi:=conD (loops:=z0n) good Tryz.func135 zamc (by kernel_rfl) za2a (all_cons zav3 zaa) (fun a=>by kernel_rfl)
theorem za3d:fnB ZP 35 Tryz.f35 [3]=true:=by kernel_rfl
theorem zall:CG ZP sg @zafy:=(cgc za2r cg0)
theorem zaib:zaf ZP sg 0 Tryz.f35 @zt3 3:=zas zzr good Tryz.func35 za3d zall zaa (fun a=>by kernel_rfl) (by kernel_rfl) (fun _ _=>rfl)
theorem zar3:SG ZP sg 35 @zayb:=conD (loops:=zt3) good Tryz.func35 za3d (by kernel_rfl) zall (all_cons zaib zaa) (fun a=>by kernel_rfl)
theorem zvm:SG ZP sg 156 @zac2:=conE good Tryz.func156 (by kernel_rfl) (by kernel_rfl) (cgc zar3 cg0) (fun a=>by kernel_rfl)
theorem zatw:SG ZP sg 289 @zadd:=conE good Tryz.func289 (by kernel_rfl) (by kernel_rfl) cg0 (fun a=>by kernel_rfl)
theorem zx6:CG ZP sg @z1m:=(cgc zatw cg0)
theorem z2q:zaf ZP sg 0 Tryz.f99 @zlb 2:=zas zny good Tryz.func99 zm0 zx6 zaa (fun a=>by kernel_rfl) (by kernel_rfl) (fun _ _=>rfl)
theorem z6b:SG ZP sg 99 @zabq:=conD (loops:=zlb) good Tryz.func99 zm0 (by kernel_rfl) zx6 (all_cons z2q zaa) (fun a=>by kernel_rfl)
theorem zvc:SG ZP sg 217 @zaxk:=conE good Tryz.func217 (by kernel_rfl) (by kernel_rfl) (cgc z6b cg0) (fun a=>by kernel_rfl)
theorem zpu:SG ZP sg 128 @zay9:=conE good Tryz.func128 (by kernel_rfl) (by kernel_rfl) (cgc zvc cg0) (fun a=>by kernel_rfl)
theorem z6m:SG ZP sg 137 @zayo:=conM (loops:=l0) (ids:=[]) good Tryz.func137 (by kernel_rfl) (by kernel_rfl) (cgc zg7 cg0) zaa (fun a b=>by kernel_rfl)
theorem zatc:SG ZP sg 337 @zazj:=conE good Tryz.func337 (by kernel_rfl) (by kernel_rfl) cg0 (fun a=>by kernel_rfl)
theorem zaso:SG ZP sg 311 @zacd:=conE good Tryz.func311 (by kernel_rfl) (by kernel_rfl) (cgc zatc cg0) (fun a=>by kernel_rfl)
theorem zand:fnB ZP 312 Tryz.f312 [3]=true:=by kernel_rfl
theorem zalm:CG ZP sg @zafz:=cg0
theorem zaic:zaf ZP sg 0 Tryz.f312 @zt4 3:=zas zzs good Tryz.func312 zand zalm zaa (fun a=>by kernel_rfl) (by kernel_rfl) (fun _ _=>rfl)
theorem zar4:SG ZP sg 312 @zabz:=conD (loops:=zt4) good Tryz.func312 zand (by kernel_rfl) zalm (all_cons zaic zaa) (fun a=>by kernel_rfl)
theorem zam8:fnB ZP 287 Tryz.f287 [3]=true:=by kernel_rfl
theorem zak6:CG ZP sg @zafj:=(cgc zaso (cgc zar4 cg0))
theorem zahx:zaf ZP sg 0 Tryz.f287 @zto 3:=zas zzd good Tryz.func287 zam8 zak6 zaa (fun a=>by kernel_rfl) (by kernel_rfl) (fun _ _=>rfl)
theorem zarr:SG ZP sg 287 @zaxx:=conD (loops:=zto) good Tryz.func287 zam8 (by kernel_rfl) zak6 (all_cons zahx zaa) (fun a=>by kernel_rfl)
theorem zas5:SG ZP sg 211 @zazb:=conE good Tryz.func211 (by kernel_rfl) (by kernel_rfl) (cgc zarr cg0) (fun a=>by kernel_rfl)
theorem zid:SG ZP sg 118 @zayt:=conE good Tryz.func118 (by kernel_rfl) (by kernel_rfl) (cgc zki (cgc zas5 cg0)) (fun a=>by kernel_rfl)
theorem zpq:SG ZP sg 120 @zayv:=conE good Tryz.func120 (by kernel_rfl) (by kernel_rfl) (cgc zpo cg0) (fun a=>by kernel_rfl)
theorem zauj:SG ZP sg 345 @za0b:=conE good Tryz.func345 (by kernel_rfl) (by kernel_rfl) cg0 (fun a=>by kernel_rfl)
theorem zaul:SG ZP sg 324 @zadn:=conE good Tryz.func324 (by kernel_rfl) (by kernel_rfl) (cgc zauj cg0) (fun a=>by kernel_rfl)
theorem zat0:SG ZP sg 349 @zadh:=conE good Tryz.func349 (by kernel_rfl) (by kernel_rfl) cg0 (fun a=>by kernel_rfl)
theorem zane:fnB ZP 334 Tryz.f334 [3]=true:=by kernel_rfl
theorem zakm:CG ZP sg @zaes:=(cgc zaul (cgc zat0 cg0))
theorem zag6:zaf ZP sg 0 Tryz.f334 @zs4 3:=zas zym good Tryz.func334 zane zakm zaa (fun a=>by kernel_rfl) (by kernel_rfl) (fun _ _=>rfl)
theorem zaq3:SG ZP sg 334 @zaxg:=conD (loops:=zs4) good Tryz.func334 zane (by kernel_rfl) zakm (all_cons zag6 zaa) (fun a=>by kernel_rfl)
theorem zanc:fnB ZP 308 Tryz.f308 [3]=true:=by kernel_rfl
theorem zak5:CG ZP sg @zafi:=cg0
theorem zahw:zaf ZP sg 0 Tryz.f308 @ztn 3:=zas zzc good Tryz.func308 zanc zak5 zaa (fun a=>by kernel_rfl) (by kernel_rfl) (fun _ _=>rfl)
theorem z57:SG ZP sg 308 @zabp:=conD (loops:=ztn) good Tryz.func308 zanc (by kernel_rfl) zak5 (all_cons zahw zaa) (fun a=>by kernel_rfl)
theorem zat6:SG ZP sg 336 @zaz2:=conE good Tryz.func336 (by kernel_rfl) (by kernel_rfl) cg0 (fun a=>by kernel_rfl)
theorem zvk:SG ZP sg 310 @zacy:=conE good Tryz.func310 (by kernel_rfl) (by kernel_rfl) (cgc zat6 cg0) (fun a=>by kernel_rfl)
theorem z6o:SG ZP sg 304 @zxg:=conE good Tryz.func304 (by kernel_rfl) (by kernel_rfl) (cgc zvj (cgc z57 (cgc zvk (cgc zaq3 cg0)))) (fun a=>by kernel_rfl)
theorem zam4:fnB ZP 269 Tryz.f269 [2]=true:=by kernel_rfl
theorem zakp:CG ZP sg @zaev:=(cgc z6o cg0)
theorem zag9:zaf ZP sg 0 Tryz.f269 @zs7 2:=zas zyp good Tryz.func269 zam4 zakp zaa (fun a=>by kernel_rfl) (by kernel_rfl) (fun _ _=>rfl)
theorem z54:SG ZP sg 269 @zabd:=conD (loops:=zs7) good Tryz.func269 zam4 (by kernel_rfl) zakp (all_cons zag9 zaa) (fun a=>by kernel_rfl)
theorem zam0:fnB ZP 218 Tryz.f218 [9]=true:=by kernel_rfl
theorem zako:CG ZP sg @zaeu:=(cgc zvj (cgc z54 cg0))
theorem zag8:zaf ZP sg 0 Tryz.f218 @zs6 9:=zas zyo good Tryz.func218 zam0 zako zaa (fun a=>by kernel_rfl) (by kernel_rfl) (fun _ _=>rfl)
theorem zaq5:SG ZP sg 218 @zaxi:=conD (loops:=zs6) good Tryz.func218 zam0 (by kernel_rfl) zako (all_cons zag8 zaa) (fun a=>by kernel_rfl)
theorem z7e:SG ZP sg 130 @zazx:=conM (loops:=l0) (ids:=[]) good Tryz.func130 (by kernel_rfl) (by kernel_rfl) (cgc ziw (cgc zpq (cgc zaq5 cg0))) zaa (fun a b=>by kernel_rfl)
theorem z6t:SG ZP sg 285 @zacm:=conE good Tryz.func285 (by kernel_rfl) (by kernel_rfl) cg0 (fun a=>by kernel_rfl)
theorem zx7:CG ZP sg @z1n:=(cgc z6t cg0)
theorem z2r:zaf ZP sg 0 Tryz.f99 @zlc 2:=zas znz good Tryz.func99 zm0 zx7 zaa (fun a=>by kernel_rfl) (by kernel_rfl) (fun _ _=>rfl)
theorem z6c:SG ZP sg 99 @zabr:=conD (loops:=zlc) good Tryz.func99 zm0 (by kernel_rfl) zx7 (all_cons z2r zaa) (fun a=>by kernel_rfl)
theorem zasg:SG ZP sg 117 @zayl:=conE good Tryz.func117 (by kernel_rfl) (by kernel_rfl) (cgc z6c (cgc z6t cg0)) (fun a=>by kernel_rfl)
theorem zvo:SG ZP sg 225 @zazh:=conS (loops:=l0) (ids:=[]) good Tryz.func225 (by kernel_rfl) (by kernel_rfl) cg0 zaa (fun a=>by kernel_rfl) (by kernel_rfl)
theorem zaue:SG ZP sg 228 @za0a:=conE good Tryz.func228 (by kernel_rfl) (by kernel_rfl) (cgc zvo cg0) (fun a=>by kernel_rfl)
theorem z56:SG ZP sg 205 @zaxs:=conE good Tryz.func205 (by kernel_rfl) (by kernel_rfl) (cgc zasg (cgc zvc (cgc zaue (cgc zvi cg0)))) (fun a=>by kernel_rfl)
theorem zps:SG ZP sg 139 @zayx:=conM (loops:=l0) (ids:=[]) good Tryz.func139 (by kernel_rfl) (by kernel_rfl) (cgc ziw cg0) zaa (fun a b=>by kernel_rfl)
theorem z6u:SG ZP sg 109 @zay1:=conM (loops:=l0) (ids:=[]) good Tryz.func109 (by kernel_rfl) (by kernel_rfl) (cgc zg7 (cgc zid (cgc z7e (cgc zps (cgc z56 cg0))))) zaa (fun a b=>by kernel_rfl)
theorem zpt:SG ZP sg 110 @zack:=conM (loops:=l0) (ids:=[]) good Tryz.func110 (by kernel_rfl) (by kernel_rfl) (cgc zg7 (cgc z6u (cgc zpu (cgc z6m (cgc zps (cgc zvm (cgc z56 cg0))))))) zaa (fun a b=>by kernel_rfl)
theorem zaly:SG ZP sg 136 @za5v:=conM (loops:=l0) (ids:=[]) good Tryz.func136 (by kernel_rfl) (by kernel_rfl) cg0 zaa (fun a b=>by kernel_rfl)
theorem zasu:SG ZP sg 36 @zay5:=conE good Tryz.func36 (by kernel_rfl) (by kernel_rfl) (cgc zg8 (cgc zpn (cgc zg7 (cgc zpt (cgc zaly cg0))))) (fun a=>by kernel_rfl)
theorem za3f:fnB ZP 45 Tryz.f45 [3]=true:=by kernel_rfl
theorem zak7:CG ZP sg @zafk:=cg0
theorem zahy:zaf ZP sg 0 Tryz.f45 @ztp 3:=zas zze good Tryz.func45 za3f zak7 zaa (fun a=>by kernel_rfl) (by kernel_rfl) (fun _ _=>rfl)
theorem z58:SG ZP sg 45 @zaxy:=conD (loops:=ztp) good Tryz.func45 za3f (by kernel_rfl) zak7 (all_cons zahy zaa) (fun a=>by kernel_rfl)
theorem zamt:fnB ZP 190 Tryz.f190 [3]=true:=by kernel_rfl
theorem za2h:CG ZP sg @zaqs:=cg0
theorem zawj:zaf ZP sg 0 Tryz.f190 @z0u 3:=zas z9c good Tryz.func190 zamt za2h zaa (fun a=>by kernel_rfl) (by kernel_rfl) (fun _ _=>rfl)
theorem z7h:SG ZP sg 190 @zadw:=conD (loops:=z0u) good Tryz.func190 zamt (by kernel_rfl) za2h (all_cons zawj zaa) (fun a=>by kernel_rfl)
theorem zamx:fnB ZP 210 Tryz.f210 [3]=true:=by kernel_rfl
theorem zak4:CG ZP sg @zafh:=(cgc z7h cg0)
theorem zahv:zaf ZP sg 0 Tryz.f210 @ztm 3:=zas zzb good Tryz.func210 zamx zak4 zaa (fun a=>by kernel_rfl) (by kernel_rfl) (fun _ _=>rfl)
theorem zarq:SG ZP sg 210 @zaxw:=conD (loops:=ztm) good Tryz.func210 zamx (by kernel_rfl) zak4 (all_cons zahv zaa) (fun a=>by kernel_rfl)
theorem zamw:fnB ZP 209 Tryz.f209 [3]=true:=by kernel_rfl
theorem zalg:CG ZP sg @zaft:=cg0
theorem zah6:zaf ZP sg 0 Tryz.f209 @zty 3:=zas zzm good Tryz.func209 zamw zalg zaa (fun a=>by kernel_rfl) (by kernel_rfl) (fun _ _=>rfl)
theorem zar1:SG ZP sg 209 @zaya:=conD (loops:=zty) good Tryz.func209 zamw (by kernel_rfl) zalg (all_cons zah6 zaa) (fun a=>by kernel_rfl)
theorem zvl:SG ZP sg 115 @zacz:=conE good Tryz.func115 (by kernel_rfl) (by kernel_rfl) (cgc z58 (cgc zar1 (cgc zarq cg0))) (fun a=>by kernel_rfl)
theorem zam5:fnB ZP 270 Tryz.f270 [2]=true:=by kernel_rfl
theorem zalw:CG ZP sg @zaf9:=(cgc z6o cg0)
theorem zaim:zaf ZP sg 0 Tryz.f270 @zue 2:=zas zz2 good Tryz.func270 zam5 zalw zaa (fun a=>by kernel_rfl) (by kernel_rfl) (fun _ _=>rfl)
theorem zasf:SG ZP sg 270 @zayk:=conD (loops:=zue) good Tryz.func270 zam5 (by kernel_rfl) zalw (all_cons zaim zaa) (fun a=>by kernel_rfl)
theorem z62:SG ZP sg 191 @zazc:=conE good Tryz.func191 (by kernel_rfl) (by kernel_rfl) (cgc z59 (cgc z54 (cgc zasf cg0))) (fun a=>by kernel_rfl)
theorem zatf:SG ZP sg 92 @zazl:=conE good Tryz.func92 (by kernel_rfl) (by kernel_rfl) (cgc zvl (cgc zid (cgc zpq (cgc zpu (cgc zvm (cgc z7h (cgc z62 cg0))))))) (fun a=>by kernel_rfl)
theorem z6k:SG ZP sg 193 @zab8:=conE good Tryz.func193 (by kernel_rfl) (by kernel_rfl) cg0 (fun a=>by kernel_rfl)
theorem zyc:CG ZP sg @z1t:=(cgc z6k cg0)
theorem z2x:zaf ZP sg 0 Tryz.f242 @zlh 2:=zas zn6 good Tryz.func242 zyk zyc zaa (fun a=>by kernel_rfl) (by kernel_rfl) (fun _ _=>rfl)
theorem z7f:SG ZP sg 242 @zadu:=conD (loops:=zlh) good Tryz.func242 zyk (by kernel_rfl) zyc (all_cons z2x zaa) (fun a=>by kernel_rfl)
theorem z1x:SG ZP sg 164 @z4c:=conE good Tryz.func164 (by kernel_rfl) (by kernel_rfl) (cgc z6k (cgc z7f cg0)) (fun a=>by kernel_rfl)
theorem zvn:SG ZP sg 196 @zazg:=conS (loops:=l0) (ids:=[]) good Tryz.func196 (by kernel_rfl) (by kernel_rfl) cg0 zaa (fun a=>by kernel_rfl) (by kernel_rfl)
theorem z6s:SG ZP sg 194 @zay0:=conE good Tryz.func194 (by kernel_rfl) (by kernel_rfl) (cgc z6g cg0) (fun a=>by kernel_rfl)
theorem zar0:SG ZP sg 95 @zax7:=conE good Tryz.func95 (by kernel_rfl) (by kernel_rfl) (cgc (sgi (ac:=zapv) zkh (sgi (ac:=zpa) z1x sg0)) (cgc zkf (cgc z6s (cgc (sgP zatp) (cgc zvn cg0))))) (fun a=>by kernel_rfl)
theorem zpr:SG ZP sg 94 @zayw:=conM (loops:=l0) (ids:=[]) good Tryz.func94 (by kernel_rfl) (by kernel_rfl) (cgc ziw cg0) zaa (fun a b=>by kernel_rfl)
theorem zatx:SG ZP sg 198 @zazu:=conE good Tryz.func198 (by kernel_rfl) (by kernel_rfl) (cgc zvc (cgc zvo (cgc (sgP zats) cg0))) (fun a=>by kernel_rfl)
theorem z6w:SG ZP sg 97 @zay3:=conM (loops:=l0) (ids:=[]) good Tryz.func97 (by kernel_rfl) (by kernel_rfl) (cgc zps (cgc zatx cg0)) zaa (fun a b=>by kernel_rfl)
theorem zkg:SG ZP sg 98 @zayc:=conM (loops:=l0) (ids:=[]) good Tryz.func98 (by kernel_rfl) (by kernel_rfl) cg0 zaa (fun a b=>by kernel_rfl)
theorem zpp:SG ZP sg 101 @zaci:=conE good Tryz.func101 (by kernel_rfl) (by kernel_rfl) cg0 (fun a=>by kernel_rfl)
theorem zas7:SG ZP sg 100 @zac1:=conE good Tryz.func100 (by kernel_rfl) (by kernel_rfl) (cgc zpp cg0) (fun a=>by kernel_rfl)
theorem zx8:CG ZP sg @z1o:=(cgc zas7 cg0)
theorem z2s:zaf ZP sg 0 Tryz.f99 @zld 2:=zas zn0 good Tryz.func99 zm0 zx8 zaa (fun a=>by kernel_rfl) (by kernel_rfl) (fun _ _=>rfl)
theorem z6d:SG ZP sg 99 @zabs:=conD (loops:=zld) good Tryz.func99 zm0 (by kernel_rfl) zx8 (all_cons z2s zaa) (fun a=>by kernel_rfl)
theorem zar9:SG ZP sg 27 @zayh:=conE good Tryz.func27 (by kernel_rfl) (by kernel_rfl) (cgc zg8 (cgc zpn (cgc zki (cgc ziw (cgc zatf (cgc zg7 (cgc zpr (cgc zar0 (cgc zve (cgc z6w (cgc zkg (cgc z6d cg0)))))))))))) (fun a=>by kernel_rfl)
theorem zatg:SG ZP sg 224 @zazm:=conE good Tryz.func224 (by kernel_rfl) (by kernel_rfl) cg0 (fun a=>by kernel_rfl)
theorem zas1:SG ZP sg 223 @zact:=conE good Tryz.func223 (by kernel_rfl) (by kernel_rfl) (cgc zpp (cgc zatg cg0)) (fun a=>by kernel_rfl)
theorem zyb:CG ZP sg @z1s:=(cgc zas1 cg0)
theorem z2w:zaf ZP sg 0 Tryz.f80 @zlg 2:=zas zn5 good Tryz.func80 z2c zyb zaa (fun a=>by kernel_rfl) (by kernel_rfl) (fun _ _=>rfl)
theorem z66:SG ZP sg 80 @zut:=conD (loops:=zlg) good Tryz.func80 z2c (by kernel_rfl) zyb (all_cons z2w zaa) (fun a=>by kernel_rfl)
theorem zamd:fnB ZP 138 Tryz.f138 [9]=true:=by kernel_rfl
theorem za2e:CG ZP sg @zaqn:=(cgc zg6 (cgc z66 (cgc zvl (cgc z7h cg0))))
theorem zawe:zaf ZP sg 0 Tryz.f138 @z0r 9:=zas z86 good Tryz.func138 zamd za2e zaa (fun a=>by kernel_rfl) (by kernel_rfl) (fun _ _=>rfl)
theorem za20:SG ZP sg 138 @za58:=conD (loops:=z0r) good Tryz.func138 zamd (by kernel_rfl) za2e (all_cons zawe zaa) (fun a=>by kernel_rfl)
theorem zasv:SG ZP sg 140 @zay6:=conE good Tryz.func140 (by kernel_rfl) (by kernel_rfl) (cgc zalz (cgc zvo cg0)) (fun a=>by kernel_rfl)
theorem zame:fnB ZP 141 Tryz.f141 [1]=true:=by kernel_rfl
theorem zalv:CG ZP sg @zaf8:=(cgc zpt (cgc zvm cg0))
theorem zail:zaf ZP sg 1 Tryz.f141 @zud 1:=zas zz1 good Tryz.func141 zame zalv zaa (fun a=>by kernel_rfl) (by kernel_rfl) (fun _ _=>rfl)
theorem zase:SG ZP sg 141 @zayj:=conM (loops:=zud) good Tryz.func141 zame (by kernel_rfl) zalv (all_cons zail zaa) (fun a b=>by kernel_rfl)
theorem z6y:SG ZP sg 40 @zay8:=conE good Tryz.func40 (by kernel_rfl) (by kernel_rfl) (cgc zg8 (cgc zki (cgc zkg (cgc zid (cgc za20 (cgc zps (cgc zasv (cgc zase cg0)))))))) (fun a=>by kernel_rfl)
theorem z6j:SG ZP sg 116 @zab7:=conE good Tryz.func116 (by kernel_rfl) (by kernel_rfl) (cgc zpp cg0) (fun a=>by kernel_rfl)
theorem zx9:CG ZP sg @z1p:=(cgc z6j cg0)
theorem z2t:zaf ZP sg 0 Tryz.f99 @zle 2:=zas zn1 good Tryz.func99 zm0 zx9 zaa (fun a=>by kernel_rfl) (by kernel_rfl) (fun _ _=>rfl)
theorem z6e:SG ZP sg 99 @zabt:=conD (loops:=zle) good Tryz.func99 zm0 (by kernel_rfl) zx9 (all_cons z2t zaa) (fun a=>by kernel_rfl)
theorem z1y:SG ZP sg 117 @z4d:=conE good Tryz.func117 (by kernel_rfl) (by kernel_rfl) (cgc z6e (cgc z6j cg0)) (fun a=>by kernel_rfl)
theorem zate:SG ZP sg 119 @zazk:=conE good Tryz.func119 (by kernel_rfl) (by kernel_rfl) (cgc z62 cg0) (fun a=>by kernel_rfl)
theorem z6v:SG ZP sg 212 @zay2:=conE good Tryz.func212 (by kernel_rfl) (by kernel_rfl) (cgc zvn cg0) (fun a=>by kernel_rfl)
theorem zat5:SG ZP sg 121 @zaz1:=conE good Tryz.func121 (by kernel_rfl) (by kernel_rfl) (cgc zkh (cgc zkf (cgc z6s (cgc z6v cg0)))) (fun a=>by kernel_rfl)
theorem zasm:SG ZP sg 31 @zayr:=conE good Tryz.func31 (by kernel_rfl) (by kernel_rfl) (cgc zvg (cgc zg6 (cgc zg8 (cgc zki (cgc zpr (cgc zkg (cgc zvl (cgc z1y (cgc zid (cgc zate (cgc zpq (cgc zat5 cg0)))))))))))) (fun a=>by kernel_rfl)
theorem zal9:fnB ZP 129 Tryz.f129 [2]=true:=by kernel_rfl
theorem zakn:CG ZP sg @zaet:=(cgc zvg (cgc zpp cg0))
theorem zag7:zaf ZP sg 0 Tryz.f129 @zs5 2:=zas zyn good Tryz.func129 zal9 zakn zaa (fun a=>by kernel_rfl) (by kernel_rfl) (fun _ _=>rfl)
theorem zaq4:SG ZP sg 129 @zaxh:=conD (loops:=zs5) good Tryz.func129 zal9 (by kernel_rfl) zakn (all_cons zag7 zaa) (fun a=>by kernel_rfl)
theorem zau1:SG ZP sg 131 @za0n:=conE good Tryz.func131 (by kernel_rfl) (by kernel_rfl) (cgc zkh (cgc zkf (cgc z6v (cgc z67 cg0)))) (fun a=>by kernel_rfl)
theorem zau2:SG ZP sg 33 @za0o:=conE good Tryz.func33 (by kernel_rfl) (by kernel_rfl) (cgc zg8 (cgc zpr (cgc zkg (cgc zid (cgc zpu (cgc zaq4 (cgc z7e (cgc zau1 cg0)))))))) (fun a=>by kernel_rfl)
theorem zauu:SG ZP sg 234 @za0g:=conE good Tryz.func234 (by kernel_rfl) (by kernel_rfl) (cgc zvn (cgc (sgP zatr) cg0)) (fun a=>by kernel_rfl)
theorem zaud:SG ZP sg 154 @zaz9:=conE good Tryz.func154 (by kernel_rfl) (by kernel_rfl) (cgc zkh (cgc zkf (cgc zauu cg0))) (fun a=>by kernel_rfl)
theorem zatd:SG ZP sg 309 @zac4:=conE good Tryz.func309 (by kernel_rfl) (by kernel_rfl) (cgc zvk cg0) (fun a=>by kernel_rfl)
theorem z7o:fnB ZP 281 Tryz.f281 [7,13]=true:=by kernel_rfl
theorem z5x:CG ZP sg @zae6:=(cgc z57 (cgc zatd (cgc zvk cg0)))
theorem zahl:zaf ZP sg 0 Tryz.f281 @zk9 7:=zas zy1 good Tryz.func281 z7o z5x zaa (fun a=>by kernel_rfl) (by kernel_rfl) (fun _ _=>rfl)
theorem z9k:zaf ZP sg 0 Tryz.f281 @zk9 13:=zas zsv good Tryz.func281 z7o z5x zaa (fun a=>by kernel_rfl) (by kernel_rfl) (fun _ _=>rfl)
theorem zarh:SG ZP sg 281 @zaxq:=conD (loops:=zk9) good Tryz.func281 z7o (by kernel_rfl) z5x (all_cons zahl (all_cons z9k zaa)) (fun a=>by kernel_rfl)
theorem zaua:SG ZP sg 203 @zaz6:=conE good Tryz.func203 (by kernel_rfl) (by kernel_rfl) (cgc zal1 (cgc z7a (cgc zarh cg0))) (fun a=>by kernel_rfl)
theorem zas9:SG ZP sg 226 @zaze:=conE good Tryz.func226 (by kernel_rfl) (by kernel_rfl) (cgc z6h cg0) (fun a=>by kernel_rfl)
theorem zauv:SG ZP sg 149 @za0h:=conM (loops:=l0) (ids:=[]) good Tryz.func149 (by kernel_rfl) (by kernel_rfl) (cgc ziw (cgc zas9 cg0)) zaa (fun a b=>by kernel_rfl)
theorem zas3:SG ZP sg 283 @zacw:=conE good Tryz.func283 (by kernel_rfl) (by kernel_rfl) cg0 (fun a=>by kernel_rfl)
theorem zam7:fnB ZP 282 Tryz.f282 [2]=true:=by kernel_rfl
theorem zakq:CG ZP sg @zaew:=(cgc zas3 cg0)
theorem zaha:zaf ZP sg 0 Tryz.f282 @zs8 2:=zas zyq good Tryz.func282 zam7 zakq zaa (fun a=>by kernel_rfl) (by kernel_rfl) (fun _ _=>rfl)
theorem zaq6:SG ZP sg 282 @zaxj:=conD (loops:=zs8) good Tryz.func282 zam7 (by kernel_rfl) zakq (all_cons zaha zaa) (fun a=>by kernel_rfl)
theorem zask:SG ZP sg 204 @zayp:=conE good Tryz.func204 (by kernel_rfl) (by kernel_rfl) (cgc zaq6 cg0) (fun a=>by kernel_rfl)
theorem zaut:SG ZP sg 108 @za0f:=conM (loops:=l0) (ids:=[]) good Tryz.func108 (by kernel_rfl) (by kernel_rfl) (cgc zg7 (cgc zpr (cgc zid (cgc zpq (cgc zauv (cgc zaud (cgc zaua (cgc zask cg0)))))))) zaa (fun a b=>by kernel_rfl)
theorem zauq:SG ZP sg 29 @za0e:=conE good Tryz.func29 (by kernel_rfl) (by kernel_rfl) (cgc zg8 (cgc zpn (cgc ziw (cgc zg7 (cgc zve (cgc zkg (cgc zaut (cgc z6u (cgc zpt cg0))))))))) (fun a=>by kernel_rfl)
theorem zauo:SG ZP sg 15 @za0d:=conE good Tryz.func15 (by kernel_rfl) (by kernel_rfl) (cgc z64 (cgc zar9 (cgc zauq (cgc zasm (cgc zau2 (cgc zasu (cgc z6y (cgc z58 (cgc zatv cg0))))))))) (fun a=>by kernel_rfl)
theorem zamf:fnB ZP 142 Tryz.f142 [2]=true:=by kernel_rfl
theorem zali:CG ZP sg @zafv:=cg0
theorem zah8:zaf ZP sg 0 Tryz.f142 @zt0 2:=zas zzo good Tryz.func142 zamf zali zaa (fun a=>by kernel_rfl) (by kernel_rfl) (fun _ _=>rfl)
theorem zar2:SG ZP sg 142 @zabw:=conD (loops:=zt0) good Tryz.func142 zamf (by kernel_rfl) zali (all_cons zah8 zaa) (fun a=>by kernel_rfl)
theorem zamy:fnB ZP 214 Tryz.f214 [3]=true:=by kernel_rfl
theorem zalf:CG ZP sg @zafs:=cg0
theorem zah5:zaf ZP sg 0 Tryz.f214 @ztx 3:=zas zzl good Tryz.func214 zamy zalf zaa (fun a=>by kernel_rfl) (by kernel_rfl) (fun _ _=>rfl)
theorem zarz:SG ZP sg 214 @zax6:=conD (loops:=ztx) good Tryz.func214 zamy (by kernel_rfl) zalf (all_cons zah5 zaa) (fun a=>by kernel_rfl)
theorem zamz:fnB ZP 215 Tryz.f215 [3]=true:=by kernel_rfl
theorem zale:CG ZP sg @zafr:=cg0
theorem zah4:zaf ZP sg 0 Tryz.f215 @ztw 3:=zas zzk good Tryz.func215 zamz zale zaa (fun a=>by kernel_rfl) (by kernel_rfl) (fun _ _=>rfl)
theorem zary:SG ZP sg 215 @zax5:=conD (loops:=ztw) good Tryz.func215 zamz (by kernel_rfl) zale (all_cons zah4 zaa) (fun a=>by kernel_rfl)
theorem zau0:SG ZP sg 213 @za0m:=conE good Tryz.func213 (by kernel_rfl) (by kernel_rfl) cg0 (fun a=>by kernel_rfl)
theorem zaum:SG ZP sg 123 @zado:=conE good Tryz.func123 (by kernel_rfl) (by kernel_rfl) (cgc zic (cgc zau0 (cgc zarz (cgc zary cg0)))) (fun a=>by kernel_rfl)
theorem zamg:fnB ZP 143 Tryz.f143 [3]=true:=by kernel_rfl
theorem zalt:CG ZP sg @zaf6:=cg0
theorem zaij:zaf ZP sg 0 Tryz.f143 @zub 3:=zas zzz good Tryz.func143 zamg zalt zaa (fun a=>by kernel_rfl) (by kernel_rfl) (fun _ _=>rfl)
theorem zasc:SG ZP sg 143 @zab5:=conD (loops:=zub) good Tryz.func143 zamg (by kernel_rfl) zalt (all_cons zaij zaa) (fun a=>by kernel_rfl)
theorem zaur:SG ZP sg 313 @zadr:=conE good Tryz.func313 (by kernel_rfl) (by kernel_rfl) cg0 (fun a=>by kernel_rfl)
theorem zati:SG ZP sg 314 @zac5:=conE good Tryz.func314 (by kernel_rfl) (by kernel_rfl) cg0 (fun a=>by kernel_rfl)
theorem zam9:fnB ZP 288 Tryz.f288 [3]=true:=by kernel_rfl
theorem zala:CG ZP sg @zafn:=(cgc zaur (cgc zati cg0))
theorem zah1:zaf ZP sg 0 Tryz.f288 @zts 3:=zas zzh good Tryz.func288 zam9 zala zaa (fun a=>by kernel_rfl) (by kernel_rfl) (fun _ _=>rfl)
theorem zaru:SG ZP sg 288 @zax1:=conD (loops:=zts) good Tryz.func288 zam9 (by kernel_rfl) zala (all_cons zah1 zaa) (fun a=>by kernel_rfl)
theorem zaub:SG ZP sg 216 @zaz7:=conE good Tryz.func216 (by kernel_rfl) (by kernel_rfl) (cgc zaru cg0) (fun a=>by kernel_rfl)
theorem z7b:SG ZP sg 124 @zade:=conE good Tryz.func124 (by kernel_rfl) (by kernel_rfl) (cgc zic (cgc zaub cg0)) (fun a=>by kernel_rfl)
theorem zamh:fnB ZP 144 Tryz.f144 [5]=true:=by kernel_rfl
theorem zalq:CG ZP sg @zaf3:=(cgc zal0 cg0)
theorem zaig:zaf ZP sg 0 Tryz.f144 @zt8 5:=zas zzw good Tryz.func144 zamh zalq zaa (fun a=>by kernel_rfl) (by kernel_rfl) (fun _ _=>rfl)
theorem zar8:SG ZP sg 144 @zab2:=conD (loops:=zt8) good Tryz.func144 zamh (by kernel_rfl) zalq (all_cons zaig zaa) (fun a=>by kernel_rfl)
theorem z7q:fnB ZP 293 Tryz.f293 [3,6]=true:=by kernel_rfl
theorem zaqt:CG ZP sg @zap5:=cg0
theorem z9e:zaf ZP sg 0 Tryz.f293 @zqq 6:=zas z8h good Tryz.func293 z7q zaqt zaa (fun a=>by kernel_rfl) (by kernel_rfl) (fun _ _=>rfl)
theorem zavt:zaf ZP sg 0 Tryz.f293 @zqq 3:=zas z8g good Tryz.func293 z7q zaqt (all_cons z9e zaa) (fun a=>by kernel_rfl) (by kernel_rfl) (fun _ _=>rfl)
theorem za2j:SG ZP sg 293 @zapf:=conD (loops:=zqq) good Tryz.func293 z7q (by kernel_rfl) zaqt (all_cons zavt (all_cons z9e zaa)) (fun a=>by kernel_rfl)
theorem zama:fnB ZP 132 Tryz.f132 [2]=true:=by kernel_rfl
theorem zakw:CG ZP sg @zae9:=cg0
theorem zaho:zaf ZP sg 0 Tryz.f132 @zte 2:=zas zy4 good Tryz.func132 zama zakw zaa (fun a=>by kernel_rfl) (by kernel_rfl) (fun _ _=>rfl)
theorem zpl:SG ZP sg 132 @zq4:=conD (loops:=zte) good Tryz.func132 zama (by kernel_rfl) zakw (all_cons zaho zaa) (fun a=>by kernel_rfl)
theorem zam3:fnB ZP 235 Tryz.f235 [4]=true:=by kernel_rfl
theorem zald:CG ZP sg @zafq:=(cgc zpl (cgc za2j cg0))
theorem zah3:zaf ZP sg 0 Tryz.f235 @ztv 4:=zas zzj good Tryz.func235 zam3 zald zaa (fun a=>by kernel_rfl) (by kernel_rfl) (fun _ _=>rfl)
theorem zarx:SG ZP sg 235 @zax4:=conD (loops:=ztv) good Tryz.func235 zam3 (by kernel_rfl) zald (all_cons zah3 zaa) (fun a=>by kernel_rfl)
theorem z7c:SG ZP sg 157 @zadf:=conE good Tryz.func157 (by kernel_rfl) (by kernel_rfl) (cgc ziv (cgc zarx cg0)) (fun a=>by kernel_rfl)
theorem zal6:fnB ZP 103 Tryz.f103 [10]=true:=by kernel_rfl
theorem zak1:CG ZP sg @zafe:=(cgc ziv (cgc z6p cg0))
theorem z9m:zaf ZP sg 0 Tryz.f103 @ztj 10:=zas zsx good Tryz.func103 zal6 zak1 zaa (fun a=>by kernel_rfl) (by kernel_rfl) (fun _ _=>rfl)
theorem zvd:SG ZP sg 103 @zaxv:=conD (loops:=ztj) good Tryz.func103 zal6 (by kernel_rfl) zak1 (all_cons z9m zaa) (fun a=>by kernel_rfl)
theorem za2w:SG ZP sg 126 @za54:=conE good Tryz.func126 (by kernel_rfl) (by kernel_rfl) cg0 (fun a=>by kernel_rfl)
theorem zauc:SG ZP sg 338 @zaz8:=conE good Tryz.func338 (by kernel_rfl) (by kernel_rfl) cg0 (fun a=>by kernel_rfl)
theorem zaun:SG ZP sg 315 @zadp:=conE good Tryz.func315 (by kernel_rfl) (by kernel_rfl) (cgc zauc cg0) (fun a=>by kernel_rfl)
theorem z7p:fnB ZP 290 Tryz.f290 [6,12]=true:=by kernel_rfl
theorem z5v:CG ZP sg @zae4:=(cgc zaun cg0)
theorem zahj:zaf ZP sg 0 Tryz.f290 @zk7 6:=zas zyz good Tryz.func290 z7p z5v zaa (fun a=>by kernel_rfl) (by kernel_rfl) (fun _ _=>rfl)
theorem z9i:zaf ZP sg 0 Tryz.f290 @zk7 12:=zas zst good Tryz.func290 z7p z5v zaa (fun a=>by kernel_rfl) (by kernel_rfl) (fun _ _=>rfl)
theorem zarf:SG ZP sg 290 @zabj:=conD (loops:=zk7) good Tryz.func290 z7p (by kernel_rfl) z5v (all_cons zahj (all_cons z9i zaa)) (fun a=>by kernel_rfl)
theorem zam1:fnB ZP 220 Tryz.f220 [2]=true:=by kernel_rfl
theorem zalo:CG ZP sg @zaf1:=(cgc zarf cg0)
theorem zaie:zaf ZP sg 0 Tryz.f220 @zt6 2:=zas zzu good Tryz.func220 zam1 zalo zaa (fun a=>by kernel_rfl) (by kernel_rfl) (fun _ _=>rfl)
theorem zar6:SG ZP sg 220 @zab0:=conD (loops:=zt6) good Tryz.func220 zam1 (by kernel_rfl) zalo (all_cons zaie zaa) (fun a=>by kernel_rfl)
theorem zamb:fnB ZP 133 Tryz.f133 [9]=true:=by kernel_rfl
theorem zalb:CG ZP sg @zafo:=(cgc zar6 cg0)
theorem zah2:zaf ZP sg 0 Tryz.f133 @ztt 9:=zas zzi good Tryz.func133 zamb zalb zaa (fun a=>by kernel_rfl) (by kernel_rfl) (fun _ _=>rfl)
theorem zarv:SG ZP sg 133 @zax2:=conD (loops:=ztt) good Tryz.func133 zamb (by kernel_rfl) zalb (all_cons zah2 zaa) (fun a=>by kernel_rfl)
theorem zam2:fnB ZP 230 Tryz.f230 [3]=true:=by kernel_rfl
theorem zals:CG ZP sg @zaf5:=cg0
theorem zaii:zaf ZP sg 0 Tryz.f230 @zua 3:=zas zzy good Tryz.func230 zam2 zals zaa (fun a=>by kernel_rfl) (by kernel_rfl) (fun _ _=>rfl)
theorem zasb:SG ZP sg 230 @zab4:=conD (loops:=zua) good Tryz.func230 zam2 (by kernel_rfl) zals (all_cons zaii zaa) (fun a=>by kernel_rfl)
theorem zamv:fnB ZP 208 Tryz.f208 [9]=true:=by kernel_rfl
theorem zaln:CG ZP sg @zaf0:=(cgc zpl (cgc zasb (cgc z6z (cgc z63 cg0))))
theorem zaid:zaf ZP sg 0 Tryz.f208 @zt5 9:=zas zzt good Tryz.func208 zamv zaln zaa (fun a=>by kernel_rfl) (by kernel_rfl) (fun _ _=>rfl)
theorem z6i:SG ZP sg 208 @zayf:=conD (loops:=zt5) good Tryz.func208 zamv (by kernel_rfl) zaln (all_cons zaid zaa) (fun a=>by kernel_rfl)
theorem zatk:SG ZP sg 113 @zazq:=conE good Tryz.func113 (by kernel_rfl) (by kernel_rfl) (cgc ziv (cgc zvd (cgc z7b (cgc za2w (cgc zarv (cgc z6i cg0)))))) (fun a=>by kernel_rfl)
theorem z7d:SG ZP sg 114 @zadg:=conE good Tryz.func114 (by kernel_rfl) (by kernel_rfl) (cgc ziv (cgc zvd (cgc zatk (cgc zpl (cgc z7c (cgc z6i cg0)))))) (fun a=>by kernel_rfl)
theorem zami:fnB ZP 145 Tryz.f145 [2]=true:=by kernel_rfl
theorem zalr:CG ZP sg @zaf4:=(cgc z7d (cgc z7c cg0))
theorem zaih:zaf ZP sg 0 Tryz.f145 @zt9 2:=zas zzx good Tryz.func145 zami zalr zaa (fun a=>by kernel_rfl) (by kernel_rfl) (fun _ _=>rfl)
theorem zasa:SG ZP sg 145 @zab3:=conD (loops:=zt9) good Tryz.func145 zami (by kernel_rfl) zalr (all_cons zaih zaa) (fun a=>by kernel_rfl)
theorem za3e:fnB ZP 41 Tryz.f41 [11]=true:=by kernel_rfl
theorem zalc:CG ZP sg @zafp:=(cgc zic (cgc ziv (cgc zaum (cgc z7b (cgc zar2 (cgc zasc (cgc zar8 (cgc zasa cg0))))))))
theorem z9n:zaf ZP sg 0 Tryz.f41 @ztu 11:=zas zsy good Tryz.func41 za3e zalc zaa (fun a=>by kernel_rfl) (by kernel_rfl) (fun _ _=>rfl)
theorem zarw:SG ZP sg 41 @zax3:=conD (loops:=ztu) good Tryz.func41 za3e (by kernel_rfl) zalc (all_cons z9n zaa) (fun a=>by kernel_rfl)
theorem zat2:SG ZP sg 146 @zazy:=conM (loops:=l0) (ids:=[]) good Tryz.func146 (by kernel_rfl) (by kernel_rfl) (cgc zpn (cgc z6w (cgc zpt (cgc z6m cg0)))) zaa (fun a b=>by kernel_rfl)
theorem zat3:SG ZP sg 42 @zazz:=conE good Tryz.func42 (by kernel_rfl) (by kernel_rfl) (cgc zg8 (cgc zpu (cgc zaly (cgc zat2 cg0)))) (fun a=>by kernel_rfl)
theorem zal8:fnB ZP 107 Tryz.f107 [6]=true:=by kernel_rfl
theorem zak9:CG ZP sg @zafm:=(cgc zpl cg0)
theorem zah0:zaf ZP sg 0 Tryz.f107 @ztr 6:=zas zzg good Tryz.func107 zal8 zak9 zaa (fun a=>by kernel_rfl) (by kernel_rfl) (fun _ _=>rfl)
theorem zart:SG ZP sg 107 @zax0:=conD (loops:=ztr) good Tryz.func107 zal8 (by kernel_rfl) zak9 (all_cons zah0 zaa) (fun a=>by kernel_rfl)
theorem zat7:SG ZP sg 147 @zaz3:=conE good Tryz.func147 (by kernel_rfl) (by kernel_rfl) (cgc zvd (cgc zart (cgc z7d cg0))) (fun a=>by kernel_rfl)
theorem zat4:SG ZP sg 43 @zaz0:=conE good Tryz.func43 (by kernel_rfl) (by kernel_rfl) (cgc zat7 cg0) (fun a=>by kernel_rfl)
theorem zava:fnB ZP 61 Tryz.f61 [2,7]=true:=by kernel_rfl
theorem zaqx:CG ZP sg @zaqp:=cg0
theorem z9s:zaf ZP sg 0 Tryz.f61 @zqu 7:=zas z89 good Tryz.func61 zava zaqx zaa (fun a=>by kernel_rfl) (by kernel_rfl) (fun _ _=>rfl)
theorem zawg:zaf ZP sg 0 Tryz.f61 @zqu 2:=zas z88 good Tryz.func61 zava zaqx (all_cons z9s zaa) (fun a=>by kernel_rfl) (by kernel_rfl) (fun _ _=>rfl)
theorem za21:SG ZP sg 61 @zapn:=conD (loops:=zqu) good Tryz.func61 zava (by kernel_rfl) zaqx (all_cons zawg (all_cons z9s zaa)) (fun a=>by kernel_rfl)
theorem zsd:fnB ZP 16 Tryz.f16 [6,11,16,21,26,31,36]=true:=by kernel_rfl
theorem zrv:CG ZP sg @zap8:=(cgc za21 cg0)
theorem zavx:zaf ZP sg 0 Tryz.f16 @zer 6:=zas z8l good Tryz.func16 zsd zrv zaa (fun a=>by kernel_rfl) (by kernel_rfl) (fun _ _=>rfl)
theorem zain:zaf ZP sg 0 Tryz.f16 @zer 11:=zas zz3 good Tryz.func16 zsd zrv zaa (fun a=>by kernel_rfl) (by kernel_rfl) (fun _ _=>rfl)
theorem zaio:zaf ZP sg 0 Tryz.f16 @zer 16:=zas zz4 good Tryz.func16 zsd zrv zaa (fun a=>by kernel_rfl) (by kernel_rfl) (fun _ _=>rfl)
theorem zaip:zaf ZP sg 0 Tryz.f16 @zer 21:=zas zz5 good Tryz.func16 zsd zrv zaa (fun a=>by kernel_rfl) (by kernel_rfl) (fun _ _=>rfl)
theorem zaiq:zaf ZP sg 0 Tryz.f16 @zer 26:=zas zz6 good Tryz.func16 zsd zrv zaa (fun a=>by kernel_rfl) (by kernel_rfl) (fun _ _=>rfl)
theorem zair:zaf ZP sg 0 Tryz.f16 @zer 31:=zas zz7 good Tryz.func16 zsd zrv zaa (fun a=>by kernel_rfl) (by kernel_rfl) (fun _ _=>rfl)
theorem zais:zaf ZP sg 0 Tryz.f16 @zer 36:=zas zz8 good Tryz.func16 zsd zrv zaa (fun a=>by kernel_rfl) (by kernel_rfl) (fun _ _=>rfl)
theorem za2m:SG ZP sg 16 @za5y:=conD (loops:=zer) good Tryz.func16 zsd (by kernel_rfl) zrv (all_cons zavx (all_cons zain (all_cons zaio (all_cons zaip (all_cons zaiq (all_cons zair (all_cons zais zaa))))))) (fun a=>by kernel_rfl)
theorem zatb:SG ZP sg 10 @zazi:=conE good Tryz.func10 (by kernel_rfl) (by kernel_rfl) (cgc zauo (cgc za2m (cgc zat9 (cgc z6y (cgc zarw (cgc zat3 (cgc zat4 cg0))))))) (fun a=>by kernel_rfl)
end Go.Proofs.YtdahfgialanmpaaGreatDoor
namespace Go.Proofs.YtdahfgialanmpaaGreatDoor
open Ev
open Go (IntKind)
section
variable {α β σ X:Type}
theorem z2o {step:α→Option (α⊕β)}:∀{n m:Nat} {a:α} {b:β},n≤m→za5 step n a=some b→za5 step m a=some b:=by
 intro n
 induction n with
 |zero=>intro m a b _ h;cases h
 |succ n ih=>
  intro m a b hm h
  obtain ⟨m,rfl⟩:∃k,m=k+1:=⟨m-1,by omega⟩
  simp only[za5]at h ⊢
  cases h1:step a with
  |none=>rw[h1]at h;cases h
  |some x=>
   rw[h1]at h
   cases x with
   |inl a'=>exact ih (by omega) h
   |inr b'=>exact h
theorem za3 {step:α→Option (α⊕β)} {a:α} {b:β} (n:Nat) (hn:n≤FUEL) (h:za5 step n a=some b):zac step a=some b:=z2o hn h
theorem zad9 {step:α→Option (α⊕β)} (Inv:α→Prop) (μ:α→Nat) (f:α→β)
 (h:∀a,Inv a→(∃a',step a=some (.inl a')∧Inv a'∧μ a'<μ a∧f a'=f a)∨step a=some (.inr (f a))) {a:α} (ha:Inv a) (hm:μ a<FUEL):zac step a=some (f a):=by
 have key:∀n a,Inv a→μ a<n→za5 step n a=some (f a):=by
  intro n
  induction n with
  |zero=>intro a _ h;omega
  |succ n ih=>
   intro a hi hn
   simp only[za5]
   rcases h a hi with ⟨a',h1,h2,h3,h4⟩|h1
   ·rw[h1];simp only;rw[ih a' h2 (by omega),h4]
   ·rw[h1]
 exact key FUEL a ha hm
def zc7 (f:Nat→X→σ→σ⊕β) (fin:σ→β):Nat→List X→σ→β
 |_,[],s=>fin s
 |i,x::l,s=>match f i x s with
  |.inl s'=>zc7 f fin (i+1) l s'
  |.inr b=>b
theorem zbb {step:α→Option (α⊕β)} (Inv:Nat→σ→Prop) (enc:Nat→σ→α) (l:List X) (f:Nat→X→σ→σ⊕β) (fin:σ→β) (hl:l.length<FUEL)
 (h0:∀s,Inv l.length s→step (enc l.length s)=some (.inr (fin s)))
 (h1:∀i x s,l[i]?=some x→Inv i s→(step (enc i s)=some (match f i x s with | .inl s'=>.inl (enc (i+1) s') | .inr b=>.inr b))∧∀s',f i x s=.inl s'→Inv (i+1) s')
 (s:σ) (hs:Inv 0 s):zac step (enc 0 s)=some (zc7 f fin 0 l s):=by
 have key:∀k i s,i+k=l.length→Inv i s→za5 step (k+1) (enc i s)=some (zc7 f fin i (l.drop i) s):=by
  intro k
  induction k with
  |zero=>
   intro i s hi hs
   have:i=l.length:=by omega
   subst this
   rw[List.drop_length]
   simp only[za5,h0 s hs,zc7]
  |succ k ih=>
   intro i s hi hs
   have hlt:i<l.length:=by omega
   obtain ⟨e1,e2⟩:=h1 i l[i] s (List.getElem?_eq_getElem hlt) hs
   rw[List.drop_eq_getElem_cons hlt]
   rw[za5,e1]
   simp only[zc7]
   cases hf:f i l[i] s with
   |inl s'=>simp only;exact ih (i+1) s' (by omega) (e2 s' hf)
   |inr b=>rfl
 have:=key l.length 0 s (by omega) hs
 exact za3 (l.length+1) (by omega) (by simpa using this)
theorem zcz {step:α→Option (α⊕β)} (enc:Nat→σ→α) (l:List X) (f:Nat→X→σ→σ⊕β) (fin:σ→β) (hl:l.length<FUEL)
 (h0:∀s,step (enc l.length s)=some (.inr (fin s)))
 (h1:∀i x s,l[i]?=some x→step (enc i s)=some (match f i x s with | .inl s'=>.inl (enc (i+1) s') | .inr b=>.inr b))
 (s:σ):zac step (enc 0 s)=some (zc7 f fin 0 l s):=
 zbb (fun _ _=>True) enc l f fin hl (fun s _=>h0 s) (fun i x s hx _=>⟨h1 i x s hx,fun _ _=>trivial⟩) s trivial
def fIdx (p:X→Bool) (l:List X):Int:=match l.findIdx? p with|some i=>(i:Int)|none=>-1
def zb3 (f:Nat→X→Int):Nat→List X→Int
 |_,[]=>0
 |i,x::l=>if f i x==0 then zb3 f (i+1) l else f i x
theorem zaa9 {f:Nat→X→Int} {d:β} {g:Int→β}:∀{l:List X} {i:Nat},zc7 (σ:=Unit) (fun i x _=>if f i x==0 then .inl () else .inr (g (f i x))) (fun _=>d) i l ()=if zb3 f i l==0 then d else g (zb3 f i l):=by
 intro l
 induction l with
 |nil=>intros;rfl
 |cons x l ih=>
  intro i
  simp only[zc7,zb3]
  by_cases h:(f i x==0)=true
  ·simp only[h,if_true];exact ih
  ·have h2:¬f i x=0:=fun e=>h (by simp[e])
   simp[h2]
theorem z2b {f:Nat→X→Int}:∀{l:List X} {i:Nat},zb3 f i l=0↔∀k x,l[k]?=some x→f (i+k) x=0:=by
 intro l
 induction l with
 |nil=>intro i;simp[zb3]
 |cons y l ih=>
  intro i
  simp only[zb3]
  constructor
  ·intro h k x hk
   split at h
   ·rename_i h1
    cases k with
    |zero=>simp at hk;subst hk;simpa using h1
    |succ k=>have:=(ih (i:=i+1)).1 h k x (by simpa using hk);rwa [show i+(k+1)=i+1+k by omega]
   ·rename_i h1;exfalso;apply h1;simp[h]
  ·intro h
   have h0:=h 0 y rfl
   simp only[Nat.add_zero]at h0
   rw[h0]
   simp only[beq_self_eq_true,if_true]
   exact ih.2 (fun k x hk=>by have:=h (k+1) x (by simpa using hk);rwa [show i+(k+1)=i+1+k by omega]at this)
theorem zb9 {f:X→σ→σ} {fin:σ→β}:∀{l:List X} {i:Nat} {s:σ},zc7 (fun _ x s=>.inl (f x s)) fin i l s=fin (l.foldl (fun s x=>f x s) s):=by
 intro l
 induction l with
 |nil=>intros;rfl
 |cons x l ih=>intro i s;simp only[zc7,List.foldl_cons];exact ih
end
section
variable {α β σ X:Type} {step:α→Option (α⊕β)}
def zg0 (a:α) (g:Int→β) (e:Int):Option (α⊕β):=if e==0 then some (.inl a) else some (.inr (g e))
theorem zdg (a:α) (g:Int→β) (b:Bool) (x y:Int):zg0 a g (bif b then x else y)=bif b then zg0 a g x else zg0 a g y:=by cases b<;>rfl
theorem zd9 (enc:Nat→α) (l:List X) (f:Nat→X→Int) (d:β) (g:Int→β) (hl:l.length<1000000000) (h0:step (enc l.length)=some (.inr d))
 (h1:∀i x,l[i]?=some x→step (enc i)=zg0 (enc (i+1)) g (f i x)):zac step (enc 0)=some (if zb3 f 0 l==0 then d else g (zb3 f 0 l)):=by
 have h:=zcz (step:=step) (fun i (_:Unit)=>enc i) l (fun i x _=>if f i x==0 then .inl () else .inr (g (f i x))) (fun _=>d) (by show l.length<18446744073709551616;omega) (fun _=>h0)
  (fun i x _ hx=>by rw[h1 i x hx];unfold zg0;split<;>rfl) ()
 rw[h,zaa9]
def zfl (p:X→Bool) (g:Nat→X→β) (d:β):Nat→List X→β
 |_,[]=>d
 |i,x::l=>bif p x then g i x else zfl p g d (i+1) l
theorem zbf (enc:Nat→α) (l:List X) (p:X→Bool) (g:Nat→X→β) (d:β) (hl:l.length<1000000000) (h0:step (enc l.length)=some (.inr d))
 (h1:∀i x,l[i]?=some x→step (enc i)=bif p x then some (.inr (g i x)) else some (.inl (enc (i+1)))):zac step (enc 0)=some (zfl p g d 0 l):=by
 have h:=zcz (step:=step) (fun i (_:Unit)=>enc i) l (fun i x _=>if p x then .inr (g i x) else .inl ()) (fun _=>d) (by show l.length<18446744073709551616;omega) (fun _=>h0)
  (fun i x _ hx=>by rw[h1 i x hx];cases p x<;>rfl) ()
 rw[h]
 have key:∀(l:List X) (i:Nat),zc7 (σ:=Unit) (fun i x _=>if p x then .inr (g i x) else .inl ()) (fun _=>d) i l ()=zfl p g d i l:=by
  intro l
  induction l with
  |nil=>intro i;rfl
  |cons x l ih=>
   intro i
   simp only[zc7,zfl]
   cases p x with
   |true=>rfl
   |false=>exact ih _
 rw[key]
theorem zd8 {p:X→Bool} {g:X→β} {d:β}:∀{l:List X} {i:Nat},zfl p (fun _ x=>g x) d i l=(match l.find? p with|some x=>g x|none=>d):=by
 intro l
 induction l with
 |nil=>intros;rfl
 |cons x l ih=>intro i;simp only[zfl,List.find?_cons];cases p x with|true=>rfl|false=>exact ih
theorem z7t {p:X→Bool}:∀{l:List X} {i:Nat},zfl p (fun i _=>(i:Int)) (-1) i l=(match l.findIdx? p with|some k=>((i+k:Nat):Int)|none=>-1):=by
 intro l
 induction l with
 |nil=>intros;rfl
 |cons x l ih=>
  intro i
  simp only[zfl,List.findIdx?_cons]
  cases p x with
  |true=>rfl
  |false=>
   simp only[Bool.false_eq_true,if_false,cond_false]
   rw[ih]
   cases l.findIdx? p with
   |none=>rfl
   |some k=>simp only[Option.map_some];rw[show i+1+k=i+(k+1) by omega]
theorem zd7 {p:X→Bool} {l:List X}:zfl p (fun i _=>(i:Int)) (-1) 0 l=fIdx p l:=by
 rw[z7t];unfold fIdx;simp
theorem zcq {γ:Type} {p:X→Bool} {g:Nat→X→β} {d:β} (f:β→γ):∀{l:List X} {i:Nat},f (zfl p g d i l)=zfl p (fun i x=>f (g i x)) (f d) i l:=by
 intro l
 induction l with
 |nil=>intros;rfl
 |cons x l ih=>intro i;simp only[zfl];cases p x with|true=>rfl|false=>exact ih
def zch (p:Nat→X→Bool):Nat→List X→Bool
 |_,[]=>true
 |i,x::l=>p i x&&zch p (i+1) l
theorem zav (enc:Nat→α) (l:List X) (p:Nat→X→Bool) (b d:β) (hl:l.length<1000000000) (h0:step (enc l.length)=some (.inr d))
 (h1:∀i x,l[i]?=some x→step (enc i)=bif p i x then some (.inl (enc (i+1))) else some (.inr b)):zac step (enc 0)=some (bif zch p 0 l then d else b):=by
 have h:=zcz (step:=step) (fun i (_:Unit)=>enc i) l (fun i x _=>if p i x then .inl () else .inr b) (fun _=>d) (by show l.length<18446744073709551616;omega) (fun _=>h0)
  (fun i x _ hx=>by rw[h1 i x hx];cases p i x<;>rfl) ()
 rw[h]
 have key:∀(l:List X) (i:Nat),zc7 (σ:=Unit) (fun i x _=>if p i x then .inl () else .inr b) (fun _=>d) i l ()=bif zch p i l then d else b:=by
  intro l
  induction l with
  |nil=>intro i;rfl
  |cons x l ih=>
   intro i
   simp only[zc7,zch]
   cases p i x with
   |true=>exact ih _
   |false=>rfl
 rw[key]
theorem za2 {p:X→Bool}:∀{l:List X} {i:Nat},zch (fun _=>p) i l=l.all p:=by
 intro l
 induction l with
 |nil=>intros;rfl
 |cons x l ih=>intro i;simp only[zch,List.all_cons];rw[ih]
theorem zre {p:Nat→X→Bool}:∀{l:List X} {i:Nat},zch p i l=true↔∀k x,l[k]?=some x→p (i+k) x=true:=by
 intro l
 induction l with
 |nil=>intro i;simp[zch]
 |cons y l ih=>
  intro i
  simp only[zch,Bool.and_eq_true]
  rw[ih]
  constructor
  ·rintro ⟨h0,h⟩ k x hk
   cases k with
   |zero=>simp at hk;subst hk;exact h0
   |succ k=>have:=h k x (by simpa using hk);rwa [show i+(k+1)=i+1+k by omega]
  ·intro h
   exact ⟨h 0 y rfl,fun k x hk=>by have:=h (k+1) x (by simpa using hk);rwa [show i+(k+1)=i+1+k by omega]at this⟩
theorem zmq (enc:Nat→σ→α) (l:List X) (f:X→σ→σ) (fin:σ→β) (hl:l.length<1000000000) (h0:∀s,step (enc l.length s)=some (.inr (fin s)))
 (h1:∀i x s,l[i]?=some x→step (enc i s)=some (.inl (enc (i+1) (f x s)))) (s:σ):zac step (enc 0 s)=some (fin (l.foldl (fun s x=>f x s) s)):=by
 have h:=zcz (step:=step) enc l (fun i x s=>.inl (f x s)) fin (by show l.length<18446744073709551616;omega) h0 (fun i x s hx=>by rw[h1 i x s hx]) s
 rw[h,zb9]
end
def zbo {X:Type} (l:List X) (i:Nat) (f:X→Bool):Bool:=match i with
 |0=>false
 |j+1=>match l[j]? with|some y=>f y|none=>false
theorem zdm {n:Int} (h1 : -9223372036854775808≤n) (h2:n≤9223372036854775807):wr .i64 n=n:=by
 unfold wr;rw[IntKind.wrap_i64];omega
theorem zam {n:Nat} (h:n<9223372036854775807):wr .i64 ((n:Int)+1)=((n+1:Nat):Int):=by
 rw[zdm (by omega) (by omega)];rfl
theorem zgj {j:Nat} (h:j<1000000000):wr .i64 (((j+1:Nat):Int)-1)=(j:Int):=by
 rw[show ((j+1:Nat):Int)-1=(j:Int) by omega]
 exact zdm (by omega) (by omega)
theorem dpos {j:Nat}:decide ((0:Int)<((j+1:Nat):Int))=true:=by rw[decide_eq_true_eq];omega
theorem z18:decide ((0:Int)<((0:Nat):Int))=false:=rfl
theorem zah {α:Type} (l:List α) (i:Nat):getI l (i:Int)=l[i]?:=by
 unfold getI;simp
theorem zaj0:LIM=1073741824:=rfl
theorem za0:FUEL=18446744073709551616:=rfl
end Go.Proofs.YtdahfgialanmpaaGreatDoor
namespace Go.Proofs.YtdahfgialanmpaaGreatDoor
open Ev
open Go (IntKind)
theorem dlt {i n:Nat} (h:i<n):decide ((i:Int)<(n:Int))=true:=by simpa using h
theorem dge {n:Nat}:decide ((n:Int)<(n:Int))=false:=by simp
theorem k_or {α:Type} (k:Bool→α) (a b:Bool):(bif a then k true else k b)=k (a||b):=by cases a<;>rfl
theorem za7 {α:Type} (k:Bool→α) (a b:Bool):(bif a then k b else k false)=k (a&&b):=by cases a<;>rfl
theorem zii {α:Type} (k:Bool→α) (a b:Bool):(bif a then k a else k b)=k (a||b):=by cases a<;>rfl
theorem zc4 {α:Type} (c:Bool) (a b:α):(bif c then some a else some b)=some (bif c then a else b):=by cases c<;>rfl
theorem za0t (b:UInt8):wr .i64 (b.toNat:Int)=(b.toNat:Int):=by
 have:=b.toNat_lt
 exact zdm (by omega) (by omega)
def dcdI (r:List UInt8):Int×Int:=(((dcd r).1:Int),((dcd r).2:Int))
theorem zaam {s:List UInt8} {i:Nat} (hi:i<s.length) (hs:s.length<1000000000):qbe s (i:Int)=some (dcdI (s.drop i)):=by
 obtain ⟨a,r,hr⟩:∃a r,s.drop i=a::r:=⟨s[i],s.drop (i+1),List.drop_eq_getElem_cons hi⟩
 have g:∀k,getI s ((i+k:Nat):Int)=(a::r)[k]?:=fun k=>by rw[zah,←hr,List.getElem?_drop]
 have h0:getI s (i:Int)=some a:=g 0
 have w1:wr .i64 ((i:Int)+1)=((i+1:Nat):Int):=zam (by omega)
 have w2:wr .i64 ((i:Int)+2)=((i+2:Nat):Int):=by rw[zdm (by omega) (by omega)];rfl
 have hl:s.length=i+(r.length+1):=by
  have:=congrArg List.length hr
  simp only[List.length_drop,List.length_cons]at this
  omega
 have ha:=a.toNat_lt
 unfold qbe
 rw[hr]
 unfold dcdI dcd
 have t1:decide (((i+1:Nat):Int)<((i+(r.length+1):Nat):Int))=decide (0<r.length):=by congr 1;simp only[eq_iff_iff];omega
 have t2:decide (((i+2:Nat):Int)<((i+(r.length+1):Nat):Int))=decide (1<r.length):=by congr 1;simp only[eq_iff_iff];omega
 simp -zeta only[h0,w1,w2,g 1,g 2,za0t,k_or,za7,hl,t1,t2]
 dsimp only
 clear hl t1 t2 g hr hi h0 w1 w2 hs
 by_cases c1:32≤a.toNat∧a.toNat<127
 ·have e1:(decide ((32:Int)≤(a.toNat:Int))&&decide ((a.toNat:Int)<127))=true:=by simp;omega
  simp only[e1,cond_true,if_pos c1];rfl
 have e1:(decide ((32:Int)≤(a.toNat:Int))&&decide ((a.toNat:Int)<127))=false:=by simp;omega
 simp only[e1,cond_false,if_neg c1]
 by_cases c2:194≤a.toNat∧a.toNat<224
 ·have e2:(decide ((194:Int)≤(a.toNat:Int))&&decide ((a.toNat:Int)<224))=true:=by simp;omega
  have e3:decide ((224:Int)≤(a.toNat:Int))=false:=by simp;omega
  simp only[e2,e3,Bool.true_and,Bool.false_and,cond_false,if_pos c2]
  rcases r with _|⟨b,r⟩
  ·rfl
  have hb:=b.toNat_lt
  have l1:decide (0<(b::r).length)=true:=by simp
  have g1:(a::b::r)[1]?=some b:=rfl
  have e4:wr .i64 ((wr .i64 ((wr .i64 ((wr .i64 ((a.toNat:Int)-192))*64))+(b.toNat:Int)))-128)=((a.toNat:Int)-192)*64+(b.toNat:Int)-128:=by
   rw[zdm (n:=(a.toNat:Int)-192) (by omega) (by omega),zdm (n:=((a.toNat:Int)-192)*64) (by omega) (by omega),zdm (n:=((a.toNat:Int)-192)*64+(b.toNat:Int)) (by omega) (by omega),zdm (by omega) (by omega)]
  simp only[l1,g1,e4,cond_true]
  by_cases cb:128≤b.toNat
  ·have b1:decide ((128:Int)≤(b.toNat:Int))=true:=by simp;omega
   simp only[b1,cond_true]
   by_cases cb2:b.toNat<192
   ·have b2:decide ((b.toNat:Int)<192)=true:=by simp;omega
    simp only[b2,g1,cond_true,Bool.cond_eq_ite,decide_eq_true_eq]
    rw[if_pos True.intro]
    split
    ·rw[if_pos (by omega)];simp only[Option.some.injEq,Prod.mk.injEq];omega
    ·rw[if_neg (by omega)];rfl
   ·have b2:decide ((b.toNat:Int)<192)=false:=by simp;omega
    simp only[b2,cond_false]
    rw[if_neg (by omega)];rfl
  ·have b1:decide ((128:Int)≤(b.toNat:Int))=false:=by simp;omega
   simp only[b1,cond_false]
   rw[if_neg (by omega)];rfl
 have e2:(decide ((194:Int)≤(a.toNat:Int))&&decide ((a.toNat:Int)<224))=false:=by simp;omega
 simp only[e2,Bool.false_and,cond_false,if_neg c2]
 by_cases c3:224≤a.toNat∧a.toNat<240
 ·have e3:(decide ((224:Int)≤(a.toNat:Int))&&decide ((a.toNat:Int)<240))=true:=by simp;omega
  simp only[e3,Bool.true_and,if_pos c3]
  rcases r with _|⟨b,_|⟨c,r⟩⟩
  ·rfl
  ·rfl
  have hb:=b.toNat_lt
  have hc:=c.toNat_lt
  have l1:decide (1<(b::c::r).length)=true:=by simp
  have g1:(a::b::c::r)[1]?=some b:=rfl
  have g2:(a::b::c::r)[2]?=some c:=rfl
  have e4:wr .i64 ((wr .i64 ((wr .i64 ((wr .i64 ((wr .i64 ((a.toNat:Int)-224))*4096))+(wr .i64 ((wr .i64 ((b.toNat:Int)-128))*64))))+(c.toNat:Int)))-128)=((a.toNat:Int)-224)*4096+((b.toNat:Int)-128)*64+(c.toNat:Int)-128:=by
   rw[zdm (n:=(a.toNat:Int)-224) (by omega) (by omega),zdm (n:=((a.toNat:Int)-224)*4096) (by omega) (by omega),zdm (n:=(b.toNat:Int)-128) (by omega) (by omega),zdm (n:=((b.toNat:Int)-128)*64) (by omega) (by omega),
    zdm (n:=((a.toNat:Int)-224)*4096+((b.toNat:Int)-128)*64) (by omega) (by omega),zdm (n:=((a.toNat:Int)-224)*4096+((b.toNat:Int)-128)*64+(c.toNat:Int)) (by omega) (by omega),zdm (by omega) (by omega)]
  simp only[l1,g1,g2,e4,cond_true]
  by_cases cb:128≤b.toNat
  ·have b1:decide ((128:Int)≤(b.toNat:Int))=true:=by simp;omega
   simp only[b1,cond_true]
   by_cases cb2:b.toNat<192
   ·have b2:decide ((b.toNat:Int)<192)=true:=by simp;omega
    simp only[b2,cond_true]
    by_cases cc:128≤c.toNat
    ·have d1:decide ((128:Int)≤(c.toNat:Int))=true:=by simp;omega
     simp only[d1,cond_true]
     by_cases cc2:c.toNat<192
     ·have d2:decide ((c.toNat:Int)<192)=true:=by simp;omega
      simp only[d2,g1,g2,cond_true,Bool.cond_eq_ite,Bool.and_eq_true,Bool.or_eq_true,decide_eq_true_eq]
      rw[if_pos True.intro]
      split
      ·rw[if_pos (by omega)];simp only[Option.some.injEq,Prod.mk.injEq];omega
      ·rw[if_neg (by omega)];rfl
     ·have d2:decide ((c.toNat:Int)<192)=false:=by simp;omega
      simp only[d2,cond_false]
      rw[if_neg (by omega)];rfl
    ·have d1:decide ((128:Int)≤(c.toNat:Int))=false:=by simp;omega
     simp only[d1,cond_false]
     rw[if_neg (by omega)];rfl
   ·have b2:decide ((b.toNat:Int)<192)=false:=by simp;omega
    simp only[b2,cond_false]
    rw[if_neg (by omega)];rfl
  ·have b1:decide ((128:Int)≤(b.toNat:Int))=false:=by simp;omega
   simp only[b1,cond_false]
   rw[if_neg (by omega)];rfl
 ·have e3:(decide ((224:Int)≤(a.toNat:Int))&&decide ((a.toNat:Int)<240))=false:=by simp;omega
  simp only[e3,Bool.false_and,cond_false,if_neg c3];rfl
theorem zal3 (l:List UInt8):(dcd l).2≤l.length:=by
 unfold dcd
 split
 ·simp
 ·rename_i a r
  split
  ·simp
  ·split
   ·split
    ·split<;>simp
    ·simp
   ·split
    ·split
     ·split<;>simp
     ·simp
    ·simp
theorem zad6 (n:Nat) {s:List UInt8} {i:Nat} (hi:i<s.length):vldN (n+1) (s.drop i)=if (dcd (s.drop i)).2=0 then false else vldN n (s.drop (i+(dcd (s.drop i)).2)):=by
 have:s.drop i≠[]:=by simp;omega
 simp only[vldN,this,if_false,List.drop_drop]
theorem zanx {s:List UInt8} (hs:s.length<1000000000):qal s=some (vld s):=by
 have key:∀n i,s.length-i≤n→i≤s.length→za5 zof (n+1) (s,(i:Int),())=some (if vldN n (s.drop i) then .inl () else .inr (false,())):=by
  intro n
  induction n with
  |zero=>
   intro i h1 h2
   have:i=s.length:=by omega
   subst this
   simp only[za5,zof,dge,cond_false,vldN,if_true]
  |succ n ih=>
   intro i h1 h2
   rw[za5]
   by_cases hi:i<s.length
   ·rw[zad6 n hi]
    have hle:=zal3 (s.drop i)
    rw[List.length_drop]at hle
    simp only[zof,dlt hi,cond_true,zaam hi hs,dcdI]
    by_cases h0:(dcd (s.drop i)).2=0
    ·simp[h0]
    ·have hb:(((dcd (s.drop i)).2:Int)==0)=false:=by simp;omega
     have hw:wr .i64 ((i:Int)+((dcd (s.drop i)).2:Int))=((i+(dcd (s.drop i)).2:Nat):Int):=by rw[zdm (by omega) (by omega)];rfl
     simp only[hb,cond_false,hw,h0,if_false]
     exact ih _ (by omega) (by omega)
   ·have:i=s.length:=by omega
    subst this
    simp[zof,vldN]
 unfold qal
 have:=key s.length 0 (by omega) (by omega)
 rw[show ((0:Int))=((0:Nat):Int) from rfl,za3 (s.length+1) (by rw[za0];omega) this]
 simp only[List.drop_zero]
 unfold vld
 cases vldN s.length s<;>rfl
theorem za6q {s:List UInt8} {i:Nat} (hi:i<s.length) (hs:s.length<1000000000):qf s (i:Int)=some ((wid (s.drop i):Nat):Int):=by
 unfold qf wid
 rw[zaam hi hs]
 show some (if (((dcd (s.drop i)).2:Nat):Int)<1 then (1:Int) else (((dcd (s.drop i)).2:Nat):Int))=_
 rw[Option.some.injEq]
 by_cases h:(dcd (s.drop i)).2<1
 ·rw[if_pos h,if_pos (by omega)];rfl
 ·rw[if_neg h,if_neg (by omega)]
theorem za6c {l:List UInt8} (h:l≠[]):1≤wid l∧wid l≤l.length:=by
 have:=zal3 l
 have:0<l.length:=List.length_pos_iff.2 h
 unfold wid
 split<;>omega
theorem z50 (n:Nat) {s:List UInt8} {i:Nat} (hi:i<s.length) {out:List UInt8} {gap:Bool}:clnN (n+1) (s.drop i) out gap =
 if blk (dcd (s.drop i)).1 then clnN n (s.drop (i+wid (s.drop i))) out true else clnN n (s.drop (i+wid (s.drop i))) ((if gap&&!(out==[]) then out++[32] else out)++(s.drop i).take (wid (s.drop i))) false:=by
 have:s.drop i≠[]:=by simp;omega
 rw[clnN,if_neg this,List.drop_drop]
theorem za30 {s:List UInt8} (hs:s.length<100000000):qa6 s=some (cln s):=by
 have key:∀n i (out:List UInt8) (gap:Bool),s.length-i≤n→i≤s.length→out.length≤2*i→za5 zod (n+1) (s,out,gap,(i:Int),())=some (clnN n (s.drop i) out gap,()):=by
  intro n
  induction n with
  |zero=>
   intro i out gap h1 h2 h3
   have:i=s.length:=by omega
   subst this
   simp only[za5,zod,dge,cond_false,clnN]
  |succ n ih=>
   intro i out gap h1 h2 h3
   rw[za5]
   by_cases hi:i<s.length
   ·rw[z50 n hi]
    have hw0:=za6c (l:=s.drop i) (by simp;omega)
    rw[List.length_drop]at hw0
    obtain ⟨k,hk⟩:∃k,wid (s.drop i)=k:=⟨_,rfl⟩
    rw[hk]at hw0 ⊢
    have hw:wr .i64 ((i:Int)+(k:Int))=((i+k:Nat):Int):=by rw[zdm (by omega) (by omega)];rfl
    have hb:qak ((dcd (s.drop i)).1:Int)=some (blk (dcd (s.drop i)).1):=by
     unfold qak
     simp -zeta only[k_or]
     simp only[Option.some.injEq,blk]
     rw[Bool.eq_iff_iff];simp;omega
    simp only[zod,dlt hi,cond_true,zaam hi (show s.length<1000000000 by omega),za6q hi (show s.length<1000000000 by omega),dcdI,hb,hk,hw]
    cases blk (dcd (s.drop i)).1 with
    |true=>simp only[cond_true,if_true];exact ih _ _ _ (by omega) (by omega) (by omega)
    |false=>
     have hc:(decide ((0:Int)≤(i:Int))&&(decide ((i:Int)≤((i+k:Nat):Int))&&decide (((i+k:Nat):Int)≤(s.length:Int))))=true:=by simp;omega
     have ht:(s.take (i+k)).drop i=(s.drop i).take k:=by rw[List.drop_take];congr 1;omega
     simp only[cond_false,hc,cond_true,Int.toNat_natCast,ht,Bool.false_eq_true,if_false]
     have hlen:∀o:List UInt8,o.length≤2*i+1→decide (o.length+((s.drop i).take k).length≤LIM)=true:=fun o ho=>by
      rw[zaj0];simp only[List.length_take,List.length_drop,decide_eq_true_eq];omega
     cases hg:(gap&&!(out==[])) with
     |true=>
      simp only[Bool.and_eq_true,Bool.not_eq_true']at hg
      have h32:decide (out.length+([32]:List Nat).length≤LIM)=true:=by rw[zaj0];simp;omega
      simp only[hg.1,hg.2,hc,ht,Int.toNat_natCast,cond_true,Bool.not_false,h32,hlen (out++[32]) (by simp;omega),if_true]
      exact ih _ _ _ (by omega) (by omega) (by simp;omega)
     |false=>
      cases gap with
      |false=>
       simp only[cond_false,hlen out (by omega),cond_true,Bool.false_eq_true,if_false]
       exact ih _ _ _ (by omega) (by omega) (by simp;omega)
      |true=>
       simp only[Bool.true_and]at hg
       simp only[cond_true,hg,cond_false,hlen out (by omega),Bool.false_eq_true,if_false]
       exact ih _ _ _ (by omega) (by omega) (by simp;omega)
   ·have:i=s.length:=by omega
    subst this
    simp[zod,clnN]
 unfold qa6
 have:=key s.length 0 [] false (by omega) (by omega) (by simp)
 rw[show ((0:Int))=((0:Nat):Int) from rfl,za3 (s.length+1) (by rw[za0];omega) this]
 try rfl
end Go.Proofs.YtdahfgialanmpaaGreatDoor
namespace Go.Proofs.YtdahfgialanmpaaGreatDoor
open Ev
open Go (IntKind)
def rng (lo hi n:Int):Bool:=decide (lo≤n)&&decide (n≤hi)
theorem zaoo (n:Int):qfp n=some (rng 0 109572 n):=by
 unfold qfp
 simp -zeta only[k_or,za7]
 try rfl
theorem zaoj (n:Int):qdv n=some (rng 0 109572 n):=by
 unfold qdv
 simp -zeta only[k_or,za7]
 try rfl
theorem zaoh (n:Int):qdc n=some (rng 1 9999 n):=by
 unfold qdc
 simp -zeta only[k_or,za7]
 try rfl
theorem za4n (n lo hi:Int):qbl n lo hi=some (rng lo hi n):=by
 unfold qbl
 simp -zeta only[k_or,za7]
 try rfl
def zee (l:List Charge) (i:Nat) (x:Charge):Int:=
 bif zbo l i (fun y=>decide (x.ID≤y.ID)) then 7
 else bif decide (x.ID<1)||decide (99999<x.ID)||decide (x.Patron<1)||decide (9999<x.Patron)||decide (x.Item<1)||decide (9999<x.Item)||!(rng 0 109572 x.Day) then 2
 else bif decide (x.Kind<1)||decide (3<x.Kind) then 1
 else bif decide (x.Amount<1)||decide (100000000<x.Amount)||decide (x.Paid<0)||decide (x.Amount≤x.Paid) then 2 else 0
def zcm (l:List Charge):Int:=bif decide (128<(l.length:Int)) then 13 else zb3 (zee l) 0 l
theorem z3k {l:List Charge} (hl:l.length<1000000000):zac zln (l,0,())=some (if zb3 (zee l) 0 l==0 then .inl () else .inr (zb3 (zee l) 0 l,())):=by
 have h:=zd9 (step:=zln) (fun i=>(l,(i:Int),())) l (zee l) (.inl ()) (fun e=>.inr (e,())) hl
  (by simp only[zln,dge,cond_false])
  (fun i x hx=>by
   have hi:=(List.getElem?_eq_some_iff.1 hx).1
   have hxm:=List.mem_of_getElem? hx
   unfold zee
   simp only[zdg]
   rcases i with _|j
   ·simp -zeta only[zln,dlt hi,zah,hx,k_or,za7,z18,cond_false,cond_true,zbo,zam (show 0<9223372036854775807 by omega),zaoo]
    try rfl
   ·have hj:l[j]?=some l[j]:=List.getElem?_eq_getElem (by omega)
    simp -zeta only[zln,dlt hi,zah,hx,k_or,za7,dpos,zgj (show j<1000000000 by omega),hj,cond_false,cond_true,zbo,zam (show j+1<9223372036854775807 by omega),zaoo]
    rfl)
 exact h
theorem za3z {l:List Charge} (hl:l.length<1000000000):qa5 l=some (zcm l):=by
 unfold qa5 zcm
 rw[z3k hl]
 generalize zb3 (zee l) 0 l=e
 cases decide (128<(l.length:Int)) with
 |true=>rfl
 |false=>
  by_cases h:e=0
  ·subst h;rfl
  ·have h2:(e==0)=false:=by simpa using h
   simp only[h2,Bool.false_eq_true,if_false,cond_false]
def zfd (l:List Patron) (i:Nat) (x:Patron):Int:=
 bif decide (x.ID<1)||decide (9999<x.ID) then 2
 else bif zbo l i (fun y=>decide (x.ID≤y.ID)) then 7
 else bif decide (x.Kind<1)||decide (9<x.Kind)||decide (x.Branch<1)||decide (4<x.Branch) then 1
 else bif decide (x.Until<0)||decide (109572<x.Until) then 2
 else bif x.Name==[]||!(vld x.Name)||!(cln x.Name==x.Name) then 3
 else bif decide (200<(x.Name.length:Int)) then 4 else 0
def zfe (l:List Patron):Int:=bif decide (32<(l.length:Int)) then 13 else zb3 (zfd l) 0 l
theorem z3r {l:List Patron} (hl:l.length<1000000000) (hn:∀x∈l,x.Name.length<10000000):zac zls (l,0,())=some (if zb3 (zfd l) 0 l==0 then .inl () else .inr (zb3 (zfd l) 0 l,())):=by
 have h:=zd9 (step:=zls) (fun i=>(l,(i:Int),())) l (zfd l) (.inl ()) (fun e=>.inr (e,())) hl
  (by simp only[zls,dge,cond_false])
  (fun i x hx=>by
   have hi:=(List.getElem?_eq_some_iff.1 hx).1
   have hxm:=List.mem_of_getElem? hx
   have hv:=zanx (s:=x.Name) (by have:=hn x hxm;omega)
   have hc:=za30 (s:=x.Name) (by have:=hn x hxm;omega)
   unfold zfd
   simp only[zdg]
   rcases i with _|j
   ·simp -zeta only[zls,dlt hi,zah,hx,k_or,za7,z18,cond_false,cond_true,zbo,zam (show 0<9223372036854775807 by omega),hv,hc]
    try rfl
   ·have hj:l[j]?=some l[j]:=List.getElem?_eq_getElem (by omega)
    simp -zeta only[zls,dlt hi,zah,hx,k_or,za7,dpos,zgj (show j<1000000000 by omega),hj,cond_false,cond_true,zbo,zam (show j+1<9223372036854775807 by omega),hv,hc]
    rfl)
 exact h
theorem za4a {l:List Patron} (hl:l.length<1000000000) (hn:∀x∈l,x.Name.length<10000000):qau l=some (zfe l):=by
 unfold qau zfe
 rw[z3r hl hn]
 generalize zb3 (zfd l) 0 l=e
 cases decide (32<(l.length:Int)) with
 |true=>rfl
 |false=>
  by_cases h:e=0
  ·subst h;rfl
  ·have h2:(e==0)=false:=by simpa using h
   simp only[h2,Bool.false_eq_true,if_false,cond_false]
def zik (l:List Loan) (i:Nat) (x:Loan):Int:=
 bif zbo l i (fun y=>decide (x.Item≤y.Item)) then 7
 else bif decide (x.Item<1)||decide (9999<x.Item)||decide (x.Patron<1)||decide (9999<x.Patron)||decide (x.Out<0)||decide (109572<x.Out)||decide (x.Due<0)||decide (109572<x.Due)||decide (x.Due<x.Out)||decide (x.Renewals<0)||decide (10<x.Renewals) then 2 else 0
def zh0 (l:List Loan):Int:=bif decide (64<(l.length:Int)) then 13 else zb3 (zik l) 0 l
theorem z3q {l:List Loan} (hl:l.length<1000000000):zac zlr (l,0,())=some (if zb3 (zik l) 0 l==0 then .inl () else .inr (zb3 (zik l) 0 l,())):=by
 have h:=zd9 (step:=zlr) (fun i=>(l,(i:Int),())) l (zik l) (.inl ()) (fun e=>.inr (e,())) hl
  (by simp only[zlr,dge,cond_false])
  (fun i x hx=>by
   have hi:=(List.getElem?_eq_some_iff.1 hx).1
   have hxm:=List.mem_of_getElem? hx
   unfold zik
   simp only[zdg]
   rcases i with _|j
   ·simp -zeta only[zlr,dlt hi,zah,hx,k_or,za7,z18,cond_false,cond_true,zbo,zam (show 0<9223372036854775807 by omega)]
    try rfl
   ·have hj:l[j]?=some l[j]:=List.getElem?_eq_getElem (by omega)
    simp -zeta only[zlr,dlt hi,zah,hx,k_or,za7,dpos,zgj (show j<1000000000 by omega),hj,cond_false,cond_true,zbo,zam (show j+1<9223372036854775807 by omega)]
    rfl)
 exact h
theorem za39 {l:List Loan} (hl:l.length<1000000000):qat l=some (zh0 l):=by
 unfold qat zh0
 rw[z3q hl]
 generalize zb3 (zik l) 0 l=e
 cases decide (64<(l.length:Int)) with
 |true=>rfl
 |false=>
  by_cases h:e=0
  ·subst h;rfl
  ·have h2:(e==0)=false:=by simpa using h
   simp only[h2,Bool.false_eq_true,if_false,cond_false]
def zbg (h:Hold):Int:=
 bif decide (h.ID<1)||decide (99999<h.ID)||!(rng 1 9999 h.Patron)||!(rng 1 9999 h.Record)||!(h.Item==0)&&!(rng 1 9999 h.Item)||decide (h.Pickup<1)||decide (4<h.Pickup)||!(rng 0 109572 h.Placed)||!(h.Got==0)&&!(rng 1 9999 h.Got)||!(rng 0 109572 h.Until)||!(rng 0 109572 h.Asleep)||decide (h.Rank<0)||decide (9<h.Rank) then 2
 else bif decide (h.State<1)||decide (3<h.State) then 1
 else bif !((decide (0<h.Got))==(!(h.State==1)))||!((decide (0<h.Until))==(h.State==3)) then 12 else 0
theorem zaoe (h:Hold):qd7 h=some (zbg h):=by
 unfold qd7 zbg
 simp -zeta only[k_or,za7,zaoh,zaoj,←zc4]
 try rfl
def zcc (l:List Hold) (i:Nat) (x:Hold):Int:=
 bif zbo l i (fun y=>decide (x.ID≤y.ID)) then 7 else bif !(zbg x==0) then zbg x else 0
theorem zaav {l:List Hold} (hl:l.length<1000000000):zac zww (l,0,())=some (if zb3 (zcc l) 0 l==0 then .inl (l,()) else .inr (zb3 (zcc l) 0 l,())):=by
 have h:=zd9 (step:=zww) (fun i=>(l,(i:Int),())) l (zcc l) (.inl (l,())) (fun e=>.inr (e,())) hl
  (by simp only[zww,dge,cond_false])
  (fun i x hx=>by
   have hi:=(List.getElem?_eq_some_iff.1 hx).1
   have hxm:=List.mem_of_getElem? hx
   have hs:∀(a:List Hold×Int×Unit) (g:Int→((List Hold×Unit)⊕(Int×Unit))),(bif !(zbg x==0) then zg0 a g (zbg x) else zg0 a g 0)=bif !(zbg x==0) then some (.inr (g (zbg x))) else some (.inl a):=fun a g=>by
    unfold zg0
    cases zbg x==0<;>rfl
   unfold zcc
   simp only[zdg,hs]
   rcases i with _|j
   ·simp -zeta only[zww,dlt hi,zah,hx,k_or,za7,z18,cond_false,cond_true,zbo,zam (show 0<9223372036854775807 by omega),zaoe]
    try rfl
   ·have hj:l[j]?=some l[j]:=List.getElem?_eq_getElem (by omega)
    simp -zeta only[zww,dlt hi,zah,hx,k_or,za7,dpos,zgj (show j<1000000000 by omega),hj,cond_false,cond_true,zbo,zam (show j+1<9223372036854775807 by omega),zaoe]
    rfl)
 exact h
def zcr (x y:Hold):Bool:=x.Patron==y.Patron&&x.Record==y.Record||decide (0<x.Got)&&x.Got==y.Got
theorem z3w {l:List Hold} {i:Nat} {x:Hold} (hl:l.length<1000000000) (hx:l[i]?=some x):zac zl4 (l,(i:Int),0,())=some (bif (l.take i).all (fun y=>!(zcr x y)) then .inl (l,(i:Int),()) else .inr (7,())):=by
 have hi:=(List.getElem?_eq_some_iff.1 hx).1
 have h:=zav (step:=zl4) (fun k=>(l,(i:Int),(k:Int),())) (l.take i) (fun _ y=>!(zcr x y)) (.inr (7,())) (.inl (l,(i:Int),())) (by rw[List.length_take];omega)
  (by rw[List.length_take,Nat.min_eq_left (by omega)];simp only[zl4,dge,cond_false])
  (fun k y hy=>by
   have hk:=(List.getElem?_eq_some_iff.1 hy).1
   rw[List.length_take]at hk
   have hy2:l[k]?=some y:=by rw[←hy,List.getElem?_take_of_lt (by omega)]
   simp -zeta only[zl4,dlt (show k<i by omega),zah,hx,hy2,k_or,za7,cond_true,zam (show k<9223372036854775807 by omega)]
   dsimp only
   unfold zcr
   cases (x.Patron==y.Patron&&x.Record==y.Record||decide (0<x.Got)&&x.Got==y.Got)<;>rfl)
 rw[show zac zl4 (l,(i:Int),0,())=_ from h,za2]
def ze9 (l:List Hold):Bool:=zch (fun i x=>(l.take i).all (fun y=>!(zcr x y))) 0 l
theorem z3v {l:List Hold} (hl:l.length<1000000000):zac zo0 (l,0,())=some (bif ze9 l then .inl () else .inr (7,())):=by
 have h:=zav (step:=zo0) (fun i=>(l,(i:Int),())) l (fun i x=>(l.take i).all (fun y=>!(zcr x y))) (.inr (7,())) (.inl ()) hl
  (by simp only[zo0,dge,cond_false])
  (fun i x hx=>by
   have hi:=(List.getElem?_eq_some_iff.1 hx).1
   simp only[zo0,dlt hi,cond_true,z3w hl hx]
   cases (l.take i).all (fun y=>!(zcr x y)) with
   |true=>simp only[cond_true,zam (show i<9223372036854775807 by omega)]
   |false=>rfl)
 exact h
def zbn (l:List Hold):Int:=bif decide (64<(l.length:Int)) then 13 else bif zb3 (zcc l) 0 l==0 then (bif ze9 l then 0 else 7) else zb3 (zcc l) 0 l
theorem za5b {l:List Hold} (hl:l.length<1000000000):qk l=some (zbn l):=by
 unfold qk zbn
 rw[zaav hl]
 cases decide (64<(l.length:Int)) with
 |true=>rfl
 |false=>
  by_cases h:zb3 (zcc l) 0 l=0
  ·simp only[h,beq_self_eq_true,if_true,cond_false,cond_true,z3v hl]
   cases ze9 l<;>rfl
  ·have:(zb3 (zcc l) 0 l==0)=false:=by simpa using h
   simp only[this,Bool.false_eq_true,if_false,cond_false]
def zo3 (r:Rule):Bool:=rng 0 9 r.Patron&&rng 0 9 r.Item&&rng 0 4 r.Branch&&(rng 0 365 r.Days&&rng 0 10 r.Renewals&&rng 0 99 r.Loans)&&(rng 0 1000 r.Fine&&rng 0 30 r.Grace&&rng 0 100000000 r.MaxFine)&&rng 1 60 r.Shelf&&rng 1 60 r.Recall&&rng 0 109572 r.Fixed&&rng 0 9 r.Rank
theorem za4q (r:Rule):qc6 r=some (zo3 r):=by
 unfold qc6 zo3
 simp -zeta only[k_or,za7,za4n]
 try rfl
def zh5 (x y:Rule):Bool:=x.Patron==y.Patron&&x.Item==y.Item&&x.Branch==y.Branch
def zhk (l:List Rule) (i:Nat) (x:Rule):Int:=bif !(zo3 x) then 2 else bif (l.take i).all (fun y=>!(zh5 y x)) then 0 else 7
theorem zaax {l:List Rule} {i:Nat} {x:Rule} (hl:l.length<1000000000) (hx:l[i]?=some x):zac zwx (l,(i:Int),0,())=some (bif (l.take i).all (fun y=>!(zh5 y x)) then .inl (l,(i:Int),()) else .inr (7,())):=by
 have hi:=(List.getElem?_eq_some_iff.1 hx).1
 have h:=zav (step:=zwx) (fun k=>(l,(i:Int),(k:Int),())) (l.take i) (fun _ y=>!(zh5 y x)) (.inr (7,())) (.inl (l,(i:Int),())) (by rw[List.length_take];omega)
  (by rw[List.length_take,Nat.min_eq_left (by omega)];simp only[zwx,dge,cond_false])
  (fun k y hy=>by
   have hk:=(List.getElem?_eq_some_iff.1 hy).1
   rw[List.length_take]at hk
   have hy2:l[k]?=some y:=by rw[←hy,List.getElem?_take_of_lt (by omega)]
   simp -zeta only[zwx,dlt (show k<i by omega),zah,hx,hy2,k_or,za7,cond_true,zam (show k<9223372036854775807 by omega)]
   dsimp only
   unfold zh5
   cases (y.Patron==x.Patron&&y.Item==x.Item&&y.Branch==x.Branch)<;>rfl)
 rw[show zac zwx (l,(i:Int),0,())=_ from h,za2]
theorem zaaw {l:List Rule} (hl:l.length<1000000000):zac z3x (l,0,())=some (if zb3 (zhk l) 0 l==0 then .inl () else .inr (zb3 (zhk l) 0 l,())):=by
 have h:=zd9 (step:=z3x) (fun i=>(l,(i:Int),())) l (zhk l) (.inl ()) (fun e=>.inr (e,())) hl
  (by simp only[z3x,dge,cond_false])
  (fun i x hx=>by
   have hi:=(List.getElem?_eq_some_iff.1 hx).1
   unfold zhk
   simp only[zdg,z3x,dlt hi,zah,hx,cond_true,za4q,zaax hl hx]
   cases zo3 x with
   |false=>rfl
   |true=>
    simp only[Bool.not_true,cond_false]
    cases (l.take i).all (fun y=>!(zh5 y x)) with
    |true=>simp only[cond_true,zam (show i<9223372036854775807 by omega)];rfl
    |false=>rfl)
 exact h
def zgr (l:List Rule):Int:=bif decide (32<(l.length:Int)) then 13 else zb3 (zhk l) 0 l
theorem za6t {l:List Rule} (hl:l.length<1000000000):ql l=some (zgr l):=by
 unfold ql zgr
 rw[zaaw hl]
 generalize zb3 (zhk l) 0 l=e
 cases decide (32<(l.length:Int)) with
 |true=>rfl
 |false=>
  by_cases h:e=0
  ·subst h;rfl
  ·have h2:(e==0)=false:=by simpa using h
   simp only[h2,Bool.false_eq_true,if_false,cond_false]
def incr (l:List Int):Bool:=zch (fun i x=>!(zbo l i (fun y=>decide (x≤y)))) 0 l
theorem zu4 {X:Type} {p:Nat→X→Bool}:∀{l:List X} {i:Nat},zch p (i+1) l=zch (fun i=>p (i+1)) i l:=by
 intro l
 induction l with
 |nil=>intros;rfl
 |cons x l ih=>intro i;simp only[zch];rw[ih]
theorem z79 (l:List Int):incr l=zch (fun i x=>!(zbo l (i+1) (fun y=>decide (x≤y)))) 0 l.tail:=by
 cases l with
 |nil=>rfl
 |cons x l=>
  unfold incr
  simp only[zch,List.tail_cons]
  rw[zu4]
  try rfl
def zcp (c:Calendar):Int:=
 bif decide (c.Week<0)||decide (126<c.Week) then 1
 else bif decide (64<(c.Closed.length:Int)) then 13
 else bif c.Closed.all (fun x=>!(decide (x<0)||decide (109572<x))) then (bif incr c.Closed then 0 else 7) else 2
theorem zaa0 {c:Calendar} (hl:c.Closed.length<1000000000):zac zw4 (0,c,())=some (bif c.Closed.all (fun x=>!(decide (x<0)||decide (109572<x))) then .inl (c,()) else .inr (2,())):=by
 have h:=zav (step:=zw4) (fun i=>((i:Int),c,())) c.Closed (fun _ x=>!(decide (x<0)||decide (109572<x))) (.inr (2,())) (.inl (c,())) hl
  (by simp only[zw4,dge,cond_false])
  (fun i x hx=>by
   have hi:=(List.getElem?_eq_some_iff.1 hx).1
   simp -zeta only[zw4,dlt hi,zah,hx,k_or,za7,cond_true,zam (show i<9223372036854775807 by omega)]
   cases (decide (x<0)||decide (109572<x))<;>rfl)
 rw[show zac zw4 (0,c,())=_ from h,za2]
theorem z32 {c:Calendar} (hl:c.Closed.length<1000000000):zac zl5 (1,c,())=some (bif incr c.Closed then .inl () else .inr (7,())):=by
 have h:=zav (step:=zl5) (fun i=>(((i+1:Nat):Int),c,())) c.Closed.tail (fun i x=>!(zbo c.Closed (i+1) (fun y=>decide (x≤y)))) (.inr (7,())) (.inl ()) (by rw[List.length_tail];omega)
  (by
   rw[List.length_tail]
   have:decide (((c.Closed.length-1+1:Nat):Int)<(c.Closed.length:Int))=false:=by rw[decide_eq_false_iff_not];omega
   simp only[zl5,this,cond_false])
  (fun i x hx=>by
   rw[List.getElem?_tail]at hx
   have hi:=(List.getElem?_eq_some_iff.1 hx).1
   have hj:c.Closed[i]?=some c.Closed[i]:=List.getElem?_eq_getElem (by omega)
   simp -zeta only[zl5,dlt hi,zah,hx,cond_true,zgj (show i<1000000000 by omega),hj,zbo,zam (show i+1<9223372036854775807 by omega)]
   cases decide (x≤c.Closed[i])<;>rfl)
 rw[show zac zl5 (1,c,())=_ from h,z79]
theorem zaji {c:Calendar} (hl:c.Closed.length<1000000000):qy c=some (zcp c):=by
 unfold qy zcp
 simp -zeta only[k_or]
 dsimp only
 rw[zaa0 hl]
 cases (decide (c.Week<0)||decide (126<c.Week)) with
 |true=>rfl
 |false=>
  cases decide (64<(c.Closed.length:Int)) with
  |true=>rfl
  |false=>
   cases c.Closed.all (fun x=>!(decide (x<0)||decide (109572<x))) with
   |false=>rfl
   |true=>
    simp only[cond_false,cond_true,z32 hl]
    cases incr c.Closed<;>rfl
end Go.Proofs.YtdahfgialanmpaaGreatDoor
namespace Go.Proofs.YtdahfgialanmpaaGreatDoor
open Ev
open Go (IntKind)
def zaw5 (state:Int):Bool:=(state==4||state==5||state==8||state==9||state==10)
theorem zl3 (state:Int):qfv state=some (zaw5 state):=by
 unfold qfv
 try simp -zeta only[k_or,za7,zii,zc4,cond_true,cond_false]
 try dsimp only
 try simp only[zc4]
 try rfl
def zjh (c:Custody):Bool:=(bif decide (c.State<1)||decide (12<c.State)||decide (c.Branch<1)||decide (4<c.Branch) then false
 else
  bif c.State==6 then
   decide (0≤c.Who)&&decide (c.Who≤9999)&&decide (1≤c.To)&&decide (c.To≤4)&&!c.To==c.Branch
  else
   bif !c.To==0 then false
   else bif zaw5 c.State then decide (1≤c.Who)&&decide (c.Who≤9999) else c.Who==0)
theorem zl2 (c:Custody):qd9 c=some (zjh c):=by
 unfold qd9
 try simp -zeta only[k_or,za7,zii,zc4,cond_true,cond_false,zl3]
 try dsimp only
 try simp only[zc4]
 try rfl
def zm9 (m:Move):Bool:=(decide (0≤m.Day)&&decide (m.Day≤109572)&&decide (1≤m.Item)&&decide (m.Item≤9999)&&
 decide (1≤m.Kind)&&
 decide (m.Kind≤15)&&
 decide (1≤m.Branch)&&
 decide (m.Branch≤4)&&
 decide (0≤m.Who)&&
 decide (m.Who≤9999))
theorem zoz (m:Move):qe5 m=some (zm9 m):=by
 unfold qe5
 try simp -zeta only[k_or,za7,zii,zc4,cond_true,cond_false,zl3,zl2]
 try dsimp only
 try simp only[zc4]
 try rfl
def zaan (kind:Int):(List Int):=(bif kind==1 then [1]
 else
  bif kind==2 then [2,5]
  else
   bif kind==3 then [3,5]
   else
    bif kind==4 then [4,8,9,10]
    else
     bif kind==5||kind==8 then [2,3]
     else
      bif kind==6 then [2,3,5]
      else
       bif kind==7 then [6]
       else
        bif kind==9 then [7]
        else
         bif kind==10 then [3]
         else
          bif kind==11 then [4]
          else
           bif kind==12 then [4,9]
           else
            bif kind==13 then [2,3,5,6,7]
            else bif kind==14 then [11] else bif kind==15 then [1,2,3,11,10] else [])
theorem zuk (kind:Int):qc8 kind=some (zaan kind):=by
 unfold qc8
 try simp -zeta only[k_or,za7,zii,zc4,cond_true,cond_false,zl3,zl2,zoz]
 try dsimp only
 try simp only[zc4]
 try rfl
def zc5 (kind:Int):Int:=(bif kind==1||(kind==4||(kind==7||(kind==9||kind==14))) then 2
 else
  bif kind==2 then 3
  else
   bif kind==3 then 4
   else
    bif kind==5 then 5
    else
     bif kind==6 then 6
     else
      bif kind==8 then 7
      else
       bif kind==10 then 8
       else bif kind==11 then 9 else bif kind==12 then 10 else bif kind==13 then 11 else 12)
theorem z0z (kind:Int):qf5 kind=some (zc5 kind):=by
 unfold qf5
 try simp -zeta only[k_or,za7,zii,zc4,cond_true,cond_false,zl3,zl2,zoz,zuk]
 try dsimp only
 try simp only[zc4]
 try rfl
def zaat (c:Custody) (m:Move):Bool:=(bif m.Kind==1||(m.Kind==4||(m.Kind==9||m.Kind==14)) then m.Who==0
 else
  bif m.Kind==7 then m.Who==0&&m.Branch==c.To
  else
   bif m.Kind==6 then !m.Branch==c.Branch
   else
    bif m.Kind==3||(m.Kind==5||m.Kind==10) then m.Branch==c.Branch&&decide (1≤m.Who)
    else m.Branch==c.Branch&&m.Who==0)
theorem zaas (c:Custody) (m:Move):qdt c m=some (zaat c m):=by
 unfold qdt
 try simp -zeta only[k_or,za7,zii,zc4,cond_true,cond_false,zl3,zl2,zoz,zuk,z0z]
 try dsimp only
 try simp only[zc4]
 try rfl
def zwt (branch:Int):Custody:={State:=1,Branch:=branch,Who:=0,To:=0}
theorem zaof (branch:Int):qd8 branch=some (zwt branch):=by
 unfold qd8
 try simp -zeta only[k_or,za7,zii,zc4,cond_true,cond_false,zl3,zl2,zoz,zuk,z0z,zaas]
 try dsimp only
 try simp only[zc4]
 try rfl
def zq0 (u:Custody):Bool:=(u.State==4||u.State==9||u.State==10)
theorem zaol (u:Custody):qey u=some (zq0 u):=by
 unfold qey
 try simp -zeta only[k_or,za7,zii,zc4,cond_true,cond_false,zl3,zl2,zoz,zuk,z0z,zaas,zaof]
 try dsimp only
 try simp only[zc4]
 try rfl
end Go.Proofs.YtdahfgialanmpaaGreatDoor
namespace Go.Proofs.YtdahfgialanmpaaGreatDoor
open Ev
open Go (IntKind)
theorem hasX {X:Type} {p:X→Bool}:∀{l:List X} {i:Nat},zfl p (fun _ _=>true) false i l=l.any p:=by
 intro l
 induction l with
 |nil=>intros;rfl
 |cons x l ih=>intro i;simp only[zfl,List.any_cons];cases p x with|true=>rfl|false=>rw[cond_false,ih,Bool.false_or]
def zj2 (state kind:Int):Bool:=(zaan kind).any (fun x=>x==state)
theorem zagk {X:Type} {b:Bool} {x y:List X} {n:Nat} (hx:x.length<n) (hy:y.length<n):(bif b then x else y).length<n:=by cases b<;>assumption
theorem z4h (kind:Int):(zaan kind).length<10:=by
 unfold zaan
 repeat' first|apply zagk|decide
theorem za37 (state kind:Int):qaq state kind=some (zj2 state kind):=by
 unfold qaq zj2
 rw[zuk]
 have hl:=z4h kind
 generalize zaan kind=l at hl ⊢
 have h:=zbf (step:=zoj) (fun i=>(state,l,(i:Int),())) l (fun x=>x==state) (fun _ _=>(.inr (true,()):Unit⊕(Bool×Unit))) (.inl ()) (by omega)
  (by simp only[zoj,dge,cond_false])
  (fun i x hx=>by
   have hi:=(List.getElem?_eq_some_iff.1 hx).1
   simp only[zoj,dlt hi,zah,hx,cond_true,zam (show i<9223372036854775807 by omega)])
 dsimp only
 rw[show zac zoj (state,l,0,())=_ from h,←hasX (i:=0)]
 have key:∀(l:List Int) (i:Nat),(match some (zfl (fun x=>x==state) (fun _ _=>(.inr (true,()):Unit⊕(Bool×Unit))) (.inl ()) i l) with|some (.inl _)=>some false|some (.inr (v,_))=>some v|none=>none)=some (zfl (fun x=>x==state) (fun _ _=>true) false i l):=by
  intro l
  induction l with
  |nil=>intro i;rfl
  |cons x l ih=>intro i;simp only[zfl];cases x==state with|true=>rfl|false=>exact ih _
 exact key l 0
def za9 (c:Custody) (m:Move):Custody×Int:=
 bif !(zjh c)||!(zm9 m) then (⟨0,0,0,0⟩,1)
 else bif !(zj2 c.State m.Kind) then (⟨0,0,0,0⟩,12)
 else bif m.Kind==3&&c.State==5&&!(m.Who==c.Who) then (⟨0,0,0,0⟩,16)
 else bif !(zaat c m) then (⟨0,0,0,0⟩,1)
 else bif zc5 m.Kind==2 then (⟨zc5 m.Kind,m.Branch,0,0⟩,0)
 else bif zc5 m.Kind==4||(zc5 m.Kind==5||zc5 m.Kind==8) then (⟨zc5 m.Kind,c.Branch,m.Who,0⟩,0)
 else bif zc5 m.Kind==6 then (⟨zc5 m.Kind,c.Branch,m.Who,m.Branch⟩,0)
 else bif zc5 m.Kind==9||zc5 m.Kind==10 then (⟨zc5 m.Kind,c.Branch,c.Who,0⟩,0)
 else (⟨zc5 m.Kind,c.Branch,0,0⟩,0)
theorem zaob (c:Custody) (m:Move):qco c m=some (za9 c m):=by
 unfold qco za9
 simp -zeta only[k_or,za7,zii,zl2,zoz,za37,zaas,z0z]
 dsimp only
 simp only[zc4]
def zdi:Nat→List Move→Int→Custody→(Custody⊕(Int×Int))
 |_,[],_,c=>.inl c
 |i,x::l,item,c=>bif x.Item==item then (bif (za9 c x).2==0 then zdi (i+1) l item (za9 c x).1 else .inr ((i:Int),(za9 c x).2)) else zdi (i+1) l item c
def zek (branch:Int) (l:List Move) (item:Int):Custody×Int×Int:=
 bif decide (branch<1)||decide (4<branch) then (⟨0,0,0,0⟩,-1,1)
 else match zdi 0 l item (zwt branch) with
  |.inl c=>(c,-1,0)
  |.inr (i,e)=>(⟨0,0,0,0⟩,i,e)
theorem zxa {β:Type} (item:Int) (fin:Custody→β) (out:Int×Int→β):∀(l:List Move) (i:Nat) (c:Custody),
 zc7 (fun i x c=>bif x.Item==item then (bif (za9 c x).2==0 then .inl (za9 c x).1 else .inr (out ((i:Int),(za9 c x).2))) else .inl c) fin i l c=(match zdi i l item c with | .inl c=>fin c | .inr p=>out p):=by
 intro l
 induction l with
 |nil=>intros;rfl
 |cons x l ih=>
  intro i c
  simp only[zc7,zdi]
  cases x.Item==item with
  |false=>exact ih _ _
  |true=>
   simp only[cond_true]
   cases (za9 c x).2==0 with
   |true=>exact ih _ _
   |false=>rfl
theorem za36 {branch:Int} {l:List Move} {item:Int} (hl:l.length<1000000000):qap branch l item=some (zek branch l item):=by
 unfold qap zek
 simp -zeta only[k_or,zaof]
 dsimp only
 have h:=zcz (step:=zoi) (fun i c=>(l,item,(i:Int),(⟨0,0,0,0⟩:Custody),c,())) l
  (fun i x c=>bif x.Item==item then (bif (za9 c x).2==0 then .inl (za9 c x).1 else .inr (.inr ((i:Int),(za9 c x).2,(⟨0,0,0,0⟩:Custody),()))) else .inl c)
  (fun c=>.inl (⟨0,0,0,0⟩,c,())) (by show l.length<18446744073709551616;omega) (fun c=>by simp only[zoi,dge,cond_false])
  (fun i x c hx=>by
   have hi:=(List.getElem?_eq_some_iff.1 hx).1
   simp only[zoi,dlt hi,zah,hx,cond_true,zaob,zam (show i<9223372036854775807 by omega)]
   cases x.Item==item with
   |false=>rfl
   |true=>
    simp only[Bool.not_true,cond_false,cond_true]
    obtain ⟨d,e⟩:=za9 c x
    cases he:e==0 with
    |true=>rfl
    |false=>rfl) (zwt branch)
 rw[zxa item (fun c=>(.inl (⟨0,0,0,0⟩,c,()):(Custody×Custody×Unit)⊕(Int×Int×Custody×Unit))) (fun p=>.inr (p.1,p.2,(⟨0,0,0,0⟩:Custody),()))]at h
 rw[show zac zoi (l,item,0,(⟨0,0,0,0⟩:Custody),zwt branch,())=_ from h]
 cases (decide (branch<1)||decide (4<branch)) with
 |true=>rfl
 |false=>
  simp only[cond_false]
  cases zdi 0 l item (zwt branch) with
  |inl c=>rfl
  |inr p=>rfl
end Go.Proofs.YtdahfgialanmpaaGreatDoor
namespace Go.Proofs.YtdahfgialanmpaaGreatDoor
open Ev
open Go (IntKind)
theorem zbc {X:Type} (p:X→Bool) (l:List X):(fIdx p l = -1∧l.find? p=none)∨∃(i:Nat) (x:X),fIdx p l=(i:Int)∧l[i]?=some x∧p x=true∧l.find? p=some x:=by
 unfold fIdx
 induction l with
 |nil=>exact .inl ⟨rfl,rfl⟩
 |cons y l ih=>
  simp only[List.findIdx?_cons,List.find?_cons]
  cases hp:p y with
  |true=>exact .inr ⟨0,y,rfl,rfl,hp,rfl⟩
  |false=>
   simp only[Bool.false_eq_true,if_false]
   rcases ih with ⟨h1,h2⟩|⟨i,x,h1,h2,h3,h4⟩
   ·left
    refine ⟨?_,h2⟩
    cases hf:l.findIdx? p with
    |none=>rfl
    |some k=>rw[hf]at h1;simp only at h1;omega
   ·right
    refine ⟨i+1,x,?_,by simpa using h2,h3,h4⟩
    cases hf:l.findIdx? p with
    |none=>rw[hf]at h1;simp only at h1;omega
    |some k=>rw[hf]at h1;simp only[Option.map_some]at h1 ⊢;omega
theorem zr9:decide ((-1:Int)<0)=true:=rfl
theorem zmz {i:Nat}:decide ((i:Int)<0)=false:=by rw[decide_eq_false_iff_not];omega
def getP (l:List Patron) (id:Int):Patron×Bool:=match l.find? (fun p=>p.ID==id) with|some p=>(p,true)|none=>(⟨0,0,0,0,false,[]⟩,false)
def zv0 (l:List Loan) (item:Int):Loan×Bool:=match l.find? (fun n=>n.Item==item) with|some n=>(n,true)|none=>(⟨0,0,0,0,0,false⟩,false)
def zg1:Hold:=⟨0,0,0,0,0,0,0,0,0,0,0⟩
def zia (c:Circ) (item:Int):Hold×Bool:=match c.Holds.find? (fun h=>h.Got==item) with|some h=>(h,true)|none=>(zg1,false)
theorem zajb {c:Circ} {item:Int} (hl:c.Items.length<1000000000):qg c item=some (fIdx (fun x=>x.ID==item) c.Items):=by
 unfold qg
 have h:=zbf (step:=z3t) (fun i=>(item,(i:Int),c,())) c.Items (fun x=>x.ID==item) (fun i _=>(.inr ((i:Int),()):Unit⊕(Int×Unit))) (.inl ()) hl
  (by simp only[z3t,dge,cond_false])
  (fun i x hx=>by
   have hi:=(List.getElem?_eq_some_iff.1 hx).1
   simp only[z3t,dlt hi,zah,hx,cond_true,zam (show i<9223372036854775807 by omega)])
 rw[show zac z3t (item,0,c,())=_ from h,←zd7]
 have:=zcq (p:=fun x:Item=>x.ID==item) (g:=fun i _=>(.inr ((i:Int),()):Unit⊕(Int×Unit))) (d:=.inl ()) (fun z=>match (some z:Option (Unit⊕(Int×Unit))) with|some (.inl _)=>some (-1)|some (.inr (v,_))=>some v|none=>none) (l:=c.Items) (i:=0)
 exact this.trans ((zcq (p:=fun x:Item=>x.ID==item) (g:=fun i _=>(i:Int)) (d:=-1) (fun z=>some z) (l:=c.Items) (i:=0)).symm)
theorem zq1 {c:Circ} {item:Int} (hl:c.Items.length<1000000000):(qg c item=some (-1)∧c.Items.find? (fun x=>x.ID==item)=none)∨
 ∃(i:Nat) (x:Item),qg c item=some (i:Int)∧c.Items[i]?=some x∧x.ID=item∧c.Items.find? (fun x=>x.ID==item)=some x:=by
 rw[zajb hl]
 rcases zbc (fun x:Item=>x.ID==item) c.Items with ⟨h1,h2⟩|⟨i,x,h1,h2,h3,h4⟩
 ·exact .inl ⟨by rw[h1],h2⟩
 ·exact .inr ⟨i,x,by rw[h1],h2,by simpa using h3,h4⟩
theorem za4f {l:List Patron} {id:Int} (hl:l.length<1000000000):qaz l id=some (fIdx (fun x=>x.ID==id) l):=by
 unfold qaz
 have h:=zbf (step:=zon) (fun i=>(l,id,(i:Int),())) l (fun x=>x.ID==id) (fun i _=>(.inr ((i:Int),()):Unit⊕(Int×Unit))) (.inl ()) hl
  (by simp only[zon,dge,cond_false])
  (fun i x hx=>by
   have hi:=(List.getElem?_eq_some_iff.1 hx).1
   simp only[zon,dlt hi,zah,hx,cond_true,zam (show i<9223372036854775807 by omega)])
 rw[show zac zon (l,id,0,())=_ from h,←zd7]
 have:=zcq (p:=fun x:Patron=>x.ID==id) (g:=fun i _=>(.inr ((i:Int),()):Unit⊕(Int×Unit))) (d:=.inl ()) (fun z=>match (some z:Option (Unit⊕(Int×Unit))) with|some (.inl _)=>some (-1)|some (.inr (v,_))=>some v|none=>none) (l:=l) (i:=0)
 exact this.trans ((zcq (p:=fun x:Patron=>x.ID==id) (g:=fun i _=>(i:Int)) (d:=-1) (fun z=>some z) (l:=l) (i:=0)).symm)
theorem zg2 {l:List Patron} {id:Int} (hl:l.length<1000000000):qbu l id=some (getP l id):=by
 unfold qbu getP
 rw[za4f hl]
 rcases zbc (fun x:Patron=>x.ID==id) l with ⟨h1,h2⟩|⟨i,x,h1,h2,h3,h4⟩
 ·simp only[h1,h2,zr9,cond_true]
 ·simp only[h1,h4,zmz,cond_false,zah,h2]
theorem za35 {l:List Loan} {id:Int} (hl:l.length<1000000000):qao l id=some (fIdx (fun x=>x.Item==id) l):=by
 unfold qao
 have h:=zbf (step:=zoh) (fun i=>(l,id,(i:Int),())) l (fun x=>x.Item==id) (fun i _=>(.inr ((i:Int),()):Unit⊕(Int×Unit))) (.inl ()) hl
  (by simp only[zoh,dge,cond_false])
  (fun i x hx=>by
   have hi:=(List.getElem?_eq_some_iff.1 hx).1
   simp only[zoh,dlt hi,zah,hx,cond_true,zam (show i<9223372036854775807 by omega)])
 rw[show zac zoh (l,id,0,())=_ from h,←zd7]
 have:=zcq (p:=fun x:Loan=>x.Item==id) (g:=fun i _=>(.inr ((i:Int),()):Unit⊕(Int×Unit))) (d:=.inl ()) (fun z=>match (some z:Option (Unit⊕(Int×Unit))) with|some (.inl _)=>some (-1)|some (.inr (v,_))=>some v|none=>none) (l:=l) (i:=0)
 exact this.trans ((zcq (p:=fun x:Loan=>x.Item==id) (g:=fun i _=>(i:Int)) (d:=-1) (fun z=>some z) (l:=l) (i:=0)).symm)
theorem za4y {l:List Loan} {id:Int} (hl:l.length<1000000000):qea l id=some (zv0 l id):=by
 unfold qea zv0
 rw[za35 hl]
 rcases zbc (fun x:Loan=>x.Item==id) l with ⟨h1,h2⟩|⟨i,x,h1,h2,h3,h4⟩
 ·simp only[h1,h2,zr9,cond_true]
 ·simp only[h1,h4,zmz,cond_false,zah,h2]
theorem za38 {c:Circ} {item:Int} (hl:c.Holds.length<1000000000):qar c item=some (zia c item):=by
 unfold qar zia
 have h:=zbf (step:=zok) (fun i=>(item,(i:Int),c,zg1,())) c.Holds (fun x=>x.Got==item) (fun _ x=>(.inr (true,x,()):(Hold×Unit)⊕(Bool×Hold×Unit))) (.inl (zg1,())) hl
  (by simp only[zok,dge,cond_false])
  (fun i x hx=>by
   have hi:=(List.getElem?_eq_some_iff.1 hx).1
   simp only[zok,dlt hi,zah,hx,cond_true,zam (show i<9223372036854775807 by omega)])
 rw[show zac zok (item,0,c,(⟨0,0,0,0,0,0,0,0,0,0,0⟩:Hold),())=_ from h,zd8]
 cases c.Holds.find? (fun x=>x.Got==item)<;>rfl
def zd4 (c:Circ) (i:Nat) (x:Item):Bool:=
 !(decide (x.ID<1)||decide (9999<x.ID)||zbo c.Items i (fun y=>decide (x.ID≤y.ID))||decide (x.Record<1)||decide (9999<x.Record)||decide (x.Branch<1)||decide (4<x.Branch))&&
 !(decide (x.Kind<1)||decide (9<x.Kind)||decide (x.Price<0)||decide (100000000<x.Price)||decide (200<(x.Call.length:Int))||!(vld x.Call))&&
 !(!((zek x.Branch c.Moves x.ID).2.2==0)||!(zbj (zek x.Branch c.Moves x.ID).1 x.Custody))
def zfa (c:Circ):Bool:=!(decide (64<(c.Items.length:Int))||decide (2000<(c.Moves.length:Int)))&&(zch (zd4 c) 0 c.Items&&c.Moves.all (fun m=>(c.Items.find? (fun x=>x.ID==m.Item)).isSome))
structure Short (c:Circ):Prop where
 items:c.Items.length<1000000000
 patrons:c.Patrons.length<1000000000
 loans:c.Loans.length<1000000000
 holds:c.Holds.length<1000000000
 charges:c.Charges.length<1000000000
 rules:c.Rules.length<1000000000
 moves:c.Moves.length<1000000000
 call:∀x∈c.Items,x.Call.length<10000000
 name:∀x∈c.Patrons,x.Name.length<10000000
 cal0:c.Cals.x0.Closed.length<1000000000
 cal1:c.Cals.x1.Closed.length<1000000000
 cal2:c.Cals.x2.Closed.length<1000000000
 cal3:c.Cals.x3.Closed.length<1000000000
theorem z3n {c:Circ} (hs:Short c):zac zlp (0,c,())=some (bif zch (zd4 c) 0 c.Items then .inl (c,()) else .inr (false,())):=by
 have h:=zav (step:=zlp) (fun i=>((i:Int),c,())) c.Items (zd4 c) (.inr (false,())) (.inl (c,())) hs.items
  (by simp only[zlp,dge,cond_false])
  (fun i x hx=>by
   have hi:=(List.getElem?_eq_some_iff.1 hx).1
   have hm:=List.mem_of_getElem? hx
   have hv:=zanx (s:=x.Call) (by have:=hs.call x hm;omega)
   have hr:=za36 (branch:=x.Branch) (item:=x.ID) hs.moves
   unfold zd4
   rcases i with _|j
   ·simp -zeta only[zlp,dlt hi,zah,hx,k_or,za7,z18,cond_false,cond_true,zbo,zam (show 0<9223372036854775807 by omega),hv,hr]
    dsimp only
    generalize (decide (x.ID<1)||decide (9999<x.ID)||false||decide (x.Record<1)||decide (9999<x.Record)||decide (x.Branch<1)||decide (4<x.Branch))=b1
    generalize (decide (x.Kind<1)||decide (9<x.Kind)||decide (x.Price<0)||decide (100000000<x.Price)||decide (200<(x.Call.length:Int))||!(vld x.Call))=b2
    generalize (!((zek x.Branch c.Moves x.ID).2.2==0)||!(zbj (zek x.Branch c.Moves x.ID).1 x.Custody))=b3
    cases b1<;>cases b2<;>cases b3<;>rfl
   ·have hj:c.Items[j]?=some c.Items[j]:=List.getElem?_eq_getElem (by omega)
    have:=hs.items
    simp -zeta only[zlp,dlt hi,zah,hx,k_or,za7,dpos,zgj (show j<1000000000 by omega),hj,cond_false,cond_true,Bool.true_and,zbo,zam (show j+1<9223372036854775807 by omega),hv,hr]
    dsimp only
    generalize (decide (x.ID<1)||decide (9999<x.ID)||decide (x.ID≤c.Items[j].ID)||decide (x.Record<1)||decide (9999<x.Record)||decide (x.Branch<1)||decide (4<x.Branch))=b1
    generalize (decide (x.Kind<1)||decide (9<x.Kind)||decide (x.Price<0)||decide (100000000<x.Price)||decide (200<(x.Call.length:Int))||!(vld x.Call))=b2
    generalize (!((zek x.Branch c.Moves x.ID).2.2==0)||!(zbj (zek x.Branch c.Moves x.ID).1 x.Custody))=b3
    cases b1<;>cases b2<;>cases b3<;>rfl)
 exact h
theorem zwh {c:Circ} (hs:Short c):zac zhe (0,c,())=some (bif c.Moves.all (fun m=>(c.Items.find? (fun x=>x.ID==m.Item)).isSome) then .inl () else .inr (false,())):=by
 have h:=zav (step:=zhe) (fun i=>((i:Int),c,())) c.Moves (fun _ m=>(c.Items.find? (fun x=>x.ID==m.Item)).isSome) (.inr (false,())) (.inl ()) hs.moves
  (by simp only[zhe,dge,cond_false])
  (fun i x hx=>by
   have hi:=(List.getElem?_eq_some_iff.1 hx).1
   have:=hs.moves
   simp only[zhe,dlt hi,zah,hx,cond_true,zam (show i<9223372036854775807 by omega)]
   rcases zq1 (item:=x.Item) hs.items with ⟨h1,h2⟩|⟨k,y,h1,h2,h3,h4⟩
   ·simp only[h1,h2,zr9,cond_true,Option.isSome_none,cond_false]
   ·simp only[h1,h4,zmz,cond_false,Option.isSome_some,cond_true])
 rw[show zac zhe (0,c,())=_ from h,za2]
theorem za32 {c:Circ} (hs:Short c):qad c=some (zfa c):=by
 unfold qad zfa
 simp -zeta only[k_or]
 dsimp only
 rw[z3n hs]
 cases (decide (64<(c.Items.length:Int))||decide (2000<(c.Moves.length:Int))) with
 |true=>rfl
 |false=>
  cases zch (zd4 c) 0 c.Items with
  |false=>rfl
  |true=>
   simp only[cond_false,cond_true,zwh hs]
   cases c.Moves.all (fun m=>(c.Items.find? (fun x=>x.ID==m.Item)).isSome)<;>rfl
def zgp (c:Circ) (n:Loan):Bool:=match c.Items.find? (fun x=>x.ID==n.Item) with
 |some x=>!(!(getP c.Patrons n.Patron).2||!(zq0 x.Custody)||!(x.Custody.Who==n.Patron))
 |none=>false
def zga (c:Circ):Bool:=c.Loans.all (zgp c)&&c.Items.all (fun x=>(zv0 c.Loans x.ID).2==zq0 x.Custody)
theorem za31 {c:Circ} (hs:Short c):qac c=some (zga c):=by
 have h1:=zav (step:=zlo) (fun i=>((i:Int),c,())) c.Loans (fun _=>zgp c) (.inr (false,())) (.inl (c,())) hs.loans
  (by simp only[zlo,dge,cond_false])
  (fun i x hx=>by
   have hi:=(List.getElem?_eq_some_iff.1 hx).1
   have:=hs.loans
   unfold zgp
   rcases zq1 (item:=x.Item) hs.items with ⟨h1,h2⟩|⟨k,y,h1,h2,h3,h4⟩
   ·simp -zeta only[zlo,dlt hi,zah,hx,cond_true,k_or,zg2 hs.patrons,h1,h2,zr9,Bool.true_or]
    try rfl
   ·simp -zeta only[zlo,dlt hi,zah,hx,cond_true,k_or,zg2 hs.patrons,h1,h2,h4,zmz,Bool.false_or,zaol,zam (show i<9223372036854775807 by omega)]
    dsimp only
    cases (!(getP c.Patrons x.Patron).2||!(zq0 y.Custody)||!(y.Custody.Who==x.Patron))<;>rfl)
 have h2:=zav (step:=zio) (fun i=>((i:Int),c,())) c.Items (fun _ x=>(zv0 c.Loans x.ID).2==zq0 x.Custody) (.inr (false,())) (.inl ()) hs.items
  (by simp only[zio,dge,cond_false])
  (fun i x hx=>by
   have hi:=(List.getElem?_eq_some_iff.1 hx).1
   have:=hs.items
   simp only[zio,dlt hi,zah,hx,cond_true,za4y hs.loans,zaol,zam (show i<9223372036854775807 by omega)]
   cases (zv0 c.Loans x.ID).2==zq0 x.Custody<;>rfl)
 unfold qac zga
 rw[show zac zlo (0,c,())=_ from h1,za2]
 cases c.Loans.all (zgp c) with
 |false=>rfl
 |true=>
  simp only[cond_true]
  rw[show zac zio (0,c,())=_ from h2,za2]
  cases c.Items.all (fun x=>(zv0 c.Loans x.ID).2==zq0 x.Custody)<;>rfl
def zgo (c:Circ) (h:Hold):Bool:=
 !(!(getP c.Patrons h.Patron).2||decide (c.NextHold≤h.ID))&&(h.State==1||(match c.Items.find? (fun x=>x.ID==h.Got) with
  |some x=>!(!(x.Record==h.Record))&&!(h.State==3&&(!(x.Custody.State==5)||!(x.Custody.Branch==h.Pickup)||!(x.Custody.Who==h.Patron)))&&
   !(h.State==2&&(!(x.Custody.State==6)||!(x.Custody.To==h.Pickup)||!(x.Custody.Who==h.Patron)))
  |none=>false))
def zgg (c:Circ) (x:Item):Bool:=!(x.Custody.State==5)||!(!(zia c x.ID).2||!((zia c x.ID).1.State==3))
def zf8 (c:Circ):Bool:=c.Holds.all (zgo c)&&c.Items.all (zgg c)
theorem za33 {c:Circ} (hs:Short c):qae c=some (zf8 c):=by
 have h1:=zav (step:=zlq) (fun i=>((i:Int),c,())) c.Holds (fun _=>zgo c) (.inr (false,())) (.inl (c,())) hs.holds
  (by simp only[zlq,dge,cond_false])
  (fun i x hx=>by
   have hi:=(List.getElem?_eq_some_iff.1 hx).1
   have:=hs.holds
   unfold zgo
   rcases zq1 (item:=x.Got) hs.items with ⟨h1,h2⟩|⟨k,y,h1,h2,h3,h4⟩
   ·simp -zeta only[zlq,dlt hi,zah,hx,cond_true,k_or,zg2 hs.patrons,h1,h2,zr9,zam (show i<9223372036854775807 by omega)]
    dsimp only
    cases (!(getP c.Patrons x.Patron).2||decide (c.NextHold≤x.ID)) with
    |true=>rfl
    |false=>cases x.State==1<;>rfl
   ·simp -zeta only[zlq,dlt hi,zah,hx,cond_true,k_or,za7,zg2 hs.patrons,h1,h2,h4,zmz,cond_false,zam (show i<9223372036854775807 by omega)]
    dsimp only
    generalize (!(getP c.Patrons x.Patron).2||decide (c.NextHold≤x.ID))=b1
    generalize (x.State==1)=b2
    generalize (!(y.Record==x.Record))=b3
    generalize (!(y.Custody.State==5)||!(y.Custody.Branch==x.Pickup)||!(y.Custody.Who==x.Patron))=b4
    generalize (!(y.Custody.State==6)||!(y.Custody.To==x.Pickup)||!(y.Custody.Who==x.Patron))=b5
    generalize (x.State==3)=b6
    generalize (x.State==2)=b7
    cases b1<;>cases b2<;>cases b3<;>cases b4<;>cases b5<;>cases b6<;>cases b7<;>rfl)
 have h2:=zav (step:=zip) (fun i=>((i:Int),c,())) c.Items (fun _=>zgg c) (.inr (false,())) (.inl ()) hs.items
  (by simp only[zip,dge,cond_false])
  (fun i x hx=>by
   have hi:=(List.getElem?_eq_some_iff.1 hx).1
   have:=hs.items
   unfold zgg
   simp -zeta only[zip,dlt hi,zah,hx,cond_true,k_or,za38 hs.holds,zam (show i<9223372036854775807 by omega)]
   dsimp only
   cases x.Custody.State==5 with
   |false=>rfl
   |true=>
    generalize (!(zia c x.ID).2||!((zia c x.ID).1.State==3))=b
    cases b<;>rfl)
 unfold qae zf8
 rw[show zac zlq (0,c,())=_ from h1,za2]
 cases c.Holds.all (zgo c) with
 |false=>rfl
 |true=>
  simp only[cond_true]
  rw[show zac zip (0,c,())=_ from h2,za2]
  cases c.Items.all (zgg c)<;>rfl
end Go.Proofs.YtdahfgialanmpaaGreatDoor
namespace Go.Proofs.YtdahfgialanmpaaGreatDoor
open Ev
open Go (IntKind)
def zhq (c:Circ):Bool:=zcp c.Cals.x0==0&&(zcp c.Cals.x1==0&&(zcp c.Cals.x2==0&&zcp c.Cals.x3==0))
theorem z3p {c:Circ} (hs:Short c):zac zi3 (0,c,())=some (bif zhq c then .inl (c,()) else .inr (false,())):=by
 have s0:zi3 (0,c,())=bif zcp c.Cals.x0==0 then some (.inl (1,c,())) else some (.inr (.inr (false,()))):=by
  show (match qy c.Cals.x0 with|some r=>(bif !(r==0) then (some (.inr (.inr (false,()))):Option ((Int×Circ×Unit)⊕((Circ×Unit)⊕(Bool×Unit)))) else some (.inl (1,c,())))|none=>none)=_
  rw[zaji hs.cal0];dsimp only;cases zcp c.Cals.x0==0<;>rfl
 have s1:zi3 (1,c,())=bif zcp c.Cals.x1==0 then some (.inl (2,c,())) else some (.inr (.inr (false,()))):=by
  show (match qy c.Cals.x1 with|some r=>(bif !(r==0) then (some (.inr (.inr (false,()))):Option ((Int×Circ×Unit)⊕((Circ×Unit)⊕(Bool×Unit)))) else some (.inl (2,c,())))|none=>none)=_
  rw[zaji hs.cal1];dsimp only;cases zcp c.Cals.x1==0<;>rfl
 have s2:zi3 (2,c,())=bif zcp c.Cals.x2==0 then some (.inl (3,c,())) else some (.inr (.inr (false,()))):=by
  show (match qy c.Cals.x2 with|some r=>(bif !(r==0) then (some (.inr (.inr (false,()))):Option ((Int×Circ×Unit)⊕((Circ×Unit)⊕(Bool×Unit)))) else some (.inl (3,c,())))|none=>none)=_
  rw[zaji hs.cal2];dsimp only;cases zcp c.Cals.x2==0<;>rfl
 have s3:zi3 (3,c,())=bif zcp c.Cals.x3==0 then some (.inl (4,c,())) else some (.inr (.inr (false,()))):=by
  show (match qy c.Cals.x3 with|some r=>(bif !(r==0) then (some (.inr (.inr (false,()))):Option ((Int×Circ×Unit)⊕((Circ×Unit)⊕(Bool×Unit)))) else some (.inl (4,c,())))|none=>none)=_
  rw[zaji hs.cal3];dsimp only;cases zcp c.Cals.x3==0<;>rfl
 have s4:zi3 (4,c,())=some (.inr (.inl (c,()))):=rfl
 refine za3 5 (by rw[za0];omega) ?_
 unfold zhq
 simp only[za5,s0,s1,s2,s3,s4]
 cases zcp c.Cals.x0==0 with
 |false=>rfl
 |true=>
  simp only[cond_true,za5,s1]
  cases zcp c.Cals.x1==0 with
  |false=>rfl
  |true=>
   simp only[cond_true,za5,s2]
   cases zcp c.Cals.x2==0 with
   |false=>rfl
   |true=>
    simp only[cond_true,za5,s3]
    cases zcp c.Cals.x3==0 with
    |false=>rfl
    |true=>simp only[cond_true,za5,s4];rfl
def ze5 (c:Circ) (x:Charge):Bool:=!(!(getP c.Patrons x.Patron).2||decide (c.NextCharge≤x.ID))
theorem zwj {c:Circ} (hs:Short c):zac zhg (0,c,())=some (bif c.Charges.all (ze5 c) then .inl (c,()) else .inr (false,())):=by
 have h:=zav (step:=zhg) (fun i=>((i:Int),c,())) c.Charges (fun _=>ze5 c) (.inr (false,())) (.inl (c,())) hs.charges
  (by simp only[zhg,dge,cond_false])
  (fun i x hx=>by
   have hi:=(List.getElem?_eq_some_iff.1 hx).1
   have:=hs.charges
   unfold ze5
   simp -zeta only[zhg,dlt hi,zah,hx,cond_true,k_or,zg2 hs.patrons,zam (show i<9223372036854775807 by omega)]
   dsimp only
   cases (!(getP c.Patrons x.Patron).2||decide (c.NextCharge≤x.ID))<;>rfl)
 rw[show zac zhg (0,c,())=_ from h,za2]
def zqw (c:Circ):Bool:=!(decide (c.Today<0)||decide (109572<c.Today)||decide (c.NextHold<1)||decide (100000<c.NextHold)||decide (c.NextCharge<1)||decide (100000<c.NextCharge))
def zk2 (c:Circ):Bool:=!(!(zfe c.Patrons==0)||!(zh0 c.Loans==0)||!(zbn c.Holds==0)||!(zcm c.Charges==0)||!(zgr c.Rules==0))
def zo2 (c:Circ):Bool:=zqw c&&(zk2 c&&(zhq c&&(c.Charges.all (ze5 c)&&(zfa c&&(zga c&&zf8 c)))))
theorem za34 {c:Circ} (hs:Short c):qaj c=some (zo2 c):=by
 unfold qaj zo2 zqw zk2
 simp -zeta only[k_or,za7,za4a hs.patrons hs.name,za39 hs.loans,za5b hs.holds,za3z hs.charges,za6t hs.rules]
 dsimp only
 rw[z3p hs]
 generalize (decide (c.Today<0)||decide (109572<c.Today)||decide (c.NextHold<1)||decide (100000<c.NextHold)||decide (c.NextCharge<1)||decide (100000<c.NextCharge))=b1
 generalize (!(zfe c.Patrons==0)||!(zh0 c.Loans==0)||!(zbn c.Holds==0)||!(zcm c.Charges==0)||!(zgr c.Rules==0))=b2
 cases b1 with
 |true=>rfl
 |false=>
  cases b2 with
  |true=>rfl
  |false=>
   cases zhq c with
   |false=>rfl
   |true=>
    simp only[cond_false,cond_true,zwj hs]
    cases c.Charges.all (ze5 c) with
    |false=>rfl
    |true=>
     simp -zeta only[cond_false,cond_true,za32 hs,za31 hs,za33 hs,za7]
     try dsimp only
     cases zfa c<;>cases zga c<;>cases zf8 c<;>rfl
def zmj (c:Circ):Bool:=
 !(decide (10<(c.Items.length:Int))||decide (8<(c.Patrons.length:Int))||decide (12<(c.Holds.length:Int))||decide (12<(c.Loans.length:Int))||decide (30<(c.Charges.length:Int))||decide (10<(c.Rules.length:Int))||decide (200<(c.Moves.length:Int)))&&
 (c.Items.all (fun x=>!(decide (300<(x.Call.length:Int))))&&(c.Patrons.all (fun x=>!(decide (300<(x.Name.length:Int))))&&
  (!(decide (20<(c.Cals.x0.Closed.length:Int)))&&(!(decide (20<(c.Cals.x1.Closed.length:Int)))&&(!(decide (20<(c.Cals.x2.Closed.length:Int)))&&!(decide (20<(c.Cals.x3.Closed.length:Int))))))))
theorem za6p (c:Circ):qa c=some (zmj c):=by
 unfold qa zmj
 simp -zeta only[k_or,za7]
 dsimp only
 cases hb:(decide (10<(c.Items.length:Int))||decide (8<(c.Patrons.length:Int))||decide (12<(c.Holds.length:Int))||decide (12<(c.Loans.length:Int))||decide (30<(c.Charges.length:Int))||decide (10<(c.Rules.length:Int))||decide (200<(c.Moves.length:Int))) with
 |true=>rfl
 |false=>
  simp only[Bool.or_eq_false_iff,decide_eq_false_iff_not]at hb
  have h1:=zav (step:=z3l) (fun i=>((i:Int),c,())) c.Items (fun _ x=>!(decide (300<(x.Call.length:Int)))) (.inr (false,())) (.inl (c,())) (by omega)
   (by simp only[z3l,dge,cond_false])
   (fun i x hx=>by
    have hi:=(List.getElem?_eq_some_iff.1 hx).1
    simp only[z3l,dlt hi,zah,hx,cond_true,zam (show i<9223372036854775807 by omega)]
    cases decide (300<(x.Call.length:Int))<;>rfl)
  have h2:=zav (step:=z3m) (fun i=>((i:Int),c,())) c.Patrons (fun _ x=>!(decide (300<(x.Name.length:Int)))) (.inr (false,())) (.inl (c,())) (by omega)
   (by simp only[z3m,dge,cond_false])
   (fun i x hx=>by
    have hi:=(List.getElem?_eq_some_iff.1 hx).1
    simp only[z3m,dlt hi,zah,hx,cond_true,zam (show i<9223372036854775807 by omega)]
    cases decide (300<(x.Name.length:Int))<;>rfl)
  have h3:zac zi2 (0,c,())=some (bif (!(decide (20<(c.Cals.x0.Closed.length:Int)))&&(!(decide (20<(c.Cals.x1.Closed.length:Int)))&&(!(decide (20<(c.Cals.x2.Closed.length:Int)))&&!(decide (20<(c.Cals.x3.Closed.length:Int)))))) then .inl () else .inr (false,())):=by
   have s0:zi2 (0,c,())=bif decide (20<(c.Cals.x0.Closed.length:Int)) then some (.inr (.inr (false,()))) else some (.inl (1,c,())):=rfl
   have s1:zi2 (1,c,())=bif decide (20<(c.Cals.x1.Closed.length:Int)) then some (.inr (.inr (false,()))) else some (.inl (2,c,())):=rfl
   have s2:zi2 (2,c,())=bif decide (20<(c.Cals.x2.Closed.length:Int)) then some (.inr (.inr (false,()))) else some (.inl (3,c,())):=rfl
   have s3:zi2 (3,c,())=bif decide (20<(c.Cals.x3.Closed.length:Int)) then some (.inr (.inr (false,()))) else some (.inl (4,c,())):=rfl
   have s4:zi2 (4,c,())=some (.inr (.inl ())):=rfl
   refine za3 5 (by rw[za0];omega) ?_
   simp only[za5,s0]
   cases decide (20<(c.Cals.x0.Closed.length:Int)) with
   |true=>rfl
   |false=>
    simp only[cond_false,za5,s1]
    cases decide (20<(c.Cals.x1.Closed.length:Int)) with
    |true=>rfl
    |false=>
     simp only[cond_false,za5,s2]
     cases decide (20<(c.Cals.x2.Closed.length:Int)) with
     |true=>rfl
     |false=>
      simp only[cond_false,za5,s3]
      cases decide (20<(c.Cals.x3.Closed.length:Int)) with
      |true=>rfl
      |false=>simp only[cond_false,za5,s4];rfl
  simp only[cond_false,Bool.not_false,Bool.true_and]
  rw[show zac z3l (0,c,())=_ from h1,za2]
  cases c.Items.all (fun x=>!(decide (300<(x.Call.length:Int)))) with
  |false=>rfl
  |true=>
   simp only[cond_true,Bool.true_and]
   rw[show zac z3m (0,c,())=_ from h2,za2]
   cases c.Patrons.all (fun x=>!(decide (300<(x.Name.length:Int)))) with
   |false=>rfl
   |true=>
    simp only[cond_true,Bool.true_and,h3]
    cases (!(decide (20<(c.Cals.x0.Closed.length:Int)))&&(!(decide (20<(c.Cals.x1.Closed.length:Int)))&&(!(decide (20<(c.Cals.x2.Closed.length:Int)))&&!(decide (20<(c.Cals.x3.Closed.length:Int))))))<;>rfl
structure SmallP (c:Circ):Prop where
 items:c.Items.length≤10
 patrons:c.Patrons.length≤8
 holds:c.Holds.length≤12
 loans:c.Loans.length≤12
 charges:c.Charges.length≤30
 rules:c.Rules.length≤10
 moves:c.Moves.length≤200
 call:∀x∈c.Items,x.Call.length≤300
 name:∀x∈c.Patrons,x.Name.length≤300
 cal0:c.Cals.x0.Closed.length≤20
 cal1:c.Cals.x1.Closed.length≤20
 cal2:c.Cals.x2.Closed.length≤20
 cal3:c.Cals.x3.Closed.length≤20
theorem zapq {c:Circ} (h:zmj c=true):SmallP c:=by
 unfold zmj at h
 simp only[Bool.and_eq_true,Bool.not_eq_true',Bool.or_eq_false_iff,decide_eq_false_iff_not,List.all_eq_true]at h
 obtain ⟨⟨⟨⟨⟨⟨⟨h1,h2⟩,h3⟩,h4⟩,h5⟩,h6⟩,h7⟩,h8,h9,h10,h11,h12,h13⟩:=h
 exact ⟨by omega,by omega,by omega,by omega,by omega,by omega,by omega,fun x hx=>by have:=h8 x hx;omega,fun x hx=>by have:=h9 x hx;omega,by omega,by omega,by omega,by omega⟩
theorem SmallP.short {c:Circ} (h:SmallP c):Short c:=by
 obtain ⟨h1,h2,h3,h4,h5,h6,h7,h8,h9,h10,h11,h12,h13⟩:=h
 exact ⟨by omega,by omega,by omega,by omega,by omega,by omega,by omega,fun x hx=>by have:=h8 x hx;omega,fun x hx=>by have:=h9 x hx;omega,by omega,by omega,by omega,by omega⟩
theorem za41 (c:Circ):qf6 c=some (zmj c&&zo2 c):=by
 unfold qf6
 rw[za6p]
 cases h:zmj c with
 |false=>rfl
 |true=>
  simp only[cond_true,za34 (zapq h).short]
  try rfl
end Go.Proofs.YtdahfgialanmpaaGreatDoor
namespace Go.Proofs.YtdahfgialanmpaaGreatDoor
open Ev
open Go (IntKind)
theorem zaei:qfl=some true:=by kernel_rfl
theorem za6u {γ0:Type} {p:γ0→Patron→Option Bool} {q:Patron→Bool} {s:List Patron} {g:γ0} (hs:s.length<1000000000) (hp:∀x∈s,p g x=some (q x)):qn p s g=some (fIdx q s):=by
 have h:=zbf (step:=zwy p) (fun i=>(s,g,(s.length:Int),(i:Int),())) s q (fun i _=>(.inr ((i:Int),()):Unit⊕(Int×Unit))) (.inl ()) hs
  (by simp only[zwy,dge,cond_false])
  (fun i x hx=>by
   have hi:=(List.getElem?_eq_some_iff.1 hx).1
   simp only[zwy,dlt hi,cond_true,zah,hx,hp x (List.mem_of_getElem? hx),zam (show i<9223372036854775807 by omega)])
 unfold qn
 rw[show zac (zwy p) (s,g,(s.length:Int),0,())=_ from h,←zd7]
 have:=zcq (p:=q) (g:=fun i _=>(.inr ((i:Int),()):Unit⊕(Int×Unit))) (d:=.inl ()) (fun z=>match (some z:Option (Unit⊕(Int×Unit))) with|some (.inl _)=>some (-1)|some (.inr (v,_))=>some v|none=>none) (l:=s) (i:=0)
 exact this.trans ((zcq (p:=q) (g:=fun i _=>(i:Int)) (d:=-1) (fun z=>some z) (l:=s) (i:=0)).symm)
theorem zaod {l:List Patron} {id:Int} (hl:l.length<1000000000):qcu l id=some (getP l id):=by
 unfold qcu qb9 getP
 rw[za6u (q:=fun x=>x.ID==id) hl (fun x _=>rfl)]
 rcases zbc (fun x:Patron=>x.ID==id) l with ⟨h1,h2⟩|⟨i,x,h1,h2,h3,h4⟩
 ·simp only[h1,h2,zr9,cond_true]
 ·simp only[h1,h4,zmz,cond_false,zah,h2]
end Go.Proofs.YtdahfgialanmpaaGreatDoor
namespace Go.Proofs.YtdahfgialanmpaaGreatDoor
open Ev
open Go (IntKind)
theorem zfp (lo hi n:Int):(!(rng lo hi n))=(decide (n<lo)||decide (hi<n)):=by
 unfold rng
 by_cases h1:n<lo
 ·have:¬lo≤n:=by omega
  simp[h1,this]
 ·have:lo≤n:=by omega
  by_cases h2:hi<n
  ·have:¬n≤hi:=by omega
   simp[*]
  ·have:n≤hi:=by omega
   simp[*]
theorem zau8 {X:Type} (p:X→Bool) (l:List X):decide (fIdx p l<0)=!(l.any p):=by
 unfold fIdx
 induction l with
 |nil=>rfl
 |cons y l ih=>
  simp only[List.findIdx?_cons,List.any_cons]
  cases hp:p y with
  |true=>rfl
  |false=>
   simp only[Bool.false_eq_true,if_false,Bool.false_or]
   rw[←ih]
   cases l.findIdx? p with
   |none=>rfl
   |some k=>simp only[Option.map_some];rw[decide_eq_decide];omega
theorem zau7 {X:Type} (p:X→Bool) (l:List X):decide (0≤fIdx p l)=l.any p:=by
 have h:=zau8 p l
 cases hb:l.any p with
 |true=>rw[hb]at h;simp at h ⊢;omega
 |false=>rw[hb]at h;simp at h ⊢;omega
theorem zaok {γ:Type} {p:γ→Item→Option Bool} {g:γ} (q:Item→Bool) {l:List Item} (hl:l.length<1000000000) (hp:∀x∈l,p g x=some (q x)):qe p l g=some (fIdx q l):=by
 have h:=zbf (step:=zum p) (fun i=>(l,g,(l.length:Int),(i:Int),())) l q (fun i _=>(.inr ((i:Int),()):(Unit)⊕(Int×Unit))) (.inl ()) hl
  (by simp only[zum,dge,cond_false])
  (fun i x hx=>by
   have hi:=(List.getElem?_eq_some_iff.1 hx).1
   simp only[zum,dlt hi,zah,hx,cond_true,hp x (List.mem_of_getElem? hx),zam (show i<9223372036854775807 by omega)])
 unfold qe
 rw[show zac (zum p) (l,g,(l.length:Int),0,())=_ from h]
 have e:=zcq (p:=q) (g:=fun i _=>(.inr ((i:Int),()):(Unit)⊕(Int×Unit))) (d:=.inl ()) (fun r:(Unit)⊕(Int×Unit)=>match r with | .inl (_)=>(-1:Int) | .inr (v,_)=>v) (l:=l) (i:=0)
 dsimp only at e
 rw[←zd7,←e]
 generalize zfl q (fun i _=>(.inr ((i:Int),()):(Unit)⊕(Int×Unit))) (.inl ()) 0 l=r
 rcases r with _|⟨v,_⟩<;>rfl
theorem z0y {γ:Type} {p:γ→Hold→Option Bool} {g:γ} (q:Hold→Bool) {l:List Hold} (hl:l.length<1000000000) (hp:∀x∈l,p g x=some (q x)):qb p l g=some (fIdx q l):=by
 have h:=zbf (step:=zm8 p) (fun i=>(l,g,(l.length:Int),(i:Int),())) l q (fun i _=>(.inr ((i:Int),()):(Unit)⊕(Int×Unit))) (.inl ()) hl
  (by simp only[zm8,dge,cond_false])
  (fun i x hx=>by
   have hi:=(List.getElem?_eq_some_iff.1 hx).1
   simp only[zm8,dlt hi,zah,hx,cond_true,hp x (List.mem_of_getElem? hx),zam (show i<9223372036854775807 by omega)])
 unfold qb
 rw[show zac (zm8 p) (l,g,(l.length:Int),0,())=_ from h]
 have e:=zcq (p:=q) (g:=fun i _=>(.inr ((i:Int),()):(Unit)⊕(Int×Unit))) (d:=.inl ()) (fun r:(Unit)⊕(Int×Unit)=>match r with | .inl (_)=>(-1:Int) | .inr (v,_)=>v) (l:=l) (i:=0)
 dsimp only at e
 rw[←zd7,←e]
 generalize zfl q (fun i _=>(.inr ((i:Int),()):(Unit)⊕(Int×Unit))) (.inl ()) 0 l=r
 rcases r with _|⟨v,_⟩<;>rfl
theorem zaw3 {γ:Type} {p:γ→Hold→Option Bool} {g:γ} (q:Hold→Bool) {l:List Hold} (hl:l.length<1000000000) (hp:∀x∈l,p g x=some (q x)):qc2 p l g=some (l.any q):=by
 unfold qc2
 rw[z0y q hl hp]
 dsimp only
 rw[zau7]
theorem zaaq (n lo hi:Int):qci n lo hi=some (rng lo hi n):=by
 unfold qci
 simp -zeta only[k_or,za7]
 try rfl
theorem zaoi (n:Int):qdi n=some (rng 0 109572 n):=by
 unfold qdi
 simp -zeta only[k_or,za7]
 try rfl
theorem za4x (n:Int):qe7 n=some (rng 0 109572 n):=by
 unfold qe7
 rw[zaaq]
theorem zsc {α β:Type} (a:α) (g:Int→β) (e:Int):(bif !(e==0) then some (.inr (g e)) else some (.inl a):Option (α⊕β))=zg0 a g e:=by
 unfold zg0
 cases e==0<;>rfl
theorem rng0 (n:Int):(!(rng 0 9999 n))=(!(n==0)&&!(rng 1 9999 n)):=by
 rw[zfp,zfp]
 by_cases h:n=0
 ·subst h;rfl
 ·have h2:(n==0)=false:=by simpa using h
  rw[h2]
  have:decide (n<0)=decide (n<1):=by rw[decide_eq_decide];omega
  rw[this];rfl
theorem z1z {α:Type} (a b:Bool) (x y:α):(bif a then x else bif b then x else y)=bif a||b then x else y:=by cases a<;>rfl
theorem zaom (x:Hold):qfm x=some (zbg x):=by
 unfold qfm zbg
 simp -zeta only[k_or,za7,za4x,zaaq]
 dsimp only
 simp only[zc4,rng0,zfp 1 99999,zfp 1 4,zfp 0 9,zfp 1 3,z1z,Bool.or_assoc]
theorem zfn (l:List Hold) (i:Nat) (x:Hold):zcc l i x=bif zbo l i (fun y=>decide (x.ID≤y.ID)) then 7 else zbg x:=by
 unfold zcc
 congr 1
 cases h:zbg x==0 with
 |true=>simp at h;simp[h]
 |false=>simp
theorem zaau {l:List Hold} (hl:l.length<1000000000):zac zwv (l,l,(l.length:Int),0,())=some (if zb3 (zcc l) 0 l==0 then .inl (l,()) else .inr (zb3 (zcc l) 0 l,())):=by
 have h:=zd9 (step:=zwv) (fun i=>(l,l,(l.length:Int),(i:Int),())) l (zcc l) (.inl (l,())) (fun e=>.inr (e,())) hl
  (by simp only[zwv,dge,cond_false])
  (fun i x hx=>by
   have hi:=(List.getElem?_eq_some_iff.1 hx).1
   have hxm:=List.mem_of_getElem? hx
   rw[zfn,zdg,←zsc _ _ (zbg x)]
   rcases i with _|j
   ·simp -zeta only[zwv,dlt hi,zah,hx,k_or,za7,z18,cond_false,cond_true,zbo,zam (show 0<9223372036854775807 by omega),zaom]
    try rfl
   ·have hj:l[j]?=some l[j]:=List.getElem?_eq_getElem (by omega)
    simp -zeta only[zwv,dlt hi,zah,hx,k_or,za7,dpos,zgj (show j<1000000000 by omega),hj,cond_false,cond_true,zbo,zam (show j+1<9223372036854775807 by omega),zaom]
    rfl)
 exact h
theorem zaar {γ:Type} {p:γ→Hold→Hold→Option Bool} {g:γ} {q:Hold→Hold→Bool} (hp:∀a b,p g a b=some (q a b)) {l:List Hold} (hl:l.length<1000000000) {i:Nat} {x:Hold} (hx:l[i]?=some x) {v v2:Int} :
 zac (zul p) (l,g,(i:Int),v,v2,(i:Int),0,())=some (bif (l.take i).all (fun y=>!(q y x)) then .inl (l,g,v,v2,()) else .inr (true,())):=by
 have hi:=(List.getElem?_eq_some_iff.1 hx).1
 have h:=zav (step:=zul p) (fun k=>(l,g,(i:Int),v,v2,(i:Int),(k:Int),())) (l.take i) (fun _ y=>!(q y x)) (.inr (true,())) (.inl (l,g,v,v2,())) (by rw[List.length_take];omega)
  (by rw[List.length_take,Nat.min_eq_left (by omega)];simp only[zul,dge,cond_false])
  (fun k y hy=>by
   have hk:=(List.getElem?_eq_some_iff.1 hy).1
   rw[List.length_take]at hk
   have hy2:l[k]?=some y:=by rw[←hy,List.getElem?_take_of_lt (by omega)]
   simp -zeta only[zul,dlt (show k<i by omega),zah,hx,hy2,hp,cond_true,zam (show k<9223372036854775807 by omega)]
   cases q y x<;>rfl)
 rw[show zac (zul p) (l,g,(i:Int),v,v2,(i:Int),0,())=_ from h,za2]
def zu7 (q:Hold→Hold→Bool) (l:List Hold):Bool:=zch (fun i x=>(l.take i).all (fun y=>!(q y x))) 0 l
theorem za4s {γ:Type} {p:γ→Hold→Hold→Option Bool} {g:γ} (q:Hold→Hold→Bool) (hp:∀a b,p g a b=some (q a b)) {l:List Hold} (hl:l.length<1000000000):qd p l g=some (!(zu7 q l)):=by
 have h:=zav (step:=zwu p) (fun i=>(l,g,(l.length:Int),(i:Int),())) l (fun i x=>(l.take i).all (fun y=>!(q y x))) (.inr (true,())) (.inl ()) hl
  (by simp only[zwu,dge,cond_false])
  (fun i x hx=>by
   have hi:=(List.getElem?_eq_some_iff.1 hx).1
   simp only[zwu,dlt hi,cond_true,zaar hp hl hx]
   cases (l.take i).all (fun y=>!(q y x)) with
   |true=>simp only[cond_true,zam (show i<9223372036854775807 by omega)]
   |false=>rfl)
 unfold qd
 rw[show zac (zwu p) (l,g,(l.length:Int),0,())=_ from h]
 unfold zu7
 cases zch (fun i x=>(l.take i).all (fun y=>!(q y x))) 0 l<;>rfl
def zjl (a b:Hold):Bool:=a.Patron==b.Patron&&a.Record==b.Record
def zjk (a b:Hold):Bool:=a.Got==b.Got&&decide (0<a.Got)
theorem z1f {l:List Hold}:ze9 l=(zu7 zjl l&&zu7 zjk l):=by
 unfold ze9 zu7
 have key:∀(m:List Hold) (i:Nat),zch (fun i x=>(l.take i).all (fun y=>!(zcr x y))) i m=(zch (fun i x=>(l.take i).all (fun y=>!(zjl y x))) i m&&zch (fun i x=>(l.take i).all (fun y=>!(zjk y x))) i m):=by
  intro m
  induction m with
  |nil=>intro i;rfl
  |cons x m ih=>
   intro i
   simp only[zch]
   rw[ih (i+1)]
   have e:(l.take i).all (fun y=>!(zcr x y))=((l.take i).all (fun y=>!(zjl y x))&&(l.take i).all (fun y=>!(zjk y x))):=by
    induction l.take i with
    |nil=>rfl
    |cons y t iht=>
     simp only[List.all_cons]
     rw[iht]
     have e2:(!(zcr x y))=(!(zjl y x)&&!(zjk y x)):=by
      unfold zcr zjl zjk
      rw[←Bool.not_or]
      congr 1
      have a1:(x.Patron==y.Patron)=(y.Patron==x.Patron):=Bool.beq_comm
      have a2:(x.Record==y.Record)=(y.Record==x.Record):=Bool.beq_comm
      rw[a1,a2]
      congr 1
      rw[Bool.eq_iff_iff]
      simp only[Bool.and_eq_true,decide_eq_true_eq,beq_iff_eq]
      constructor
      ·rintro ⟨h1,h2⟩;exact ⟨h2.symm,by omega⟩
      ·rintro ⟨h1,h2⟩;exact ⟨by omega,h1.symm⟩
     rw[e2]
     cases zjl y x<;>cases zjk y x<;>cases t.all (fun y=>!(zjl y x))<;>cases t.all (fun y=>!(zjk y x))<;>rfl
   rw[e]
   cases (l.take i).all (fun y=>!(zjl y x))<;>cases (l.take i).all (fun y=>!(zjk y x))<;>cases zch (fun i x=>(l.take i).all (fun y=>!(zjl y x))) (i+1) m<;>cases zch (fun i x=>(l.take i).all (fun y=>!(zjk y x))) (i+1) m<;>rfl
 exact key l 0
theorem za6s {l:List Hold} (hl:l.length<1000000000):qj l=some (zbn l):=by
 have t1:=za4s (p:=fun (g:Unit×Unit) x0 x1=>qct x0 x1) (g:=((),())) zjl (fun a b=>by unfold qct zjl;simp -zeta only[za7];rfl) hl
 have t2:=za4s (p:=fun (g:Unit×Unit) x0 x1=>qd4 x0 x1) (g:=((),())) zjk (fun a b=>by unfold qd4 zjk;simp -zeta only[za7];rfl) hl
 unfold qj zbn
 rw[zaau hl]
 cases decide (64<(l.length:Int)) with
 |true=>rfl
 |false=>
  by_cases h:zb3 (zcc l) 0 l=0
  ·simp only[h,beq_self_eq_true,if_true,cond_false,cond_true,t1,t2,z1f]
   cases zu7 zjl l<;>cases zu7 zjk l<;>rfl
  ·have:(zb3 (zcc l) 0 l==0)=false:=by simpa using h
   simp only[this,Bool.false_eq_true,if_false,cond_false]
theorem zapx {X:Type} (q:X→Bool) (l:List X):l.any q=!(l.all (fun y=>!(q y))):=by
 induction l with
 |nil=>rfl
 |cons y l ih=>simp only[List.any_cons,List.all_cons];rw[ih];cases q y<;>rfl
end Go.Proofs.YtdahfgialanmpaaGreatDoor
namespace Go.Proofs.YtdahfgialanmpaaGreatDoor
open Ev
open Go (IntKind)
theorem zan7 (n lo hi:Int):qbz n lo hi=some (rng lo hi n):=by
 unfold qbz
 simp -zeta only[k_or,za7]
 try rfl
theorem zck {lo hi n:Int}:rng lo hi n=true↔lo≤n∧n≤hi:=by
 unfold rng
 simp only[Bool.and_eq_true,decide_eq_true_eq]
theorem zkt {n:Int} (h:rng 1 12 n=true):n=1∨n=2∨n=3∨n=4∨n=5∨n=6∨n=7∨n=8∨n=9∨n=10∨n=11∨n=12:=by
 have:=zck.1 h;omega
theorem zei {n:Int} (h:rng 1 15 n=true):n=1∨n=2∨n=3∨n=4∨n=5∨n=6∨n=7∨n=8∨n=9∨n=10∨n=11∨n=12∨n=13∨n=14∨n=15:=by
 have:=zck.1 h;omega
theorem za45 {s k:Int} (hs:rng 1 12 s=true) (hk:rng 1 15 k=true):qft s k=some (zj2 s k):=by
 rcases zkt hs with h|h|h|h|h|h|h|h|h|h|h|h<;>subst h<;>
  rcases zei hk with h|h|h|h|h|h|h|h|h|h|h|h|h|h|h<;>subst h<;>rfl
theorem za46 (c:Custody):qfu c=some (zjh c):=by
 unfold qfu zjh zaw5
 simp -zeta only[k_or,za7,zii,zan7,zfp]
 dsimp only
 cases hb:(decide (c.State<1)||decide (12<c.State)||(decide (c.Branch<1)||decide (4<c.Branch))) with
 |true=>
  have:(decide (c.State<1)||decide (12<c.State)||decide (c.Branch<1)||decide (4<c.Branch))=true:=by rw[←hb,Bool.or_assoc _ _ (decide (4<c.Branch))]
  rw[this];rfl
 |false=>
  have:(decide (c.State<1)||decide (12<c.State)||decide (c.Branch<1)||decide (4<c.Branch))=false:=by rw[←hb,Bool.or_assoc _ _ (decide (4<c.Branch))]
  rw[this]
  have hr:rng 1 12 c.State=true:=by
   simp only[Bool.or_eq_false_iff,decide_eq_false_iff_not]at hb
   rw[zck];omega
  unfold rng
  simp only[cond_false]
  generalize decide (0≤c.Who)=a1
  generalize decide (c.Who≤9999)=a2
  generalize decide (1≤c.Who)=a3
  generalize decide (1≤c.To)=a4
  generalize decide (c.To≤4)=a5
  generalize (c.To==0)=a6
  generalize (c.To==c.Branch)=a7
  generalize (c.Who==0)=a8
  rcases zkt hr with h|h|h|h|h|h|h|h|h|h|h|h<;>rw[h]<;>revert a1 a2 a3 a4 a5 a6 a7 a8<;>decide
theorem zan8 (c:Custody) (ok:Bool):qc3 c ok=some (bif ok then (c,0) else (⟨0,0,0,0⟩,1)):=by
 cases ok<;>rfl
theorem za47 (c:Custody) (m:Move):qfw c m=some (bif !(m.Branch==c.Branch) then (⟨6,c.Branch,m.Who,m.Branch⟩,0) else (⟨0,0,0,0⟩,1)):=by
 unfold qfw
 rw[zan8]
theorem za4z (c:Custody) (m:Move):qem c m=some (za9 c m):=by
 unfold qem za9
 simp -zeta only[k_or,za7,zii,zan7,za46]
 dsimp only
 have hw:(!(rng 0 109572 m.Day)||!(rng 1 9999 m.Item)||!(rng 1 15 m.Kind)||!(rng 1 4 m.Branch)||!(rng 0 9999 m.Who))=!(zm9 m):=by
  unfold zm9 rng
  simp only[Bool.not_and,Bool.or_assoc]
 rw[show (!(zjh c)||!(rng 0 109572 m.Day)||!(rng 1 9999 m.Item)||!(rng 1 15 m.Kind)||!(rng 1 4 m.Branch)||!(rng 0 9999 m.Who))=(!(zjh c)||!(zm9 m)) by rw[←hw];simp only[Bool.or_assoc]]
 cases hb:(!(zjh c)||!(zm9 m)) with
 |true=>rfl
 |false=>
  simp only[Bool.or_eq_false_iff,Bool.not_eq_false']at hb
  obtain ⟨h1,h2⟩:=hb
  rw[h2,Bool.not_true]at hw
  simp only[Bool.or_eq_false_iff,Bool.not_eq_false']at hw
  obtain ⟨⟨⟨⟨w1,w2⟩,w3⟩,w4⟩,w5⟩:=hw
  have hs:rng 1 12 c.State=true:=by
   unfold zjh at h1
   rw[zck]
   cases hq:(decide (c.State<1)||decide (12<c.State)||decide (c.Branch<1)||decide (4<c.Branch)) with
   |true=>rw[hq]at h1;cases h1
   |false=>simp only[Bool.or_eq_false_iff,decide_eq_false_iff_not]at hq;omega
  rw[za45 hs w3]
  simp only[cond_false]
  cases ha:zj2 c.State m.Kind with
  |false=>rfl
  |true=>
   simp only[Bool.not_true,cond_false]
   have h0:=(zck.1 w5).1
   unfold zaat zc5
   simp only[zan8,za47]
   generalize (c.State==5)=g5
   generalize (m.Who==c.Who)=g7
   generalize (m.Branch==c.To)=g6
   by_cases hw0:m.Who=0
   ·have e2:decide (1≤m.Who)=false:=by rw[decide_eq_false_iff_not];omega
    rw[e2]
    simp only[hw0]
    by_cases hb:m.Branch=c.Branch
    ·simp only[hb,beq_self_eq_true]
     rcases zei w3 with h|h|h|h|h|h|h|h|h|h|h|h|h|h|h<;>
      (simp only[h];cases g5<;>cases g6<;>cases g7<;>rfl)
    ·have e3:(m.Branch==c.Branch)=false:=by simpa using hb
     simp only[e3]
     rcases zei w3 with h|h|h|h|h|h|h|h|h|h|h|h|h|h|h<;>
      (simp only[h];cases g5<;>cases g6<;>cases g7<;>rfl)
   ·have e2:decide (1≤m.Who)=true:=by rw[decide_eq_true_eq];omega
    have e1:(m.Who==0)=false:=by simpa using hw0
    rw[e2]
    simp only[e1]
    by_cases hb:m.Branch=c.Branch
    ·simp only[hb,beq_self_eq_true]
     rcases zei w3 with h|h|h|h|h|h|h|h|h|h|h|h|h|h|h<;>
      (simp only[h];cases g5<;>cases g6<;>cases g7<;>rfl)
    ·have e3:(m.Branch==c.Branch)=false:=by simpa using hb
     simp only[e3]
     rcases zei w3 with h|h|h|h|h|h|h|h|h|h|h|h|h|h|h<;>
      (simp only[h];cases g5<;>cases g6<;>cases g7<;>rfl)
end Go.Proofs.YtdahfgialanmpaaGreatDoor
namespace Go.Proofs.YtdahfgialanmpaaGreatDoor
open Ev
open Go (IntKind)
theorem zant {c:Circ} {item:Int} (hl:c.Items.length<1000000000):qaa c item=some (fIdx (fun x=>x.ID==item) c.Items):=by
 unfold qaa
 rw[zaok (fun x=>x.ID==item) hl (fun x _=>rfl)]
def zdw (x:Item):Bool:=rng 1 9999 x.ID&&rng 1 9999 x.Record&&rng 1 4 x.Branch&&rng 1 9 x.Kind&&rng 0 100000000 x.Price&&decide ((x.Call.length:Int)≤200)&&vld x.Call
def zc6 (c:Circ) (x:Item):Bool:=!(!((zek x.Branch c.Moves x.ID).2.2==0)||!(zbj (zek x.Branch c.Moves x.ID).1 x.Custody))
def z95 (c:Circ):Bool:=c.Moves.all (fun m=>(c.Items.find? (fun x=>x.ID==m.Item)).isSome)
def zk0 (c:Circ):Bool:=!(decide (64<(c.Items.length:Int))||decide (2000<(c.Moves.length:Int)))&&(zch (fun i x=>!(!(zdw x)||zbo c.Items i (fun y=>decide (x.ID≤y.ID)))) 0 c.Items&&(z95 c&&c.Items.all (zc6 c)))
end Go.Proofs.YtdahfgialanmpaaGreatDoor
namespace Go.Proofs.YtdahfgialanmpaaGreatDoor
open Ev
open Go (IntKind)
theorem zcu {X:Type} {key:X→Int} {l:List X} (h:∀i x,l[i]?=some x→zbo l i (fun y=>decide (key x≤key y))=false):∀(j i:Nat) (x y:X),i<j→l[i]?=some x→l[j]?=some y→key x<key y:=by
 intro j
 induction j with
 |zero=>intro i x y hi;omega
 |succ j ih=>
  intro i x y hi hx hy
  have hj:=(List.getElem?_eq_some_iff.1 hy).1
  have hz:l[j]?=some l[j]:=List.getElem?_eq_getElem (by omega)
  have:=h _ _ hy
  simp only[zbo,hz,decide_eq_false_iff_not]at this
  by_cases e:i=j
  ·subst e
   rw[hz]at hx;cases hx;omega
  ·have:=ih i x l[j] (by omega) hx hz
   omega
theorem zxl {X:Type} {key:X→Int} {l:List X} (h:∀i x,l[i]?=some x→zbo l i (fun y=>decide (key x≤key y))=false) {x:X} (hx:x∈l):l.find? (fun y=>key y==key x)=some x:=by
 rcases zbc (fun y=>key y==key x) l with ⟨h1,h2⟩|⟨i,y,h1,h2,h3,h4⟩
 ·rw[List.find?_eq_none]at h2
  exact absurd (beq_self_eq_true _) (h2 x hx)
 ·rw[h4]
  obtain ⟨j,hj⟩:=List.getElem?_of_mem hx
  have e:key y=key x:=by simpa using h3
  by_cases hij:i=j
  ·subst hij;rw[h2]at hj;exact hj
  ·rcases Nat.lt_or_gt_of_ne hij with hlt|hlt
   ·have:=zcu h _ _ _ _ hlt h2 hj;omega
   ·have:=zcu h _ _ _ _ hlt hj h2;omega
theorem zks {X:Type} {f:Nat→X→Int}:∀{l:List X} {k:Nat},zb3 f k l=0→∀i x,l[i]?=some x→f (k+i) x=0:=by
 intro l
 induction l with
 |nil=>intro k _ i x hx;simp at hx
 |cons y l ih=>
  intro k h i x hx
  unfold zb3 at h
  by_cases e:f k y=0
  ·rw[e]at h
   simp only[beq_self_eq_true,if_true]at h
   cases i with
   |zero=>simp at hx;subst hx;exact e
   |succ i=>have:=ih h i x (by simpa using hx);rwa [show k+(i+1)=k+1+i by omega]
  ·have:(f k y==0)=false:=by simpa using e
   rw[this]at h
   exact absurd h e
theorem zc3 {b:Bool} {n m:Int} (h:(bif b then n else m)=0) (hn:n≠0):b=false:=by
 cases b with
 |false=>rfl
 |true=>exact absurd h hn
theorem zhw {l:List Hold} (h:zbn l=0):zb3 (zcc l) 0 l=0:=by
 unfold zbn at h
 rw[zc3 h (by decide)]at h
 simp only[cond_false]at h
 by_cases e:zb3 (zcc l) 0 l=0
 ·exact e
 ·have h2:(zb3 (zcc l) 0 l==0)=false:=by simpa using e
  rw[h2]at h
  exact h
theorem ziz {l:List Hold} (h:zbn l=0):∀i x,l[i]?=some x→zbo l i (fun y=>decide (x.ID≤y.ID))=false:=by
 intro i x hx
 have:=zks (k:=0) (zhw h) i x hx
 rw[Nat.zero_add,zfn]at this
 exact zc3 this (by decide)
theorem znv {l:List Hold} (h:zbn l=0) {x:Hold} (hx:x∈l):zbg x=0:=by
 obtain ⟨i,hi⟩:=List.getElem?_of_mem hx
 have:=zks (k:=0) (zhw h) i x hi
 rw[Nat.zero_add,zfn]at this
 rw[zc3 this (by decide)]at this
 exact this
theorem zkq {a b:Custody}:zbj a b=true↔a=b:=by
 obtain ⟨a1,a2,a3,a4⟩:=a
 obtain ⟨b1,b2,b3,b4⟩:=b
 unfold zbj
 simp[Bool.and_eq_true]
 try (constructor<;>(intro h;simp_all))
end Go.Proofs.YtdahfgialanmpaaGreatDoor
namespace Go.Proofs.YtdahfgialanmpaaGreatDoor
open Ev
open Go (IntKind)
theorem zv6 (c:Circ) (i:Nat) (x:Item):zd4 c i x=(!(!(zdw x)||zbo c.Items i (fun y=>decide (x.ID≤y.ID)))&&zc6 c x):=by
 unfold zd4 zc6 zdw
 rw[Bool.eq_iff_iff]
 simp only[Bool.and_eq_true,Bool.not_eq_true',Bool.or_eq_false_iff,decide_eq_false_iff_not,Bool.not_eq_false',zck,decide_eq_true_eq]
 constructor
 ·rintro ⟨⟨h1,h2⟩,h3⟩
  obtain ⟨⟨⟨⟨⟨⟨a1,a2⟩,a3⟩,a4⟩,a5⟩,a6⟩,a7⟩:=h1
  obtain ⟨⟨⟨⟨⟨b1,b2⟩,b3⟩,b4⟩,b5⟩,b6⟩:=h2
  refine ⟨⟨⟨⟨⟨⟨⟨⟨⟨?_,?_⟩,⟨?_,?_⟩⟩,⟨?_,?_⟩⟩,⟨?_,?_⟩⟩,⟨?_,?_⟩⟩,?_⟩,b6⟩,a3⟩,h3⟩<;>omega
 ·rintro ⟨⟨h1,a3⟩,h3⟩
  obtain ⟨⟨⟨⟨⟨⟨⟨a1,a2⟩,⟨a4,a5⟩⟩,⟨a6,a7⟩⟩,⟨a8,a9⟩⟩,⟨b1,b2⟩⟩,b3⟩,b4⟩:=h1
  refine ⟨⟨⟨⟨⟨⟨⟨⟨?_,?_⟩,a3⟩,?_⟩,?_⟩,?_⟩,?_⟩,⟨⟨⟨⟨⟨?_,?_⟩,?_⟩,?_⟩,?_⟩,b4⟩⟩,h3⟩<;>omega
theorem zsm (c:Circ):zfa c=zk0 c:=by
 have key:zch (zd4 c) 0 c.Items=(zch (fun i x=>!(!(zdw x)||zbo c.Items i (fun y=>decide (x.ID≤y.ID)))) 0 c.Items&&c.Items.all (zc6 c)):=by
  have gen:∀(l:List Item) (k:Nat),zch (zd4 c) k l=(zch (fun i x=>!(!(zdw x)||zbo c.Items i (fun y=>decide (x.ID≤y.ID)))) k l&&l.all (zc6 c)):=by
   intro l
   induction l with
   |nil=>intro k;rfl
   |cons x l ih=>
    intro k
    simp only[zch,List.all_cons]
    rw[ih,zv6]
    generalize (!(!(zdw x)||zbo c.Items k (fun y=>decide (x.ID≤y.ID))))=b1
    generalize zch (fun i x=>!(!(zdw x)||zbo c.Items i (fun y=>decide (x.ID≤y.ID)))) (k+1) l=b2
    cases b1<;>cases b2<;>cases zc6 c x<;>cases l.all (zc6 c)<;>rfl
  exact gen _ _
 unfold zfa zk0 z95
 rw[key]
 generalize (!(decide (64<(c.Items.length:Int))||decide (2000<(c.Moves.length:Int))))=b1
 generalize zch (fun i x=>!(!(zdw x)||zbo c.Items i (fun y=>decide (x.ID≤y.ID)))) 0 c.Items=b2
 generalize c.Moves.all (fun m=>(c.Items.find? (fun x=>x.ID==m.Item)).isSome)=b3
 cases b1<;>cases b2<;>cases b3<;>cases c.Items.all (zc6 c)<;>rfl
theorem zso {c:Circ} (h:zk0 c=true):∀i x,c.Items[i]?=some x→zbo c.Items i (fun y=>decide (x.ID≤y.ID))=false:=by
 intro i x hx
 unfold zk0 at h
 simp only[Bool.and_eq_true]at h
 have:=(zre.1 h.2.1) i x hx
 rw[Nat.zero_add]at this
 simp only[Bool.not_eq_true',Bool.or_eq_false_iff]at this
 exact this.2
theorem zsn {c:Circ} (h:zk0 c=true) {x:Item} (hx:x∈c.Items):zc6 c x=true:=by
 unfold zk0 at h
 simp only[Bool.and_eq_true,List.all_eq_true]at h
 exact h.2.2.2 x hx
end Go.Proofs.YtdahfgialanmpaaGreatDoor
namespace Go.Proofs.YtdahfgialanmpaaGreatDoor
open Ev
open Go (IntKind)
theorem zc2 {X:Type} (l:List X):l.all (fun _=>true)=true:=by rw[List.all_eq_true];intros;rfl
theorem zbk (x:Custody):zbj x x=true:=by simp[zbj]
theorem zp8 (x:Item):zp7 x x=true:=by simp[zp7,zbk]
theorem zkr (x:Patron):zig x x=true:=by simp[zig,zbk]
theorem zqa (x:Loan):zp9 x x=true:=by simp[zp9,zbk]
theorem zp6 (x:Hold):zp5 x x=true:=by simp[zp5,zbk]
theorem zkp (x:Charge):zif x x=true:=by simp[zif,zbk]
theorem zqe (x:Rule):zqd x x=true:=by simp[zqd,zbk]
theorem zqc (x:Move):zqb x x=true:=by simp[zqb,zbk]
theorem z3s {c:Circ} (hs:Short c):zac zws (0,c,c,())=some (.inl (c,c,())):=by
 have h:=zav (step:=zws) (fun i=>((i:Int),c,c,())) c.Items (fun _ _=>true) (.inr (false,())) (.inl (c,c,())) hs.items
  (by simp only[zws,dge,cond_false])
  (fun i x hx=>by
   have hi:=(List.getElem?_eq_some_iff.1 hx).1
   have:=hs.items
   simp only[zws,dlt hi,zah,hx,cond_true,zp8,Bool.not_true,cond_false,zam (show i<9223372036854775807 by omega)])
 rw[show zac zws (0,c,c,())=_ from h,za2]
 rw[zc2];rfl
theorem zwm {c:Circ} (hs:Short c):zac zlw (0,c,c,())=some (.inl (c,c,())):=by
 have h:=zav (step:=zlw) (fun i=>((i:Int),c,c,())) c.Patrons (fun _ _=>true) (.inr (false,())) (.inl (c,c,())) hs.patrons
  (by simp only[zlw,dge,cond_false])
  (fun i x hx=>by
   have hi:=(List.getElem?_eq_some_iff.1 hx).1
   have:=hs.patrons
   simp only[zlw,dlt hi,zah,hx,cond_true,zkr,Bool.not_true,cond_false,zam (show i<9223372036854775807 by omega)])
 rw[show zac zlw (0,c,c,())=_ from h,za2]
 rw[zc2];rfl
theorem zwn {c:Circ} (hs:Short c):zac zlx (0,c,c,())=some (.inl (c,c,())):=by
 have h:=zav (step:=zlx) (fun i=>((i:Int),c,c,())) c.Loans (fun _ _=>true) (.inr (false,())) (.inl (c,c,())) hs.loans
  (by simp only[zlx,dge,cond_false])
  (fun i x hx=>by
   have hi:=(List.getElem?_eq_some_iff.1 hx).1
   have:=hs.loans
   simp only[zlx,dlt hi,zah,hx,cond_true,zqa,Bool.not_true,cond_false,zam (show i<9223372036854775807 by omega)])
 rw[show zac zlx (0,c,c,())=_ from h,za2]
 rw[zc2];rfl
theorem zwo {c:Circ} (hs:Short c):zac zly (0,c,c,())=some (.inl (c,c,())):=by
 have h:=zav (step:=zly) (fun i=>((i:Int),c,c,())) c.Holds (fun _ _=>true) (.inr (false,())) (.inl (c,c,())) hs.holds
  (by simp only[zly,dge,cond_false])
  (fun i x hx=>by
   have hi:=(List.getElem?_eq_some_iff.1 hx).1
   have:=hs.holds
   simp only[zly,dlt hi,zah,hx,cond_true,zp6,Bool.not_true,cond_false,zam (show i<9223372036854775807 by omega)])
 rw[show zac zly (0,c,c,())=_ from h,za2]
 rw[zc2];rfl
theorem zwp {c:Circ} (hs:Short c):zac zlz (0,c,c,())=some (.inl (c,c,())):=by
 have h:=zav (step:=zlz) (fun i=>((i:Int),c,c,())) c.Charges (fun _ _=>true) (.inr (false,())) (.inl (c,c,())) hs.charges
  (by simp only[zlz,dge,cond_false])
  (fun i x hx=>by
   have hi:=(List.getElem?_eq_some_iff.1 hx).1
   have:=hs.charges
   simp only[zlz,dlt hi,zah,hx,cond_true,zkp,Bool.not_true,cond_false,zam (show i<9223372036854775807 by omega)])
 rw[show zac zlz (0,c,c,())=_ from h,za2]
 rw[zc2];rfl
theorem zwq {c:Circ} (hs:Short c):zac zl0 (0,c,c,())=some (.inl (c,c,())):=by
 have h:=zav (step:=zl0) (fun i=>((i:Int),c,c,())) c.Rules (fun _ _=>true) (.inr (false,())) (.inl (c,c,())) hs.rules
  (by simp only[zl0,dge,cond_false])
  (fun i x hx=>by
   have hi:=(List.getElem?_eq_some_iff.1 hx).1
   have:=hs.rules
   simp only[zl0,dlt hi,zah,hx,cond_true,zqe,Bool.not_true,cond_false,zam (show i<9223372036854775807 by omega)])
 rw[show zac zl0 (0,c,c,())=_ from h,za2]
 rw[zc2];rfl
theorem zwr {c:Circ} (hs:Short c):zac zl1 (0,c,c,())=some (.inl (c,c,())):=by
 have h:=zav (step:=zl1) (fun i=>((i:Int),c,c,())) c.Moves (fun _ _=>true) (.inr (false,())) (.inl (c,c,())) hs.moves
  (by simp only[zl1,dge,cond_false])
  (fun i x hx=>by
   have hi:=(List.getElem?_eq_some_iff.1 hx).1
   have:=hs.moves
   simp only[zl1,dlt hi,zah,hx,cond_true,zqc,Bool.not_true,cond_false,zam (show i<9223372036854775807 by omega)])
 rw[show zac zl1 (0,c,c,())=_ from h,za2]
 rw[zc2];rfl
theorem zw0 {c:Circ} (hs:Short c):zac zem (0,0,c,c,())=some (.inl (0,c,c,())):=by
 have st:∀k:Int,zem (0,k,c,c,())=(bif decide (k<(c.Cals.x0.Closed.length:Int)) then (match getI c.Cals.x0.Closed k with|some x=>(match getI c.Cals.x0.Closed k with|some y=>(bif !(x==y) then some (.inr (.inr (false,()))) else some (.inl (0,wr .i64 (k+1),c,c,())))|none=>none)|none=>none) else some (.inr (.inl (0,c,c,())))):=fun k=>rfl
 have h:=zav (step:=zem) (fun k=>(0,(k:Int),c,c,())) c.Cals.x0.Closed (fun _ _=>true) (.inr (false,())) (.inl (0,c,c,())) hs.cal0
  (by rw[st];simp only[dge,cond_false])
  (fun k x hx=>by
   have hi:=(List.getElem?_eq_some_iff.1 hx).1
   have:=hs.cal0
   rw[st]
   simp only[dlt hi,zah,hx,cond_true,beq_self_eq_true,Bool.not_true,cond_false,zam (show k<9223372036854775807 by omega)])
 rw[show zac zem (0,0,c,c,())=_ from h,za2]
 rw[zc2];rfl
theorem zaje {c:Circ} (hs:Short c):zji (0,c,c,())=some (.inl (1,c,c,())):=by
 have st:zji (0,c,c,())=(bif !(c.Cals.x0.Week==c.Cals.x0.Week) then some (.inr (.inr (false,()))) else bif !((c.Cals.x0.Closed.length:Int)==(c.Cals.x0.Closed.length:Int)) then some (.inr (.inr (false,()))) else
  match zac zem (0,0,c,c,()) with
  |some (.inl (i,a,b,_))=>some (.inl (wr .i64 (i+1),a,b,()))
  |some (.inr (v,_))=>some (.inr (.inr (v,())))
  |none=>none):=by
  show (bif !(c.Cals.x0.Week==c.Cals.x0.Week) then _ else _)=_
  cases (!(c.Cals.x0.Week==c.Cals.x0.Week))<;>rfl
 rw[st,zw0 hs]
 simp only[beq_self_eq_true,Bool.not_true,cond_false]
 try rfl
theorem zw1 {c:Circ} (hs:Short c):zac zem (1,0,c,c,())=some (.inl (1,c,c,())):=by
 have st:∀k:Int,zem (1,k,c,c,())=(bif decide (k<(c.Cals.x1.Closed.length:Int)) then (match getI c.Cals.x1.Closed k with|some x=>(match getI c.Cals.x1.Closed k with|some y=>(bif !(x==y) then some (.inr (.inr (false,()))) else some (.inl (1,wr .i64 (k+1),c,c,())))|none=>none)|none=>none) else some (.inr (.inl (1,c,c,())))):=fun k=>rfl
 have h:=zav (step:=zem) (fun k=>(1,(k:Int),c,c,())) c.Cals.x1.Closed (fun _ _=>true) (.inr (false,())) (.inl (1,c,c,())) hs.cal1
  (by rw[st];simp only[dge,cond_false])
  (fun k x hx=>by
   have hi:=(List.getElem?_eq_some_iff.1 hx).1
   have:=hs.cal1
   rw[st]
   simp only[dlt hi,zah,hx,cond_true,beq_self_eq_true,Bool.not_true,cond_false,zam (show k<9223372036854775807 by omega)])
 rw[show zac zem (1,0,c,c,())=_ from h,za2]
 rw[zc2];rfl
theorem zajf {c:Circ} (hs:Short c):zji (1,c,c,())=some (.inl (2,c,c,())):=by
 have st:zji (1,c,c,())=(bif !(c.Cals.x1.Week==c.Cals.x1.Week) then some (.inr (.inr (false,()))) else bif !((c.Cals.x1.Closed.length:Int)==(c.Cals.x1.Closed.length:Int)) then some (.inr (.inr (false,()))) else
  match zac zem (1,0,c,c,()) with
  |some (.inl (i,a,b,_))=>some (.inl (wr .i64 (i+1),a,b,()))
  |some (.inr (v,_))=>some (.inr (.inr (v,())))
  |none=>none):=by
  show (bif !(c.Cals.x1.Week==c.Cals.x1.Week) then _ else _)=_
  cases (!(c.Cals.x1.Week==c.Cals.x1.Week))<;>rfl
 rw[st,zw1 hs]
 simp only[beq_self_eq_true,Bool.not_true,cond_false]
 try rfl
theorem zw2 {c:Circ} (hs:Short c):zac zem (2,0,c,c,())=some (.inl (2,c,c,())):=by
 have st:∀k:Int,zem (2,k,c,c,())=(bif decide (k<(c.Cals.x2.Closed.length:Int)) then (match getI c.Cals.x2.Closed k with|some x=>(match getI c.Cals.x2.Closed k with|some y=>(bif !(x==y) then some (.inr (.inr (false,()))) else some (.inl (2,wr .i64 (k+1),c,c,())))|none=>none)|none=>none) else some (.inr (.inl (2,c,c,())))):=fun k=>rfl
 have h:=zav (step:=zem) (fun k=>(2,(k:Int),c,c,())) c.Cals.x2.Closed (fun _ _=>true) (.inr (false,())) (.inl (2,c,c,())) hs.cal2
  (by rw[st];simp only[dge,cond_false])
  (fun k x hx=>by
   have hi:=(List.getElem?_eq_some_iff.1 hx).1
   have:=hs.cal2
   rw[st]
   simp only[dlt hi,zah,hx,cond_true,beq_self_eq_true,Bool.not_true,cond_false,zam (show k<9223372036854775807 by omega)])
 rw[show zac zem (2,0,c,c,())=_ from h,za2]
 rw[zc2];rfl
theorem zajg {c:Circ} (hs:Short c):zji (2,c,c,())=some (.inl (3,c,c,())):=by
 have st:zji (2,c,c,())=(bif !(c.Cals.x2.Week==c.Cals.x2.Week) then some (.inr (.inr (false,()))) else bif !((c.Cals.x2.Closed.length:Int)==(c.Cals.x2.Closed.length:Int)) then some (.inr (.inr (false,()))) else
  match zac zem (2,0,c,c,()) with
  |some (.inl (i,a,b,_))=>some (.inl (wr .i64 (i+1),a,b,()))
  |some (.inr (v,_))=>some (.inr (.inr (v,())))
  |none=>none):=by
  show (bif !(c.Cals.x2.Week==c.Cals.x2.Week) then _ else _)=_
  cases (!(c.Cals.x2.Week==c.Cals.x2.Week))<;>rfl
 rw[st,zw2 hs]
 simp only[beq_self_eq_true,Bool.not_true,cond_false]
 try rfl
theorem zw3 {c:Circ} (hs:Short c):zac zem (3,0,c,c,())=some (.inl (3,c,c,())):=by
 have st:∀k:Int,zem (3,k,c,c,())=(bif decide (k<(c.Cals.x3.Closed.length:Int)) then (match getI c.Cals.x3.Closed k with|some x=>(match getI c.Cals.x3.Closed k with|some y=>(bif !(x==y) then some (.inr (.inr (false,()))) else some (.inl (3,wr .i64 (k+1),c,c,())))|none=>none)|none=>none) else some (.inr (.inl (3,c,c,())))):=fun k=>rfl
 have h:=zav (step:=zem) (fun k=>(3,(k:Int),c,c,())) c.Cals.x3.Closed (fun _ _=>true) (.inr (false,())) (.inl (3,c,c,())) hs.cal3
  (by rw[st];simp only[dge,cond_false])
  (fun k x hx=>by
   have hi:=(List.getElem?_eq_some_iff.1 hx).1
   have:=hs.cal3
   rw[st]
   simp only[dlt hi,zah,hx,cond_true,beq_self_eq_true,Bool.not_true,cond_false,zam (show k<9223372036854775807 by omega)])
 rw[show zac zem (3,0,c,c,())=_ from h,za2]
 rw[zc2];rfl
theorem zajh {c:Circ} (hs:Short c):zji (3,c,c,())=some (.inl (4,c,c,())):=by
 have st:zji (3,c,c,())=(bif !(c.Cals.x3.Week==c.Cals.x3.Week) then some (.inr (.inr (false,()))) else bif !((c.Cals.x3.Closed.length:Int)==(c.Cals.x3.Closed.length:Int)) then some (.inr (.inr (false,()))) else
  match zac zem (3,0,c,c,()) with
  |some (.inl (i,a,b,_))=>some (.inl (wr .i64 (i+1),a,b,()))
  |some (.inr (v,_))=>some (.inr (.inr (v,())))
  |none=>none):=by
  show (bif !(c.Cals.x3.Week==c.Cals.x3.Week) then _ else _)=_
  cases (!(c.Cals.x3.Week==c.Cals.x3.Week))<;>rfl
 rw[st,zw3 hs]
 simp only[beq_self_eq_true,Bool.not_true,cond_false]
 try rfl
theorem zaw7 {c:Circ} (hs:Short c):qw c c=some true:=by
 have s4:zji (4,c,c,())=some (.inr (.inl ())):=rfl
 have h:zac zji (0,c,c,())=some (.inl ()):=by
  refine za3 5 (by rw[za0];omega) ?_
  simp only[za5,zaje hs,zajf hs,zajg hs,zajh hs,s4]
 unfold qw
 rw[h]
theorem zaao {c:Circ} (hs:Short c):qc c c=some true:=by
 unfold qc
 simp -zeta only[k_or,beq_self_eq_true,Bool.not_true,Bool.or_false]
 dsimp only
 simp only[z3s hs,zwm hs,zwn hs,zwo hs,zwp hs,zwq hs,zwr hs,zaw7 hs,Bool.or_false,cond_false]
end Go.Proofs.YtdahfgialanmpaaGreatDoor
namespace Go.Proofs.YtdahfgialanmpaaGreatDoor
open Ev
open Go (IntKind)
theorem zfb {n m:Nat} (h:n+m≤1000000100):decide (n+m≤LIM)=true:=by rw[decide_eq_true_eq];unfold LIM;omega
theorem zjm {X:Type} {s:List X} (h:s.length<1000000000):decide (([]:List X).length+s.length≤LIM)=true:=zfb (by simp;omega)
def zcg:Circ:=⟨0,[],[],[],[],[],[],⟨⟨0,[]⟩,⟨0,[]⟩,⟨0,[]⟩,⟨0,[]⟩⟩,[],0,0,false⟩
theorem zi0:Short zcg:=by
 constructor<;>first|(show (0:Nat)<_;decide)|(intro x hx;cases hx)
end Go.Proofs.YtdahfgialanmpaaGreatDoor
namespace Go.Proofs.YtdahfgialanmpaaGreatDoor
open Ev
open Go (IntKind)
def ChOk (x:Charge):Prop:=0≤x.Paid∧x.Paid<x.Amount∧x.Amount≤100000000
theorem znj {l:List Charge} (h:zcm l=0):l.length≤128∧∀x∈l,ChOk x:=by
 unfold zcm at h
 rw[Bool.cond_eq_ite]at h
 split at h
 ·omega
 ·rename_i hlen
  simp only[decide_eq_true_eq]at hlen
  refine ⟨by omega,fun x hx=>?_⟩
  obtain ⟨i,hi⟩:=List.getElem?_of_mem hx
  have:=z2b.1 h i x hi
  unfold zee at this
  simp only[Bool.cond_eq_ite]at this
  split at this
  ·omega
  ·split at this
   ·omega
   ·split at this
    ·omega
    ·split at this
     ·omega
     ·rename_i h4
      simp only[Bool.or_eq_true,decide_eq_true_eq,not_or]at h4
      unfold ChOk
      omega
def owed (p:Int):List Charge→Int
 | []=>0
 |x::l=>(bif x.Patron==p then x.Amount-x.Paid else 0)+owed p l
theorem za4e {l:List Charge} {p:Int} (hl:l.length≤1000) (hc:∀x∈l,ChOk x):qay l p=some (owed p l):=by
 have h:=zmq (step:=zom) (fun i (s:Int)=>(p,s,l,(l.length:Int),(i:Int),())) l (fun x s=>bif x.Patron==p then wr .i64 (s+wr .i64 (x.Amount-x.Paid)) else s) (fun s=>(s,())) (by omega)
  (fun s=>by simp only[zom,dge,cond_false])
  (fun i x s hx=>by
   have hi:=(List.getElem?_eq_some_iff.1 hx).1
   simp only[zom,dlt hi,cond_true,zah,hx,zam (show i<9223372036854775807 by omega)]
   cases x.Patron==p<;>rfl) 0
 unfold qay
 rw[show zac zom (p,0,l,(l.length:Int),0,())=_ from h]
 have key:∀(l:List Charge) (s:Int),(∀x∈l,ChOk x)→0≤s→s+100000000*(l.length:Int)≤1000000000000→l.foldl (fun s x=>bif x.Patron==p then wr .i64 (s+wr .i64 (x.Amount-x.Paid)) else s) s=s+owed p l:=by
  intro l
  induction l with
  |nil=>intro s _ _ _;simp[owed]
  |cons x l ih=>
   intro s h h0 hb
   have h1:=h x (by simp)
   unfold ChOk at h1
   simp only[List.length_cons]at hb
   simp only[List.foldl_cons,owed]
   cases x.Patron==p with
   |true=>
    simp only[cond_true]
    rw[zdm (n:=x.Amount-x.Paid) (by omega) (by omega),zdm (by omega) (by omega),ih _ (fun y hy=>h y (by simp[hy])) (by omega) (by omega)]
    omega
   |false=>
    simp only[cond_false]
    rw[ih _ (fun y hy=>h y (by simp[hy])) h0 (by omega)]
    omega
 simp only
 rw[key l 0 hc (by omega) (by omega)]
 simp
end Go.Proofs.YtdahfgialanmpaaGreatDoor
namespace Go.Proofs.YtdahfgialanmpaaGreatDoor
open Ev
open Go (IntKind)
theorem za4i {l:List Charge} {p:Int} (hl:l.length≤1000) (hc:∀x∈l,ChOk x):qb6 l p=some (owed p l):=by
 have h:=zmq (step:=zor) (fun i (s:Int)=>(l,p,s,(i:Int),())) l (fun x s=>bif x.Patron==p then wr .i64 ((wr .i64 (s+x.Amount))-x.Paid) else s) (fun s=>(s,())) (by omega)
  (fun s=>by simp only[zor,dge,cond_false])
  (fun i x s hx=>by
   have hi:=(List.getElem?_eq_some_iff.1 hx).1
   simp only[zor,dlt hi,cond_true,zah,hx,zam (show i<9223372036854775807 by omega)]
   cases x.Patron==p<;>rfl) 0
 unfold qb6
 rw[show zac zor (l,p,0,0,())=_ from h]
 have key:∀(l:List Charge) (s:Int),(∀x∈l,ChOk x)→0≤s→s+100000000*(l.length:Int)≤1000000000000→l.foldl (fun s x=>bif x.Patron==p then wr .i64 ((wr .i64 (s+x.Amount))-x.Paid) else s) s=s+owed p l:=by
  intro l
  induction l with
  |nil=>intro s _ _ _;simp[owed]
  |cons x l ih=>
   intro s h h0 hb
   have h1:=h x (by simp)
   unfold ChOk at h1
   simp only[List.length_cons]at hb
   simp only[List.foldl_cons,owed]
   cases x.Patron==p with
   |true=>
    simp only[cond_true]
    rw[zdm (n:=s+x.Amount) (by omega) (by omega),zdm (by omega) (by omega),ih _ (fun y hy=>h y (by simp[hy])) (by omega) (by omega)]
    omega
   |false=>
    simp only[cond_false]
    rw[ih _ (fun y hy=>h y (by simp[hy])) h0 (by omega)]
    omega
 simp only
 rw[key l 0 hc (by omega) (by omega)]
 simp
def cntS {X:Type} (p:X→Bool):List X→Nat
 | []=>0
 |x::l=>(bif p x then 1 else 0)+cntS p l
theorem zye {X:Type} {p:X→Bool}:∀{l:List X} {n:Nat},l.foldl (fun n x=>bif p x then n+1 else n) n=n+cntS p l:=by
 intro l
 induction l with
 |nil=>intro n;rfl
 |cons x l ih=>intro n;rw[List.foldl_cons,ih];simp only[cntS];cases p x<;>simp<;>omega
theorem zvb {X:Type} {p q:X→Bool}:∀{l:List X},cntS q (l.filter p)=cntS (fun x=>p x&&q x) l:=by
 intro l
 induction l with
 |nil=>rfl
 |cons x l ih=>simp only[List.filter_cons,cntS];cases p x with|true=>simp[cntS,ih]|false=>simp[ih]
theorem za5h {l:List Loan} {p:Int} (hl:l.length<1000000000):qz l p=some (l.filter (fun x=>x.Patron==p)):=by
 have h:=zbb (step:=z33) (fun (i:Nat) (s:List Loan)=>s.length≤i) (fun i s=>(p,l,(l.length:Int),(i:Int),s,())) l
  (fun i y s=>.inl (bif y.Patron==p then s++[y] else s)) (fun s=>(s,())) (by rw[za0];omega)
  (fun s _=>by simp only[z33,dge,cond_false])
  (fun i y s hx hi=>by
   have hlt:=(List.getElem?_eq_some_iff.1 hx).1
   have l1:decide (s.length+([y]:List Loan).length≤LIM)=true:=zfb (by simp;omega)
   refine ⟨?_,fun s' hs'=>?_⟩
   ·simp only[z33,dlt hlt,zah,hx,cond_true,l1,zam (show i<9223372036854775807 by omega)]
    cases y.Patron==p<;>rfl
   ·cases hs'
    cases y.Patron==p<;>simp<;>omega) [] (by simp)
 rw[zb9]at h
 unfold qz
 rw[show zac z33 (p,l,(l.length:Int),0,[],())=_ from h]
 have key:∀(l o:List Loan),l.foldl (fun s y=>bif y.Patron==p then s++[y] else s) o=o++l.filter (fun x=>x.Patron==p):=by
  intro l
  induction l with
  |nil=>intro o;simp
  |cons x l ih=>intro o;rw[List.foldl_cons,ih,List.filter_cons];cases x.Patron==p<;>simp
 simp only
 rw[key]
 try rfl
def zv9 (p day:Int) (l:List Loan):Int:=(cntS (fun x=>x.Patron==p&&decide (x.Due<day)) l:Int)
theorem za4b {l:List Loan} {p day:Int} (hl:l.length<1000000000):qav l p day=some (zv9 p day l):=by
 unfold qav zv9
 rw[za5h hl,←zvb]
 have hf:(l.filter (fun x=>x.Patron==p)).length<1000000000:=by have:=List.length_filter_le (fun x:Loan=>x.Patron==p) l;omega
 generalize l.filter (fun x=>x.Patron==p)=m at hf ⊢
 have h:=zbb (step:=zol) (fun (i:Nat) (s:Nat)=>s≤i) (fun i s=>(day,(s:Int),m,(m.length:Int),(i:Int),())) m
  (fun i y s=>.inl (bif decide (y.Due<day) then s+1 else s)) (fun s=>((s:Int),())) (by rw[za0];omega)
  (fun s _=>by simp only[zol,dge,cond_false])
  (fun i y s hx hi=>by
   have hlt:=(List.getElem?_eq_some_iff.1 hx).1
   refine ⟨?_,fun s' hs'=>?_⟩
   ·simp only[zol,dlt hlt,zah,hx,cond_true,zam (show i<9223372036854775807 by omega),zam (show s<9223372036854775807 by omega)]
    cases decide (y.Due<day)<;>rfl
   ·cases hs'
    cases decide (y.Due<day)<;>simp<;>omega) 0 (by omega)
 rw[zb9]at h
 simp only
 rw[show zac zol (day,0,m,(m.length:Int),0,())=_ from h,zye,Nat.zero_add]
theorem za4h {l:List Loan} {p day:Int} (hl:l.length<1000000000):qb5 l p day=some (zv9 p day l):=by
 unfold qb5 zv9
 have h:=zbb (step:=zoq) (fun (i:Nat) (s:Nat)=>s≤i) (fun i s=>(l,p,day,(s:Int),(i:Int),())) l
  (fun i y s=>.inl (bif y.Patron==p&&decide (y.Due<day) then s+1 else s)) (fun s=>((s:Int),())) (by rw[za0];omega)
  (fun s _=>by simp only[zoq,dge,cond_false])
  (fun i y s hx hi=>by
   have hlt:=(List.getElem?_eq_some_iff.1 hx).1
   refine ⟨?_,fun s' hs'=>?_⟩
   ·simp -zeta only[zoq,dlt hlt,zah,hx,cond_true,za7,zam (show i<9223372036854775807 by omega),zam (show s<9223372036854775807 by omega)]
    dsimp only
    cases (y.Patron==p&&decide (y.Due<day))<;>rfl
   ·cases hs'
    cases (y.Patron==p&&decide (y.Due<day))<;>simp<;>omega) 0 (by omega)
 rw[zb9]at h
 rw[show zac zoq (l,p,day,0,0,())=_ from h,zye,Nat.zero_add]
def zfq (p:Patron) (day owed late:Int):List Int:=(bif p.Stopped then [1] else [])++((bif decide (p.Until<day) then [2] else [])++((bif decide (1000<owed) then [3] else [])++(bif decide (2<late) then [4] else [])))
theorem za48 (p:Patron) (day owed late:Int):qfx p day owed late=some (zfq p day owed late):=by
 unfold qfx zfq
 cases p.Stopped<;>cases decide (p.Until<day)<;>cases decide (1000<owed)<;>cases decide (2<late)<;>rfl
theorem za4j (p:Patron) (day owed late:Int):qba p day owed late=some (zfq p day owed late):=by
 unfold qba zfq
 generalize p.Stopped=b1
 generalize decide (p.Until<day)=b2
 generalize decide (1000<owed)=b3
 generalize decide (2<late)=b4
 have h:zac zaal ((([b1,b2,b3,b4]).length:Int),0,([]:List Int),[b1,b2,b3,b4],())=some (((bif b1 then [1] else [])++((bif b2 then [2] else [])++((bif b3 then [3] else [])++(bif b4 then [4] else [])))),()):=by
  refine za3 5 (by rw[za0];omega) ?_
  cases b1<;>cases b2<;>cases b3<;>cases b4<;>rfl
 rw[h]
theorem za4u {c:Circ} {p:Patron} (hs:Short c) (hc:zcm c.Charges=0):qdm c p=some (decide (0<((zfq p c.Today (owed p.ID c.Charges) (zv9 p.ID c.Today c.Loans)).length:Int))):=by
 obtain ⟨h1,h2⟩:=znj hc
 unfold qdm
 rw[za4e (by omega) h2,za4b hs.loans]
 dsimp only
 rw[za4j]
theorem za44 {c:Circ} {id:Int} (hs:Short c) (hc:zcm c.Charges=0):qfj c id=some (decide (0<((zfq (getP c.Patrons id).1 c.Today (owed id c.Charges) (zv9 id c.Today c.Loans)).length:Int))):=by
 obtain ⟨h1,h2⟩:=znj hc
 unfold qfj
 rw[zg2 hs.patrons,za4i (by omega) h2,za4h hs.loans]
 dsimp only
 rw[za48]
end Go.Proofs.YtdahfgialanmpaaGreatDoor
namespace Go.Proofs.YtdahfgialanmpaaGreatDoor
open Ev
open Go (IntKind)
def zdl (r:Rule):Int:=(bif !(r.Patron==0) then 4 else 0)+((bif !(r.Item==0) then 2 else 0)+(bif !(r.Branch==0) then 1 else 0))
theorem za4w (r:Rule):qe6 r=some (zdl r):=by
 unfold qe6 zdl
 cases r.Patron==0<;>cases r.Item==0<;>cases r.Branch==0<;>rfl
theorem za4m (r:Rule):qbk r=some (zdl r):=by
 unfold qbk
 have st:∀(a b c n:Int),(∀(m:Int),zi4 (m,3,0,[a,b,c],())=some (.inl (bif !(a==0) then wr .i64 ((wr .i64 (m*2))+1) else wr .i64 (m*2),3,1,[a,b,c],())))∧
  (∀(m:Int),zi4 (m,3,1,[a,b,c],())=some (.inl (bif !(b==0) then wr .i64 ((wr .i64 (m*2))+1) else wr .i64 (m*2),3,2,[a,b,c],())))∧
  (∀(m:Int),zi4 (m,3,2,[a,b,c],())=some (.inl (bif !(c==0) then wr .i64 ((wr .i64 (m*2))+1) else wr .i64 (m*2),3,3,[a,b,c],()))):=fun a b c n=>
  ⟨fun m=>by show (bif !(a==0) then _ else _)=_;cases a==0<;>rfl,fun m=>by show (bif !(b==0) then _ else _)=_;cases b==0<;>rfl,fun m=>by show (bif !(c==0) then _ else _)=_;cases c==0<;>rfl⟩
 obtain ⟨s0,s1,s2⟩:=st r.Patron r.Item r.Branch 0
 have s3:∀m:Int,zi4 (m,3,3,[r.Patron,r.Item,r.Branch],())=some (.inr (m,())):=fun m=>rfl
 have h:zac zi4 (0,(([r.Patron,r.Item,r.Branch]).length:Int),0,[r.Patron,r.Item,r.Branch],())=some (zdl r,()):=by
  refine za3 4 (by rw[za0];omega) ?_
  show za5 zi4 4 (0,3,0,[r.Patron,r.Item,r.Branch],())=_
  simp only[za5,s0,s1,s2,s3]
  unfold zdl
  cases r.Patron==0<;>cases r.Item==0<;>cases r.Branch==0<;>rfl
 rw[h]
def zm1 (r:Rule) (p i b:Int):Bool:=(r.Patron==0||r.Patron==p)&&(r.Item==0||r.Item==i)&&(r.Branch==0||r.Branch==b)
theorem zaon (r:Rule) (p i b:Int):qfo r p i b=some (zm1 r p i b):=by
 unfold qfo zm1
 simp -zeta only[k_or,za7]
 try rfl
theorem za4v (a b:Int):qe0 a b=some (a==0||a==b):=by
 unfold qe0
 cases a==0<;>rfl
theorem zan9 (r:Rule) (p i b:Int):qcg r p i b=some (zm1 r p i b):=by
 unfold qcg zm1
 simp -zeta only[za4v,k_or,za7]
 try dsimp only
def wB (l:List Rule) (b:Int):Int:=match getI l b with|some y=>zdl y|none=>0
def zrm (l:List Rule) (p it br:Int) (i:Nat) (x:Rule) (b:Int):Int:=bif zm1 x p it br&&(decide (b<0)||decide (wB l b<zdl x)) then (i:Int) else b
def z5g (l:List Rule) (p it br:Int):Int:=zc7 (fun i x b=>.inl (zrm l p it br i x b)) (fun b=>b) 0 l (-1)
def zfz (l:List Rule) (b:Int):Prop:=b<0∨∃k:Nat,b=(k:Int)∧k<l.length
theorem zro {l:List Rule} {b:Int} (h:zfz l b) (hb:decide (b<0)=false):∃y,getI l b=some y∧wB l b=zdl y:=by
 rcases h with h|⟨k,rfl,hk⟩
 ·rw[decide_eq_false_iff_not]at hb;omega
 ·have:getI l (k:Int)=some l[k]:=by rw[zah,List.getElem?_eq_getElem hk]
  exact ⟨_,this,by unfold wB;rw[this]⟩
theorem zj6 {l:List Rule} {p it br:Int} {i:Nat} {x:Rule} {b:Int} (h:zfz l b) (hi:i<l.length):zfz l (zrm l p it br i x b):=by
 unfold zrm
 cases zm1 x p it br&&(decide (b<0)||decide (wB l b<zdl x)) with
 |true=>exact .inr ⟨i,rfl,hi⟩
 |false=>exact h
theorem zur {X σ β γ:Type} {f:Nat→X→σ→σ} {g:σ→β} (k:β→γ):∀{l:List X} {i:Nat} {s:σ},k (zc7 (fun i x s=>.inl (f i x s)) g i l s)=zc7 (fun i x s=>.inl (f i x s)) (fun s=>k (g s)) i l s:=by
 intro l
 induction l with
 |nil=>intros;rfl
 |cons x l ih=>intro i s;simp only[zc7];exact ih
theorem za4d {l:List Rule} {p it br:Int} (hl:l.length<1000000000):qax l p it br=some (z5g l p it br):=by
 have h:=zbb (step:=zlt) (fun (i:Nat) (b:Int)=>zfz l b) (fun i b=>(l,p,it,br,b,l,(l.length:Int),(i:Int),())) l
  (fun i x b=>.inl (zrm l p it br i x b)) (fun b=>(b,())) (by rw[za0];omega)
  (fun b _=>by simp only[zlt,dge,cond_false])
  (fun i x b hx hi=>by
   have hlt:=(List.getElem?_eq_some_iff.1 hx).1
   refine ⟨?_,fun s' hs'=>by cases hs';exact zj6 hi hlt⟩
   unfold zrm
   cases hb:decide (b<0) with
   |true=>
    simp only[zlt,dlt hlt,zah,hx,cond_true,zan9,hb,zam (show i<9223372036854775807 by omega)]
    cases zm1 x p it br<;>rfl
   |false=>
    obtain ⟨y,h1,h2⟩:=zro hi hb
    simp only[zlt,dlt hlt,zah,hx,cond_true,cond_false,zan9,za4m,h1,h2,hb,zam (show i<9223372036854775807 by omega)]
    cases zm1 x p it br<;>cases decide (zdl y<zdl x)<;>rfl) (-1) (.inl (by omega))
 unfold qax
 rw[show zac zlt (l,p,it,br,(-1),l,(l.length:Int),0,())=_ from h,←zur (g:=fun b=>b) (fun b:Int=>(b,()))]
 try rfl
theorem zaak {l:List Rule} {p it br:Int} (hl:l.length<1000000000):qb1 l p it br=some (z5g l p it br):=by
 have h:=zbb (step:=zlu) (fun (i:Nat) (b:Int)=>zfz l b) (fun i b=>(l,p,it,br,b,(i:Int),())) l
  (fun i x b=>.inl (zrm l p it br i x b)) (fun b=>(b,())) (by rw[za0];omega)
  (fun b _=>by simp only[zlu,dge,cond_false])
  (fun i x b hx hi=>by
   have hlt:=(List.getElem?_eq_some_iff.1 hx).1
   refine ⟨?_,fun s' hs'=>by cases hs';exact zj6 hi hlt⟩
   unfold zrm
   cases hb:decide (b<0) with
   |true=>
    simp only[zlu,dlt hlt,zah,hx,cond_true,zaon,hb,zam (show i<9223372036854775807 by omega)]
    cases zm1 x p it br<;>rfl
   |false=>
    obtain ⟨y,h1,h2⟩:=zro hi hb
    simp only[zlu,dlt hlt,zah,hx,cond_true,cond_false,zaon,za4w,h1,h2,hb,zam (show i<9223372036854775807 by omega)]
    cases zm1 x p it br<;>cases decide (zdl y<zdl x)<;>rfl) (-1) (.inl (by omega))
 unfold qb1
 rw[show zac zlu (l,p,it,br,(-1),0,())=_ from h,←zur (g:=fun b=>b) (fun b:Int=>(b,()))]
 try rfl
theorem zaw4 {l:List Rule} {p it br:Int} (hl:l.length<1000000000):qdn l p it br=qf8 l p it br:=by
 unfold qdn qf8
 rw[za4d hl,zaak hl]
 try rfl
theorem zaap {c:Circ} {p:Int} {x:Item} (hs:Short c):qch c p x=qes c p x:=by
 unfold qch qes
 rw[zaod hs.patrons,zg2 hs.patrons]
 dsimp only
 rw[zaw4 hs.rules]
 try rfl
def calS (c:Circ) (b:Int):Calendar:=bif b==1 then c.Cals.x0 else bif b==2 then c.Cals.x1 else bif b==3 then c.Cals.x2 else c.Cals.x3
theorem zns {n:Int} (h:rng 1 4 n=true):n=1∨n=2∨n=3∨n=4:=by
 have:=zck.1 h;omega
theorem za6v {c:Circ} {b:Int} (h:rng 1 4 b=true):qp c b=some (calS c b):=by
 rcases zns h with h|h|h|h<;>subst h<;>rfl
theorem zaoc {c:Circ} {b:Int} (h:rng 1 4 b=true):qcq c b=some (calS c b):=by
 rcases zns h with h|h|h|h<;>subst h<;>rfl
end Go.Proofs.YtdahfgialanmpaaGreatDoor
namespace Go.Proofs.YtdahfgialanmpaaGreatDoor
open Ev
open Go (IntKind)
def zgc (week:Int) (i:Nat):Bool:=(wr .i64 (BitVec.ofInt 64 (week.fdiv (2 ^ (min i 64))) &&& BitVec.ofInt 64 1).toNat)==0
theorem za4c (c:Calendar):qaw c=some ⟨zgc c.Week 0,zgc c.Week 1,zgc c.Week 2,zgc c.Week 3,zgc c.Week 4,zgc c.Week 5,zgc c.Week 6⟩:=by
 have h:zac zaaj (0,c,(⟨false,false,false,false,false,false,false⟩:V7 Bool),(⟨false,false,false,false,false,false,false⟩:V7 Bool),())=some ((⟨false,false,false,false,false,false,false⟩:V7 Bool),(⟨zgc c.Week 0,zgc c.Week 1,zgc c.Week 2,zgc c.Week 3,zgc c.Week 4,zgc c.Week 5,zgc c.Week 6⟩:V7 Bool),()):=by
  refine za3 8 (by rw[za0];omega) ?_
  try rfl
 unfold qaw
 rw[h]
def bitW:Int→Nat→Int
 |n,0=>n
 |n,k+1=>bitW (wr .i64 (n.tdiv 2)) k
theorem z3o {day n:Int} {c:Calendar}:∀(k:Nat) (i:Nat) (n:Int),i+k<100→za5 zoe (k+1) (day,n,((i+k:Nat):Int),(i:Int),c,())=some (day,bitW n k,c,()):=by
 intro k
 induction k with
 |zero=>
  intro i n hi
  have:decide ((i:Int)<((i+0:Nat):Int))=false:=by rw[decide_eq_false_iff_not];omega
  simp only[za5,zoe,this,cond_false,bitW]
 |succ k ih=>
  intro i n hi
  have:decide ((i:Int)<((i+(k+1):Nat):Int))=true:=by rw[decide_eq_true_eq];omega
  rw[za5]
  simp only[zoe,this,cond_true,zam (show i<9223372036854775807 by omega),bitW]
  have:=ih (i+1) (wr .i64 (n.tdiv 2)) (by omega)
  rw[show i+1+k=i+(k+1) by omega]at this
  exact this
theorem z4l:((List.range 127).all fun n=>(List.range 7).all fun w=>zgc (n:Int) w==!((bitW (n:Int) w).tmod 2==1))=true:=by kernel_rfl
theorem zad8 {week:Int} {w:Nat} (h1:0≤week) (h2:week≤126) (hw:w<7):zgc week w=!((bitW week w).tmod 2==1):=by
 obtain ⟨n,rfl⟩:∃n:Nat,week=(n:Int):=⟨week.toNat,by omega⟩
 have h:=z4l
 rw[List.all_eq_true]at h
 have h3:=h n (List.mem_range.2 (by omega))
 rw[List.all_eq_true]at h3
 have h4:=h3 w (List.mem_range.2 hw)
 simpa using h4
def lbS (t:Int) (l:List Int):Nat:=(l.takeWhile (fun x=>decide (x<t))).length
theorem za6n {t:Int} {l:List Int}:lbS t l≤l.length:=by
 unfold lbS
 have:=(List.takeWhile_prefix (fun x=>decide (x<t)) (l:=l)).length_le
 exact this
theorem zsp {t:Int}:∀{l:List Int} {k:Nat} {x:Int},k<lbS t l→l[k]?=some x→x<t:=by
 intro l
 induction l with
 |nil=>intro k x h;simp[lbS]at h
 |cons y l ih=>
  intro k x h hx
  unfold lbS at h ih
  rw[List.takeWhile_cons]at h
  by_cases hy:y<t
  ·simp only[hy,decide_true,if_true,List.length_cons]at h
   cases k with
   |zero=>simp at hx;omega
   |succ k=>exact ih (k:=k) (by omega) (by simpa using hx)
  ·simp[hy]at h
theorem za3t {t:Int}:∀{l:List Int} {x:Int},l[lbS t l]?=some x→¬x<t:=by
 intro l
 induction l with
 |nil=>intro x h;simp[lbS]at h
 |cons y l ih=>
  intro x hx
  unfold lbS at hx ih
  rw[List.takeWhile_cons]at hx
  by_cases hy:y<t
  ·simp only[hy,decide_true,if_true,List.length_cons,List.getElem?_cons_succ]at hx
   exact ih hx
  ·simp[hy]at hx;omega
theorem zano {t:Int} {l:List Int} (hsort:∀(j i:Nat) (x y:Int),i<j→l[i]?=some x→l[j]?=some y→x<y) {k:Nat} {x:Int} (hx:l[k]?=some x):decide (x<t)=decide (k<lbS t l):=by
 rw[decide_eq_decide]
 constructor
 ·intro h
  by_cases hk:k<lbS t l
  ·exact hk
  ·exfalso
   have hlt:lbS t l<l.length:=by have:=(List.getElem?_eq_some_iff.1 hx).1;omega
   have hz:l[lbS t l]?=some l[lbS t l]:=List.getElem?_eq_getElem hlt
   have:=za3t hz
   by_cases e:lbS t l=k
   ·subst e
    rw[hz]at hx;cases hx;exact this h
   ·have:=hsort k (lbS t l) _ _ (by omega) hz hx;omega
 ·intro h;exact zsp h hx
theorem za3v {i j:Nat} (h:i+j<2000000000):wr .i64 ((wr .u64 (wr .i64 ((i:Int)+(j:Int)))).fdiv (2 ^ 1))=(((i+j) / 2:Nat):Int):=by
 rw[zdm (n:=(i:Int)+(j:Int)) (by omega) (by omega)]
 have:wr .u64 ((i:Int)+(j:Int))=(i:Int)+(j:Int):=by
  unfold wr;simp[IntKind.wrap,IntKind.bits,IntKind.signed];omega
 rw[this,Int.fdiv_eq_ediv_of_nonneg _ (by omega)]
 have e:((i:Int)+(j:Int)) / 2 ^ 1=(((i+j) / 2:Nat):Int):=by omega
 rw[e,zdm (by omega) (by omega)]
theorem za43 (x y:Int):qfi x y=some (decide (x<y)):=by
 have e:∀z:Int,qfg z=some false:=fun z=>by unfold qfg;simp
 unfold qfi
 rw[e]
 try rfl
theorem z4b {l:List Int} {t:Int} (hl:l.length<1000000000) (hsort:∀(j i:Nat) (x y:Int),i<j→l[i]?=some x→l[j]?=some y→x<y) :
 zac zob (l,t,(l.length:Int),0,(l.length:Int),())=some (l,t,(l.length:Int),(lbS t l:Int),()):=by
 refine zad9 (step:=zob) (fun a=>∃i j:Nat,a=(l,t,(l.length:Int),(i:Int),(j:Int),())∧i≤lbS t l∧lbS t l≤j∧j≤l.length) (fun a=>(a.2.2.2.2.1-a.2.2.2.1).toNat) (fun _=>(l,t,(l.length:Int),(lbS t l:Int),())) ?_ ⟨0,l.length,rfl,by omega,za6n,by omega⟩ (by rw[za0];show ((l.length:Int)-0).toNat<_;omega)
 rintro a ⟨i,j,rfl,h1,h2,h3⟩
 by_cases hij:i<j
 ·left
  have d:decide ((i:Int)<(j:Int))=true:=by rw[decide_eq_true_eq];omega
  have hm:(i+j) / 2<l.length:=by omega
  have hx:l[(i+j) / 2]?=some l[(i+j) / 2]:=List.getElem?_eq_getElem hm
  have hlb:=zano (t:=t) hsort hx
  simp only[zob,d,cond_true,za3v (show i+j<2000000000 by omega),zah,hx,za43,hlb]
  by_cases hk:(i+j) / 2<lbS t l
  ·rw[show decide ((i+j) / 2<lbS t l)=true by rw[decide_eq_true_eq];exact hk]
   simp only[cond_true,zam (show (i+j) / 2<9223372036854775807 by omega)]
   exact ⟨_,rfl,⟨(i+j) / 2+1,j,rfl,by omega,h2,h3⟩,by simp only;omega,trivial⟩
  ·rw[show decide ((i+j) / 2<lbS t l)=false by rw[decide_eq_false_iff_not];exact hk]
   simp only[cond_false]
   exact ⟨_,rfl,⟨i,(i+j) / 2,rfl,h1,by omega,by omega⟩,by simp only;omega,trivial⟩
 ·right
  have d:decide ((i:Int)<(j:Int))=false:=by rw[decide_eq_false_iff_not];omega
  have hi:i=lbS t l:=by omega
  subst hi
  simp only[zob,d,cond_false]
theorem zabb {l:List Int} {t:Int} (hl:l.length<1000000000) (hsort:∀(j i:Nat) (x y:Int),i<j→l[i]?=some x→l[j]?=some y→x<y) :
 qa0 l t=some ((lbS t l:Int),l.any (fun x=>x==t)):=by
 unfold qa0
 rw[z4b hl hsort]
 by_cases hk:lbS t l<l.length
 ·have d:decide ((lbS t l:Int)<(l.length:Int))=true:=by rw[decide_eq_true_eq];omega
  have hx:l[lbS t l]?=some l[lbS t l]:=List.getElem?_eq_getElem hk
  have hn:qew l[lbS t l]=some false:=by unfold qew;simp
  simp only[d,cond_true,zah,hx,hn,cond_false]
  have e:(l[lbS t l]==t)=l.any (fun x=>x==t):=by
   rw[Bool.eq_iff_iff,List.any_eq_true]
   constructor
   ·intro h;exact ⟨_,List.getElem_mem hk,h⟩
   ·rintro ⟨x,hm,he⟩
    have he':x=t:=by simpa using he
    obtain ⟨i,hi⟩:=List.getElem?_of_mem hm
    have h1:=zano (t:=t) hsort hi
    have h2:=za3t hx
    rw[decide_eq_decide]at h1
    by_cases e:i=lbS t l
    ·rw[e,hx]at hi;cases hi;exact he
    ·have:lbS t l<i:=by omega
     have:=hsort _ _ _ _ this hx hi
     omega
  rw[←e]
  cases l[lbS t l]==t<;>rfl
 ·have d:decide ((lbS t l:Int)<(l.length:Int))=false:=by rw[decide_eq_false_iff_not];omega
  have e:l.any (fun x=>x==t)=false:=by
   rw[List.any_eq_false]
   intro x hm he
   have he':x=t:=by simpa using he
   obtain ⟨i,hi⟩:=List.getElem?_of_mem hm
   have:=(List.getElem?_eq_some_iff.1 hi).1
   have:=zsp (t:=t) (show i<lbS t l by omega) hi
   omega
  simp only[d,cond_false,e]
end Go.Proofs.YtdahfgialanmpaaGreatDoor
namespace Go.Proofs.YtdahfgialanmpaaGreatDoor
open Ev
open Go (IntKind)
theorem zv2 {l:List Int} (h:incr l=true):∀(j i:Nat) (x y:Int),i<j→l[i]?=some x→l[j]?=some y→x<y:=by
 have h2:∀i x,l[i]?=some x→zbo l i (fun y=>decide (x≤y))=false:=by
  intro i x hx
  have:=(zre.1 h) i x hx
  rw[Nat.zero_add]at this
  simpa using this
 exact zcu (key:=fun x:Int=>x) h2
structure CalOk (c:Calendar):Prop where
 w1:0≤c.Week
 w2:c.Week≤126
 len:c.Closed.length<1000000000
 inc:incr c.Closed=true
theorem zaeq {c:Calendar} (h:(zcp c==0)=true):CalOk c:=by
 have h:zcp c=0:=by simpa using h
 unfold zcp at h
 have h1:=zc3 h (by decide)
 rw[h1]at h
 simp only[cond_false]at h
 have h2:=zc3 h (by decide)
 rw[h2]at h
 simp only[cond_false]at h
 simp only[Bool.or_eq_false_iff,decide_eq_false_iff_not]at h1 h2
 cases h3:c.Closed.all (fun x=>!(decide (x<0)||decide (109572<x))) with
 |false=>rw[h3]at h;cases h
 |true=>
  rw[h3]at h
  cases h4:incr c.Closed with
  |false=>rw[h4]at h;cases h
  |true=>exact ⟨by omega,by omega,by omega,h4⟩
def z29 (c:Calendar) (d:Int):Bool:=rng 0 109572 d&&(!(c.Closed.any (fun x=>x==d))&&zgc c.Week (d.tmod 7).toNat)
theorem za6b {d:Int} (h:0≤d):0≤d.tmod 7∧d.tmod 7<7:=by
 rw[Int.tmod_eq_emod_of_nonneg h];omega
theorem zaoa {c:Calendar} (hc:CalOk c) (d:Int):qcm c d=some (z29 c d):=by
 unfold qcm z29
 rw[zaoi]
 dsimp only
 cases hr:rng 0 109572 d with
 |false=>rfl
 |true=>
  simp -zeta only[Bool.not_true,cond_false,Bool.true_and]
  rw[zabb hc.len (zv2 hc.inc)]
  dsimp only
  cases c.Closed.any (fun x=>x==d) with
  |true=>rfl
  |false=>
   have hk:qdl d=some (d.tmod 7):=by
    have e:qf3 d=some (rng 0 109572 d):=by
     unfold qf3
     simp -zeta only[za7]
     try rfl
    unfold qdl
    rw[e,hr]
    try rfl
   simp only[Bool.not_false,cond_true,za4c,hk,Bool.true_and]
   obtain ⟨h1,h2⟩:=za6b (zck.1 hr).1
   generalize d.tmod 7=w at h1 h2
   have:w=0∨w=1∨w=2∨w=3∨w=4∨w=5∨w=6:=by omega
   rcases this with h|h|h|h|h|h|h<;>subst h<;>rfl
theorem zwi {c:Calendar} {d:Int} (hl:c.Closed.length<1000000000):zac zhf (d,0,c,())=some (bif c.Closed.all (fun x=>!(x==d)) then .inl () else .inr (false,())):=by
 have h:=zav (step:=zhf) (fun i=>(d,(i:Int),c,())) c.Closed (fun _ x=>!(x==d)) (.inr (false,())) (.inl ()) hl
  (by simp only[zhf,dge,cond_false])
  (fun i x hx=>by
   have hi:=(List.getElem?_eq_some_iff.1 hx).1
   simp only[zhf,dlt hi,zah,hx,cond_true,zam (show i<9223372036854775807 by omega)]
   cases x==d<;>rfl)
 rw[show zac zhf (d,0,c,())=_ from h,za2]
theorem zanu {c:Calendar} (hc:CalOk c) (d:Int):qag c d=some (z29 c d):=by
 unfold qag z29
 simp -zeta only[k_or]
 dsimp only
 rw[←zfp]
 cases hr:rng 0 109572 d with
 |false=>rfl
 |true=>
  have hk:qfk d=some (d.tmod 7):=by
   have e:qf9 d=some (rng 0 109572 d):=by
    unfold qf9
    simp -zeta only[za7]
    try rfl
   unfold qfk
   rw[e,hr]
   try rfl
  simp only[Bool.not_true,cond_false,Bool.true_and,hk]
  obtain ⟨h1,h2⟩:=za6b (zck.1 hr).1
  generalize d.tmod 7=w at h1 h2
  obtain ⟨n,rfl⟩:∃n:Nat,w=(n:Int):=⟨w.toNat,by omega⟩
  have hn:n<7:=by omega
  have hw:zac zoe (d,c.Week,(n:Int),0,c,())=some (d,bitW c.Week n,c,()):=by
   have:=z3o (day:=d) (n:=0) (c:=c) n 0 c.Week (by omega)
   rw[Nat.zero_add]at this
   exact za3 (n+1) (by rw[za0];omega) this
  simp only[hw,Int.toNat_natCast,zad8 hc.w1 hc.w2 hn,zwi hc.len]
  cases (bitW c.Week n).tmod 2==1 with
  |true=>simp
  |false=>
   simp only[cond_false,Bool.not_false,Bool.and_true,zapx,Bool.not_not]
   cases c.Closed.all (fun x=>!(x==d))<;>rfl
theorem zu2 {α β:Type} {s1 s2:α→Option (α⊕β)} (Inv:α→Prop) (h:∀a,Inv a→s1 a=s2 a) (hi:∀a b,Inv a→s1 a=some (.inl b)→Inv b) {a:α} (ha:Inv a):zac s1 a=zac s2 a:=by
 have key:∀n a,Inv a→za5 s1 n a=za5 s2 n a:=by
  intro n
  induction n with
  |zero=>intro a _;rfl
  |succ n ih=>
   intro a ha
   simp only[za5]
   rw[←h a ha]
   cases hs:s1 a with
   |none=>rfl
   |some x=>
    cases x with
    |inl b=>exact ih b (hi a b ha hs)
    |inr b=>rfl
 exact key FUEL a ha
theorem zaaf {c:Calendar} (hc:CalOk c) (d:Int):qa3 c d=qbn c d:=by
 have h:∀d0:Int,zac zuj (d0,c,())=zac zov (d0,c,()):=fun d0=>by
  refine zu2 (fun a=>a.2.1=c) ?_ ?_ rfl
  ·rintro ⟨d,c',_⟩ (rfl:c'=c)
   simp only[zuj,zov,zaoa hc,zanu hc]
  ·rintro ⟨d,c',_⟩ b (rfl:c'=c) hb
   simp only[zuj,zaoa hc]at hb
   cases hq:decide (d≤109572) with
   |false=>rw[hq]at hb;cases hb
   |true=>
    rw[hq]at hb
    simp only[cond_true]at hb
    cases ho:z29 c' d with
    |true=>rw[ho]at hb;cases hb
    |false=>rw[ho]at hb;cases hb;rfl
 unfold qa3 qbn
 rw[h]
 try rfl
end Go.Proofs.YtdahfgialanmpaaGreatDoor
namespace Go.Proofs.YtdahfgialanmpaaGreatDoor
open Ev
open Go (IntKind)
end Go.Proofs.YtdahfgialanmpaaGreatDoor
namespace Go.Proofs.YtdahfgialanmpaaGreatDoor
open Ev
open Go (IntKind)
end Go.Proofs.YtdahfgialanmpaaGreatDoor
namespace Go.Proofs.YtdahfgialanmpaaGreatDoor
open Ev
open Go (IntKind)
structure FitP (c:Circ):Prop where
 charges:zcm c.Charges=0
 loans:zh0 c.Loans=0
 holds:zbn c.Holds=0
 rules:zgr c.Rules=0
 patrons:zfe c.Patrons=0
 cal0:CalOk c.Cals.x0
 cal1:CalOk c.Cals.x1
 cal2:CalOk c.Cals.x2
 cal3:CalOk c.Cals.x3
 items:zk0 c=true
 loanG:∀n∈c.Loans,zgp c n=true
 itemG:∀x∈c.Items,(zv0 c.Loans x.ID).2=zq0 x.Custody
 holdG:∀h∈c.Holds,zgo c h=true
 readyG:∀x∈c.Items,zgg c x=true
 nums:zqw c=true
theorem fitP {c:Circ} (h:zo2 c=true):FitP c:=by
 unfold zo2 at h
 rw[zsm]at h
 simp only[Bool.and_eq_true]at h
 obtain ⟨h1,h2,h3,h4,h5,h6,h7⟩:=h
 unfold zk2 at h2
 simp only[Bool.not_eq_true',Bool.or_eq_false_iff,Bool.not_eq_false',beq_iff_eq]at h2
 unfold zhq at h3
 simp only[Bool.and_eq_true]at h3
 unfold zga at h6
 unfold zf8 at h7
 simp only[Bool.and_eq_true,List.all_eq_true,beq_iff_eq]at h6 h7
 exact ⟨h2.1.2,h2.1.1.1.2,h2.1.1.2,h2.2,h2.1.1.1.1,zaeq h3.1,zaeq h3.2.1,zaeq h3.2.2.1,zaeq h3.2.2.2,h5,h6.1,h6.2,h7.1,h7.2,h1⟩
theorem zap4 {c:Circ} (h:FitP c) (b:Int):CalOk (calS c b):=by
 unfold calS
 cases b==1 with
 |true=>exact h.cal0
 |false=>
  cases b==2 with
  |true=>exact h.cal1
  |false=>
   cases b==3 with
   |true=>exact h.cal2
   |false=>exact h.cal3
theorem zaw9 {c:Circ} (h:FitP c) {r:Rule} (hr:r∈c.Rules):zo3 r=true:=by
 have h:=h.rules
 unfold zgr at h
 rw[zc3 h (by decide)]at h
 obtain ⟨i,hi⟩:=List.getElem?_of_mem hr
 have:=zks (k:=0) h i r hi
 rw[Nat.zero_add]at this
 unfold zhk at this
 have:=zc3 this (by decide)
 simpa using this
def zfj (c:Custody):Prop:=rng 1 4 c.Branch=true
theorem zup {c:Custody} (h:zjh c=true):zfj c:=by
 unfold zjh at h
 unfold zfj
 cases hq:(decide (c.State<1)||decide (12<c.State)||decide (c.Branch<1)||decide (4<c.Branch)) with
 |true=>rw[hq]at h;cases h
 |false=>
  simp only[Bool.or_eq_false_iff,decide_eq_false_iff_not]at hq
  rw[zck];omega
theorem zq8 {m:Move} (h:zm9 m=true):rng 1 4 m.Branch=true:=by
 unfold zm9 at h
 simp only[Bool.and_eq_true,decide_eq_true_eq]at h
 rw[zck];omega
theorem zhn {c:Custody} {m:Move} (h:((za9 c m).2==0)=true):zfj (za9 c m).1:=by
 unfold za9 at h ⊢
 cases e1:(!(zjh c)||!(zm9 m)) with
 |true=>rw[e1]at h;cases h
 |false=>
  have e0:=e1
  simp only[Bool.or_eq_false_iff,Bool.not_eq_false']at e0
  have b1:=zup e0.1
  have b2:=zq8 e0.2
  rw[e1]at h
  simp only[cond_false]at h ⊢
  cases e2:!(zj2 c.State m.Kind) with
  |true=>rw[e2]at h;cases h
  |false=>
   rw[e2]at h
   simp only[cond_false]at h ⊢
   cases e3:(m.Kind==3&&c.State==5&&!(m.Who==c.Who)) with
   |true=>rw[e3]at h;cases h
   |false=>
    rw[e3]at h
    simp only[cond_false]at h ⊢
    cases e4:!(zaat c m) with
    |true=>rw[e4]at h;cases h
    |false=>
     simp only[cond_false]
     cases (zc5 m.Kind==2) with
     |true=>exact b2
     |false=>
      simp only[cond_false]
      cases (zc5 m.Kind==4||(zc5 m.Kind==5||zc5 m.Kind==8)) with
      |true=>exact b1
      |false=>
       simp only[cond_false]
       cases e5:(zc5 m.Kind==6) with
       |true=>exact b1
       |false=>
        simp only[cond_false]
        cases (zc5 m.Kind==9||zc5 m.Kind==10) with
        |true=>exact b1
        |false=>exact b1
theorem zna:∀{l:List Move} {i:Nat} {item:Int} {c d:Custody},zfj c→zdi i l item c=.inl d→zfj d:=by
 intro l
 induction l with
 |nil=>intro i item c d hc h;simp only[zdi]at h;cases h;exact hc
 |cons x l ih=>
  intro i item c d hc h
  simp only[zdi]at h
  cases e:x.Item==item with
  |false=>rw[e]at h;exact ih hc h
  |true=>
   rw[e]at h
   simp only[cond_true]at h
   cases e2:(za9 c x).2==0 with
   |true=>rw[e2]at h;exact ih (zhn e2) h
   |false=>rw[e2]at h;cases h
theorem zl8 {c:Circ} {x:Item} (h:zc6 c x=true):zfj x.Custody:=by
 unfold zc6 at h
 simp only[Bool.not_eq_true',Bool.or_eq_false_iff,Bool.not_eq_false',beq_iff_eq]at h
 obtain ⟨h1,h2⟩:=h
 have e:=zkq.1 h2
 rw[←e]
 unfold zek at h1 ⊢
 cases hb:(decide (x.Branch<1)||decide (4<x.Branch)) with
 |true=>rw[hb]at h1;cases h1
 |false=>
  rw[hb]at h1
  simp only[cond_false]at h1 ⊢
  have hb2:zfj (zwt x.Branch):=by
   simp only[Bool.or_eq_false_iff,decide_eq_false_iff_not]at hb
   show rng 1 4 x.Branch=true
   rw[zck];omega
  cases hr:zdi 0 c.Moves x.ID (zwt x.Branch) with
  |inl d=>exact zna hb2 hr
  |inr p=>
   rw[hr]at h1
   exfalso
   obtain ⟨i,e⟩:=p
   simp only at h1
   have key:∀(l:List Move) (i:Nat) (c:Custody) (p:Int×Int),zdi i l x.ID c=.inr p→p.2≠0:=by
    intro l
    induction l with
    |nil=>intro i c p h;simp only[zdi]at h;cases h
    |cons y l ih=>
     intro i c p h
     simp only[zdi]at h
     cases e:y.Item==x.ID with
     |false=>rw[e]at h;exact ih _ _ _ h
     |true=>
      rw[e]at h
      simp only[cond_true]at h
      cases e2:(za9 c y).2==0 with
      |true=>rw[e2]at h;exact ih _ _ _ h
      |false=>rw[e2]at h;cases h;simpa using e2
   exact key _ _ _ _ hr h1
theorem z2f {c:Circ} (h:FitP c) {x:Item} (hx:x∈c.Items):rng 1 4 x.Custody.Branch=true:=zl8 (zsn h.items hx)
theorem z22 {c:Circ} (h:FitP c) {n:Loan} (hn:n∈c.Loans):∃x p,c.Items.find? (fun x=>x.ID==n.Item)=some x∧x∈c.Items∧x.ID=n.Item∧getP c.Patrons n.Patron=(p,true)∧p.ID=n.Patron∧zq0 x.Custody=true∧x.Custody.Who=n.Patron:=by
 have hg:=h.loanG n hn
 unfold zgp at hg
 cases hf:c.Items.find? (fun x=>x.ID==n.Item) with
 |none=>rw[hf]at hg;cases hg
 |some x=>
  rw[hf]at hg
  simp only[Bool.not_eq_true',Bool.or_eq_false_iff,Bool.not_eq_false',beq_iff_eq]at hg
  obtain ⟨⟨g1,g2⟩,g3⟩:=hg
  unfold getP at g1 ⊢
  cases hp:c.Patrons.find? (fun p=>p.ID==n.Patron) with
  |none=>rw[hp]at g1;cases g1
  |some p=>exact ⟨x,p,rfl,List.mem_of_find?_eq_some hf,by have:=List.find?_some hf;simpa using this,rfl,by have:=List.find?_some hp;simpa using this,g2,g3⟩
theorem zagz {l:List Patron} {id:Int} {p:Patron} (h:getP l id=(p,true)):p∈l∧p.ID=id:=by
 unfold getP at h
 cases hp:l.find? (fun p=>p.ID==id) with
 |none=>rw[hp]at h;cases h
 |some q=>rw[hp]at h;cases h;exact ⟨List.mem_of_find?_eq_some hp,by have:=List.find?_some hp;simpa using this⟩
theorem zrn {l:List Rule} {p it br:Int}:zfz l (z5g l p it br):=by
 have key:∀(m:List Rule) (i:Nat) (b:Int),i+m.length=l.length→zfz l b→zfz l (zc7 (σ:=Int) (β:=Int) (fun i x b=>.inl (zrm l p it br i x b)) (fun b=>b) i m b):=by
  intro m
  induction m with
  |nil=>intro i b _ h;exact h
  |cons x m ih=>intro i b hi h;simp only[zc7];simp only[List.length_cons]at hi;exact ih _ _ (by omega) (zj6 h (by omega))
 exact key l 0 (-1) (by omega) (.inl (by omega))
theorem zaw8 {c:Circ} (hs:Short c) {p:Int} {x:Item}:∃r b,qes c p x=some (r,b)∧(b=true→r∈c.Rules):=by
 unfold qes
 rw[zg2 hs.patrons]
 dsimp only
 cases (getP c.Patrons p).2 with
 |false=>exact ⟨_,false,rfl,fun h=>by cases h⟩
 |true=>
  simp only[Bool.not_true,cond_false]
  unfold qf8
  rw[zaak hs.rules]
  dsimp only
  rcases zrn (l:=c.Rules) (p:=(getP c.Patrons p).1.Kind) (it:=x.Kind) (br:=x.Branch) with h|⟨k,hk,hlt⟩
  ·rw[show decide (z5g c.Rules (getP c.Patrons p).1.Kind x.Kind x.Branch<0)=true by rw[decide_eq_true_eq];exact h]
   exact ⟨_,false,rfl,fun h=>by cases h⟩
  ·rw[hk,show decide ((k:Int)<0)=false by rw[decide_eq_false_iff_not];omega]
   simp only[cond_false,zah,List.getElem?_eq_getElem hlt]
   exact ⟨_,true,rfl,fun _=>List.getElem_mem hlt⟩
end Go.Proofs.YtdahfgialanmpaaGreatDoor
namespace Go.Proofs.YtdahfgialanmpaaGreatDoor
open Ev
open Go (IntKind)
theorem zi8 {α β:Type} {step:α→Option (α⊕β)} (Inv:α→Prop) (μ:α→Nat) (h:∀a,Inv a→(∃a',step a=some (.inl a')∧Inv a'∧μ a'<μ a)∨∃b,step a=some (.inr b)) {a:α} (ha:Inv a) (hm:μ a<FUEL):∃r,zac step a=some r:=by
 have key:∀n a,Inv a→μ a<n→∃r,za5 step n a=some r:=by
  intro n
  induction n with
  |zero=>intro a _ h;omega
  |succ n ih=>
   intro a hi hn
   simp only[za5]
   rcases h a hi with ⟨a',h1,h2,h3⟩|⟨b,h1⟩
   ·rw[h1];exact ih a' h2 (by omega)
   ·rw[h1];exact ⟨b,rfl⟩
 exact key FUEL a ha hm
theorem zuf {c:Calendar} (hc:CalOk c) (d:Int):∃a b,qbn c d=some (a,b):=by
 obtain ⟨r,hr⟩:=zi8 (step:=zov) (fun a=>0≤a.1∧a.2.1=c) (fun a=>(109573-a.1).toNat) (by
  rintro ⟨d,c',_⟩ ⟨h0,(rfl:c'=c)⟩
  simp only at h0
  simp only[zov,zanu hc]
  by_cases hq:d≤109572
  ·rw[show decide (d≤109572)=true by rw[decide_eq_true_eq];exact hq]
   simp only[cond_true]
   cases z29 c' d with
   |true=>exact .inr ⟨_,rfl⟩
   |false=>
    simp only[cond_false]
    rw[zdm (by omega) (by omega)]
    exact .inl ⟨_,rfl,⟨by show 0≤d+1;omega,rfl⟩,by show (109573-(d+1)).toNat<(109573-d).toNat;omega⟩
  ·rw[show decide (d≤109572)=false by rw[decide_eq_false_iff_not];exact hq]
   exact .inr ⟨_,rfl⟩) (a:=((if d<0 then 0 else d),c,())) ⟨by show 0≤if d<0 then 0 else d;split<;>omega,rfl⟩ (by rw[za0];show (109573-if d<0 then 0 else d).toNat<_;split<;>omega)
 unfold qbn
 rw[hr]
 rcases r with _|⟨a,b,_⟩
 ·exact ⟨_,_,rfl⟩
 ·exact ⟨_,_,rfl⟩
theorem zx4 {α β:Type} {b:Bool} {x y:Option (α×β)} (hx:∃u v,x=some (u,v)) (hy:∃u v,y=some (u,v)):∃u v,(bif b then x else y)=some (u,v):=by
 cases b
 ·exact hy
 ·exact hx
def z4m (a b:Option (Circ×Int×Int)):Prop:=∃c n e,a=some (c,n,e)∧b=some (c,n,e)∧Short c
theorem zdq {e:Int}:z4m (some (zcg,0,e)) (some (zcg,0,e)):=⟨_,_,_,rfl,rfl,zi0⟩
end Go.Proofs.YtdahfgialanmpaaGreatDoor
namespace Go.Proofs.YtdahfgialanmpaaGreatDoor
open Ev
open Go (IntKind)
def getH (l:List Hold) (id:Int):Hold×Bool:=match l.find? (fun h=>h.ID==id) with|some h=>(h,true)|none=>(zg1,false)
theorem zaog {l:List Hold} {id:Int} (hl:l.length<1000000000):qdb l id=some (getH l id):=by
 unfold qdb qa7 getH
 rw[z0y (p:=fun (g:Unit×Int×Unit) x0=>qeo x0 g.2.1) (g:=((),(id,()))) (fun x=>x.ID==id) hl (fun x _=>rfl)]
 rcases zbc (fun x:Hold=>x.ID==id) l with ⟨h1,h2⟩|⟨i,x,h1,h2,h3,h4⟩
 ·simp only[h1,h2]
  try rfl
 ·have d:decide ((0:Int)≤(i:Int))=true:=by rw[decide_eq_true_eq];omega
  simp only[h1,h4,d,cond_true,zah,h2]
theorem z0x {l:List Hold} {id:Int} (hl:l.length<1000000000):qam l id=some (getH l id):=by
 unfold qam getH
 have h:=zbf (step:=zog) (fun i=>(l,id,(i:Int),zg1,())) l (fun x=>x.ID==id) (fun _ x=>(.inr (true,x,()):(Hold×Unit)⊕(Bool×Hold×Unit))) (.inl (zg1,())) hl
  (by simp only[zog,dge,cond_false])
  (fun i x hx=>by
   have hi:=(List.getElem?_eq_some_iff.1 hx).1
   simp only[zog,dlt hi,zah,hx,cond_true,zam (show i<9223372036854775807 by omega)])
 rw[show zac zog (l,id,0,(⟨0,0,0,0,0,0,0,0,0,0,0⟩:Hold),())=_ from h,zd8]
 cases l.find? (fun x=>x.ID==id)<;>rfl
theorem zu1 {α β γ:Type} {s1:α→Option (α⊕β)} {s2:γ→Option (γ⊕β)} (Inv:α→Prop) (φ:α→γ)
 (h:∀a,Inv a→s2 (φ a)=(match s1 a with|none=>none|some (.inl b)=>some (.inl (φ b))|some (.inr b)=>some (.inr b)))
 (hi:∀a b,Inv a→s1 a=some (.inl b)→Inv b) {a:α} (ha:Inv a):zac s2 (φ a)=zac s1 a:=by
 have key:∀n a,Inv a→za5 s2 n (φ a)=za5 s1 n a:=by
  intro n
  induction n with
  |zero=>intro a _;rfl
  |succ n ih=>
   intro a ha
   simp only[za5]
   rw[h a ha]
   cases hs:s1 a with
   |none=>rfl
   |some x=>
    cases x with
    |inl b=>exact ih b (hi a b ha hs)
    |inr b=>rfl
 exact key FUEL a ha
theorem zaae {c:Calendar} (hc:CalOk c) (day n:Int):qa2 c day n=qb2 c day n:=by
 have hw:zac zlv (n,day,0,c,())=zac zoc (day,n,0,c,()):=by
  refine zu1 (s1:=zoc) (s2:=zlv) (fun a=>a.2.2.2.1=c) (fun a=>(a.2.1,a.1,a.2.2.1,a.2.2.2.1,())) ?_ ?_ (a:=(day,n,0,c,())) rfl
  ·rintro ⟨d,n,i,c',_⟩ (rfl:c'=c)
   simp only[zoc,zlv,zaaf hc]
   cases decide (i<n) with
   |false=>rfl
   |true=>
    simp only[cond_true]
    cases qbn c' (wr .i64 (d+1)) with
    |none=>rfl
    |some p=>
     obtain ⟨a,b⟩:=p
     simp only
     cases !(b==0)<;>rfl
  ·rintro ⟨d,n,i,c',_⟩ b (rfl:c'=c) hb
   simp only[zoc]at hb
   cases hq:decide (i<n) with
   |false=>rw[hq]at hb;cases hb
   |true=>
    rw[hq]at hb
    simp only[cond_true]at hb
    cases hn:qa3 c' (wr .i64 (d+1)) with
    |none=>rw[hn]at hb;cases hb
    |some p=>
     obtain ⟨a,b2⟩:=p
     rw[hn]at hb
     simp only at hb
     cases he:!(b2==0) with
     |true=>rw[he]at hb;cases hb
     |false=>rw[he]at hb;cases hb;rfl
 unfold qa2 qb2
 simp -zeta only[k_or,zaoi,zaaf hc]
 dsimp only
 rw[hw,←zfp 0 109572]
 try rfl
end Go.Proofs.YtdahfgialanmpaaGreatDoor
namespace Go.Proofs.YtdahfgialanmpaaGreatDoor
open Ev
open Go (IntKind)
def zh1:Item:=⟨0,0,0,0,0,[],⟨0,0,0,0⟩⟩
theorem znx {c:Calendar} (hc:CalOk c) (d n:Int):∃a b,qb2 c d n=some (a,b):=by
 unfold qb2
 simp -zeta only[k_or]
 dsimp only
 cases hb:(decide (n<0)||decide (1000<n)) with
 |true=>exact ⟨_,_,rfl⟩
 |false=>
  simp only[Bool.or_eq_false_iff,decide_eq_false_iff_not]at hb
  simp only[cond_false]
  refine zx4 ⟨_,_,rfl⟩ (zx4 ?_ ?_)
  ·obtain ⟨a,b,h⟩:=zuf hc d
   rw[h]
   exact ⟨_,_,rfl⟩
  ·obtain ⟨r,hr⟩:=zi8 (step:=zlv) (fun a=>a.1=n∧0≤a.2.2.1∧a.2.2.2.1=c) (fun a=>(n-a.2.2.1).toNat) (by
    rintro ⟨n',d,i,c',_⟩ ⟨(rfl:n'=n),h0,(rfl:c'=c)⟩
    simp only at h0
    simp only[zlv]
    by_cases hq:i<n'
    ·rw[show decide (i<n')=true by rw[decide_eq_true_eq];exact hq]
     obtain ⟨a,b,h⟩:=zuf hc (wr .i64 (d+1))
     simp only[cond_true,h]
     cases !(b==0) with
     |true=>exact .inr ⟨_,rfl⟩
     |false=>
      simp only[cond_false]
      rw[zdm (n:=i+1) (by omega) (by omega)]
      exact .inl ⟨_,rfl,⟨rfl,by show 0≤i+1;omega,rfl⟩,by show (n'-(i+1)).toNat<(n'-i).toNat;omega⟩
    ·rw[show decide (i<n')=false by rw[decide_eq_false_iff_not];exact hq]
     exact .inr ⟨_,rfl⟩) (a:=(n,d,0,c,())) ⟨rfl,by show (0:Int)≤0;omega,rfl⟩ (by rw[za0];show (n-0).toNat<_;omega)
   rw[hr]
   rcases r with ⟨a,_⟩|⟨a,b,_⟩
   ·exact ⟨_,_,rfl⟩
   ·exact ⟨_,_,rfl⟩
end Go.Proofs.YtdahfgialanmpaaGreatDoor
namespace Go.Proofs.YtdahfgialanmpaaGreatDoor
open Ev
open Go (IntKind)
def insW {X:Type} (lt:X→X→Bool) (y:X):List X→List X→List X
 | [],rest=>y::rest
 |z::zs,rest=>bif lt y z then insW lt y zs (z::rest) else zs.reverse++z::y::rest
theorem z8b {X:Type} {lt:X→X→Bool} {y:X}:∀{r rest more:List X},insW lt y r (rest++more)=insW lt y r rest++more:=by
 intro r
 induction r with
 |nil=>intro rest more;rfl
 |cons z zs ih=>
  intro rest more
  simp only[insW]
  cases lt y z with
  |true=>simp only[cond_true];rw[←List.cons_append,ih]
  |false=>simp
theorem z2n {X:Type} {lt:X→X→Bool} {y:X}:∀{B A rest:List X},(∀b∈B,lt y b=true)→(∀a∈A,lt y a=false)→insW lt y (B++A) rest=A.reverse++y::(B.reverse++rest):=by
 intro B
 induction B with
 |nil=>
  intro A rest _ hA
  cases A with
  |nil=>rfl
  |cons a A=>simp only[List.nil_append,insW,hA a (List.mem_cons_self ..),cond_false,List.reverse_cons,List.append_assoc,List.reverse_nil];rfl
 |cons b B ih=>
  intro A rest hB hA
  simp only[List.cons_append,insW,hB b (List.mem_cons_self ..),cond_true]
  rw[ih (fun b hb=>hB b (List.mem_cons_of_mem _ hb)) hA]
  simp
section
variable {γ:Type} {p:γ→Hold→Hold→Option Int} {g:γ} {lt:Hold→Hold→Bool}
theorem zavl (hp:∀y z,∃n,p g y z=some n∧decide (n<0)=lt y z) {b i:Int}:∀(r:List Hold) (y:Hold) (rest:List Hold),r.length<1000000→
 za5 (z3z p) (r.length+1) (0,b,g,i,(r.length:Int),r.reverse++y::rest,())=some (0,b,g,i,insW lt y r rest,()):=by
 intro r
 induction r with
 |nil=>
  intro y rest _
  simp only[List.length_nil,za5,insW,z3z]
  try rfl
 |cons z zs ih=>
  intro y rest hl
  simp only[List.length_cons]at hl
  obtain ⟨n,h1,h2⟩:=hp y z
  have d:decide ((0:Int)<((zs.length+1:Nat):Int))=true:=by rw[decide_eq_true_eq];omega
  have w:=zgj (j:=zs.length) (by omega)
  have e:(z::zs).reverse++y::rest=zs.reverse++z::y::rest:=by simp
  have gy:(zs.reverse++z::y::rest)[zs.length+1]?=some y:=by rw[List.getElem?_append_right (by simp)];simp
  have gz:(zs.reverse++z::y::rest)[zs.length]?=some z:=by rw[List.getElem?_append_right (by simp)];simp
  have s1:(zs.reverse++z::y::rest).set (zs.length+1) z=zs.reverse++z::z::rest:=by
   rw[List.set_append_right _ _ (by simp)];simp
  have gz2:(zs.reverse++z::z::rest)[zs.length]?=some z:=by rw[List.getElem?_append_right (by simp)];simp
  have s2:(zs.reverse++z::z::rest).set zs.length y=zs.reverse++y::z::rest:=by
   rw[List.set_append_right _ _ (by simp)];simp
  rw[za5,e]
  simp only[List.length_cons,z3z,d,cond_true,w,zah,Int.toNat_natCast,gy,gz,h1,h2,s1,gz2,s2,insW]
  cases lt y z with
  |true=>simp only[cond_true];exact ih y (z::rest) (by omega)
  |false=>rfl
def zfh (lt:Hold→Hold→Bool) (l:List Hold):List Hold:=l.foldl (fun pre y=>insW lt y pre.reverse []) []
theorem zgs {l:List Hold} {y:Hold}:zfh lt (l++[y])=insW lt y (zfh lt l).reverse []:=by
 unfold zfh
 rw[List.foldl_append];rfl
theorem zv4 {y:Hold}:∀{r rest:List Hold},(insW lt y r rest).length=r.length+1+rest.length:=by
 intro r
 induction r with
 |nil=>intro rest;simp[insW];omega
 |cons z zs ih=>
  intro rest
  simp only[insW]
  cases lt y z with
  |true=>simp only[cond_true];rw[ih];simp;omega
  |false=>simp;omega
theorem zuw:∀{l:List Hold},(zfh lt l).length=l.length:=by
 have key:∀(l pre:List Hold),(l.foldl (fun pre y=>insW lt y pre.reverse []) pre).length=pre.length+l.length:=by
  intro l
  induction l with
  |nil=>intro pre;rfl
  |cons y l ih=>intro pre;rw[List.foldl_cons,ih,zv4];simp;omega
 intro l
 unfold zfh
 rw[key];simp
theorem zajv (hp:∀y z,∃n,p g y z=some n∧decide (n<0)=lt y z) {l:List Hold} (hl:l.length<1000000):∀(k i:Nat),i+k=l.length→
 za5 (z3y p) (k+1) (0,(l.length:Int),g,(i:Int),zfh lt (l.take i)++l.drop i,())=some (zfh lt l,()):=by
 intro k
 induction k with
 |zero=>
  intro i hi
  have:i=l.length:=by omega
  subst this
  have d:decide ((l.length:Int)<(l.length:Int))=false:=by rw[decide_eq_false_iff_not];omega
  simp only[za5,z3y,d,cond_false,List.take_length,List.drop_length,List.append_nil]
 |succ k ih=>
  intro i hi
  have hlt:i<l.length:=by omega
  have d:decide ((i:Int)<(l.length:Int))=true:=by rw[decide_eq_true_eq];omega
  have hlen:(zfh lt (l.take i)).length=i:=by rw[zuw,List.length_take];omega
  have hr:=zavl (p:=p) (g:=g) (lt:=lt) hp (b:=(l.length:Int)) (i:=(i:Int)) (zfh lt (l.take i)).reverse l[i] (l.drop (i+1)) (by rw[List.length_reverse,hlen];omega)
  rw[List.length_reverse,List.reverse_reverse,hlen,←List.drop_eq_getElem_cons hlt]at hr
  have hw:zac (z3z p) (0,(l.length:Int),g,(i:Int),(i:Int),zfh lt (l.take i)++l.drop i,())=_:=za3 (i+1) (by rw[za0];omega) hr
  rw[za5]
  simp only[z3y,d,cond_true,hw,zam (show i<9223372036854775807 by omega)]
  have e:insW lt l[i] (zfh lt (l.take i)).reverse (l.drop (i+1))=zfh lt (l.take (i+1))++l.drop (i+1):=by
   have:=z8b (lt:=lt) (y:=l[i]) (r:=(zfh lt (l.take i)).reverse) (rest:=[]) (more:=l.drop (i+1))
   rw[List.nil_append]at this
   rw[this,List.take_succ_eq_append_getElem hlt,zgs]
  rw[e]
  exact ih (i+1) (by omega)
theorem za0q (hp:∀y z,∃n,p g y z=some n∧decide (n<0)=lt y z) {l:List Hold} (hl:l.length<20):qec p l g=some (zfh lt l):=by
 have h1:zac (zajc p) ((l.length:Int),g,20,0,20,l,())=some ((l.length:Int),g,20,0,l,()):=by
  refine za3 1 (by rw[za0];omega) ?_
  have d:decide ((20:Int)≤(l.length:Int))=false:=by rw[decide_eq_false_iff_not];omega
  simp only[za5,zajc,d,cond_false]
 have h2:∀m:List Hold,zac (zajd p) ((l.length:Int),g,20,m,())=some (m,()):=fun m=>by
  refine za3 1 (by rw[za0];omega) ?_
  have d:decide ((20:Int)<(l.length:Int))=false:=by rw[decide_eq_false_iff_not];omega
  simp only[za5,zajd,d,cond_false]
 have h3:qq p l 0 (l.length:Int) g=some (zfh lt l):=by
  unfold qq
  have hw:zac (z3y p) (0,(l.length:Int),g,wr .i64 (0+1),l,())=some (zfh lt l,()):=by
   cases l with
   |nil=>
    refine za3 1 (by rw[za0];omega) ?_
    try rfl
   |cons y m=>
    have:=zajv (p:=p) (g:=g) (lt:=lt) hp (l:=y::m) (by omega) m.length 1 (by simp only[List.length_cons];omega)
    exact za3 (m.length+1) (by rw[za0];simp only[List.length_cons]at hl;omega) this
  rw[hw]
 unfold qec qo
 rw[h1]
 simp only[h3,h2]
end
end Go.Proofs.YtdahfgialanmpaaGreatDoor
namespace Go.Proofs.YtdahfgialanmpaaGreatDoor
open Ev
open Go (IntKind)
def rk (k:Int) (l:List Hold):List Hold:=l.filter (fun x=>x.Rank==k)
def ltR (y z:Hold):Bool:=decide (z.Rank<y.Rank)
def zba (l:List Hold):List Hold:=rk 9 l++(rk 8 l++(rk 7 l++(rk 6 l++(rk 5 l++(rk 4 l++(rk 3 l++(rk 2 l++(rk 1 l++rk 0 l))))))))
theorem za5u {k:Int} {l:List Hold} {x:Hold} (h:x∈rk k l):x.Rank=k:=by
 unfold rk at h
 rw[List.mem_filter]at h
 simpa using h.2
theorem zez (k:Int) (l:List Hold) (y:Hold):rk k (l++[y])=rk k l++(bif y.Rank==k then [y] else []):=by
 unfold rk
 rw[List.filter_append,List.filter_cons]
 cases y.Rank==k<;>simp
theorem zavk {A B:List Hold} {y:Hold} (hA:∀a∈A,y.Rank≤a.Rank) (hB:∀b∈B,b.Rank<y.Rank):insW ltR y (A++B).reverse []=A++y::B:=by
 rw[List.reverse_append,z2n (by intro b hb;rw[List.mem_reverse]at hb;unfold ltR;rw[decide_eq_true_eq];exact hB b hb) (by intro a ha;rw[List.mem_reverse]at ha;unfold ltR;rw[decide_eq_false_iff_not];have:=hA a ha;omega)]
 simp
theorem zxk:∀(m:List Hold) (l:List Hold),l=m.reverse→(∀x∈l,rng 0 9 x.Rank=true)→zfh ltR l=zba l:=by
 intro m
 induction m with
 |nil=>intro l h _;subst h;rfl
 |cons y m ih=>
  intro l h hr
  rw[List.reverse_cons]at h
  subst h
  have hy:=zck.1 (hr y (by simp))
  rw[zgs,ih m.reverse rfl (fun x hx=>hr x (by simp at hx ⊢;exact .inl hx))]
  generalize m.reverse=l
  have hc:y.Rank=0∨y.Rank=1∨y.Rank=2∨y.Rank=3∨y.Rank=4∨y.Rank=5∨y.Rank=6∨y.Rank=7∨y.Rank=8∨y.Rank=9:=by omega
  have mid:∀(A B:List Hold),zba l=A++B→(∀a∈A,y.Rank≤a.Rank)→(∀b∈B,b.Rank<y.Rank)→insW ltR y (zba l).reverse []=A++y::B:=fun A B e hA hB=>by rw[e];exact zavk hA hB
  have mm:∀(k:Int) (x:Hold),x∈rk k l→x.Rank=k:=fun k x h=>za5u h
  rcases hc with h|h|h|h|h|h|h|h|h|h
  ·rw[mid (rk 9 l++(rk 8 l++(rk 7 l++(rk 6 l++(rk 5 l++(rk 4 l++(rk 3 l++(rk 2 l++(rk 1 l++rk 0 l))))))))) [] (by simp[zba]) (by intro a ha;simp only[List.mem_append]at ha;rcases ha with h|h|h|h|h|h|h|h|h|h<;>(have:=mm _ _ h;omega)) (by intro b hb;cases hb)]
   simp[zba,zez,h]
  ·rw[mid (rk 9 l++(rk 8 l++(rk 7 l++(rk 6 l++(rk 5 l++(rk 4 l++(rk 3 l++(rk 2 l++rk 1 l)))))))) (rk 0 l) (by simp[zba]) (by intro a ha;simp only[List.mem_append]at ha;rcases ha with h|h|h|h|h|h|h|h|h<;>(have:=mm _ _ h;omega)) (by intro b hb;have:=mm _ _ hb;omega)]
   simp[zba,zez,h]
  ·rw[mid (rk 9 l++(rk 8 l++(rk 7 l++(rk 6 l++(rk 5 l++(rk 4 l++(rk 3 l++rk 2 l))))))) (rk 1 l++rk 0 l) (by simp[zba]) (by intro a ha;simp only[List.mem_append]at ha;rcases ha with h|h|h|h|h|h|h|h<;>(have:=mm _ _ h;omega)) (by intro b hb;simp only[List.mem_append]at hb;rcases hb with h|h<;>(have:=mm _ _ h;omega))]
   simp[zba,zez,h]
  ·rw[mid (rk 9 l++(rk 8 l++(rk 7 l++(rk 6 l++(rk 5 l++(rk 4 l++rk 3 l)))))) (rk 2 l++(rk 1 l++rk 0 l)) (by simp[zba]) (by intro a ha;simp only[List.mem_append]at ha;rcases ha with h|h|h|h|h|h|h<;>(have:=mm _ _ h;omega)) (by intro b hb;simp only[List.mem_append]at hb;rcases hb with h|h|h<;>(have:=mm _ _ h;omega))]
   simp[zba,zez,h]
  ·rw[mid (rk 9 l++(rk 8 l++(rk 7 l++(rk 6 l++(rk 5 l++rk 4 l))))) (rk 3 l++(rk 2 l++(rk 1 l++rk 0 l))) (by simp[zba]) (by intro a ha;simp only[List.mem_append]at ha;rcases ha with h|h|h|h|h|h<;>(have:=mm _ _ h;omega)) (by intro b hb;simp only[List.mem_append]at hb;rcases hb with h|h|h|h<;>(have:=mm _ _ h;omega))]
   simp[zba,zez,h]
  ·rw[mid (rk 9 l++(rk 8 l++(rk 7 l++(rk 6 l++rk 5 l)))) (rk 4 l++(rk 3 l++(rk 2 l++(rk 1 l++rk 0 l)))) (by simp[zba]) (by intro a ha;simp only[List.mem_append]at ha;rcases ha with h|h|h|h|h<;>(have:=mm _ _ h;omega)) (by intro b hb;simp only[List.mem_append]at hb;rcases hb with h|h|h|h|h<;>(have:=mm _ _ h;omega))]
   simp[zba,zez,h]
  ·rw[mid (rk 9 l++(rk 8 l++(rk 7 l++rk 6 l))) (rk 5 l++(rk 4 l++(rk 3 l++(rk 2 l++(rk 1 l++rk 0 l))))) (by simp[zba]) (by intro a ha;simp only[List.mem_append]at ha;rcases ha with h|h|h|h<;>(have:=mm _ _ h;omega)) (by intro b hb;simp only[List.mem_append]at hb;rcases hb with h|h|h|h|h|h<;>(have:=mm _ _ h;omega))]
   simp[zba,zez,h]
  ·rw[mid (rk 9 l++(rk 8 l++rk 7 l)) (rk 6 l++(rk 5 l++(rk 4 l++(rk 3 l++(rk 2 l++(rk 1 l++rk 0 l)))))) (by simp[zba]) (by intro a ha;simp only[List.mem_append]at ha;rcases ha with h|h|h<;>(have:=mm _ _ h;omega)) (by intro b hb;simp only[List.mem_append]at hb;rcases hb with h|h|h|h|h|h|h<;>(have:=mm _ _ h;omega))]
   simp[zba,zez,h]
  ·rw[mid (rk 9 l++rk 8 l) (rk 7 l++(rk 6 l++(rk 5 l++(rk 4 l++(rk 3 l++(rk 2 l++(rk 1 l++rk 0 l))))))) (by simp[zba]) (by intro a ha;simp only[List.mem_append]at ha;rcases ha with h|h<;>(have:=mm _ _ h;omega)) (by intro b hb;simp only[List.mem_append]at hb;rcases hb with h|h|h|h|h|h|h|h<;>(have:=mm _ _ h;omega))]
   simp[zba,zez,h]
  ·rw[mid (rk 9 l) (rk 8 l++(rk 7 l++(rk 6 l++(rk 5 l++(rk 4 l++(rk 3 l++(rk 2 l++(rk 1 l++rk 0 l)))))))) (by simp[zba]) (by intro a ha;have:=mm _ _ ha;omega) (by intro b hb;simp only[List.mem_append]at hb;rcases hb with h|h|h|h|h|h|h|h|h<;>(have:=mm _ _ h;omega))]
   simp[zba,zez,h]
def zcd (record day:Int) (x:Hold):Bool:=x.Record==record&&x.State==1&&decide (x.Asleep≤day)
theorem zad7 (record day:Int) (x:Hold):(x.State==1&&x.Record==record&&decide (x.Asleep≤day))=zcd record day x:=by
 unfold zcd
 cases x.Record==record<;>cases x.State==1<;>rfl
theorem zaaz (y z:Hold) (hy:rng 0 9 y.Rank=true) (hz:rng 0 9 z.Rank=true):decide (wr .i64 (z.Rank-y.Rank)<0)=ltR y z:=by
 have h1:=zck.1 hy
 have h2:=zck.1 hz
 rw[zdm (by omega) (by omega)]
 unfold ltR
 rw[decide_eq_decide];omega
theorem zag3 {lt:Hold→Hold→Bool} {y x:Hold}:∀{r rest:List Hold},x∈insW lt y r rest→x=y∨x∈r∨x∈rest:=by
 intro r
 induction r with
 |nil=>intro rest h;simp only[insW,List.mem_cons]at h;rcases h with h|h<;>simp[h]
 |cons z zs ih=>
  intro rest h
  simp only[insW]at h
  cases hb:lt y z with
  |true=>
   rw[hb]at h
   rcases ih h with h|h|h
   ·exact .inl h
   ·exact .inr (.inl (List.mem_cons_of_mem _ h))
   ·rcases List.mem_cons.1 h with h|h
    ·subst h;exact .inr (.inl (List.mem_cons_self ..))
    ·exact .inr (.inr h)
  |false=>
   rw[hb]at h
   simp only[cond_false,List.mem_append,List.mem_reverse,List.mem_cons]at h
   rcases h with h|h|h|h
   ·exact .inr (.inl (List.mem_cons_of_mem _ h))
   ·subst h;exact .inr (.inl (List.mem_cons_self ..))
   ·exact .inl h
   ·exact .inr (.inr h)
theorem z2m {lt lt':Hold→Hold→Bool} {y:Hold}:∀{r rest:List Hold},(∀z∈r,lt y z=lt' y z)→insW lt y r rest=insW lt' y r rest:=by
 intro r
 induction r with
 |nil=>intros;rfl
 |cons z zs ih=>
  intro rest h
  simp only[insW]
  rw[h z (List.mem_cons_self ..),ih (fun z hz=>h z (List.mem_cons_of_mem _ hz))]
theorem zad0 {lt lt':Hold→Hold→Bool}:∀(m l:List Hold),l=m.reverse→(∀x∈l,∀y∈l,lt x y=lt' x y)→zfh lt l=zfh lt' l∧∀x∈zfh lt' l,x∈l:=by
 intro m
 induction m with
 |nil=>intro l h _;subst h;exact ⟨rfl,fun x hx=>by cases hx⟩
 |cons y m ih=>
  intro l h hc
  rw[List.reverse_cons]at h
  subst h
  obtain ⟨e1,e2⟩:=ih m.reverse rfl (fun a ha b hb=>hc a (by simp at ha ⊢;exact .inl ha) b (by simp at hb ⊢;exact .inl hb))
  rw[zgs,zgs,e1]
  refine ⟨z2m (fun z hz=>hc y (by simp) z ?_),fun x hx=>?_⟩
  ·rw[List.mem_reverse]at hz
   have:=e2 z hz
   simp at this ⊢;exact .inl this
  ·rcases zag3 hx with h|h|h
   ·subst h;simp
   ·rw[List.mem_reverse]at h
    have:=e2 x h
    simp at this ⊢;exact .inl this
   ·cases h
theorem z30 {l:List Hold} (hl:l.length<20) (hr:∀x∈l,rng 0 9 x.Rank=true):qec (fun (g:Unit×Unit) x0 x1=>qcf x0 x1) l ((),())=some (zba l):=by
 rw[za0q (lt:=fun y z=>decide (wr .i64 (z.Rank-y.Rank)<0)) (fun y z=>⟨_,rfl,rfl⟩) hl]
 congr 1
 rw[(zad0 l.reverse l (by simp) (fun x hx y hy=>zaaz x y (hr x hx) (hr y hy))).1]
 exact zxk l.reverse l (by simp) hr
end Go.Proofs.YtdahfgialanmpaaGreatDoor
namespace Go.Proofs.YtdahfgialanmpaaGreatDoor
open Ev
open Go (IntKind)
theorem zej {X:Type} (p:X→Bool):∀(l o:List X),l.foldl (fun s y=>bif p y then s++[y] else s) o=o++l.filter p:=by
 intro l
 induction l with
 |nil=>intro o;simp
 |cons x l ih=>intro o;rw[List.foldl_cons,ih,List.filter_cons];cases p x<;>simp
theorem zjc {X Y:Type} (p:X→Bool) (f:X→Y):∀(l:List X) (o:List Y),l.foldl (fun s y=>bif p y then s++[f y] else s) o=o++(l.filter p).map f:=by
 intro l
 induction l with
 |nil=>intro o;simp
 |cons x l ih=>intro o;rw[List.foldl_cons,ih,List.filter_cons];cases p x<;>simp
theorem za6r {l:List Hold} {record day:Int} (hl:l.length<1000000) (h20:(l.filter (zcd record day)).length<20) (hr:∀x∈l,rng 0 9 x.Rank=true):qi l record day=some (zba (l.filter (zcd record day))):=by
 have h:=zbb (step:=z3u) (fun (i:Nat) (s:List Hold)=>s.length≤i) (fun i s=>(record,day,l,(l.length:Int),(i:Int),s,())) l
  (fun i y s=>.inl (bif zcd record day y then s++[y] else s)) (fun s=>(s,())) (by rw[za0];omega)
  (fun s _=>by simp only[z3u,dge,cond_false])
  (fun i y s hx hi=>by
   have hlt:=(List.getElem?_eq_some_iff.1 hx).1
   have l1:decide (s.length+([y]:List Hold).length≤LIM)=true:=zfb (by simp;omega)
   refine ⟨?_,fun s' hs'=>?_⟩
   ·simp -zeta only[z3u,dlt hlt,zah,hx,cond_true,l1,za7,zam (show i<9223372036854775807 by omega)]
    unfold zcd
    dsimp only
    cases (y.Record==record&&y.State==1&&decide (y.Asleep≤day))<;>rfl
   ·cases hs'
    cases zcd record day y<;>simp<;>omega) [] (by simp)
 rw[zb9]at h
 unfold qi
 rw[show zac z3u (record,day,l,(l.length:Int),0,[],())=_ from h,zej,List.nil_append]
 simp only
 rw[z30 h20 (fun x hx=>hr x (List.mem_filter.1 hx).1)]
theorem zaad {l:List Hold} {record day rank:Int} (hl:l.length<1000000) (s:List Int) (hs:s.length<100000000):zac zwg (l,record,day,rank,0,s,())=some (l,record,day,rank,s++(rk rank (l.filter (zcd record day))).map (fun x=>x.ID),()):=by
 have h:=zbb (step:=zwg) (fun (i:Nat) (o:List Int)=>o.length≤s.length+i) (fun i o=>(l,record,day,rank,(i:Int),o,())) l
  (fun i y o=>.inl (bif zcd record day y&&y.Rank==rank then o++[y.ID] else o)) (fun o=>(l,record,day,rank,o,())) (by rw[za0];omega)
  (fun o _=>by simp only[zwg,dge,cond_false])
  (fun i y o hx hi=>by
   have hlt:=(List.getElem?_eq_some_iff.1 hx).1
   have l1:decide (o.length+([y.ID]:List Int).length≤LIM)=true:=zfb (by simp;omega)
   refine ⟨?_,fun s' hs'=>?_⟩
   ·simp -zeta only[zwg,dlt hlt,zah,hx,cond_true,l1,za7,zam (show i<9223372036854775807 by omega)]
    dsimp only
    rw[zad7]
    cases (zcd record day y&&y.Rank==rank)<;>rfl
   ·cases hs'
    cases (zcd record day y&&y.Rank==rank)<;>simp<;>omega) s (by omega)
 rw[zb9]at h
 rw[show zac zwg (l,record,day,rank,0,s,())=_ from h]
 have e:(fun (s:List Int) (x:Hold)=>bif zcd record day x&&x.Rank==rank then s++[x.ID] else s)=(fun s x=>bif (fun y=>zcd record day y&&y.Rank==rank) x then s++[(fun z:Hold=>z.ID) x] else s):=rfl
 rw[e,zjc]
 unfold rk
 rw[List.filter_filter]
 have e2:(fun y:Hold=>zcd record day y&&y.Rank==rank)=(fun a=>a.Rank==rank&&zcd record day a):=by funext y;rw[Bool.and_comm]
 rw[e2]
def dn (q:List Hold):Nat→List Hold
 |0=>[]
 |k+1=>rk (k:Int) q++dn q k
theorem z5k (q:List Hold):zba q=dn q 10:=by
 simp[zba,dn]
theorem zuq {k:Int} {q:List Hold}:(rk k q).length≤q.length:=List.length_filter_le _ _
theorem za3y {l:List Hold} {record day:Int} (hl:l.length<1000000):∀(k:Nat) (s:List Int),k≤10→s.length+k*1000000<100000000→
 za5 zaac (k+1) (l,record,day,(k:Int)-1,s,())=some (s++(dn (l.filter (zcd record day)) k).map (fun x=>x.ID),()):=by
 intro k
 induction k with
 |zero=>
  intro s _ _
  simp only[za5,dn,List.map_nil,List.append_nil]
  try rfl
 |succ k ih=>
  intro s hk hs
  have e:((k+1:Nat):Int)-1=(k:Int):=by omega
  have hlen:(rk (k:Int) (l.filter (zcd record day))).length≤l.length:=Nat.le_trans zuq (List.length_filter_le _ _)
  rw[za5]
  have d2:decide ((0:Int)≤(k:Int))=true:=by rw[decide_eq_true_eq];omega
  simp only[zaac,d2,cond_true,e,zaad hl s (by omega)]
  rw[zdm (n:=(k:Int)-1) (by omega) (by omega),ih _ (by omega) (by rw[List.length_append,List.length_map];omega)]
  simp only[dn,List.map_append,List.append_assoc]
theorem za6o {l:List Hold} {record day:Int} (hl:l.length<1000000):q9 l record day=some ((zba (l.filter (zcd record day))).map (fun x=>x.ID)):=by
 have h:=za3y (record:=record) (day:=day) hl 10 [] (by omega) (by simp)
 unfold q9
 rw[show zac zaac (l,record,day,9,([]:List Int),())=_ from za3 11 (by rw[za0];omega) h,List.nil_append,z5k]
theorem zgl {q:List Hold} {x:Hold} (h:x∈zba q):x∈q:=by
 have k:∀(k:Int),x∈rk k q→x∈q:=fun k h=>(List.mem_filter.1 h).1
 unfold zba at h
 simp only[List.mem_append]at h
 rcases h with h|h|h|h|h|h|h|h|h|h<;>exact k _ h
def z3b (branch:Int) (vlocal:Bool) (x:Item) (h:Hold) (first:Int):Int⊕Int:=
 bif !(h.Item==0)&&!(h.Item==x.ID) then .inl first
 else bif !vlocal||h.Pickup==branch then .inr h.ID
 else .inl (bif first==0 then h.ID else first)
def zuh (branch:Int) (vlocal:Bool) (x:Item) (h:Hold) (first:Int):Int⊕Int:=
 bif !(h.Item==0)&&!(h.Item==x.ID) then .inl first
 else bif vlocal&&h.Pickup==branch then .inr h.ID
 else .inl (bif first==0 then h.ID else first)
def z3c (branch:Int) (vlocal:Bool) (x:Item):List Hold→Int→Int
 | [],first=>first
 |h::q,first=>match z3b branch vlocal x h first with | .inl f=>z3c branch vlocal x q f | .inr r=>r
def zhd (branch:Int) (vlocal:Bool) (x:Item):List Hold→Int→Int
 | [],first=>first
 |h::q,first=>match zuh branch vlocal x h first with | .inl f=>zhd branch vlocal x q f | .inr r=>r
theorem z3d {branch:Int} {x:Item}:∀{q:List Hold} {f:Int},f≠0→zhd branch false x q f=f:=by
 intro q
 induction q with
 |nil=>intros;rfl
 |cons h q ih=>
  intro f hf
  have h0:(f==0)=false:=by simpa using hf
  simp only[zhd,zuh,Bool.false_and,cond_false,h0]
  cases (!(h.Item==0)&&!(h.Item==x.ID))<;>exact ih hf
theorem zaaa {branch:Int} {vlocal:Bool} {x:Item}:∀{q:List Hold} {f:Int},(∀h∈q,h.ID≠0)→(vlocal=false→f=0)→z3c branch vlocal x q f=zhd branch vlocal x q f:=by
 intro q
 induction q with
 |nil=>intros;rfl
 |cons h q ih=>
  intro f hq hf
  simp only[z3c,zhd,z3b,zuh]
  cases (!(h.Item==0)&&!(h.Item==x.ID)) with
  |true=>exact ih (fun y hy=>hq y (List.mem_cons_of_mem _ hy)) hf
  |false=>
   cases vlocal with
   |true=>
    cases h.Pickup==branch with
    |true=>rfl
    |false=>exact ih (fun y hy=>hq y (List.mem_cons_of_mem _ hy)) (fun e=>by cases e)
   |false=>
    have:=hf rfl
    subst this
    exact (z3d (hq h (List.mem_cons_self ..))).symm
end Go.Proofs.YtdahfgialanmpaaGreatDoor
namespace Go.Proofs.YtdahfgialanmpaaGreatDoor
open Ev
open Go (IntKind)
theorem zgn {l:List Hold} (hsort:∀i x,l[i]?=some x→zbo l i (fun y=>decide (x.ID≤y.ID))=false) {h:Hold} (hm:h∈l):getH l h.ID=(h,true):=by
 unfold getH
 rw[zxl (key:=fun y:Hold=>y.ID) hsort hm]
theorem z3e {β:Type} {branch:Int} {vlocal:Bool} {x:Item} (fin:Int→β) (out:Int→β) (hfo:∀v:Int,True):∀(q:List Hold) (i:Nat) (f:Int),∃r:Int⊕Int,(match r with | .inl v=>v | .inr v=>v)=z3c branch vlocal x q f∧
 zc7 (fun (_:Nat) h f=>match z3b branch vlocal x h f with | .inl f=>.inl f | .inr v=>.inr (out v)) fin i q f=(match r with | .inl v=>fin v | .inr v=>out v):=by
 intro q
 induction q with
 |nil=>intro i f;exact ⟨.inl f,rfl,rfl⟩
 |cons h q ih=>
  intro i f
  simp only[zc7,z3c]
  cases z3b branch vlocal x h f with
  |inl f'=>exact ih (i+1) f'
  |inr v=>exact ⟨.inr v,rfl,rfl⟩
theorem z3f {β:Type} {branch:Int} {vlocal:Bool} {x:Item} (fin:Int→β) (out:Int→β) (hfo:∀v:Int,True):∀(q:List Hold) (i:Nat) (f:Int),∃r:Int⊕Int,(match r with | .inl v=>v | .inr v=>v)=zhd branch vlocal x q f∧
 zc7 (fun (_:Nat) h f=>match zuh branch vlocal x h f with | .inl f=>.inl f | .inr v=>.inr (out v)) fin i q f=(match r with | .inl v=>fin v | .inr v=>out v):=by
 intro q
 induction q with
 |nil=>intro i f;exact ⟨.inl f,rfl,rfl⟩
 |cons h q ih=>
  intro i f
  simp only[zc7,zhd]
  cases zuh branch vlocal x h f with
  |inl f'=>exact ih (i+1) f'
  |inr v=>exact ⟨.inr v,rfl,rfl⟩
theorem zhp {q:List Hold}:(zba q).length≤10*q.length:=by
 have k:∀n:Int,(rk n q).length≤q.length:=fun n=>zuq
 unfold zba
 simp only[List.length_append]
 have:=k 0;have:=k 1;have:=k 2;have:=k 3;have:=k 4;have:=k 5;have:=k 6;have:=k 7;have:=k 8;have:=k 9
 omega
theorem za4l {l:List Hold} {x:Item} {branch day:Int} {vlocal:Bool} (hl:l.length<1000000) (h20:(l.filter (zcd x.Record day)).length<20) (hr:∀x∈l,rng 0 9 x.Rank=true) :
 qbh l x branch day vlocal=some (z3c branch vlocal x (zba (l.filter (zcd x.Record day))) 0):=by
 unfold qbh
 rw[za6r hl h20 hr]
 have hq:(zba (l.filter (zcd x.Record day))).length<1000:=by have:=zhp (q:=l.filter (zcd x.Record day));omega
 generalize zba (l.filter (zcd x.Record day))=q at hq ⊢
 have h:=zcz (step:=zot) (fun i f=>(branch,vlocal,f,q,(q.length:Int),(i:Int),x,())) q
  (fun _ h f=>match z3b branch vlocal x h f with | .inl f=>.inl f | .inr v=>.inr (.inr (v,()))) (fun f=>.inl (f,())) (by rw[za0];omega)
  (fun f=>by simp only[zot,dge,cond_false])
  (fun i y f hx=>by
   have hlt:=(List.getElem?_eq_some_iff.1 hx).1
   simp -zeta only[zot,dlt hlt,zah,hx,cond_true,k_or,za7,zam (show i<9223372036854775807 by omega)]
   unfold z3b
   dsimp only
   cases (!(y.Item==0)&&!(y.Item==x.ID)) with
   |true=>rfl
   |false=>
    cases (!vlocal||y.Pickup==branch) with
    |true=>rfl
    |false=>cases f==0<;>rfl) 0
 obtain ⟨r,r1,r2⟩:=z3e (branch:=branch) (vlocal:=vlocal) (x:=x) (fun f=>(.inl (f,()):(Int×Unit)⊕(Int×Unit))) (fun v=>.inr (v,())) (fun _=>trivial) q 0 0
 rw[r2]at h
 simp only
 rw[show zac zot (branch,vlocal,0,q,(q.length:Int),0,x,())=_ from h,←r1]
 cases r<;>rfl
theorem za4g {l:List Hold} {x:Item} {branch day:Int} {vlocal:Bool} (hl:l.length<1000000) (hsort:∀i x,l[i]?=some x→zbo l i (fun y=>decide (x.ID≤y.ID))=false) :
 qb4 l x branch day vlocal=some (zhd branch vlocal x (zba (l.filter (zcd x.Record day))) 0):=by
 unfold qb4
 rw[za6o hl]
 have hq:(zba (l.filter (zcd x.Record day))).length<100000000:=by
  have:=zhp (q:=l.filter (zcd x.Record day))
  have:=List.length_filter_le (zcd x.Record day) l
  omega
 have hm:∀h∈zba (l.filter (zcd x.Record day)),h∈l:=fun h hh=>(List.mem_filter.1 (zgl hh)).1
 generalize zba (l.filter (zcd x.Record day))=q at hq hm ⊢
 have h:=zcz (step:=zop) (fun i f=>(l,branch,vlocal,q.map (fun x=>x.ID),f,(i:Int),x,())) q
  (fun _ h f=>match zuh branch vlocal x h f with | .inl f=>.inl f | .inr v=>.inr (.inr (v,()))) (fun f=>.inl (f,())) (by rw[za0];omega)
  (fun f=>by
   have d:decide ((q.length:Int)<((q.map (fun x=>x.ID)).length:Int))=false:=by rw[decide_eq_false_iff_not,List.length_map];omega
   simp only[zop,d,cond_false])
  (fun i y f hx=>by
   have hlt:=(List.getElem?_eq_some_iff.1 hx).1
   have d:decide ((i:Int)<((q.map (fun x=>x.ID)).length:Int))=true:=by rw[decide_eq_true_eq,List.length_map];omega
   have gx:(q.map (fun x=>x.ID))[i]?=some y.ID:=by rw[List.getElem?_map,hx];rfl
   simp -zeta only[zop,d,zah,gx,cond_true,k_or,za7,z0x (show l.length<1000000000 by omega),zgn hsort (hm y (List.mem_of_getElem? hx)),zam (show i<9223372036854775807 by omega)]
   unfold zuh
   dsimp only
   cases (!(y.Item==0)&&!(y.Item==x.ID)) with
   |true=>rfl
   |false=>
    cases (vlocal&&y.Pickup==branch) with
    |true=>rfl
    |false=>cases f==0<;>rfl) 0
 obtain ⟨r,r1,r2⟩:=z3f (branch:=branch) (vlocal:=vlocal) (x:=x) (fun f=>(.inl (f,()):(Int×Unit)⊕(Int×Unit))) (fun v=>.inr (v,())) (fun _=>trivial) q 0 0
 rw[r2]at h
 simp only
 rw[show zac zop (l,branch,vlocal,q.map (fun x=>x.ID),0,0,x,())=_ from h,←r1]
 cases r<;>rfl
theorem z2i {c:Circ} (h:FitP c) {o:Hold} (ho:o∈c.Holds):rng 0 9 o.Rank=true∧o.ID≠0:=by
 have:=znv h.holds ho
 unfold zbg at this
 have:=zc3 this (by decide)
 simp only[Bool.or_eq_false_iff,decide_eq_false_iff_not]at this
 obtain ⟨⟨hx,h1⟩,h2⟩:=this
 refine ⟨by rw[zck];omega,?_⟩
 have:=hx.1.1.1.1.1.1.1.1.1.1
 omega
end Go.Proofs.YtdahfgialanmpaaGreatDoor
namespace Go.Proofs.YtdahfgialanmpaaGreatDoor
open Ev
open Go (IntKind)
end Go.Proofs.YtdahfgialanmpaaGreatDoor
